import PyProof.Rows.All
import Wide.All
import OpenK.AllK
import Wide.FinOn
import PyProof.RulesMatch
import KE.KStateDown
import KE.DataFind
import KE.GoesEnum
import Lean
import HandS.ForMost
import HandS.Property
import HandS.Defaults
import HandS.MakeKw
import HandS.MakeKwOnly
import HandS.IsInst
import HandS.ClsMeth
import HandS.Deep
import HandS.TupAny
import HandS.NoneIn
import HandS.Walk
import HandS.Codes
import HandS.More
import HandS.Strs
import HandS.HeadHook1
import HandS.HeadHook2
import HandS.Head0
import HandS.Head1
import HandS.Head2
import HandS.HeadEnd
import PySem.Challenge.RW_labelframes_k71_whole_copies_are_least
set_option Elab.async false
set_option linter.all false
set_option maxRecDepth 100000
set_option maxHeartbeats 4000000
/-! Rules of my own over the hand layer: match on texts; == of instances without an own __eq__, in and remove over lists of them; len of an instance; text * int; enumerate of a tuple. -/
namespace K7
open PySem PySem.Spec PyProof.Rows L2

/-! ### match -/
abbrev TM := V → TS
structure PM (X : Cx) (cs : List MatchCase) (t : TM) : Prop where
  run : ∀ (first : Bool) (pins : List (Addr × Obj)) (s : Shared) (σ : L2.St) (H : Hp) (v : V) (u : Value) (D : Ends), Inv X pins σ H s → RelV v u → t v D σ H →
    wpAny (model X.prog X.w) X.A (matchCases cs X.env u first) (SP X pins D) X.xe s
def tmNil : TM := fun _ D σ H => D.nx σ H
def tmStr (x : Str) (tb : TS) (tr : TM) : TM := fun v D σ H => ∃ z, v = .str z ∧ if z = x then tb D σ H else tr v D σ H
section
variable {X : Cx} {rest : List MatchCase} {body : List Stmt} {x : Str} {j : Nat} {p p' pos : Pos} {tb : TS} {tr : TM} {te : TE} {e : Expr}
theorem pm_nil : PM X [] tmNil := ⟨fun _ _ _ σ H _ _ _ I _ h => wpAny_matchCases_nil ⟨σ, H, I, h⟩⟩
theorem pm_str (hb : PSs X body tb) (hr : PM X rest tr) : PM X (⟨.MatchValue (.Constant (.str x) j p) p', none, body⟩ :: rest) (tmStr x tb tr) := by
  refine ⟨fun first pins s σ H v u D I r h => ?_⟩
  obtain ⟨z, rfl, h⟩ := h
  obtain ⟨t, rfl⟩ := r
  refine wpAny_matchCases_cons (wpAny_matchPattern_Value (Calls.Constant_str (eq_str (wpAny_truthy_bool ?_))))
  by_cases hz : z = x
  · rw [if_pos hz] at h
    subst hz
    rw [if_pos (beq_self_eq_true z)]
    exact assignInOrder_nil (hb.run pins _ σ H D (I.tok _) h)
  · rw [if_neg hz] at h
    have e1 : ¬ (z == x) = true := fun q => hz (eq_of_beq q)
    rw [if_neg e1]
    exact hr.run false pins _ σ H (.str z) (.str z t) D (I.tok _) ⟨t, rfl⟩ h
def tMatch (te : TE) (tm : TM) : TS := fun D σ H => te σ H fun v H1 => tm v D σ H1
theorem ps_match {cs : List MatchCase} {tm : TM} (he : PE X e te) (hm : PM X cs tm) : PS X (.Match e cs pos) (tMatch te tm) := by
  refine ⟨fun pins s σ H D I h => ?_⟩
  exact wpAny_Match (thn (he.run pins s σ H _ I h) fun u s1 ⟨v, H1, I1, r1, q1⟩ => hm.run true pins s1 σ H1 v u D I1 r1 q1)
end

/-! ### == of instances without an own __eq__ -/
section
variable {M : Model} {prog : Program} {w : World} {A : Around} {E : Value → Shared → Prop} {s : Shared} {K : PySem.W.Frag} {x y C : Addr} {ox oy : Obj} {od od' : Option Obj}
theorem ins_call (X : K.In s.heap) (I : PySem.W.InstAt s.heap x ox C od) (hm : PySem.W.mroIn K C (.type "object") = some true) (hxy : x ≠ y) (hx : s.heap.get? x = some ox) (hy : s.heap.get? y = some oy) (hc : ox.cls ≠ .type "tuple")
    {Q : Value → Shared → Prop} (hq : Q .notImplemented s) : wpAny (model prog w) A (call (.builtin "object.__eq__") [.ref x, .ref y]) Q E s :=
  wpAny_call (codeAny_call_builtin F.cmp_object.eq.plain F.cmpEntry_eq (PySem.W.check_slot F.cmpKind_eq F.cmpSplit_eq (I.type.andThen (PySem.W.looks_mroIn X hm)) (F.cmpArgs_eq _ _) (objEq_entry_other hxy hx hy hc hq)))
theorem ins_rc (hu : A.units < cLine) (X : K.In s.heap) (I : PySem.W.InstAt s.heap x ox C od) (J : PySem.W.InstAt s.heap y oy C od') (hm : PySem.W.mroIn K C (.type "object") = some true)
    (hs : PySem.W.findIn K (.ref C) "__eq__" = some (some (.builtin "object.__eq__"))) (hxy : x ≠ y) (hx : s.heap.get? x = some ox) (hy : s.heap.get? y = some oy) (hc : ox.cls ≠ .type "tuple") (hc' : oy.cls ≠ .type "tuple") :
    SeqAt.RcAt A s (.ref x) (.ref y) false := fun prog w E Q h => by
  have one : wpAny (model prog w) A (tryCompare (.ref x) "__eq__" (.ref y)) (fun r s' => r = none ∧ s' = s) E s := by
    unfold tryCompare
    exact wpAny_bind (HN.ifBound_objEq X I hs (ins_call X I hm hxy hx hy hc (wpAny_pure ⟨rfl, rfl⟩)))
  have two : wpAny (model prog w) A (tryCompare (.ref y) "__eq__" (.ref x)) (fun r s' => r = none ∧ s' = s) E s := by
    unfold tryCompare
    exact wpAny_bind (HN.ifBound_objEq X J hs (ins_call X J hm (Ne.symm hxy) hy hx hc' (wpAny_pure ⟨rfl, rfl⟩)))
  simp only [richCompare, cmpInfo_Eq, oneThing_ref]
  refine wpAny_holding (wpAny_bind (wpAny_cRoomFor hu ?_))
  refine wpAny_bind (I.type.here (wpAny_bind (J.type.here ?_)))
  split
  · rename_i q
    exact absurd q (by simp)
  · refine wpAny_bind (wpAny_pure ?_)
    simp only [Bool.false_eq_true, if_false, Bool.not_false, if_true]
    refine wpAny_bind (m := tryCompare (.ref x) _ (.ref y)) (wpAny_mono one (fun r s1 z => ?_) fun _ _ e => e)
    obtain ⟨z1, z2⟩ := z
    subst z1
    subst z2
    refine wpAny_bind (m := tryCompare (.ref y) _ (.ref x)) (wpAny_mono two (fun r s2 z => ?_) fun _ _ e => e)
    obtain ⟨z1, z2⟩ := z
    subst z1
    subst z2
    exact wpAny_bind (wpAny_rule (wpAny_bind (wpAny_isSame_ref_other hxy hx hy hc (wpAny_pure h))))
theorem ins_eqAt (hu : A.units < cLine) (X : K.In s.heap) (I : PySem.W.InstAt s.heap x ox C od) (J : PySem.W.InstAt s.heap y oy C od') (hm : PySem.W.mroIn K C (.type "object") = some true)
    (hs : PySem.W.findIn K (.ref C) "__eq__" = some (some (.builtin "object.__eq__"))) (hx : s.heap.get? x = some ox) (hy : s.heap.get? y = some oy) (hc : ox.cls ≠ .type "tuple") (hc' : oy.cls ≠ .type "tuple") :
    SeqAt.EqAt A s (.ref x) (.ref y) (decide (x = y)) := by
  by_cases hxy : x = y
  · subst hxy
    rw [decide_eq_true rfl]
    exact SeqAt.EqAt.same (A := A) (s := s) (.ref x)
  · rw [decide_eq_false hxy]
    intro prog w E Q h
    unfold eqBool
    refine wpAny_holding ?_
    refine wpAny_ite_split (fun hab => absurd (by have := eq_of_beq hab; injection this) hxy) (fun _ => ?_)
    exact wpAny_bind (ins_rc hu X I J hm hs hxy hx hy hc hc' prog w E _ (wpAny_truthy_bool h))
end

/-- an instance of the class at C, which has no == of its own -/
structure EqObj (K : PySem.W.Frag) (C : Addr) : Prop where
  mro : PySem.W.mroIn K C (.type "object") = some true
  eq : PySem.W.findIn K (.ref C) "__eq__" = some (some (.builtin "object.__eq__"))
def InsOf (C : Addr) (H : Hp) (a : Addr) : Prop := ∃ dx fs, H a = some (.ins C dx fs)
/-- is u the reference of a -/
def isRef (a : Addr) : Value → Bool
  | .ref b => decide (b = a)
  | _ => false
section
variable {X : Cx}
theorem ins_mem {C : Addr} (c : EqObj X.K C) {A : Around} {pins : List (Addr × Obj)} {σ : L2.St} {H : Hp} {s : Shared} (I : Inv X pins σ H s) (hu : A.units < cLine) {a : Addr} (ha : InsOf C H a) :
    ∀ {as : List Addr} {us : List Value}, Vals (as.map V.ref) us → (∀ b ∈ as, InsOf C H b) → ∀ u ∈ us, SeqAt.EqAt A s u (.ref a) (isRef a u)
  | [], _, .nil, _ => fun u hu' => by cases hu'
  | b :: as, u :: us, .cons r t, f => fun u' hu' => by
    rcases List.mem_cons.mp hu' with e | hu'
    · subst e
      obtain rfl : u' = Value.ref b := r
      obtain ⟨dx, fs, e1⟩ := f b (List.mem_cons_self ..)
      obtain ⟨dy, gs, e2⟩ := ha
      obtain ⟨mA, O, _⟩ := ins_get I.hok e1
      obtain ⟨mB, O', _⟩ := ins_get I.hok e2
      obtain ⟨od, J, _⟩ := O.look
      obtain ⟨od', J', _⟩ := O'.look
      exact ins_eqAt hu I.kIn J J' c.mro c.eq O.obj O'.obj (by intro z; cases z) (by intro z; cases z)
    · exact ins_mem c I hu ha t (fun z hz => f z (List.mem_cons_of_mem _ hz)) u' hu'
theorem any_isRef {a : Addr} : ∀ {as : List Addr} {us : List Value}, Vals (as.map V.ref) us → us.any (isRef a) = decide (a ∈ as)
  | [], _, .nil => by simp
  | b :: as, u :: us, .cons r t => by
    obtain rfl : u = Value.ref b := r
    rw [List.any_cons, any_isRef t]
    show (decide (b = a) || decide (a ∈ as)) = decide (a ∈ b :: as)
    by_cases h : b = a
    · subst h; simp
    · have h' : ¬ a = b := fun q => h q.symm
      simp [h, h']
/-- a in a list of instances -/
def rInI (C : Addr) : R2 := fun x y H Q => ∃ (a p : Addr) (as : List Addr), x = .ref a ∧ y = .ref p ∧ H p = some (.lst (as.map V.ref)) ∧ InsOf C H a ∧ (∀ b ∈ as, InsOf C H b) ∧ Q (.bl (decide (a ∈ as))) H
theorem op_inI {C : Addr} (c : EqObj X.K C) (hu : X.A.units + 64 < cLine) : OpR X (compareOp .In) (rInI C) := by
  intro pins s σ H x y v u Q I rx ry h
  obtain ⟨a, p, as, rfl, rfl, hp, ha, f, q⟩ := h
  cases rx
  cases ry
  obtain ⟨its, rv, hl, _⟩ := I.list (SqL.of hp)
  have hu1 : X.A.in1.units < cLine := by show X.A.units + 1 < cLine; omega
  refine SeqAt.in_listAt (isRef a) hl.isList (fun z hz => ins_mem c I hu1 ha rv f z (by simpa using hz)) ⟨.bl _, H, I, rfl, ?_⟩
  rw [show its.toArray.any (isRef a) = its.any (isRef a) by simp, any_isRef rv]
  exact q
/-- the place of a -/
theorem erase_place {a : Addr} : ∀ {as : List Addr}, a ∈ as → ∃ j, as[j]? = some a ∧ (∀ m, m < j → as[m]? ≠ some a) ∧ as.eraseIdx j = as.erase a
  | b :: as, h => by
    by_cases e : b = a
    · subst e
      exact ⟨0, rfl, fun m hm => absurd hm (Nat.not_lt_zero _), by rw [List.erase_cons_head]; rfl⟩
    · have h' : a ∈ as := (List.mem_cons.mp h).resolve_left fun q => e q.symm
      obtain ⟨j, h1, h2, h3⟩ := erase_place h'
      refine ⟨j + 1, h1, fun m hm => ?_, ?_⟩
      · cases m with
        | zero => intro q; exact e (Option.some.inj q)
        | succ m => exact h2 m (Nat.lt_of_succ_lt_succ hm)
      · rw [List.erase_cons_tail (by simpa using e), ← h3]; rfl
def rRemIns (C : Addr) : V → List V → Hp → VK → Prop := fun x xs H Q => ∃ (l : Addr) (as : List Addr) (a : Addr), x = .ref l ∧ xs = [.ref a] ∧ H l = some (.lst (as.map V.ref)) ∧ a ∈ as ∧ (∀ b ∈ as, InsOf C H b) ∧ Q .non (upd H l (.lst ((as.erase a).map V.ref)))
theorem map_eraseIdx {α β : Type} (f : α → β) : ∀ (l : List α) (j : Nat), (l.map f).eraseIdx j = (l.eraseIdx j).map f
  | [], _ => rfl
  | _ :: _, 0 => rfl
  | x :: l, j + 1 => by
    show f x :: (l.map f).eraseIdx j = f x :: (l.eraseIdx j).map f
    rw [map_eraseIdx f l j]
theorem mt_removeI {C : Addr} (c : EqObj X.K C) (hu : X.A.units + 64 < cLine) : MtM X "list.remove" (rRemIns C) := by
  intro pins s σ H x xs v us Q I rx rxs h
  obtain ⟨l, as, a, rfl, rfl, hH, ha, f, q⟩ := h
  cases rx
  obtain ⟨u, rfl, ru⟩ := rxs.one
  obtain rfl : u = Value.ref a := ru
  obtain ⟨z, its, n, r, hl, e⟩ := I.lstM hH
  rw [List.length_map] at hl z
  obtain ⟨j, hj, hno, he⟩ := erase_place ha
  have hjn : j < as.length := (List.getElem?_eq_some_iff.mp hj).1
  have hjl : j < its.toArray.size := by rw [List.size_toArray]; omega
  have hu1 : X.A.in1.units < cLine := by show X.A.units + 1 < cLine; omega
  have at_ : ∀ (m : Nat) (hm : m < its.toArray.size), ∃ b, as[m]? = some b ∧ its.toArray[m] = .ref b := fun m hm => by
    have hm' : m < as.length := by rw [List.size_toArray] at hm; omega
    obtain ⟨w, hw, rw'⟩ := r.get (i := m) (x := V.ref as[m]) (by rw [List.getElem?_map, List.getElem?_eq_getElem hm']; rfl)
    obtain rfl : w = Value.ref as[m] := rw'
    obtain ⟨h1, h2⟩ := List.getElem?_eq_some_iff.mp hw
    exact ⟨as[m], List.getElem?_eq_getElem hm', by simpa using h2⟩
  refine call_meets PySem.F.slot_list_remove ⟨_, e, rfl⟩ PySem.F.entry_list_remove (PySem.F.args_list_remove_2 _ _)
    (SeqAt.list_removeAt l its.toArray n none #[] (.ref a) (isRef a) j hjl ?_ ?_ (by rw [List.size_toArray]; omega)) ⟨e, fun y hy => ins_mem c I hu1 (f a ha) r f y (by simpa using hy), ?_⟩
  · obtain ⟨b, h1, h2⟩ := at_ j hjl
    rw [hj] at h1
    cases h1
    rw [h2]
    exact decide_eq_true rfl
  · intro m hm hmj
    obtain ⟨b, h1, h2⟩ := at_ m hm
    rw [h2]
    refine decide_eq_false fun q => hno m hmj ?_
    rw [h1, q]
  · have rr := r.eraseIdx j
    rw [map_eraseIdx, he] at rr
    refine ⟨.non, _, I.lset (its' := its.eraseIdx j) (t' := s.toks) hH e ?_ rr ?_, rfl, q⟩
    · show its.toArray.eraseIdxIfInBounds j = (its.eraseIdx j).toArray
      rw [List.size_toArray] at hjl
      simp [Array.eraseIdxIfInBounds]
      intro q
      omega
    · have h1 := rr.length
      have h2 := len_erase its j
      omega
end

/-! ### len of an instance with an own __len__ -/
section
variable {X : Cx} {CX : CXT} {k : Nat} {C g : Addr} {fd : FuncData} {ps : List Str} {sp : Sp} {E : XK}
/-- len(o): the promise of __len__ at the object -/
def rLenI (C : Addr) (sp : Sp) (E : XK) : List V → Hp → VK → Prop := fun xs H Q => ∃ a dx fs, xs = [.ref a] ∧ H a = some (.ins C dx fs) ∧ sp [.ref a] H (fun v H' => ∃ n : Nat, v = .int (n : Int) ∧ n < 2 ^ 62 ∧ Q (.int (n : Int)) H') E
theorem call_lenI (F : FnOk X.prog X.w X.K X.mg X.base CX k g fd ps sp) (hs : PySem.W.findIn X.K (.ref C) "__len__" = some (some (.ref g))) (hf : PySem.W.isFn X.K (.ref g) = true) (hr : Room (k + 1) X.A) (hb : Binds X.K fd ps []) (hx : Passes CX X E) :
    CallR X (.builtin "len") (rLenI C sp E) := by
  intro pins s σ H xs us Q I r h
  obtain ⟨a, dx, fs, rfl, ha, q⟩ := h
  obtain ⟨u, rfl, ru⟩ := vals1 r
  obtain rfl : u = Value.ref a := ru
  obtain ⟨mA, O, _⟩ := ins_get I.hok ha
  obtain ⟨od, J, _⟩ := O.look
  obtain ⟨m, hF⟩ := I.fr
  have hl : ([Value.ref a] : List Value).length = ps.length := by
    rw [← F.len _ _ _ _ q]; rfl
  refine PySem.W.len_K hF I.ok.mod.kin J hs hf ?_
  have hb1 := hb s [.ref a] I.kIn (by simpa using hl)
  rw [List.append_nil] at hb1
  refine wpAny_call (codeAny_mono (F.run X.A.in1 X.stack s H ⟨[.ref a], []⟩ [.ref a] [.ref a] _ E hr.in1 I.env0.in1 hb1 (.cons rfl .nil) q) fun r s' hq => ?_)
  cases r with
  | error er => exact hx pins σ H s er s' I hq
  | ok fl =>
    cases fl with
    | ret u =>
      obtain ⟨v, H', I3, rv, n, ev, hn, q3⟩ := I.after hq
      subst ev
      obtain ⟨t, rfl⟩ := rv
      exact ⟨⟨by omega, by omega⟩, ⟨.int (n : Int), H', I3.tok _, ⟨_, rfl⟩, q3⟩⟩
    | next => exact False.elim hq
    | brk => exact False.elim hq
    | cont => exact False.elim hq
end

/-! ### text * int -/
def repS (z : Str) (n : Nat) : Str := ⟨(List.replicate n z.cps).foldl (· ++ ·) #[]⟩
theorem foldl_size (a : Array Nat) : ∀ (n : Nat) (acc : Array Nat), ((List.replicate n a).foldl (· ++ ·) acc).size = acc.size + a.size * n
  | 0, acc => by simp
  | n + 1, acc => by
    rw [List.replicate_succ, List.foldl_cons, foldl_size a n (acc ++ a), Array.size_append, Nat.mul_succ]
    omega
theorem repS_len (z : Str) (n : Nat) : (repS z n).length = z.length * n := by
  have := foldl_size z.cps n #[]
  show ((List.replicate n z.cps).foldl (· ++ ·) #[]).size = z.cps.size * n
  rw [this]
  simp
theorem repS_one (z : Str) : repS z 1 = z := by
  unfold repS
  simp [List.replicate]
section
variable {X : Cx}
def rMulS : R2 := fun x y H Q => ∃ (z : Str) (n : Nat), x = .str z ∧ y = .int (n : Int) ∧ 1 ≤ n ∧ n ≤ 1000 ∧ 1 ≤ z.length ∧ z.length ≤ 1000 ∧ Q (.str (repS z n)) H
theorem op_mulS : OpR X (binaryOp .Mult) rMulS := by
  intro pins s σ H x y v u Q I rx ry h
  obtain ⟨z, n, rfl, rfl, h1, h2, h3, h4, q⟩ := h
  obtain ⟨t, rfl⟩ := rx
  obtain ⟨t', rfl⟩ := ry
  have hmul : z.length * n ≤ 1000000 := by
    have := Nat.mul_le_mul h4 h2
    omega
  refine PySem.P.mul_str (by
      have a1 : ¬ (n : Int) < -(2 ^ 63 : Int) := by omega
      have a2 : ¬ (n : Int) ≥ 2 ^ 63 := by omega
      rw [decide_eq_false a1, decide_eq_false a2]; rfl) (fun _ _ => ?_) (fun _ _ => ?_) ?_
  · have hp : (0 : Int) < (n : Int) := by omega
    have : ¬ ((2 ^ 63 - 1) / (n : Int) < (z.length : Int)) := by
      rw [Int.ediv_lt_iff_lt_mul hp]
      have hc : ((z.length * n : Nat) : Int) = (z.length : Int) * (n : Int) := by push_cast; rfl
      omega
    exact this
  · rw [Int.toNat_natCast]
    exact decide_eq_false (by have := sizeLine_eq; omega)
  · have a1 : ¬ (n : Int) < 1 := by omega
    rw [if_neg a1]
    by_cases hn : n = 1
    · subst hn
      rw [if_pos (by simp)]
      refine ⟨.str z, H, I, ⟨t, rfl⟩, ?_⟩
      rw [repS_one] at q
      exact q
    · have a2 : ¬ (((n : Int) == 1 || z.length == 0) = true) := by
        have : (n : Int) ≠ 1 := by omega
        have h0 : z.length ≠ 0 := by omega
        simp [this, h0]
      rw [if_neg a2, Int.toNat_natCast]
      refine ⟨?_, .str (repS z n), H, I.tok _, ⟨_, rfl⟩, q⟩
      have hz := repS_len z n
      have hs := sizeLine_eq
      show (repS z n).length ≤ sizeLine
      omega
end

/-! ### a new tuple that is known to its object, its methods -/
/-- the tuple at a is known: no dict of its own -/
def TupK (H : Hp) (a : Addr) (xs : List V) : Prop := ∃ o : Obj, o.cls = .type "tuple" ∧ o.dict = none ∧ H a = some (.frz o (.tup xs))
theorem TupK.sq {K : PySem.W.Frag} {H : Hp} {a : Addr} {xs : List V} (h : TupK H a xs) : SqT K H a xs := let ⟨o, _, _, e⟩ := h; .inl (.inr ⟨o, e⟩)
section
variable {X : Cx}
theorem call_tuple_frz : CallR X (.type "tuple") (fun xs H Q => ∃ p ys, xs = [.ref p] ∧ SqL X.K H p ys ∧ ∀ l o, H l = none → o.cls = .type "tuple" → o.dict = none → Q (.ref l) (upd H l (.frz o (.tup ys)))) := by
  intro pins s σ H xs us Q I r h
  obtain ⟨p, ys, rfl, hq, q⟩ := h
  obtain ⟨u, rfl, ru⟩ := vals1 r
  obtain rfl : u = Value.ref p := ru
  obtain ⟨its, rv, pl, hz⟩ := I.list hq
  have hlen := rv.length
  refine call_tuple_list pl.isList (fun h' kp => ?_) (by simp only [List.size_toArray] <;> omega)
  have J : Inv X pins σ H { s with heap := h' } := I.kept (t' := s.toks) kp
  have J2 : Inv X pins σ (upd H h'.objs.size (.frz { cls := .type "tuple", data := .seq its.toArray } (.tup ys))) { s with heap := h'.push { cls := .type "tuple", data := .seq its.toArray } } :=
    J.laid (t' := s.toks) (fun b o e => Heap.get?_push_of_some _ e) (Nat.le_refl _) ⟨Heap.get?_push_size h' rfl, hz, its, rv, IsTup.new _ _⟩
  exact ⟨.ref h'.objs.size, _, J2, rfl, q _ _ (J.hok.fresh (Nat.le_refl _)) rfl rfl⟩
def tBMT (r : V → List V → Hp → VK → Prop) (to : TE) (t : TA) : TE := fun σ H Q => to σ H fun x H1 => (∃ p xs, x = .ref p ∧ TupK H1 p xs) ∧ t σ H1 fun ys H2 => r x ys H2 Q
theorem pe_bmT {o e : Expr} {es : List Expr} {to : TE} {t : TA} {name : Str} {apos cpos : Pos} {id : String} {r : V → List V → Hp → VK → Prop} (slot : Slot "tuple" name id) (hty : typeOf (.builtin id) = pure (.type "method_descriptor")) (hm : MtR X id r) (ho : PE X o to) (ha : PA X (e :: es) t)
    (hbase : attributeBase o name X.env (eval o X.env) = eval o X.env := by rfl)
    (hfew : ((backTo cpos (starEach (e :: es) X.env)).all (fun x => !x.1) && (backToKw cpos (keywordEach [] X.env)).all (fun x => x.1.isSome)
      && decide ((e :: es).length + ([] : List Keyword).length + (if ([] : List Keyword).isEmpty then 0 else 1) < 30)) = true := by rfl)
    (hline : (apos.endLine == cpos.line) = true := by rfl) (hs : starEach (e :: es) X.env = (false, eval e X.env) :: starEach es X.env := by rfl) (hplain : (backTo cpos (starEach es X.env)).any (·.1) = false := by rfl) :
    PE X (.Call (.Attribute o name apos) (e :: es) [] cpos) (tBMT r to t) := by
  refine ⟨fun pins s σ H Q I h => ?_⟩
  refine wpAny_Call_method_late hbase hfew hline rfl (thn (ho.run pins s σ H _ I h) fun v s1 ⟨x, H1, I1, r1, ⟨p, zs, ex, ob, c1, c2, e1⟩, q1⟩ => ?_)
  subst ex
  obtain rfl : v = Value.ref p := r1
  obtain ⟨e2, _⟩ := I1.hok p _ e1
  refine ⟨"tuple", id, PySem.F.plainAttrs_tuple, slot, hty, ⟨ob, e2, c1⟩, fun a ea => ?_, ?_⟩
  · cases ea
    exact ⟨ob, e2, c2⟩
  · have hA := ha.run cpos pins s1 σ H1 _ I1 q1
    rw [hs] at hA ⊢
    refine Calls.callWith_builtin (by show (false || (backTo cpos (starEach es X.env)).any (·.1)) = false; rw [hplain] <;> rfl) (Calls.evalArgs_plain ?_)
    exact thn hA fun us s2 ⟨vs, H2, I2, r2, q2⟩ => hm pins s2 σ H2 (.ref p) vs (.ref p) us Q I2 rfl r2 q2
end

/-! ### enumerate of a tuple -/
section
open AutoSeq1 (wpAny_loadPart')
theorem meets_enumerate_newT (l : Addr) (items : Array Value) :
    Meets (Builtin.«enumerate.__new__» ⟨[.type "enumerate", .ref l], []⟩) (fun _ R s => s.heap.IsTuple l items ∧
      R (.ok (.ret (.ref (s.heap.push { cls := .type "tuple_iterator", data := .fields #[.ref l, .int 0 0] }).objs.size)))
        { s with heap := (s.heap.push { cls := .type "tuple_iterator", data := .fields #[.ref l, .int 0 0] }).push { cls := .type "enumerate", data := .fields #[.none, .bool false, .ref s.heap.objs.size, rawInt 0, .none, .none] } }) :=
  .of_wp fun prog w A R s h => by
    obtain ⟨hp, g, d, tk, os⟩ := s; obtain ⟨hl, h⟩ := h
    have hsub := sub_enumerate
    have hL : Heap.IsTuple (Shared.heap ⟨hp, g, d, tk, os⟩) l items := hl
    wp_walk using wpAny_pyIter_tuple hL
    refine wpAny_stack_any fun st => wpAny_pure ?_
    split
    · rename_i c _ _ _ _ _
      cases (c == Value.type "enumerate")
      · wp_walk using wpAny_pyIter_tuple hL
        exact ⟨_, rfl, h⟩
      · wp_walk using wpAny_pyIter_tuple hL
        exact ⟨_, rfl, h⟩
    · wp_walk using wpAny_pyIter_tuple hL
      exact ⟨_, rfl, h⟩
theorem call_enumerate_tuple {prog : Program} {w : World} {A : Around} {E : Value → Shared → Prop} {s : Shared} {l : Addr} {items : Array Value} {Q : Value → Shared → Prop} (hL : s.heap.IsTuple l items)
    (h : ∀ h', IsEnum h' (s.heap.objs.size + 1) s.heap.objs.size 0 .none → h'.IsTupleIter s.heap.objs.size l 0 → h'.objs.size = s.heap.objs.size + 2 →
      (∀ b o, s.heap.get? b = some o → h'.get? b = some o) → Q (.ref (s.heap.objs.size + 1)) { s with heap := h' }) :
    wpAny (model prog w) A (call (.type "enumerate") [.ref l]) Q E s := by
  refine callType_new F.called_enumerate (by decide) (F.typeCall_enumerate_1 _) (F.newCall_enumerate_1 _) (fun obj => F.args_object_init_2 obj _) F.entry_enumerate_new
    (meets_enumerate_newT l items) ⟨hL, ?_⟩
  have hz : (s.heap.push { cls := .type "tuple_iterator", data := .fields #[.ref l, .int 0 0] }).objs.size = s.heap.objs.size + 1 := Heap.size_push ..
  show _ ∧ _
  rw [hz]
  have he : IsEnum ((s.heap.push { cls := .type "tuple_iterator", data := .fields #[.ref l, .int 0 0] }).push
      { cls := .type "enumerate", data := .fields #[.none, .bool false, .ref s.heap.objs.size, rawInt 0, .none, .none] }) (s.heap.objs.size + 1) s.heap.objs.size 0 .none := by
    have := Heap.get?_push_size (s.heap.push { cls := .type "tuple_iterator", data := .fields #[.ref l, .int 0 0] })
      (o := { cls := .type "enumerate", data := .fields #[.none, .bool false, .ref s.heap.objs.size, rawInt 0, .none, .none] }) rfl
    rw [hz] at this; exact this
  refine ⟨⟨_, he, rfl⟩, h _ he ⟨_, Heap.get?_push_of_some _ (Heap.get?_push_size _ rfl), rfl, rfl⟩ (by rw [Heap.size_push, hz]) fun b o x => Heap.get?_push_of_some _ (Heap.get?_push_of_some _ x)⟩
end
/-- the tuple at a, each item in a new pair -/
def IteT (K : PySem.W.Frag) (a : Addr) : It :=
  ⟨fun i H => ∃ (xs : List V) (x : V), SqT K H a xs ∧ xs[i]? = some x, fun i H v H' => ∃ T x, v = .ref T ∧ H T = none ∧ H' = upd H T (.tup [.int (i : Nat), x]) ∧ ∀ xs, SqT K H a xs → xs[i]? = some x, fun i H => ∃ xs : List V, SqT K H a xs ∧ xs.length = i⟩
theorem turn_enumT {P : Program} {w : World} {K : PySem.W.Frag} {elts : List Expr} {kk : Nat} {tpos : Pos} (a e it : Addr) :
    Turn P w K (.Tuple elts kk tpos) (IteT K a) [e, it] e (fun i h => (∃ old, IsEnum h e it ((i : Nat) : Int) old) ∧ h.IsTupleIter it a i ∧ e ≠ it ∧ a ≠ it ∧ e ≠ a) where
  mem := by simp
  obj := fun i h st b hb => by
    obtain ⟨⟨old, he⟩, ⟨o, ho, hc, hd⟩, _⟩ := st
    have e' : b = e ∨ b = it := by simpa using hb
    rcases e' with z | z
    · rw [z]; exact ⟨_, he, fun v q => nomatch q⟩
    · rw [z]; exact ⟨o, ho, fun v q => by rw [hd] at q; cases q⟩
  keep := fun i h h' st k => let ⟨⟨old, he⟩, hi, hne⟩ := st; ⟨⟨old, k e (by simp) _ he⟩, hi.at fun o q => k it (by simp) o q, hne⟩
  item := by
    intro X hP hw hK hc i pins s σ H E I hf st hg
    subst hP hw hK
    obtain ⟨⟨old, he⟩, hit, hne, hai, hea⟩ := st
    obtain ⟨xs, x, hq, hx⟩ := hg
    obtain ⟨its, rv, p, hz⟩ := I.tuple hq
    obtain ⟨u, hu, ru⟩ := rv.get hx
    have hel : e < s.heap.objs.size := Heap.lt_size he
    have hil : it < s.heap.objs.size := by obtain ⟨_, q, _⟩ := hit; exact Heap.lt_size q
    have hlen : i < its.toArray.size := by
      have := (List.getElem?_eq_some_iff.mp hu).1
      rw [List.size_toArray]; exact this
    refine wpAny_pyNext_enum_itemC (Draws.tuple (prog := X.prog) (w := X.w) (A := X.A.in1) (show X.A.in1.handled = none from I.ok.hd hc) it a hai its.toArray) he ⟨hit, p⟩ hlen hne (by simp [hne, hea]) fun x' h' tk hP ho hst' hT hsz hk => ?_
    have ex : x' = u := by
      have : its.toArray[i]? = some x' := hP
      rw [show its.toArray[i]? = its[i]? by simp, hu] at this
      exact (Option.some.inj this).symm
    subst ex
    refine ⟨_, rfl, wpAny_letOwnedTupleGo_enum (s := { s with heap := h', toks := tk + 1 }) ho fun h'' he' sb => ?_⟩
    have hT2 : h''.get? s.heap.objs.size = some { cls := .type "tuple", data := .seq #[.int i tk, x'] } := (sb.2 _ (Nat.ne_of_gt hel)).trans hT
    have new : ObjOk X.prog X.w (upd H s.heap.objs.size (.tup [.int (i : Nat), x])) h'' s.heap.objs.size (.tup [.int (i : Nat), x]) :=
      ⟨by show 2 ≤ sizeLine; decide, [.int i tk, x'], .cons ⟨_, rfl⟩ (.cons ru .nil), ⟨_, hT2, rfl, _, rfl⟩⟩
    have I1 : Inv X pins σ (upd H s.heap.objs.size (.tup [.int (i : Nat), x])) { s with heap := h'', toks := tk + 1 } :=
      I.turnedNew (ch := [e, it]) (fun b ob hb q => (sb.2 b (fun z => hb (by simp [z]))).trans (hk b ob (fun z => hb (by simp [z])) (fun z => hb (by simp [z])) q)) hf (Nat.le_refl _) new
    refine ⟨.ref s.heap.objs.size, _, I1, rfl, ⟨_, x, rfl, I.hok.fresh (Nat.le_refl _), rfl, fun ys hy => by rw [I.tuple_inj hy hq]; exact hx⟩, ⟨⟨x', ?_⟩, hst'.1.at fun o q => (sb.2 it (Ne.symm hne)).trans q, hne, hai, hea⟩, fun b hb => ?_⟩
    · have e1 : ((i + 1 : Nat) : Int) = (i : Int) + 1 := by omega
      rw [e1]; exact he'
    · have hb' : b < s.heap.objs.size := by
        have e' : b = e ∨ b = it := by simpa using hb
        rcases e' with z | z
        · rw [z]; exact hel
        · rw [z]; exact hil
      rw [upd_ne (Nat.ne_of_lt hb')]
      exact (hf b hb).1
  done := by
    intro X hP hw hK hc i pins s σ H E I hf st hg
    subst hP hw hK
    obtain ⟨⟨old, he⟩, hit, hne, hai, hea⟩ := st
    obtain ⟨xs, hq, hx⟩ := hg
    obtain ⟨its, rv, p, hz⟩ := I.tuple hq
    obtain ⟨f0, f1, f2, f3, f4, f5⟩ := hf it (by simp)
    have hl := rv.length
    have hn : its.toArray.size = i := by rw [List.size_toArray]; omega
    exact wpAny_pyNext_enum_endD (Draws.tuple (prog := X.prog) (w := X.w) (A := X.A.in1) (show X.A.in1.handled = none from I.ok.hd hc) it a hai its.toArray) he ⟨by rw [hn]; exact hit, p⟩ fun h' eb => ⟨rfl, I.turned (t' := s.toks) (fun b o hb q => eb b o hb q) f0 f1 f3 f4 f5⟩
  self := fun A i s Q E st h => let ⟨⟨_, he⟩, _⟩ := st; wpAny_pyIter_enum he h
def iEnumT (K : PySem.W.Frag) (ta : TA) : TI := fun σ H R => ta σ H fun vs H1 => ∃ a xs, vs = [.ref a] ∧ SqT K H1 a xs ∧ R (IteT K a) H1
theorem pi_enumT {X : Cx} {e : Expr} {ta : TA} {p pos tpos : Pos} {elts : List Expr} {kk : Nat} (hg : Gl X "enumerate") (hm : X.mg "enumerate" = none) (ha : PA X [e] ta) (hs : starEach [e] X.env = [(false, eval e X.env)] := by rfl) :
    PI X (.Tuple elts kk tpos) (.Call (.Name "enumerate" p) [e] [] pos) (iEnumT X.K ta) := by
  refine ⟨fun pins s σ H R I h => ?_⟩
  refine Call_ (ld_blt I hg hm boot_enumerate (PyProof.Rows.callWith_type1 (thn (ha.run pos pins s σ H _ I h) fun us s1 ⟨vs, H1, I1, r1, q1⟩ => ?_) hs rfl))
  obtain ⟨a, xs, ex, hq, q⟩ := q1
  subst ex
  cases r1 with
  | cons r rr =>
    cases rr
    cases r
    obtain ⟨its, rv, p', hz⟩ := I1.tuple hq
    refine call_enumerate_tuple p' fun h' he hit hsz hk => wpAny_pyIter_enum he ?_
    have I2 : Inv X pins σ H1 { s1 with heap := h' } := I1.kept (t' := s1.toks) hk
    have la : a < s1.heap.objs.size := p'.lt
    refine ⟨s1.heap.objs.size + 1, [s1.heap.objs.size + 1, s1.heap.objs.size], _, _, H1, rfl, I2, turn_enumT a (s1.heap.objs.size + 1) s1.heap.objs.size, ⟨⟨.none, he⟩, hit, Nat.succ_ne_self _, Nat.ne_of_lt la, Nat.ne_of_gt (Nat.lt_succ_of_lt la)⟩, fun b hb => ?_, q⟩
    have e' : b = s1.heap.objs.size + 1 ∨ b = s1.heap.objs.size := by simpa using hb
    have hle : s1.heap.objs.size ≤ b := by
      rcases e' with z | z
      · rw [z]; exact Nat.le_add_right _ _
      · rw [z]; exact Nat.le_refl _
    exact I1.fpOk hle (I1.hok.fresh hle)
theorem walk_enumT {K : PySem.W.Frag} {a : Addr} {xs : List V} : Walk (IteT K a) xs.length (fun H => SqT K H a xs) (YPair (fun i => some (.int (i : Nat))) (fun i => xs[i]?)) := by
  refine ⟨fun i _ hi q => ⟨xs, xs[i], q, by simp [hi]⟩, fun _ q => ⟨xs, q, rfl⟩, fun i H v H' _ q y => ?_⟩
  obtain ⟨T, x, h1, h2, h3, h4⟩ := y
  exact ⟨T, .int (i : Nat), x, h1, h2, h3, rfl, h4 xs q⟩
end K7
/-! The text by places (printed by gen_text.py). -/
namespace K7
open PySem PySem.Spec PyProof.Rows L2
def top (i : Nat) : Stmt := PySem.Challenge.pw_labelframes_k71_whole_copies_are_least.main.body.getD i (.Pass ⟨0, 0, 0, 0⟩)
abbrev s_is_integer : Stmt := top 18
abbrev n_is_integer : List Str := ["value"]
abbrev p_is_integer : List Str := ["value"]
theorem c_is_integer : FnScope n_is_integer p_is_integer (defScope s_is_integer) := ⟨rfl, rfl, rfl, by decide +kernel, rfl, by decide +kernel, by decide +kernel⟩
abbrev s_is_name : Stmt := top 19
abbrev n_is_name : List Str := ["value", "sign"]
abbrev p_is_name : List Str := ["value"]
theorem c_is_name : FnScope n_is_name p_is_name (defScope s_is_name) := ⟨rfl, rfl, rfl, by decide +kernel, rfl, by decide +kernel, by decide +kernel⟩
abbrev s_is_kind : Stmt := top 20
abbrev n_is_kind : List Str := ["value"]
abbrev p_is_kind : List Str := ["value"]
theorem c_is_kind : FnScope n_is_kind p_is_kind (defScope s_is_kind) := ⟨rfl, rfl, rfl, by decide +kernel, rfl, by decide +kernel, by decide +kernel⟩
abbrev s_is_value : Stmt := top 21
abbrev n_is_value : List Str := ["kind", "value", "sign"]
abbrev p_is_value : List Str := ["kind", "value"]
theorem c_is_value : FnScope n_is_value p_is_value (defScope s_is_value) := ⟨rfl, rfl, rfl, by decide +kernel, rfl, by decide +kernel, by decide +kernel⟩
abbrev s_is_column : Stmt := top 22
abbrev n_is_column : List Str := ["value"]
abbrev p_is_column : List Str := ["value"]
theorem c_is_column : FnScope n_is_column p_is_column (defScope s_is_column) := ⟨rfl, rfl, rfl, by decide +kernel, rfl, by decide +kernel, by decide +kernel⟩
abbrev s_fault_in_schema : Stmt := top 23
abbrev n_fault_in_schema : List Str := ["schema", "names", "index", "column"]
abbrev p_fault_in_schema : List Str := ["schema"]
theorem c_fault_in_schema : FnScope n_fault_in_schema p_fault_in_schema (defScope s_fault_in_schema) := ⟨rfl, rfl, rfl, by decide +kernel, rfl, by decide +kernel, by decide +kernel⟩
abbrev s_check_schema : Stmt := top 25
abbrev n_check_schema : List Str := ["schema", "fault"]
abbrev p_check_schema : List Str := ["schema"]
theorem c_check_schema : FnScope n_check_schema p_check_schema (defScope s_check_schema) := ⟨rfl, rfl, rfl, by decide +kernel, rfl, by decide +kernel, by decide +kernel⟩
abbrev s_fault_in_row : Stmt := top 26
abbrev n_fault_in_row : List Str := ["schema", "row", "index", "column"]
abbrev p_fault_in_row : List Str := ["schema", "row"]
theorem c_fault_in_row : FnScope n_fault_in_row p_fault_in_row (defScope s_fault_in_row) := ⟨rfl, rfl, rfl, by decide +kernel, rfl, by decide +kernel, by decide +kernel⟩
abbrev s_is_row : Stmt := top 27
abbrev n_is_row : List Str := ["schema", "row"]
abbrev p_is_row : List Str := ["schema", "row"]
theorem c_is_row : FnScope n_is_row p_is_row (defScope s_is_row) := ⟨rfl, rfl, rfl, by decide +kernel, rfl, by decide +kernel, by decide +kernel⟩
abbrev s_check_rows : Stmt := top 28
abbrev n_check_rows : List Str := ["schema", "rows", "index", "row"]
abbrev p_check_rows : List Str := ["schema", "rows"]
theorem c_check_rows : FnScope n_check_rows p_check_rows (defScope s_check_rows) := ⟨rfl, rfl, rfl, by decide +kernel, rfl, by decide +kernel, by decide +kernel⟩
abbrev s_Frame_init : Stmt := inClass (top 43) 0
abbrev n_Frame_init : List Str := ["self", "schema", "rows"]
abbrev p_Frame_init : List Str := ["self", "schema", "rows"]
theorem c_Frame_init : FnScope n_Frame_init p_Frame_init (defScope s_Frame_init) := ⟨rfl, rfl, rfl, by decide +kernel, rfl, by decide +kernel, by decide +kernel⟩
abbrev s_Frame_schema : Stmt := inClass (top 43) 2
abbrev n_Frame_schema : List Str := ["self"]
abbrev p_Frame_schema : List Str := ["self"]
theorem c_Frame_schema : FnScope n_Frame_schema p_Frame_schema (defScope s_Frame_schema) := ⟨rfl, rfl, rfl, by decide +kernel, rfl, by decide +kernel, by decide +kernel⟩
abbrev s_Frame_names : Stmt := inClass (top 43) 4
abbrev n_Frame_names : List Str := ["self", "name", "kind"]
abbrev p_Frame_names : List Str := ["self"]
theorem c_Frame_names : FnScope n_Frame_names p_Frame_names (defScope s_Frame_names) := ⟨rfl, rfl, rfl, by decide +kernel, rfl, by decide +kernel, by decide +kernel⟩
abbrev s_Frame_column : Stmt := inClass (top 43) 5
abbrev n_Frame_column : List Str := ["self", "name", "place", "row"]
abbrev p_Frame_column : List Str := ["self", "name"]
theorem c_Frame_column : FnScope n_Frame_column p_Frame_column (defScope s_Frame_column) := ⟨rfl, rfl, rfl, by decide +kernel, rfl, by decide +kernel, by decide +kernel⟩
abbrev s_Frame_len : Stmt := inClass (top 43) 10
abbrev n_Frame_len : List Str := ["self"]
abbrev p_Frame_len : List Str := ["self"]
theorem c_Frame_len : FnScope n_Frame_len p_Frame_len (defScope s_Frame_len) := ⟨rfl, rfl, rfl, by decide +kernel, rfl, by decide +kernel, by decide +kernel⟩
abbrev s_Block_init : Stmt := inClass (top 45) 0
abbrev n_Block_init : List Str := ["self", "cells", "sheet"]
abbrev p_Block_init : List Str := ["self", "cells", "sheet"]
theorem c_Block_init : FnScope n_Block_init p_Block_init (defScope s_Block_init) := ⟨rfl, rfl, rfl, by decide +kernel, rfl, by decide +kernel, by decide +kernel⟩
abbrev s_cut_blocks : Stmt := top 46
abbrev n_cut_blocks : List Str := ["cells", "size", "sheet", "start"]
abbrev p_cut_blocks : List Str := ["cells", "size", "sheet"]
theorem c_cut_blocks : FnScope n_cut_blocks p_cut_blocks (defScope s_cut_blocks) := ⟨rfl, rfl, rfl, by decide +kernel, rfl, by decide +kernel, by decide +kernel⟩
abbrev s_blank_frame : Stmt := top 47
abbrev n_blank_frame : List Str := ["heads"]
abbrev p_blank_frame : List Str := ["heads"]
theorem c_blank_frame : FnScope n_blank_frame p_blank_frame (defScope s_blank_frame) := ⟨rfl, rfl, rfl, by decide +kernel, rfl, by decide +kernel, by decide +kernel⟩
abbrev s_Sheet_init : Stmt := inClass (top 48) 1
abbrev n_Sheet_init : List Str := ["self", "frame", "block", "name", "kind"]
abbrev p_Sheet_init : List Str := ["self", "frame", "block"]
theorem c_Sheet_init : FnScope n_Sheet_init p_Sheet_init (defScope s_Sheet_init) := ⟨rfl, rfl, rfl, by decide +kernel, rfl, by decide +kernel, by decide +kernel⟩
abbrev s_Sheet_copies : Stmt := inClass (top 48) 3
abbrev n_Sheet_copies : List Str := ["self"]
abbrev p_Sheet_copies : List Str := ["self"]
theorem c_Sheet_copies : FnScope n_Sheet_copies p_Sheet_copies (defScope s_Sheet_copies) := ⟨rfl, rfl, rfl, by decide +kernel, rfl, by decide +kernel, by decide +kernel⟩
abbrev s_Sheet_check_open : Stmt := inClass (top 48) 8
abbrev n_Sheet_check_open : List Str := ["self"]
abbrev p_Sheet_check_open : List Str := ["self"]
theorem c_Sheet_check_open : FnScope n_Sheet_check_open p_Sheet_check_open (defScope s_Sheet_check_open) := ⟨rfl, rfl, rfl, by decide +kernel, rfl, by decide +kernel, by decide +kernel⟩
abbrev s_Sheet_place_of : Stmt := inClass (top 48) 10
abbrev n_Sheet_place_of : List Str := ["self", "name", "place", "column", "kind"]
abbrev p_Sheet_place_of : List Str := ["self", "name"]
theorem c_Sheet_place_of : FnScope n_Sheet_place_of p_Sheet_place_of (defScope s_Sheet_place_of) := ⟨rfl, rfl, rfl, by decide +kernel, rfl, by decide +kernel, by decide +kernel⟩
abbrev s_Sheet_own_block : Stmt := inClass (top 48) 11
abbrev n_Sheet_own_block : List Str := ["self", "place", "number", "block", "sheet"]
abbrev p_Sheet_own_block : List Str := ["self", "place", "number"]
theorem c_Sheet_own_block : FnScope n_Sheet_own_block p_Sheet_own_block (defScope s_Sheet_own_block) := ⟨rfl, rfl, rfl, by decide +kernel, rfl, by decide +kernel, by decide +kernel⟩
abbrev s_Sheet_put : Stmt := inClass (top 48) 12
abbrev n_Sheet_put : List Str := ["self", "index", "name", "value", "place", "block"]
abbrev p_Sheet_put : List Str := ["self", "index", "name", "value"]
theorem c_Sheet_put : FnScope n_Sheet_put p_Sheet_put (defScope s_Sheet_put) := ⟨rfl, rfl, rfl, by decide +kernel, rfl, by decide +kernel, by decide +kernel⟩
abbrev s_Sheet_blank : Stmt := inClass (top 48) 15
abbrev n_Sheet_blank : List Str := ["self"]
abbrev p_Sheet_blank : List Str := ["self"]
theorem c_Sheet_blank : FnScope n_Sheet_blank p_Sheet_blank (defScope s_Sheet_blank) := ⟨rfl, rfl, rfl, by decide +kernel, rfl, by decide +kernel, by decide +kernel⟩
abbrev s_Sheet_hold : Stmt := inClass (top 48) 16
abbrev n_Sheet_hold : List Str := ["self", "sheet", "blocks", "block"]
abbrev p_Sheet_hold : List Str := ["self", "sheet"]
theorem c_Sheet_hold : FnScope n_Sheet_hold p_Sheet_hold (defScope s_Sheet_hold) := ⟨rfl, rfl, rfl, by decide +kernel, rfl, by decide +kernel, by decide +kernel⟩
abbrev s_Sheet_twin : Stmt := inClass (top 48) 17
abbrev n_Sheet_twin : List Str := ["self", "found"]
abbrev p_Sheet_twin : List Str := ["self"]
theorem c_Sheet_twin : FnScope n_Sheet_twin p_Sheet_twin (defScope s_Sheet_twin) := ⟨rfl, rfl, rfl, by decide +kernel, rfl, by decide +kernel, by decide +kernel⟩
abbrev s_Sheet_close : Stmt := inClass (top 48) 18
abbrev n_Sheet_close : List Str := ["self"]
abbrev p_Sheet_close : List Str := ["self"]
theorem c_Sheet_close : FnScope n_Sheet_close p_Sheet_close (defScope s_Sheet_close) := ⟨rfl, rfl, rfl, by decide +kernel, rfl, by decide +kernel, by decide +kernel⟩
abbrev s_Sheet_shared : Stmt := inClass (top 48) 19
abbrev n_Sheet_shared : List Str := ["self", "other", "blocks", "block"]
abbrev p_Sheet_shared : List Str := ["self", "other"]
theorem c_Sheet_shared : FnScope n_Sheet_shared p_Sheet_shared (defScope s_Sheet_shared) := ⟨rfl, rfl, rfl, by decide +kernel, rfl, by decide +kernel, by decide +kernel⟩
abbrev s_l_cell : Stmt := top 50
abbrev n_l_cell : List Str := ["_law_script", "_law_k", "_law_state_here", "_law_cell_here"]
abbrev p_l_cell : List Str := ["_law_script", "_law_k"]
theorem c_l_cell : FnScope n_l_cell p_l_cell (defScope s_l_cell) := ⟨rfl, rfl, rfl, by decide +kernel, rfl, by decide +kernel, by decide +kernel⟩
abbrev s_l_pool : Stmt := top 51
abbrev n_l_pool : List Str := ["_law_cell_here", "_law_digits"]
abbrev p_l_pool : List Str := ["_law_cell_here"]
theorem c_l_pool : FnScope n_l_pool p_l_pool (defScope s_l_pool) := ⟨rfl, rfl, rfl, by decide +kernel, rfl, by decide +kernel, by decide +kernel⟩
abbrev s_l_draw : Stmt := top 52
abbrev n_l_draw : List Str := ["_law_pool_here", "_law_many", "_law_was", "_law_more", "_law_digit"]
abbrev p_l_draw : List Str := ["_law_pool_here", "_law_many"]
theorem c_l_draw : FnScope n_l_draw p_l_draw (defScope s_l_draw) := ⟨rfl, rfl, rfl, by decide +kernel, rfl, by decide +kernel, by decide +kernel⟩
abbrev s_l_calls : Stmt := top 53
abbrev n_l_calls : List Str := ["_law_pool_here", "_law_many", "_law_own", "_law_begin", "_law_k", "_law_letters"]
abbrev p_l_calls : List Str := ["_law_pool_here", "_law_many"]
theorem c_l_calls : FnScope n_l_calls p_l_calls (defScope s_l_calls) := ⟨rfl, rfl, rfl, by decide +kernel, rfl, by decide +kernel, by decide +kernel⟩
abbrev s_l_worth : Stmt := top 54
abbrev n_l_worth : List Str := ["_law_pool_here", "_law_kind_here"]
abbrev p_l_worth : List Str := ["_law_pool_here", "_law_kind_here"]
theorem c_l_worth : FnScope n_l_worth p_l_worth (defScope s_l_worth) := ⟨rfl, rfl, rfl, by decide +kernel, rfl, by decide +kernel, by decide +kernel⟩
abbrev s_l_heads : Stmt := top 55
abbrev n_l_heads : List Str := ["_law_pool_here", "_law_calls_here", "_law_kinds", "_law_call", "_law_k"]
abbrev p_l_heads : List Str := ["_law_pool_here", "_law_calls_here"]
theorem c_l_heads : FnScope n_l_heads p_l_heads (defScope s_l_heads) := ⟨rfl, rfl, rfl, by decide +kernel, rfl, by decide +kernel, by decide +kernel⟩
abbrev s_l_size : Stmt := top 56
abbrev n_l_size : List Str := ["_law_pool_here"]
abbrev p_l_size : List Str := ["_law_pool_here"]
theorem c_l_size : FnScope n_l_size p_l_size (defScope s_l_size) := ⟨rfl, rfl, rfl, by decide +kernel, rfl, by decide +kernel, by decide +kernel⟩
abbrev s_l_all_blocks : Stmt := top 57
abbrev n_l_all_blocks : List Str := ["_law_many", "_law_wide", "_law_size_here"]
abbrev p_l_all_blocks : List Str := ["_law_many", "_law_wide", "_law_size_here"]
theorem c_l_all_blocks : FnScope n_l_all_blocks p_l_all_blocks (defScope s_l_all_blocks) := ⟨rfl, rfl, rfl, by decide +kernel, rfl, by decide +kernel, by decide +kernel⟩
abbrev s_l_spots : Stmt := top 58
abbrev n_l_spots : List Str := ["_law_pool_here", "_law_heads_here", "_law_many", "_law_size_here", "_law_spots_here", "_law_blocks", "_law_turn", "_law_block_here"]
abbrev p_l_spots : List Str := ["_law_pool_here", "_law_heads_here", "_law_many", "_law_size_here"]
theorem c_l_spots : FnScope n_l_spots p_l_spots (defScope s_l_spots) := ⟨rfl, rfl, rfl, by decide +kernel, rfl, by decide +kernel, by decide +kernel⟩
abbrev s_l_put_all : Stmt := top 59
abbrev n_l_put_all : List Str := ["_law_pool_here", "_law_box", "_law_heads_here", "_law_spots_here", "_law_spot", "_law_place"]
abbrev p_l_put_all : List Str := ["_law_pool_here", "_law_box", "_law_heads_here", "_law_spots_here"]
theorem c_l_put_all : FnScope n_l_put_all p_l_put_all (defScope s_l_put_all) := ⟨rfl, rfl, rfl, by decide +kernel, rfl, by decide +kernel, by decide +kernel⟩
abbrev s_l_two_right : Stmt := top 60
abbrev n_l_two_right : List Str := ["_law_pool_here", "_law_heads_here", "_law_lines", "_law_size_here", "_law_box", "_law_mate", "_law_total", "_law_spots_here", "_law_blocks", "_law_turn", "_law_left_over", "_law_more", "_law_others", "_law_fresh", "_law_one"]
abbrev p_l_two_right : List Str := ["_law_pool_here", "_law_heads_here", "_law_lines", "_law_size_here"]
theorem c_l_two_right : FnScope n_l_two_right p_l_two_right (defScope s_l_two_right) := ⟨rfl, rfl, rfl, by decide +kernel, rfl, by decide +kernel, by decide +kernel⟩
abbrev s_l_closed_right : Stmt := top 61
abbrev n_l_closed_right : List Str := ["_law_pool_here", "_law_heads_here", "_law_lines", "_law_size_here", "_law_box", "_law_total", "_law_mate", "_law_third", "_law_spot", "_law_place"]
abbrev p_l_closed_right : List Str := ["_law_pool_here", "_law_heads_here", "_law_lines", "_law_size_here"]
theorem c_l_closed_right : FnScope n_l_closed_right p_l_closed_right (defScope s_l_closed_right) := ⟨rfl, rfl, rfl, by decide +kernel, rfl, by decide +kernel, by decide +kernel⟩
abbrev s_l_right : Stmt := top 62
abbrev n_l_right : List Str := ["_law_pool_here", "_law_turn", "_law_heads_here", "_law_size_here", "_law_many", "_law_lines", "_law_call", "_law_kind_here", "_law_k"]
abbrev p_l_right : List Str := ["_law_pool_here"]
theorem c_l_right : FnScope n_l_right p_l_right (defScope s_l_right) := ⟨rfl, rfl, rfl, by decide +kernel, rfl, by decide +kernel, by decide +kernel⟩
abbrev s_law : Stmt := top 63
abbrev n_law : List Str := ["_law_script", "_law_k"]
abbrev p_law : List Str := ["_law_script"]
theorem c_law : FnScope n_law p_law (defScope s_law) := ⟨rfl, rfl, rfl, by decide +kernel, rfl, by decide +kernel, by decide +kernel⟩
end K7
/-! What the walk takes of the head; short words for calls; the values' predicates. -/
namespace K7
open PySem PySem.Spec PyProof.Rows L2
/-- a def of the module under its name -/
def GFn (K : PySem.W.Frag) (mg : Str → Option Value) (x : Str) (st : Stmt) : Prop := ∃ f fd, FunD K x x (defArgs st) (defBody st) (defScope st) [] [] f fd ∧ mg x = some (.ref f)
/-- a method -/
def MFn (K : PySem.W.Frag) (C : Addr) (m qual : Str) (st : Stmt) : Prop := ∃ f fd, FunD K m qual (defArgs st) (defBody st) (defScope st) [] [] f fd ∧ Meth K C m f
/-- an __init__ -/
def IFn (K : PySem.W.Frag) (C : Addr) (qual : Str) (st : Stmt) (dvs : List V) (kws : List (Str × V)) : Prop := ∃ f fd, FunD K "__init__" qual (defArgs st) (defBody st) (defScope st) dvs kws f fd ∧ Mk K C f
/-- a property's getter -/
def PFn (K : PySem.W.Frag) (C : Addr) (m qual : Str) (st : Stmt) : Prop := ∃ p f fd, FunD K m qual (defArgs st) (defBody st) (defScope st) [] [] f fd ∧ PropOf K C m p f
/-- a __len__ -/
def LFn (K : PySem.W.Frag) (C : Addr) (qual : Str) (st : Stmt) : Prop := ∃ f fd, FunD K "__len__" qual (defArgs st) (defBody st) (defScope st) [] [] f fd ∧ PySem.W.findIn K (.ref C) "__len__" = some (some (.ref f)) ∧ PySem.W.isFn K (.ref f) = true

structure Hd (K : PySem.W.Frag) (mg : Str → Option Value) : Prop where
  f_is_integer : GFn K mg "is_integer" s_is_integer
  f_is_name : GFn K mg "is_name" s_is_name
  f_is_kind : GFn K mg "is_kind" s_is_kind
  f_is_value : GFn K mg "is_value" s_is_value
  f_is_column : GFn K mg "is_column" s_is_column
  f_fault_in_schema : GFn K mg "fault_in_schema" s_fault_in_schema
  f_check_schema : GFn K mg "check_schema" s_check_schema
  f_fault_in_row : GFn K mg "fault_in_row" s_fault_in_row
  f_is_row : GFn K mg "is_row" s_is_row
  f_check_rows : GFn K mg "check_rows" s_check_rows
  f_Frame_init : IFn K (He.ga K "Frame") "Frame.__init__" s_Frame_init [.ref (He.dflAt ("Frame", some "__init__") 0 K)] []
  f_Frame_schema : PFn K (He.ga K "Frame") "schema" "Frame.schema" s_Frame_schema
  f_Frame_names : PFn K (He.ga K "Frame") "names" "Frame.names" s_Frame_names
  f_Frame_column : MFn K (He.ga K "Frame") "column" "Frame.column" s_Frame_column
  f_Frame_len : LFn K (He.ga K "Frame") "Frame.__len__" s_Frame_len
  f_Block_init : IFn K (He.ga K "Block") "Block.__init__" s_Block_init [] []
  f_cut_blocks : GFn K mg "cut_blocks" s_cut_blocks
  f_blank_frame : GFn K mg "blank_frame" s_blank_frame
  f_Sheet_init : IFn K (He.ga K "Sheet") "Sheet.__init__" s_Sheet_init [] [("block", .int 4)]
  f_Sheet_copies : PFn K (He.ga K "Sheet") "copies" "Sheet.copies" s_Sheet_copies
  f_Sheet_check_open : MFn K (He.ga K "Sheet") "check_open" "Sheet.check_open" s_Sheet_check_open
  f_Sheet_place_of : MFn K (He.ga K "Sheet") "place_of" "Sheet.place_of" s_Sheet_place_of
  f_Sheet_own_block : MFn K (He.ga K "Sheet") "own_block" "Sheet.own_block" s_Sheet_own_block
  f_Sheet_put : MFn K (He.ga K "Sheet") "put" "Sheet.put" s_Sheet_put
  f_Sheet_blank : MFn K (He.ga K "Sheet") "blank" "Sheet.blank" s_Sheet_blank
  f_Sheet_hold : MFn K (He.ga K "Sheet") "hold" "Sheet.hold" s_Sheet_hold
  f_Sheet_twin : MFn K (He.ga K "Sheet") "twin" "Sheet.twin" s_Sheet_twin
  f_Sheet_close : MFn K (He.ga K "Sheet") "close" "Sheet.close" s_Sheet_close
  f_Sheet_shared : MFn K (He.ga K "Sheet") "shared" "Sheet.shared" s_Sheet_shared
  f_l_cell : GFn K mg "_law_cell" s_l_cell
  f_l_pool : GFn K mg "_law_pool" s_l_pool
  f_l_draw : GFn K mg "_law_draw" s_l_draw
  f_l_calls : GFn K mg "_law_calls" s_l_calls
  f_l_worth : GFn K mg "_law_worth" s_l_worth
  f_l_heads : GFn K mg "_law_heads" s_l_heads
  f_l_size : GFn K mg "_law_size" s_l_size
  f_l_all_blocks : GFn K mg "_law_all_blocks" s_l_all_blocks
  f_l_spots : GFn K mg "_law_spots" s_l_spots
  f_l_put_all : GFn K mg "_law_put_all" s_l_put_all
  f_l_two_right : GFn K mg "_law_two_right" s_l_two_right
  f_l_closed_right : GFn K mg "_law_closed_right" s_l_closed_right
  f_l_right : GFn K mg "_law_right" s_l_right
  f_law : GFn K mg "law" s_law
  g_Frame : mg "Frame" = some (.ref (He.ga K "Frame"))
  cl_Frame : Cls K (He.ga K "Frame")
  g_Block : mg "Block" = some (.ref (He.ga K "Block"))
  cl_Block : Cls K (He.ga K "Block")
  g_Sheet : mg "Sheet" = some (.ref (He.ga K "Sheet"))
  cl_Sheet : Cls K (He.ga K "Sheet")
  no_Frame_heads : NoAttr K (He.ga K "Frame") "heads"
  no_Frame_lines : NoAttr K (He.ga K "Frame") "lines"
  no_Block_cells : NoAttr K (He.ga K "Block") "cells"
  no_Block_sheets : NoAttr K (He.ga K "Block") "sheets"
  no_Sheet_heads : NoAttr K (He.ga K "Sheet") "heads"
  no_Sheet_block_size : NoAttr K (He.ga K "Sheet") "block_size"
  no_Sheet_total : NoAttr K (He.ga K "Sheet") "total"
  no_Sheet_made : NoAttr K (He.ga K "Sheet") "made"
  no_Sheet_opened : NoAttr K (He.ga K "Sheet") "opened"
  no_Sheet_parts : NoAttr K (He.ga K "Sheet") "parts"
  b_isinstance : mg "isinstance" = none
  b_int : mg "int" = none
  b_bool : mg "bool" = none
  b_str : mg "str" = none
  b_tuple : mg "tuple" = none
  b_len : mg "len" = none
  b_all : mg "all" = none
  b_enumerate : mg "enumerate" = none
  b_list : mg "list" = none
  b_range : mg "range" = none
  b_sum : mg "sum" = none
  b_abs : mg "abs" = none
  b_divmod : mg "divmod" = none
  b_min : mg "min" = none
  b_max : mg "max" = none
  most_letters : ∃ t, mg "MOST_LETTERS" = some (.int 8 t)
  letters : ∃ t, mg "LETTERS" = some (.str "abcdefghijklmnopqrstuvwxyz" t)
  kinds : ∃ a, mg "KINDS" = some (.ref a) ∧ ∀ H, SqT K H a [.str "int", .str "text", .str "bool"]
  ins_Frame : C8.InsC K (He.ga K "Frame")
  ins_Sheet : C8.InsC K (He.ga K "Sheet")
  eq_Sheet : EqObj K (He.ga K "Sheet")
  most : ClX.CRead K (He.ga K "Sheet") (.type "type") ∧ ∃ u, ClX.CVal K (He.ga K "Sheet") (.type "type") "MOST_BLOCK" (.int 100) u
  nil_ : ∀ H, SqT K H (He.dflAt ("Frame", some "__init__") 0 K) []
/-! ### calls -/
section
variable (P : Program) (w : World) (K : PySem.W.Frag) (mg : Str → Option Value) (base : Heap)
structure Cal (k : Nat) (x : Str) (sp : Sp) : Prop where
  ex : ∃ (f : Addr) (fd : FuncData) (ps : List Str), FnOk P w K mg base CX0 k f fd ps sp ∧ mg x = some (.ref f) ∧ PySem.W.keepIn K (.ref f) = true ∧ Binds K fd ps []
structure Met (k : Nat) (C : Addr) (m : Str) (sp : Sp) : Prop where
  ex : ∃ (f : Addr) (fd : FuncData) (ps : List Str), Cls K C ∧ Meth K C m f ∧ FnOk P w K mg base CX0 k f fd ps sp ∧ Binds K fd ps []
structure Prp (k : Nat) (C : Addr) (m : Str) (sp : Sp) : Prop where
  ex : ∃ (p f : Addr) (fd : FuncData) (ps : List Str), Cls K C ∧ PropOf K C m p f ∧ FnOk P w K mg base CX0 k f fd ps sp ∧ Binds K fd ps []
structure LenM (k : Nat) (C : Addr) (sp : Sp) : Prop where
  ex : ∃ (f : Addr) (fd : FuncData) (ps : List Str), PySem.W.findIn K (.ref C) "__len__" = some (some (.ref f)) ∧ PySem.W.isFn K (.ref f) = true ∧ FnOk P w K mg base CX0 k f fd ps sp ∧ Binds K fd ps []
/-- C(..), by its __init__; dvs: the defaults -/
structure Mak (k : Nat) (x : Str) (C : Addr) (sp : Sp) (dvs : List V) : Prop where
  ex : ∃ (f : Addr) (fd : FuncData) (ps : List Str) (ds : List Value), Mk K C f ∧ FnOk P w K mg base CX0 k f fd ps sp ∧ mg x = some (.ref C) ∧ Binds K fd ps ds ∧ Vals dvs ds
end
section
variable {P : Program} {w : World} {K : PySem.W.Frag} {mg : Str → Option Value} {base : Heap}
/-- what a def's body is to show -/
abbrev Body (P : Program) (w : World) (K : PySem.W.Frag) (mg : Str → Option Value) (base : Heap) (k : Nat) (qual : Str) (st : Stmt) (N : List Str) (sp : Sp) : Prop :=
  ∀ (f : Addr) (cdv : Value) (A : Around) (outer : List Env) (s : Shared) (H : Hp) (vs : List V) (Q : VK) (E : XK), Room k (A.deeper (envOfC qual (defScope st) s.heap.objs.size f cdv)) → sp vs H Q E →
    ∃ t, PSs (cxOf CX0 P w K mg base N qual (defScope st) f cdv A outer s H E).nox (defBody st) t ∧ t { nx := fun _ H' => Q .non H', rt := Q } (start N vs) H
abbrev BindN (x qual : Str) (st : Stmt) (ps : List Str) : Prop := ∀ (kV doc pm : Value) (an : Option Addr) (cdv ct : Value) (us : List Value), us.length = ps.length → bindArgs (PySem.W.fnOf x qual (defArgs st) (defBody st) (defScope st) .none kV doc pm an cdv ct) ⟨us, []⟩ = pure (ps.zip us)
abbrev LenOk (sp : Sp) (ps : List Str) : Prop := ∀ vs H Q E, sp vs H Q E → vs.length = ps.length
theorem fn_mk {x qual : Str} {st : Stmt} {dvs : List V} {kws : List (Str × V)} {f : Addr} {fd : FuncData} {N ps : List Str} {k : Nat} {sp : Sp} (F : FunD K x qual (defArgs st) (defBody st) (defScope st) dvs kws f fd) (S : FnScope N ps (defScope st)) (len : LenOk sp ps)
    (b : Body P w K mg base k qual st N sp) : FnOk P w K mg base CX0 (k + 1) f fd ps sp :=
  F.ok S len fun cdv A outer s H vs Q E hr hs => by
    obtain ⟨t, h, q⟩ := b f cdv A outer s H vs Q E hr hs
    exact ⟨t, h.nox, q⟩
theorem cal_mk {x : Str} {st : Stmt} {N ps : List Str} {k : Nat} {sp : Sp} (G : GFn K mg x st) (S : FnScope N ps (defScope st)) (hb : BindN x x st ps) (len : LenOk sp ps) (b : Body P w K mg base k x st N sp) : Cal P w K mg base (k + 1) x sp := by
  obtain ⟨f, fd, F, hm⟩ := G
  exact ⟨f, fd, ps, fn_mk F S len b, hm, F.kp, F.bindsN hb⟩
theorem met_mk {C : Addr} {m qual : Str} {st : Stmt} {N ps : List Str} {k : Nat} {sp : Sp} (c : Cls K C) (G : MFn K C m qual st) (S : FnScope N ps (defScope st)) (hb : BindN m qual st ps) (len : LenOk sp ps) (b : Body P w K mg base k qual st N sp) : Met P w K mg base (k + 1) C m sp := by
  obtain ⟨f, fd, F, hm⟩ := G
  exact ⟨f, fd, ps, c, hm, fn_mk F S len b, F.bindsN hb⟩
theorem prp_mk {C : Addr} {m qual : Str} {st : Stmt} {N ps : List Str} {k : Nat} {sp : Sp} (c : Cls K C) (G : PFn K C m qual st) (S : FnScope N ps (defScope st)) (hb : BindN m qual st ps) (len : LenOk sp ps) (b : Body P w K mg base k qual st N sp) : Prp P w K mg base (k + 1) C m sp := by
  obtain ⟨p, f, fd, F, hm⟩ := G
  exact ⟨p, f, fd, ps, c, hm, fn_mk F S len b, F.bindsN hb⟩
theorem len_mk {C : Addr} {qual : Str} {st : Stmt} {N ps : List Str} {k : Nat} {sp : Sp} (G : LFn K C qual st) (S : FnScope N ps (defScope st)) (hb : BindN "__len__" qual st ps) (len : LenOk sp ps) (b : Body P w K mg base k qual st N sp) : LenM P w K mg base (k + 1) C sp := by
  obtain ⟨f, fd, F, h1, h2⟩ := G
  exact ⟨f, fd, ps, h1, h2, fn_mk F S len b, F.bindsN hb⟩
theorem mak_mk {C : Addr} {x qual : Str} {st : Stmt} {N ps : List Str} {k : Nat} {sp : Sp} (hm : mg x = some (.ref C)) (G : IFn K C qual st [] []) (S : FnScope N ps (defScope st)) (hb : BindN "__init__" qual st ps) (len : LenOk sp ps) (b : Body P w K mg base k qual st N sp) : Mak P w K mg base (k + 1) x C sp [] := by
  obtain ⟨f, fd, F, hk⟩ := G
  exact ⟨f, fd, ps, [], hk, fn_mk F S len b, hm, F.bindsN hb, .nil⟩
end
section
variable {X : Cx} {k j : Nat} {C : Addr} {x m : Str} {sp : Sp} {dvs : List V} {p pos apos : Pos} {e o : Expr} {es : List Expr} {ta : TE} {t : TA}
theorem pe_f (c : Cal X.prog X.w X.K X.mg X.base k x sp) (hr : Room j X.A) (ha : PA X (e :: es) t) (hk : k ≤ j := by decide) (hg : Gl X x := by rfl)
    (hdb : (x == ("__debug__" : Str)) = false := by decide) (he : starEach (e :: es) X.env = (false, eval e X.env) :: starEach es X.env := by rfl) (hpl : (backTo pos (starEach es X.env)).any (·.1) = false := by rfl) :
    PE X (.Call (.Name x p) (e :: es) [] pos) (tCall sp [] E0 t) := by
  obtain ⟨f, fd, ps, F, hm, kp, b⟩ := c.ex
  exact pe_call F (hr.mono hk) hg hm kp b .nil pass0 ha hdb he hpl
theorem pe_new (c : Mak X.prog X.w X.K X.mg X.base k x C sp dvs) (hr : Room j X.A) (ha : PA X (e :: es) t) (hk : k + 1 ≤ j := by decide) (hg : Gl X x := by rfl)
    (hdb : (x == ("__debug__" : Str)) = false := by decide) (he : starEach (e :: es) X.env = (false, eval e X.env) :: starEach es X.env := by rfl) (hpl : (backTo pos (starEach es X.env)).any (·.1) = false := by rfl) :
    PE X (.Call (.Name x p) (e :: es) [] pos) (tMake C sp dvs E0 t) := by
  obtain ⟨f, fd, ps, ds, M, F, hm, b, d⟩ := c.ex
  exact pe_make M F (hr.mono hk) hg hm b d pass0 ha hdb he hpl
theorem pe_m {pl : Sem Bool} (c : Met X.prog X.w X.K X.mg X.base k C m sp) (hr : Room j X.A) (he : PE X o ta) (ha : PA X (e :: es) t) (hk : k ≤ j := by decide)
    (hst : starEach (e :: es) X.env = (false, eval e X.env) :: starEach es X.env := by rfl) (hpl : (backTo pos (starEach es X.env)).any (·.1) = false := by rfl)
    (ht : eval (.Call (.Attribute o m apos) (e :: es) [] pos) X.env = (do
      let ov ← eval o X.env
      standAt apos.atName
      let (f, first) ← holding [ov] (getMethod ov m pl)
      callWith pos f first (backTo pos (starEach (e :: es) X.env)) (backToKw pos (keywordEach [] X.env))) := by rfl) :
    PE X (.Call (.Attribute o m apos) (e :: es) [] pos) (tMeth C m sp [] E0 ta t) := by
  obtain ⟨f, fd, ps, hc, hm, F, b⟩ := c.ex
  exact pe_meth (pl := pl) he hc hm F (hr.mono hk) b .nil pass0 ha hst hpl ht
theorem pe_m0 {pl : Sem Bool} (c : Met X.prog X.w X.K X.mg X.base k C m sp) (hr : Room j X.A) (he : PE X o ta) (hk : k ≤ j := by decide)
    (ht : eval (.Call (.Attribute o m apos) [] [] pos) X.env = (do
      let ov ← eval o X.env
      standAt apos.atName
      let (f, first) ← holding [ov] (getMethod ov m pl)
      callWith pos f first (backTo pos (starEach [] X.env)) (backToKw pos (keywordEach [] X.env))) := by rfl) :
    PE X (.Call (.Attribute o m apos) [] [] pos) (tMeth C m sp [] E0 ta tNil) := by
  obtain ⟨f, fd, ps, hc, hm, F, b⟩ := c.ex
  exact pe_meth0 (pl := pl) he hc hm F (hr.mono hk) b .nil pass0 ht
theorem pe_p (c : Prp X.prog X.w X.K X.mg X.base k C m sp) (hr : Room j X.A) (he : PE X o ta) (hk : k + 1 ≤ j := by decide) (hab : attributeBase o m X.env (eval o X.env) = eval o X.env := by rfl) :
    PE X (.Attribute o m pos) (tProp C sp [] E0 ta) := by
  obtain ⟨p, f, fd, ps, hc, hm, F, b⟩ := c.ex
  exact pe_prop he hc hm F (hr.mono hk) b .nil pass0 hab
theorem pe_l (c : LenM X.prog X.w X.K X.mg X.base k C sp) (hr : Room j X.A) (hm : X.mg "len" = none) (ha : PA X [e] t) (hk : k + 1 ≤ j := by decide) (hg : Gl X "len" := by rfl)
    (he : starEach [e] X.env = (false, eval e X.env) :: starEach [] X.env := by rfl) : PE X (.Call (.Name "len" p) [e] [] pos) (tCB (rLenI C sp E0) t) := by
  obtain ⟨f, fd, ps, h1, h2, F, b⟩ := c.ex
  exact pe_callB (call_lenI F h1 h2 (hr.mono hk) b pass0) hg hm PySem.boot_len ha (by decide) (by decide) he (by rfl)
/-- a built-in function, by its name -/
theorem pe_b {id : String} {r : List V → Hp → VK → Prop} (hc : CallR X (.builtin id) r) (hm : X.mg x = none) (ha : PA X (e :: es) t) (hg : Gl X x := by rfl) (hv : bootBuiltins x = some (.builtin id) := by decide +kernel) (hn : x ≠ "__name__" := by decide)
    (hdb : (x == ("__debug__" : Str)) = false := by decide) (he : starEach (e :: es) X.env = (false, eval e X.env) :: starEach es X.env := by rfl) (hpl : (backTo pos (starEach es X.env)).any (·.1) = false := by rfl) : PE X (.Call (.Name x p) (e :: es) [] pos) (tCB r t) :=
  pe_callB hc hg hm hv ha hn hdb he hpl
/-- a built-in type, by its name -/
theorem pe_ty {T : String} {r : List V → Hp → VK → Prop} (hc : CallR X (.type T) r) (hm : X.mg x = none) (ha : PA X (e :: es) t) (hg : Gl X x := by rfl) (hv : bootBuiltins x = some (.type T) := by decide +kernel) (hn : x ≠ "__name__" := by decide)
    (hdb : (x == ("__debug__" : Str)) = false := by decide) (he : starEach (e :: es) X.env = (false, eval e X.env) :: starEach es X.env := by rfl) (hpl : (backTo pos (starEach es X.env)).any (·.1) = false := by rfl) : PE X (.Call (.Name x p) (e :: es) [] pos) (tCB r t) :=
  pe_callTy hc hg hm hv ha hn hdb he hpl
/-- the name of a built-in type, as a value -/
theorem pe_T (T : String) (hm : X.mg x = none) (hg : Gl X x := by rfl) (hv : bootBuiltins x = some (.type T) := by decide +kernel) (hn : x ≠ "__name__" := by decide) (hd : (x == ("__debug__" : Str)) = false := by decide) : PE X (.Name x pos) (tC (.ty T)) :=
  pe_bltn hg hm hv rfl hn hd
end

/-- the tests of a comprehension without an if -/
theorem yesT {σ : L2.St} {H : Hp} {A B : Hp → Prop} (h : A H) : tYes σ H (fun b H3 => if b = true then A H3 else B H3) := by
  show if true = true then A H else B H
  rw [if_pos rfl]
  exact h
/-! ### values -/
def KindOk (k : Str) : Prop := k = "int" ∨ k = "text" ∨ k = "bool"
def TxtOk (z : Str) : Prop := z.length ≤ 1000 ∧ ∀ c ∈ z.cps.toList, 32 ≤ c ∧ c ≤ 126
def NameOk (z : Str) : Prop := 1 ≤ z.length ∧ z.length ≤ 8 ∧ ∀ c ∈ z.cps.toList, 97 ≤ c ∧ c ≤ 122
def ValOk (k : Str) (v : V) : Prop := v = .non ∨ (k = "int" ∧ ∃ i, v = .int i) ∨ (k = "text" ∧ ∃ z, v = .str z ∧ TxtOk z) ∨ (k = "bool" ∧ ∃ b, v = .bl b)
/-- a schema: names and kinds -/
abbrev Sch := List (Str × Str)
structure SchOk (sch : Sch) : Prop where
  ne : sch ≠ []
  few : sch.length ≤ 12
  nm : ∀ q ∈ sch, NameOk q.1
  kd : ∀ q ∈ sch, KindOk q.2
  nd : (sch.map (·.1)).Nodup
/-- a schema's tuple at t, its pairs at ps -/
def SchAt (H : Hp) (t : Addr) (sch : Sch) : Prop := ∃ ps : List Addr, H t = some (.tup (ps.map V.ref)) ∧ ps.length = sch.length ∧ ∀ (i : Nat) (p : Addr) (q : Str × Str), ps[i]? = some p → sch[i]? = some q → H p = some (.tup [.str q.1, .str q.2])
theorem SchAt.same {H H' : Hp} {t : Addr} {sch : Sch} (h : SchAt H t sch) (e : Same H H') : SchAt H' t sch := by
  obtain ⟨ps, h1, h2, h3⟩ := h
  exact ⟨ps, e _ _ h1, h2, fun i p q a b => e _ _ (h3 i p q a b)⟩
def RowOk (sch : Sch) (vs : List V) : Prop := vs.length = sch.length ∧ ∀ (i : Nat) (v : V) (q : Str × Str), vs[i]? = some v → sch[i]? = some q → ValOk q.2 v
/-- a tuple of rows at a -/
def RowsAt (K : PySem.W.Frag) (H : Hp) (a : Addr) (sch : Sch) (rs : List Addr) : Prop := SqT K H a (rs.map V.ref) ∧ rs.length ≤ 1000 ∧ ∀ r ∈ rs, ∃ vs, H r = some (.tup vs) ∧ RowOk sch vs
theorem SqT.same {K : PySem.W.Frag} {H H' : Hp} {a : Addr} {xs : List V} (h : SqT K H a xs) (e : Same H H') : SqT K H' a xs := by
  rcases h with (h | ⟨o, h⟩) | h
  · exact .inl (.inl (e _ _ h))
  · exact .inl (.inr ⟨o, e _ _ h⟩)
  · exact .inr h
theorem RowsAt.same {K : PySem.W.Frag} {H H' : Hp} {a : Addr} {sch : Sch} {rs : List Addr} (h : RowsAt K H a sch rs) (e : Same H H') : RowsAt K H' a sch rs :=
  ⟨SqT.same h.1 e, h.2.1, fun r hr => let ⟨vs, h1, h2⟩ := h.2.2 r hr; ⟨vs, e _ _ h1, h2⟩⟩
theorem Same.upd {H : Hp} {p : Addr} {o : HO} (h : H p = none) : Same H (L2.upd H p o) := fun a u e => by rw [upd_ne (ne_of_none e h)]; exact e
end K7
namespace K7
open PySem PySem.Spec PyProof.Rows L2
section
variable {P : Program} {w : World} {K : PySem.W.Frag} {mg : Str → Option Value} {base : Heap}
def spIsInt : Sp := fun vs H Q _ => ∃ i : Int, vs = [.int i] ∧ Q (.bl true) H
theorem ok_is_integer (E : Hd K mg) : Cal P w K mg base 1 "is_integer" spIsInt := by
  refine cal_mk E.f_is_integer c_is_integer (fun _ _ _ _ _ _ us hl => match us, hl with | [_], _ => rfl) (fun vs H Q E ⟨i, e, _⟩ => by rw [e]; rfl) ?_
  intro f cdv A outer s H vs Q E' hr h
  obtain ⟨i, rfl, q⟩ := h
  refine ⟨_, pss_one (ps_ret (pe_and (pe_b call_isi E.b_isinstance (pa_cons (pv 0) (pa_cons (pe_T "int" E.b_int) pa_nil))) (pe_one (pe_not (pe_b call_isi E.b_isinstance (pa_cons (pv 0) (pa_cons (pe_T "bool" E.b_bool) pa_nil))))))), ?_⟩
  refine ⟨_, rfl, _, _, _, _, true, rfl, .ty "int", .base (.int i), kit_ty (by decide +kernel), true, rfl, iteT ?_⟩
  exact ⟨_, rfl, _, _, _, _, false, rfl, .ty "bool", .base (.int i), kit_ty (by decide +kernel), false, rfl, q⟩
/-! is_name -/
theorem get_sign {z : Str} {i c : Nat} (h : z.cps[i]? = some c) : c ∈ z.cps.toList := by
  obtain ⟨h1, h2⟩ := Array.getElem?_eq_some_iff.mp h
  rw [← h2]
  exact Array.getElem_mem_toList h1
theorem letter_in {c : Nat} (h1 : 97 ≤ c) (h2 : c ≤ 122) : c ∈ (("abcdefghijklmnopqrstuvwxyz" : Str)).cps.toList := by
  have all : ∀ d : Nat, d < 26 → (d + 97) ∈ (("abcdefghijklmnopqrstuvwxyz" : Str)).cps.toList := by decide +kernel
  have := all (c - 97) (by omega)
  rwa [show c - 97 + 97 = c by omega] at this
theorem all_true (n : Nat) : (List.replicate n true).all id = true := by
  induction n with
  | zero => rfl
  | succ n ih => rw [List.replicate_succ, List.all_cons, ih]; rfl
def spIsName : Sp := fun vs H Q _ => ∃ z : Str, vs = [.str z] ∧ NameOk z ∧ ∀ H', Same H H' → Q (.bl true) H'
theorem ok_is_name (E : Hd K mg) : Cal P w K mg base 1 "is_name" spIsName := by
  refine cal_mk E.f_is_name c_is_name (fun _ _ _ _ _ _ us hl => match us, hl with | [_], _ => rfl) (fun vs H Q E ⟨z, e, _⟩ => by rw [e]; rfl) ?_
  intro f cdv A outer s H vs Q E' hr h
  obtain ⟨z, rfl, hz, q⟩ := h
  obtain ⟨tm, hm⟩ := E.most_letters
  obtain ⟨tl, hl⟩ := E.letters
  refine ⟨_, pss_one (ps_ret (pe_and (pe_b call_isi E.b_isinstance (pa_cons (pv 0) (pa_cons (pe_T "str" E.b_str) pa_nil)))
    (pe_and (pe_chain op_le op_le pe_int (pe_b call_len E.b_len (pa_cons (pv 0) pa_nil)) (pe_glob (v := .int 8) rfl hm ⟨_, rfl⟩))
    (pe_one (pe_b (cr_all rfl) E.b_all (pa_cons (pe_lc (own := [("sign", 1)]) (g := gName 1) (tt := tYes) rfl c_is_name.nd (pi_str (pv 0)) (blkOk_by (N := n_is_name) (sc := defScope s_is_name) (by decide +kernel))
      (fun _ _ _ _ _ => pg_name (i := 1) c_is_name.nd rfl (Or.inl rfl)) (fun _ _ _ _ _ => pts_nil) (fun _ _ _ _ _ => pe_cmpR op_in_sign (pv 1) (pe_glob (v := .str "abcdefghijklmnopqrstuvwxyz") rfl hl ⟨_, rfl⟩) rfl)) pa_nil)))))), ?_⟩
  have hs := sizeLine_eq
  refine ⟨_, rfl, _, _, _, _, true, rfl, .ty "str", .base (.str z), kit_ty (by decide +kernel), true, rfl, iteT ?_⟩
  refine ⟨_, rfl, _, z.length, rfl, ⟨by have := hz.2.1; omega, rfl⟩, _, _, rfl, rfl, _, rfl, ?_⟩
  rw [decide_eq_true (show (1 : Int) ≤ (z.length : Int) by have := hz.1; omega)]
  refine iteT ⟨_, _, rfl, rfl, true, ?_, iteT ?_⟩
  · exact congrArg V.bl (decide_eq_true (show (z.length : Int) ≤ 8 by have := hz.2.1; omega))
  refine ⟨_, rfl, z, rfl, fun D hD => ?_⟩
  refine lc_it (walk_str (z := z)) (fun i H1 => Same H H1 ∧ H1 D = some (.lst ((List.replicate i true).map V.bl))) ⟨Same.upd hD, upd_same⟩ (fun _ _ _ _ => trivial) ?_ ?_
  · rintro i x H1 H2 hi ⟨s1, h1⟩ ⟨rfl, c, hc, rfl⟩
    refine ⟨rfl, ?_⟩
    refine yesT ?_
    refine ⟨_, rfl, c, _, rfl, rfl, _, h1, ?_, ?_⟩
    · rw [List.length_map, List.length_replicate]
      have h8 := hz.2.1
      have : i < z.length := hi
      omega
    · obtain ⟨a1, a2⟩ := hz.2.2 c (get_sign hc)
      have : (decide (c ∈ (("abcdefghijklmnopqrstuvwxyz" : Str)).cps.toList)) = true := decide_eq_true (letter_in a1 a2)
      refine ⟨fun b o e => ?_, ?_⟩
      · have : b ≠ D := fun z => by rw [z, hD] at e; cases e
        rw [upd_ne this]
        exact s1 b o e
      · rw [upd_same, List.replicate_succ', List.map_append]
        show some (HO.lst (_ ++ [V.bl (decide (c ∈ (("abcdefghijklmnopqrstuvwxyz" : Str)).cps.toList))])) = _
        rw [this]
        rfl
  · rintro H1 ⟨s1, h1⟩
    refine ⟨D, List.replicate z.cps.size true, rfl, SqL.of h1, ?_⟩
    rw [all_true]
    exact q H1 s1
end
end K7
namespace K7
open PySem PySem.Spec PyProof.Rows L2
section
variable {P : Program} {w : World} {K : PySem.W.Frag} {mg : Str → Option Value} {base : Heap}
theorem same_new {H H1 : Hp} {D : Addr} (hD : H D = none) (s1 : Same H H1) (o : HO) : Same H (upd H1 D o) := fun b u e => by
  have : b ≠ D := fun z => by rw [z, hD] at e; cases e
  rw [upd_ne this]
  exact s1 b u e
theorem rep_app (i : Nat) : ((List.replicate i true).map V.bl) ++ [V.bl true] = (List.replicate (i + 1) true).map V.bl := by
  rw [List.replicate_succ', List.map_append]; rfl
/-! is_kind -/
def spIsKind : Sp := fun vs H Q _ => ∃ k : Str, vs = [.str k] ∧ KindOk k ∧ Q (.bl true) H
theorem ok_is_kind (E : Hd K mg) : Cal P w K mg base 1 "is_kind" spIsKind := by
  refine cal_mk E.f_is_kind c_is_kind (fun _ _ _ _ _ _ us hl => match us, hl with | [_], _ => rfl) (fun vs H Q E ⟨z, e, _⟩ => by rw [e]; rfl) ?_
  intro f cdv A outer s H vs Q E' hr h
  obtain ⟨k, rfl, hk, q⟩ := h
  obtain ⟨a, ha, hs⟩ := E.kinds
  refine ⟨_, pss_one (ps_ret (pe_and (pe_b call_isi E.b_isinstance (pa_cons (pv 0) (pa_cons (pe_T "str" E.b_str) pa_nil))) (pe_one (pe_cmpR op_in_seq (pv 0) (pe_glob (v := .ref a) rfl ha rfl) rfl)))), ?_⟩
  refine ⟨_, rfl, _, _, _, _, true, rfl, .ty "str", .base (.str k), kit_ty (by decide +kernel), true, rfl, iteT ?_⟩
  refine ⟨_, rfl, a, _, rfl, .inr (hs _), rfl, rfl, ?_⟩
  have e : (if false = true then !inV (.str k) [.str "int", .str "text", .str "bool"] else inV (.str k) [.str "int", .str "text", .str "bool"]) = true := by
    rcases hk with rfl | rfl | rfl <;> decide +kernel
  rw [e]
  exact q
/-! is_value -/
def spIsValue : Sp := fun vs H Q _ => ∃ (k : Str) (v : V), vs = [.str k, v] ∧ KindOk k ∧ ValOk k v ∧ ∀ H', Same H H' → Q (.bl true) H'
theorem sign_lo {c : Nat} (h1 : 32 ≤ c) (h2 : c ≤ 126) : (!decide (([c] : List Nat) < [32])) = true := by
  have all : ∀ d : Nat, d < 95 → (!decide (([d + 32] : List Nat) < [32])) = true := by decide +kernel
  have := all (c - 32) (by omega)
  rwa [show c - 32 + 32 = c by omega] at this
theorem sign_hi {c : Nat} (h1 : 32 ≤ c) (h2 : c ≤ 126) : (!decide (([126] : List Nat) < [c])) = true := by
  have all : ∀ d : Nat, d < 95 → (!decide (([126] : List Nat) < [d + 32])) = true := by decide +kernel
  have := all (c - 32) (by omega)
  rwa [show c - 32 + 32 = c by omega] at this
theorem ok_is_value (E : Hd K mg) : Cal P w K mg base 2 "is_value" spIsValue := by
  refine cal_mk E.f_is_value c_is_value (fun _ _ _ _ _ _ us hl => match us, hl with | [_, _], _ => rfl) (fun vs H Q E ⟨k, v, e, _⟩ => by rw [e]; rfl) ?_
  intro f cdv A outer s H vs Q E' hr h
  obtain ⟨k, v, rfl, hk, hv, q⟩ := h
  have CI : Cal P w K mg base 1 "is_integer" spIsInt := ok_is_integer E
  refine ⟨_, pss_cons (ps_if (pt_cmp (pc_isN (pv 1))) (pss_one (ps_ret pe_bl)) pss_nil)
    (pss_cons (ps_match (pv 0) (pm_str (pss_one (ps_ret (pe_f CI hr (pa_cons (pv 1) pa_nil))))
      (pm_str (pss_one (ps_ret (pe_and (pe_b call_isi E.b_isinstance (pa_cons (pv 1) (pa_cons (pe_T "str" E.b_str) pa_nil)))
        (pe_one (pe_b (cr_all rfl) E.b_all (pa_cons (pe_lc (own := [("sign", 2)]) (g := gName 2) (tt := tYes) rfl c_is_value.nd (pi_str (pv 1)) (blkOk_by (N := n_is_value) (sc := defScope s_is_value) (by decide +kernel))
          (fun _ _ _ _ _ => pg_name (i := 2) c_is_value.nd rfl (Or.inl rfl)) (fun _ _ _ _ _ => pts_nil) (fun _ _ _ _ _ => pe_chain op_le_str op_le_str pe_str (pv 2) pe_str)) pa_nil)))))) pm_nil)))
    (pss_one (ps_ret (pe_b call_isi E.b_isinstance (pa_cons (pv 1) (pa_cons (pe_T "bool" E.b_bool) pa_nil)))))), ?_⟩
  refine ⟨_, rfl, _, rfl, ?_⟩
  rcases hv with rfl | ⟨rfl, i, rfl⟩ | ⟨rfl, z, rfl, hz⟩ | ⟨rfl, b, rfl⟩
  · exact iteT (q H (Same.refl H))
  · refine iteF ⟨_, rfl, _, rfl, ?_⟩
    rw [if_pos rfl]
    exact ⟨_, rfl, i, rfl, q H (Same.refl H)⟩
  · refine iteF ⟨_, rfl, _, rfl, ?_⟩
    rw [if_neg (by decide +kernel)]
    refine ⟨_, rfl, ?_⟩
    rw [if_pos rfl]
    refine ⟨_, rfl, _, _, _, _, true, rfl, .ty "str", .base (.str z), kit_ty (by decide +kernel), true, rfl, iteT ?_⟩
    refine ⟨_, rfl, z, rfl, fun D hD => ?_⟩
    refine lc_it (walk_str (z := z)) (fun i H1 => Same H H1 ∧ H1 D = some (.lst ((List.replicate i true).map V.bl))) ⟨Same.upd hD, upd_same⟩ (fun _ _ _ _ => trivial) ?_ ?_
    · rintro i x H1 H2 hi ⟨s1, h1⟩ ⟨rfl, c, hc, rfl⟩
      refine ⟨rfl, yesT ?_⟩
      obtain ⟨a1, a2⟩ := hz.2 c (get_sign hc)
      refine ⟨_, rfl, _, _, rfl, rfl, _, rfl, ?_⟩
      show if (!decide (([c] : List Nat) < [32])) = true then _ else _
      rw [sign_lo a1 a2]
      refine iteT ⟨_, _, rfl, rfl, _, h1, ?_, ?_, ?_⟩
      · rw [List.length_map, List.length_replicate]
        have h8 := hz.1
        have hs := sizeLine_eq
        have : i < z.length := hi
        omega
      · exact same_new hD s1 _
      · rw [upd_same]
        show some (HO.lst (_ ++ [V.bl (!decide (([126] : List Nat) < [c]))])) = _
        rw [sign_hi a1 a2, rep_app]
    · rintro H1 ⟨s1, h1⟩
      refine ⟨D, List.replicate z.cps.size true, rfl, SqL.of h1, ?_⟩
      rw [all_true]
      exact q H1 s1
  · refine iteF ⟨_, rfl, _, rfl, ?_⟩
    rw [if_neg (by decide +kernel)]
    refine ⟨_, rfl, ?_⟩
    rw [if_neg (by decide +kernel)]
    exact ⟨_, rfl, _, _, _, _, true, rfl, .ty "bool", .base (.bl b), kit_ty (by decide +kernel), q H (Same.refl H)⟩
/-! is_column -/
def spIsColumn : Sp := fun vs H Q _ => ∃ (p : Addr) (n k : Str), vs = [.ref p] ∧ H p = some (.tup [.str n, .str k]) ∧ NameOk n ∧ KindOk k ∧ ∀ H', Same H H' → Q (.bl true) H'
theorem ok_is_column (E : Hd K mg) : Cal P w K mg base 2 "is_column" spIsColumn := by
  refine cal_mk E.f_is_column c_is_column (fun _ _ _ _ _ _ us hl => match us, hl with | [_], _ => rfl) (fun vs H Q E ⟨p, n, k, e, _⟩ => by rw [e]; rfl) ?_
  intro f cdv A outer s H vs Q E' hr h
  obtain ⟨p, n, k, rfl, hp, hn, hk, q⟩ := h
  have CN : Cal P w K mg base 1 "is_name" spIsName := ok_is_name E
  have CK : Cal P w K mg base 1 "is_kind" spIsKind := ok_is_kind E
  refine ⟨_, pss_one (ps_ret (pe_and (pe_b call_isi E.b_isinstance (pa_cons (pv 0) (pa_cons (pe_T "tuple" E.b_tuple) pa_nil)))
    (pe_and (pe_cmpR op_eq (pe_b call_len_seq E.b_len (pa_cons (pv 0) pa_nil)) pe_int (nomark _))
    (pe_and (pe_f CN hr (pa_cons (pe_ix ix_tup (pv 0) pe_int (fun _ _ => rfl)) pa_nil))
    (pe_one (pe_f CK hr (pa_cons (pe_ix ix_tup (pv 0) pe_int (fun _ _ => rfl)) pa_nil))))))), ?_⟩
  refine ⟨_, rfl, _, _, _, _, true, rfl, .ty "tuple", .base (.tup hp), kit_ty (by decide +kernel), true, rfl, iteT ?_⟩
  refine ⟨_, rfl, p, _, rfl, .inr (SqT.of hp), rfl, true, rfl, iteT ?_⟩
  refine ⟨_, rfl, p, _, _, _, rfl, rfl, SqT.of hp, at_of (j := 0) (v := .str n) rfl rfl, n, rfl, hn, fun H1 s1 => ⟨true, rfl, iteT ?_⟩⟩
  exact ⟨_, rfl, p, _, _, _, rfl, rfl, SqT.of (s1 _ _ hp), at_of (j := 1) (v := .str k) rfl rfl, k, rfl, hk, q H1 s1⟩
/-! fault_in_schema -/
theorem inV_no {sch : Sch} (nd : (sch.map (·.1)).Nodup) {i : Nat} {q : Str × Str} (h : sch[i]? = some q) : inV (.str q.1) ((sch.take i).map fun r => V.str r.1) = false := by
  unfold inV
  rw [List.any_eq_false]
  intro y hy
  obtain ⟨r, hr, rfl⟩ := List.mem_map.mp hy
  show ¬ (eqV (.str r.1) (.str q.1)) = true
  intro e
  have e1 : r.1 = q.1 := by
    have : (r.1 == q.1) = true := e
    exact eq_of_beq this
  obtain ⟨j, hj⟩ := List.getElem?_of_mem hr
  have hji : j < i := by
    have h1 := (List.getElem?_eq_some_iff.mp hj).1
    rw [List.length_take] at h1
    omega
  have hj' : sch[j]? = some r := by
    rw [List.getElem?_take] at hj
    rw [if_pos hji] at hj
    exact hj
  have := nd_ix nd (i := j) (j := i) (x := q.1) (by rw [List.getElem?_map, hj']; exact congrArg some e1) (by rw [List.getElem?_map, h]; rfl)
  omega
theorem take_app {sch : Sch} {i : Nat} {q : Str × Str} (h : sch[i]? = some q) : ((sch.take i).map fun r => V.str r.1) ++ [V.str q.1] = (sch.take (i + 1)).map fun r => V.str r.1 := by
  rw [List.take_succ, h, List.map_append]; rfl
def spFaultS : Sp := fun vs H Q _ => ∃ (t : Addr) (sch : Sch), vs = [.ref t] ∧ SchAt H t sch ∧ SchOk sch ∧ ∀ (e : Addr) H', Same H H' → H' e = some (.tup []) → Q (.ref e) H'
theorem all_flat (l : Sch) : (l.map fun r => V.str r.1).all flatV = true := by
  rw [List.all_map]
  exact List.all_eq_true.mpr fun _ _ => rfl
theorem ok_fault_in_schema (E : Hd K mg) : Cal P w K mg base 3 "fault_in_schema" spFaultS := by
  refine cal_mk E.f_fault_in_schema c_fault_in_schema (fun _ _ _ _ _ _ us hl => match us, hl with | [_], _ => rfl) (fun vs H Q E ⟨t, sch, e, _⟩ => by rw [e]; rfl) ?_
  intro f cdv A outer s H vs Q E' hr h
  obtain ⟨t, sch, rfl, ⟨ps, ht, hlen, hps⟩, ok, q⟩ := h
  have CC : Cal P w K mg base 2 "is_column" spIsColumn := ok_is_column E
  refine ⟨_, pss_cons (ps_if (PW.pt (pw_or (pt_not (pt_val (pe_b call_isi E.b_isinstance (pa_cons (pv 0) (pa_cons (pe_T "tuple" E.b_tuple) pa_nil))))) (pw_or1 (pt_not (pt_truth (pv 0) (by intro _; rfl)))))) pss_never pss_nil)
    (pss_cons (ps_set (i := 1) c_fault_in_schema.nd rfl (Or.inl rfl) (pe_lst pa_nil))
    (pss_cons (ps_for PassesOwn.never rfl (pi_enumT rfl E.b_enumerate (pa_cons (pv 0) pa_nil)) (pg_tup rfl (pgs_cons (pg_name (i := 2) c_fault_in_schema.nd rfl (Or.inl rfl)) (pgs_cons (pg_name (i := 3) c_fault_in_schema.nd rfl (Or.inl rfl)) pgs_nil)))
      (pss_cons (ps_if (PW.pt (pw_or (pt_not (pt_val (pe_f CC hr (pa_cons (pv 3) pa_nil)))) (pw_or1 (pt_cmpR op_in_seq (pe_ix ix_tup (pv 3) pe_int (fun _ _ => rfl)) (pv 1) rfl)))) pss_never pss_nil)
      (pss_one (ps_expr (pe_bm PySem.F.plainAttrs_list PySem.F.slot_list_append PySem.F.type_list_append mt_append (pv 1) (pa_cons (pe_ix ix_tup (pv 3) pe_int (fun _ _ => rfl)) pa_nil))))))
    (pss_one (ps_ret (pe_tup pa_nil))))), ?_⟩
  have hne : ps ≠ [] := fun z => ok.ne (List.length_eq_zero_iff.mp (by rw [← hlen, z]; rfl))
  have hemp : (!(ps.map V.ref).isEmpty) = true := by
    cases ps with
    | nil => exact absurd rfl hne
    | cons a b => rfl
  refine ⟨_, rfl, _, _, _, _, true, rfl, .ty "tuple", .base (.tup ht), kit_ty (by decide +kernel), true, rfl, ?_⟩
  refine iteF ⟨_, rfl, true, .inr (.inl ⟨_, SqT.of ht, hemp.symm⟩), iteF ?_⟩
  refine ⟨Nat.zero_le _, fun l hl => ?_⟩
  have ntl : t ≠ l := ne_of_none ht hl
  refine ⟨_, rfl, t, _, rfl, SqT.of (Same.upd hl _ _ ht), for_it (walk_enumT (K := K) (a := t) (xs := ps.map V.ref))
    (fun i σ H1 => ∃ v2 v3 : Option V, σ = [some (.ref t), some (.ref l), v2, v3] ∧ Same H H1 ∧ H1 l = some (.lst ((sch.take i).map fun r => V.str r.1))) ⟨none, none, rfl, Same.upd hl, upd_same⟩ (fun i σ H1 _ ⟨_, _, _, s1, _⟩ => SqT.of (s1 _ _ ht)) ?_ ?_⟩
  · rintro i x σ H1 H2 hi ⟨v2, v3, rfl, s1, h1⟩ ⟨T, x1, y1, rfl, hT, rfl, e1, e2⟩
    cases e1
    rw [List.length_map] at hi
    have hi2 : i < sch.length := by omega
    obtain ⟨p, hp⟩ : ∃ p, ps[i]? = some p := ⟨ps[i], List.getElem?_eq_getElem hi⟩
    obtain ⟨c, hc⟩ : ∃ c, sch[i]? = some c := ⟨sch[i], List.getElem?_eq_getElem hi2⟩
    have e2' : (ps.map V.ref)[i]? = some y1 := e2
    rw [List.getElem?_map, hp] at e2'
    cases e2'
    have hcm : c ∈ sch := List.mem_of_getElem? hc
    have hpp := hps i p c hp hc
    have s2 : Same H (upd H1 T (.tup [.int (i : Nat), .ref p])) := s1.trans (Same.upd hT)
    have nlT : l ≠ T := ne_of_none h1 hT
    refine ⟨T, _, rfl, SqT.of upd_same, rfl, _, _, rfl, _, _, rfl, rfl, ?_⟩
    refine ⟨_, rfl, p, c.1, c.2, rfl, s2 _ _ hpp, ok.nm c hcm, ok.kd c hcm, fun H3 s3 => ⟨true, rfl, iteF ?_⟩⟩
    have hl3 : H3 l = some (.lst ((sch.take i).map fun r => V.str r.1)) := s3 _ _ (by rw [upd_ne nlT]; exact h1)
    have hp3 : H3 p = some (.tup [.str c.1, .str c.2]) := s3 _ _ (s2 _ _ hpp)
    refine ⟨_, rfl, p, _, _, _, rfl, rfl, SqT.of hp3, at_of (j := 0) (v := .str c.1) rfl rfl, _, rfl, l, _, rfl, .inl (SqL.of hl3), rfl, all_flat _, ?_⟩
    refine ⟨_, rfl, ?_⟩
    rw [show (if false = true then !inV (.str c.1) ((sch.take i).map fun r => V.str r.1) else inV (.str c.1) ((sch.take i).map fun r => V.str r.1)) = false from inV_no ok.nd hc]
    refine iteF ⟨_, rfl, .inl ⟨rfl, _, SqL.of hl3⟩, _, rfl, p, _, _, _, rfl, rfl, SqT.of hp3, at_of (j := 0) (v := .str c.1) rfl rfl, l, _, _, rfl, rfl, hl3, ?_, ?_⟩
    · rw [List.length_map, List.length_take]
      have hs := sizeLine_eq
      have := ok.few
      omega
    · refine ⟨_, _, rfl, same_new hl (s2.trans s3) _, ?_⟩
      rw [upd_same, take_app hc]
  · rintro σ H1 ⟨v2, v3, rfl, s1, h1⟩
    refine ⟨Nat.zero_le _, fun e he => ?_⟩
    exact q e _ (s1.trans (Same.upd he)) upd_same
/-! check_schema -/
def spCheckS : Sp := fun vs H Q _ => ∃ (t : Addr) (sch : Sch), vs = [.ref t] ∧ SchAt H t sch ∧ SchOk sch ∧ ∀ H', Same H H' → Q .non H'
theorem ok_check_schema (E : Hd K mg) : Cal P w K mg base 4 "check_schema" spCheckS := by
  refine cal_mk E.f_check_schema c_check_schema (fun _ _ _ _ _ _ us hl => match us, hl with | [_], _ => rfl) (fun vs H Q E ⟨t, sch, e, _⟩ => by rw [e]; rfl) ?_
  intro f cdv A outer s H vs Q E' hr h
  obtain ⟨t, sch, rfl, hs, ok, q⟩ := h
  have CF : Cal P w K mg base 3 "fault_in_schema" spFaultS := ok_fault_in_schema E
  refine ⟨_, pss_cons (ps_set (i := 1) c_check_schema.nd rfl (Or.inl rfl) (pe_f CF hr (pa_cons (pv 0) pa_nil))) (pss_one (ps_if (pt_truth (pv 1) (by intro _; rfl)) pss_never pss_nil)), ?_⟩
  refine ⟨_, rfl, t, sch, rfl, hs, ok, fun e H1 s1 he => ?_⟩
  exact ⟨_, rfl, false, .inr (.inl ⟨_, SqT.of he, rfl⟩), iteF (q H1 s1)⟩
end
end K7
namespace K7
open PySem PySem.Spec PyProof.Rows L2
section
variable {P : Program} {w : World} {K : PySem.W.Frag} {mg : Str → Option Value} {base : Heap}
/-! fault_in_row -/
def spFaultR : Sp := fun vs H Q _ => ∃ (t r : Addr) (sch : Sch) (us : List V), vs = [.ref t, .ref r] ∧ SchAt H t sch ∧ SchOk sch ∧ H r = some (.tup us) ∧ RowOk sch us ∧ ∀ (e : Addr) H', Same H H' → H' e = some (.tup []) → Q (.ref e) H'
theorem ok_fault_in_row (E : Hd K mg) : Cal P w K mg base 3 "fault_in_row" spFaultR := by
  refine cal_mk E.f_fault_in_row c_fault_in_row (fun _ _ _ _ _ _ us hl => match us, hl with | [_, _], _ => rfl) (fun vs H Q E ⟨t, r, sch, us, e, _⟩ => by rw [e]; rfl) ?_
  intro f cdv A outer s H vs Q E' hr h
  obtain ⟨t, r, sch, us, rfl, ⟨ps, ht, hlen, hps⟩, ok, hrr, ⟨hl1, hl2⟩, q⟩ := h
  have CV : Cal P w K mg base 2 "is_value" spIsValue := ok_is_value E
  refine ⟨_, pss_cons (ps_if (PW.pt (pw_or (pt_not (pt_val (pe_b call_isi E.b_isinstance (pa_cons (pv 1) (pa_cons (pe_T "tuple" E.b_tuple) pa_nil)))))
      (pw_or1 (pt_cmpR op_ne (pe_b call_len_seq E.b_len (pa_cons (pv 1) pa_nil)) (pe_b call_len_seq E.b_len (pa_cons (pv 0) pa_nil)) (nomark _))))) pss_never pss_nil)
    (pss_cons (ps_for PassesOwn.never rfl (pi_enumT rfl E.b_enumerate (pa_cons (pv 0) pa_nil)) (pg_tup rfl (pgs_cons (pg_name (i := 2) c_fault_in_row.nd rfl (Or.inl rfl)) (pgs_cons (pg_name (i := 3) c_fault_in_row.nd rfl (Or.inl rfl)) pgs_nil)))
      (pss_one (ps_if (pt_not (pt_val (pe_f CV hr (pa_cons (pe_ix ix_tup (pv 3) pe_int (fun _ _ => rfl)) (pa_cons (pe_ix ix_tup (pv 1) (pv 2) (fun _ _ => rfl)) pa_nil))))) pss_never pss_nil)))
    (pss_one (ps_ret (pe_tup pa_nil)))), ?_⟩
  refine ⟨_, rfl, _, _, _, _, true, rfl, .ty "tuple", .base (.tup hrr), kit_ty (by decide +kernel), true, rfl, ?_⟩
  refine iteF ⟨_, rfl, r, _, rfl, .inr (SqT.of hrr), _, rfl, t, _, rfl, .inr (SqT.of ht), rfl, _, rfl, ?_⟩
  refine iteNS (congrArg V.int (congrArg Int.ofNat (by rw [List.length_map]; omega))) ?_
  refine ⟨_, rfl, t, _, rfl, SqT.of ht, for_it (walk_enumT (K := K) (a := t) (xs := ps.map V.ref))
    (fun i σ H1 => ∃ v2 v3 : Option V, σ = [some (.ref t), some (.ref r), v2, v3] ∧ Same H H1) ⟨none, none, rfl, Same.refl H⟩ (fun i σ H1 _ ⟨_, _, _, s1⟩ => SqT.of (s1 _ _ ht)) ?_ ?_⟩
  · rintro i x σ H1 H2 hi ⟨v2, v3, rfl, s1⟩ ⟨T, x1, y1, rfl, hT, rfl, e1, e2⟩
    cases e1
    rw [List.length_map] at hi
    have hi2 : i < sch.length := by omega
    have hi3 : i < us.length := by omega
    obtain ⟨p, hp⟩ : ∃ p, ps[i]? = some p := ⟨ps[i], List.getElem?_eq_getElem hi⟩
    obtain ⟨c, hc⟩ : ∃ c, sch[i]? = some c := ⟨sch[i], List.getElem?_eq_getElem hi2⟩
    obtain ⟨u, hu⟩ : ∃ u, us[i]? = some u := ⟨us[i], List.getElem?_eq_getElem hi3⟩
    have e2' : (ps.map V.ref)[i]? = some y1 := e2
    rw [List.getElem?_map, hp] at e2'
    cases e2'
    have hcm : c ∈ sch := List.mem_of_getElem? hc
    have s2 : Same H (upd H1 T (.tup [.int (i : Nat), .ref p])) := s1.trans (Same.upd hT)
    refine ⟨T, _, rfl, SqT.of upd_same, rfl, _, _, rfl, _, _, rfl, rfl, ?_⟩
    refine ⟨_, rfl, p, _, _, _, rfl, rfl, SqT.of (s2 _ _ (hps i p c hp hc)), at_of (j := 1) (v := .str c.2) rfl rfl, ?_⟩
    refine ⟨_, rfl, _, rfl, r, _, _, _, rfl, rfl, SqT.of (s2 _ _ hrr), at_of (j := i) (v := u) rfl hu, c.2, u, rfl, ok.kd c hcm, hl2 i u c hu hc, fun H3 s3 => ⟨true, rfl, iteF ?_⟩⟩
    exact ⟨_, _, rfl, s2.trans s3⟩
  · rintro σ H1 ⟨v2, v3, rfl, s1⟩
    refine ⟨Nat.zero_le _, fun e he => ?_⟩
    exact q e _ (s1.trans (Same.upd he)) upd_same
/-! is_row -/
def spIsRow : Sp := fun vs H Q _ => ∃ (t r : Addr) (sch : Sch) (us : List V), vs = [.ref t, .ref r] ∧ SchAt H t sch ∧ SchOk sch ∧ H r = some (.tup us) ∧ RowOk sch us ∧ ∀ H', Same H H' → Q (.bl true) H'
theorem ok_is_row (E : Hd K mg) : Cal P w K mg base 4 "is_row" spIsRow := by
  refine cal_mk E.f_is_row c_is_row (fun _ _ _ _ _ _ us hl => match us, hl with | [_, _], _ => rfl) (fun vs H Q E ⟨t, r, sch, us, e, _⟩ => by rw [e]; rfl) ?_
  intro f cdv A outer s H vs Q E' hr h
  obtain ⟨t, r, sch, us, rfl, hs, ok, hrr, hro, q⟩ := h
  have CF : Cal P w K mg base 3 "fault_in_row" spFaultR := ok_fault_in_row E
  refine ⟨_, pss_one (ps_ret (pe_cmpR (op_eqD hr.units) (pe_f CF hr (pa_cons (pv 0) (pa_cons (pv 1) pa_nil))) (pe_tup pa_nil) (nomark _))), ?_⟩
  refine ⟨_, rfl, _, rfl, t, r, sch, us, rfl, hs, ok, hrr, hro, fun e H1 s1 he => ⟨Nat.zero_le _, fun e2 he2 => ?_⟩⟩
  have ne : e ≠ e2 := ne_of_none he he2
  refine ⟨.tuple [], .tuple [], .tup (SqT.of (by rw [upd_ne ne]; exact he)) .nil, .tup (SqT.of upd_same) .nil, by decide +kernel, by decide +kernel, ?_⟩
  rw [show PyData.eqv (.tuple []) (.tuple []) = true by decide +kernel]
  exact q _ (s1.trans (Same.upd he2))
/-! check_rows -/
theorem tyx_tup {H : Hp} {a : Addr} {xs : List V} (h : SqT K H a xs) : TyX K H (.ref a) (.type "tuple") := by
  rcases h with (h | ⟨o, h⟩) | ⟨o, its, n, h, hc, _⟩
  · exact .base (.tup h)
  · exact .fTuple h
  · exact .kTuple h hc
def spCheckR : Sp := fun vs H Q _ => ∃ (K0 : PySem.W.Frag) (t a : Addr) (sch : Sch) (rs : List Addr), K0 = K ∧ vs = [.ref t, .ref a] ∧ SchAt H t sch ∧ SchOk sch ∧ RowsAt K H a sch rs ∧ ∀ H', Same H H' → Q .non H'
theorem ok_check_rows (E : Hd K mg) : Cal P w K mg base 5 "check_rows" (spCheckR (K := K)) := by
  refine cal_mk E.f_check_rows c_check_rows (fun _ _ _ _ _ _ us hl => match us, hl with | [_, _], _ => rfl) (fun vs H Q E ⟨_, t, a, sch, rs, _, e, _⟩ => by rw [e]; rfl) ?_
  intro f cdv A outer s H vs Q E' hr h
  obtain ⟨_, t, a, sch, rs, _, rfl, hs, ok, ⟨ha, hfew, hrows⟩, q⟩ := h
  have CR : Cal P w K mg base 4 "is_row" spIsRow := ok_is_row E
  refine ⟨_, pss_cons (ps_if (pt_not (pt_val (pe_b call_isi E.b_isinstance (pa_cons (pv 1) (pa_cons (pe_T "tuple" E.b_tuple) pa_nil))))) pss_never pss_nil)
    (pss_one (ps_for PassesOwn.never rfl (pi_enumT rfl E.b_enumerate (pa_cons (pv 1) pa_nil)) (pg_tup rfl (pgs_cons (pg_name (i := 2) c_check_rows.nd rfl (Or.inl rfl)) (pgs_cons (pg_name (i := 3) c_check_rows.nd rfl (Or.inl rfl)) pgs_nil)))
      (pss_one (ps_if (pt_not (pt_val (pe_f CR hr (pa_cons (pv 0) (pa_cons (pv 3) pa_nil))))) pss_never pss_nil)))), ?_⟩
  refine ⟨_, rfl, _, _, _, _, true, rfl, .ty "tuple", tyx_tup ha, kit_ty (by decide +kernel), true, rfl, iteF ?_⟩
  refine ⟨_, rfl, a, _, rfl, ha, for_it (walk_enumT (K := K) (a := a) (xs := rs.map V.ref))
    (fun i σ H1 => ∃ v2 v3 : Option V, σ = [some (.ref t), some (.ref a), v2, v3] ∧ Same H H1) ⟨none, none, rfl, Same.refl H⟩ (fun i σ H1 _ ⟨_, _, _, s1⟩ => SqT.same ha s1) ?_ ?_⟩
  · rintro i x σ H1 H2 hi ⟨v2, v3, rfl, s1⟩ ⟨T, x1, y1, rfl, hT, rfl, e1, e2⟩
    cases e1
    rw [List.length_map] at hi
    obtain ⟨p, hp⟩ : ∃ p, rs[i]? = some p := ⟨rs[i], List.getElem?_eq_getElem hi⟩
    have e2' : (rs.map V.ref)[i]? = some y1 := e2
    rw [List.getElem?_map, hp] at e2'
    cases e2'
    obtain ⟨us, h1, h2⟩ := hrows p (List.mem_of_getElem? hp)
    have s2 : Same H (upd H1 T (.tup [.int (i : Nat), .ref p])) := s1.trans (Same.upd hT)
    refine ⟨T, _, rfl, SqT.of upd_same, rfl, _, _, rfl, _, _, rfl, rfl, ?_⟩
    refine ⟨_, rfl, _, rfl, t, p, sch, us, rfl, hs.same s2, ok, s2 _ _ h1, h2, fun H3 s3 => ⟨true, rfl, iteF ?_⟩⟩
    exact ⟨_, _, rfl, s2.trans s3⟩
  · rintro σ H1 ⟨v2, v3, rfl, s1⟩
    exact q H1 s1
/-! Frame -/
def ff (t a : Addr) : List (Str × V) := [("heads", .ref t), ("lines", .ref a)]
theorem ff_put (t a : Addr) : putF "lines" (.ref a) (putF "heads" (.ref t) []) = ff t a := by kernel_rfl
theorem ff_heads (t a : Addr) : (ff t a).lookup ("heads" : Str) = some (.ref t) := by kernel_rfl
theorem ff_lines (t a : Addr) : (ff t a).lookup ("lines" : Str) = some (.ref a) := by kernel_rfl
theorem ff_column (t a : Addr) : (ff t a).lookup ("column" : Str) = none := by kernel_rfl
abbrev cF (K : PySem.W.Frag) : Addr := He.ga K "Frame"
abbrev cB (K : PySem.W.Frag) : Addr := He.ga K "Block"
abbrev cS (K : PySem.W.Frag) : Addr := He.ga K "Sheet"
def FrAt (K : PySem.W.Frag) (H : Hp) (f t a : Addr) (sch : Sch) (rs : List Addr) : Prop := (∃ dx, H f = some (.ins (cF K) dx (ff t a))) ∧ SchAt H t sch ∧ RowsAt K H a sch rs
theorem FrAt.same {H H' : Hp} {f t a : Addr} {sch : Sch} {rs : List Addr} (h : FrAt K H f t a sch rs) (e : Same H H') : FrAt K H' f t a sch rs :=
  ⟨let ⟨dx, h1⟩ := h.1; ⟨dx, e _ _ h1⟩, h.2.1.same e, h.2.2.same e⟩
def spFrame (K : PySem.W.Frag) : Sp := fun vs H Q _ => ∃ (x dx t a : Addr) (sch : Sch) (rs : List Addr), vs = [.ref x, .ref t, .ref a] ∧ H x = some (.ins (cF K) dx []) ∧ SchAt H t sch ∧ SchOk sch ∧ RowsAt K H a sch rs ∧
  ∀ H', (∃ dx, H' x = some (.ins (cF K) dx (ff t a))) → (∀ b o, H b = some o → b ≠ x → H' b = some o) → Q .non H'
theorem frame_body (E : Hd K mg) : Body P w K mg base 5 "Frame.__init__" s_Frame_init n_Frame_init (spFrame K) := by
  intro f cdv A outer s H vs Q E' hr h
  obtain ⟨x, dx, t, a, sch, rs, rfl, hx, hs, ok, hR, q⟩ := h
  have CS : Cal P w K mg base 4 "check_schema" spCheckS := ok_check_schema E
  have CR : Cal P w K mg base 5 "check_rows" (spCheckR (K := K)) := ok_check_rows E
  refine ⟨_, pss_cons (ps_expr (pe_f CS hr (pa_cons (pv 1) pa_nil))) (pss_cons (ps_expr (pe_f CR hr (pa_cons (pv 1) (pa_cons (pv 2) pa_nil)))) (pss_cons (ps_fld (pv 0) (pv 1) rfl) (pss_one (ps_fld (pv 0) (pv 2) rfl)))), ?_⟩
  refine ⟨_, rfl, t, sch, rfl, hs, ok, fun H1 s1 => ?_⟩
  refine ⟨_, rfl, _, rfl, K, t, a, sch, rs, rfl, rfl, hs.same s1, ok, hR.same s1, fun H2 s2 => ?_⟩
  have s12 := s1.trans s2
  refine ⟨_, rfl, _, rfl, x, cF K, dx, [], rfl, s12 _ _ hx, E.cl_Frame, E.no_Frame_heads, (by show 0 < 1000; decide), _, rfl, _, rfl, x, cF K, dx, _, rfl, upd_same, E.cl_Frame, E.no_Frame_lines, (by show 1 < 1000; decide), ?_⟩
  refine q _ ⟨dx, ?_⟩ fun b o e nb => ?_
  · rw [upd_same, ff_put]
  · rw [upd_ne nb, upd_ne nb]; exact s12 _ _ e
theorem frame_len : LenOk (spFrame K) p_Frame_init := fun vs H Q E ⟨x, dx, t, a, sch, rs, e, _⟩ => by rw [e]; rfl
theorem mk_frame0 (E : Hd K mg) : Mak P w K mg base 6 "Frame" (cF K) (spFrame K) [.ref (He.dflAt ("Frame", some "__init__") 0 K)] := by
  obtain ⟨f, fd, F, hk⟩ := E.f_Frame_init
  obtain ⟨ds, hv, hb⟩ := F.binds1 (ps := p_Frame_init) 2 0 (by simp) rfl fun T kV doc pm an cdv ct us its h1 h2 => match us, h1, its, h2 with | [_, _], _, [_], _ => ⟨_, rfl, rfl⟩
  exact ⟨f, fd, _, ds, hk, fn_mk F c_Frame_init frame_len (frame_body E), E.g_Frame, hb, hv⟩
theorem mk_frame (E : Hd K mg) : Mak P w K mg base 6 "Frame" (cF K) (spFrame K) [] := by
  obtain ⟨f, fd, F, hk⟩ := E.f_Frame_init
  obtain ⟨ds, hv, hb⟩ := F.binds1 (ps := p_Frame_init) 3 1 (by simp) rfl fun T kV doc pm an cdv ct us its h1 h2 => match us, h1, its, h2 with | [_, _, _], _, [_], _ => ⟨_, rfl, rfl⟩
  exact ⟨f, fd, _, ds, hk, fn_mk F c_Frame_init frame_len (frame_body E), E.g_Frame, hb, hv⟩
/-! Frame.schema, Frame.__len__ -/
def spSchema (K : PySem.W.Frag) : Sp := fun vs H Q _ => ∃ (f dx t a : Addr), vs = [.ref f] ∧ H f = some (.ins (cF K) dx (ff t a)) ∧ Q (.ref t) H
theorem ok_Frame_schema (E : Hd K mg) : Prp P w K mg base 1 (cF K) "schema" (spSchema K) := by
  refine prp_mk E.cl_Frame E.f_Frame_schema c_Frame_schema (fun _ _ _ _ _ _ us hl => match us, hl with | [_], _ => rfl) (fun vs H Q E ⟨f, dx, t, a, e, _⟩ => by rw [e]; rfl) ?_
  intro f cdv A outer s H vs Q E' hr h
  obtain ⟨f, dx, t, a, rfl, hf, q⟩ := h
  refine ⟨_, pss_one (ps_ret (pe_fld (pv 0) rfl)), ?_⟩
  exact ⟨_, rfl, f, cF K, dx, _, _, rfl, hf, E.cl_Frame, E.no_Frame_heads, ff_heads t a, q⟩
def spFLen (K : PySem.W.Frag) : Sp := fun vs H Q _ => ∃ (f dx t a : Addr) (xs : List V), vs = [.ref f] ∧ H f = some (.ins (cF K) dx (ff t a)) ∧ SqT K H a xs ∧ Q (.int (xs.length : Nat)) H
theorem ok_Frame_len (E : Hd K mg) : LenM P w K mg base 1 (cF K) (spFLen K) := by
  refine len_mk E.f_Frame_len c_Frame_len (fun _ _ _ _ _ _ us hl => match us, hl with | [_], _ => rfl) (fun vs H Q E ⟨f, dx, t, a, xs, e, _⟩ => by rw [e]; rfl) ?_
  intro f cdv A outer s H vs Q E' hr h
  obtain ⟨f, dx, t, a, xs, rfl, hf, ha, q⟩ := h
  refine ⟨_, pss_one (ps_ret (pe_b call_len_seq E.b_len (pa_cons (pe_fld (pv 0) rfl) pa_nil))), ?_⟩
  exact ⟨_, rfl, f, cF K, dx, _, _, rfl, hf, E.cl_Frame, E.no_Frame_lines, ff_lines t a, a, xs, rfl, .inr ha, q⟩
/-! Frame.names -/
def spNames (K : PySem.W.Frag) : Sp := fun vs H Q _ => ∃ (f dx t a : Addr) (sch : Sch), vs = [.ref f] ∧ H f = some (.ins (cF K) dx (ff t a)) ∧ SchAt H t sch ∧ sch.length ≤ 1000 ∧
  ∀ (T : Addr) H', Same H H' → TupK H' T ((sch.map (·.1)).map V.str) → Q (.ref T) H'
theorem take_app' {sch : Sch} {i : Nat} {q : Str × Str} (h : sch[i]? = some q) : (((sch.take i).map (·.1)).map V.str) ++ [V.str q.1] = ((sch.take (i + 1)).map (·.1)).map V.str := by
  rw [List.take_succ, h, List.map_append, List.map_append]; rfl
theorem ok_Frame_names (E : Hd K mg) : Prp P w K mg base 1 (cF K) "names" (spNames K) := by
  refine prp_mk E.cl_Frame E.f_Frame_names c_Frame_names (fun _ _ _ _ _ _ us hl => match us, hl with | [_], _ => rfl) (fun vs H Q E ⟨f, dx, t, a, sch, e, _⟩ => by rw [e]; rfl) ?_
  intro f cdv A outer s H vs Q E' hr h
  obtain ⟨f, dx, t, a, sch, rfl, hf, ⟨ps, ht, hlen, hps⟩, hfew, q⟩ := h
  refine ⟨_, pss_one (ps_ret (pe_ty call_tuple_frz E.b_tuple (pa_cons (pe_lc (own := [("name", 1), ("kind", 2)]) (g := gTup K 2 (gCons (gName 1) (gCons (gName 2) gNil))) (tt := tYes) rfl c_Frame_names.nd (pi_tup (pe_fld (pv 0) rfl))
    (blkOk_by (N := n_Frame_names) (sc := defScope s_Frame_names) (by decide +kernel))
    (fun _ _ _ _ _ => pg_tup rfl (pgs_cons (pg_name (i := 1) c_Frame_names.nd rfl (Or.inl rfl)) (pgs_cons (pg_name (i := 2) c_Frame_names.nd rfl (Or.inl rfl)) pgs_nil))) (fun _ _ _ _ _ => pts_nil) (fun _ _ _ _ _ => pv 1)) pa_nil))), ?_⟩
  refine ⟨_, rfl, f, cF K, dx, _, _, rfl, hf, E.cl_Frame, E.no_Frame_heads, ff_heads t a, t, rfl, ⟨_, SqT.of ht⟩, fun D hD => ?_⟩
  refine lc_it (walk_tup (K := K) (a := t) (xs := ps.map V.ref)) (fun i H1 => Same H H1 ∧ H1 D = some (.lst (((sch.take i).map (·.1)).map V.str))) ⟨Same.upd hD, upd_same⟩ (fun i H1 _ ⟨s1, _⟩ => SqT.of (s1 _ _ ht)) ?_ ?_
  · rintro i x H1 H2 hi ⟨s1, h1⟩ ⟨rfl, hx⟩
    rw [List.length_map] at hi
    have hi2 : i < sch.length := by omega
    obtain ⟨p, hp⟩ : ∃ p, ps[i]? = some p := ⟨ps[i], List.getElem?_eq_getElem hi⟩
    obtain ⟨c, hc⟩ : ∃ c, sch[i]? = some c := ⟨sch[i], List.getElem?_eq_getElem hi2⟩
    rw [List.getElem?_map, hp] at hx
    cases hx
    refine ⟨p, _, rfl, SqT.of (s1 _ _ (hps i p c hp hc)), rfl, _, _, rfl, _, _, rfl, rfl, rfl, yesT ?_⟩
    refine ⟨_, rfl, _, h1, ?_, same_new hD s1 _, ?_⟩
    · rw [List.length_map, List.length_map, List.length_take]
      have hs := sizeLine_eq
      omega
    · rw [upd_same, take_app' hc]
  · rintro H1 ⟨s1, h1⟩
    refine ⟨D, _, rfl, SqL.of h1, fun T o hT c1 c2 => ?_⟩
    refine q T _ (s1.trans (Same.upd hT)) ⟨o, c1, c2, ?_⟩
    rw [upd_same, List.length_map, hlen, List.take_length]
/-! Frame.column -/
def spColumn (K : PySem.W.Frag) : Sp := fun vs H Q _ => ∃ (f dx t a : Addr) (sch : Sch) (rs : List Addr) (c : Nat) (q : Str × Str), vs = [.ref f, .str q.1] ∧ H f = some (.ins (cF K) dx (ff t a)) ∧ SchAt H t sch ∧ SchOk sch ∧ RowsAt K H a sch rs ∧ sch[c]? = some q ∧
  ∀ (T : Addr) (us : List V) H', Same H H' → H' T = some (.tup us) → us.length = rs.length → Q (.ref T) H'
theorem inV_yes {sch : Sch} {i : Nat} {q : Str × Str} (h : sch[i]? = some q) : inV (.str q.1) ((sch.map (·.1)).map V.str) = true := by
  unfold inV
  rw [List.any_eq_true]
  refine ⟨.str q.1, List.mem_map.mpr ⟨q.1, List.mem_map.mpr ⟨q, List.mem_of_getElem? h, rfl⟩, rfl⟩, ?_⟩
  show (q.1 == q.1) = true
  exact beq_self_eq_true _
theorem ok_Frame_column (E : Hd K mg) : Met P w K mg base 3 (cF K) "column" (spColumn K) := by
  refine met_mk E.cl_Frame E.f_Frame_column c_Frame_column (fun _ _ _ _ _ _ us hl => match us, hl with | [_, _], _ => rfl) (fun vs H Q E ⟨f, dx, t, a, sch, rs, c, qq, e, _⟩ => by rw [e]; rfl) ?_
  intro f cdv A outer s H vs Q E' hr h
  obtain ⟨f, dx, t, a, sch, rs, c, nk, rfl, hf, hs, ok, ⟨ha, hfew, hrows⟩, hc, q⟩ := h
  have CN : Prp P w K mg base 1 (cF K) "names" (spNames K) := ok_Frame_names E
  refine ⟨_, pss_cons (ps_if (PW.pt (pw_or (pt_not (pt_val (pe_b call_isi E.b_isinstance (pa_cons (pv 1) (pa_cons (pe_T "str" E.b_str) pa_nil))))) (pw_or1 (pt_cmpR op_notIn_seq (pv 1) (pe_p CN hr (pv 0)) rfl)))) pss_never pss_nil)
    (pss_cons (ps_set (i := 2) c_Frame_column.nd rfl (Or.inr rfl) (pe_bmT PySem.F.slot_tuple_index PySem.F.type_tuple_index mt_tup_index (pe_p CN hr (pv 0)) (pa_cons (pv 1) pa_nil)))
    (pss_one (ps_ret (pe_ty call_tuple_of E.b_tuple (pa_cons (pe_lc (own := [("row", 3)]) (g := gName 3) (tt := tYes) (te := tOp (rIxT K) (tVar 3) (tVar 2)) rfl c_Frame_column.nd (pi_tup (pe_fld (pv 0) rfl))
      (blkOk_by (N := n_Frame_column) (sc := defScope s_Frame_column) (by decide +kernel))
      (fun _ _ _ _ _ => pg_name (i := 3) c_Frame_column.nd rfl (Or.inl rfl)) (fun _ _ _ _ _ => pts_nil) (fun _ _ _ _ _ => pe_ix ix_tup (pv 3) (pv 2) (fun _ _ => rfl))) pa_nil))))), ?_⟩
  have h1000 : sch.length ≤ 1000 := Nat.le_trans ok.few (by decide)
  refine ⟨_, rfl, _, _, _, _, true, rfl, .ty "str", .base (.str nk.1), kit_ty (by decide +kernel), true, rfl, iteF ?_⟩
  refine ⟨_, rfl, _, rfl, f, dx, _, rfl, hf, f, dx, t, a, sch, rfl, hf, hs, h1000, fun T H1 s1 hT => ?_⟩
  refine ⟨T, _, rfl, .inr hT.sq, rfl, ?_, _, rfl, ?_⟩
  · rw [List.all_map, List.all_map]
    exact List.all_eq_true.mpr fun _ _ => rfl
  rw [show (if true = true then !inV (.str nk.1) ((sch.map (·.1)).map V.str) else inV (.str nk.1) ((sch.map (·.1)).map V.str)) = false from by rw [if_pos rfl, inV_yes hc]; rfl]
  refine iteF ⟨_, rfl, f, dx, _, rfl, s1 _ _ hf, f, dx, t, a, sch, rfl, s1 _ _ hf, hs.same s1, h1000, fun T2 H2 s2 hT2 => ?_⟩
  have s12 := s1.trans s2
  refine ⟨⟨T2, _, rfl, hT2⟩, _, rfl, T2, sch.map (·.1), nk.1, c, rfl, rfl, hT2.sq, by rw [List.getElem?_map, hc]; rfl, fun m hm e => ?_, ?_⟩
  · have := nd_ix ok.nd (i := m) (j := c) (x := nk.1) e (by rw [List.getElem?_map, hc]; rfl)
    omega
  refine ⟨_, rfl, f, cF K, dx, _, _, rfl, s12 _ _ hf, E.cl_Frame, E.no_Frame_lines, ff_lines t a, a, rfl, ⟨_, SqT.same ha s12⟩, fun D hD => ?_⟩
  refine lc_it (walk_tup (K := K) (a := a) (xs := rs.map V.ref)) (fun i H3 => Same H2 H3 ∧ ∃ us : List V, us.length = i ∧ H3 D = some (.lst us)) ⟨Same.upd hD, [], rfl, upd_same⟩ (fun i H3 _ ⟨s3, _⟩ => SqT.same ha (s12.trans s3)) ?_ ?_
  · rintro i x H3 H4 hi ⟨s3, us, hus, h3⟩ ⟨rfl, hx⟩
    rw [List.length_map] at hi
    obtain ⟨p, hp⟩ : ∃ p, rs[i]? = some p := ⟨rs[i], List.getElem?_eq_getElem hi⟩
    rw [List.getElem?_map, hp] at hx
    cases hx
    obtain ⟨ws, hw1, hw2⟩ := hrows p (List.mem_of_getElem? hp)
    have hcw : c < ws.length := by
      have := (List.getElem?_eq_some_iff.mp hc).1
      rw [hw2.1]; exact this
    obtain ⟨u, hu⟩ : ∃ u, ws[c]? = some u := ⟨ws[c], List.getElem?_eq_getElem hcw⟩
    refine ⟨rfl, yesT ?_⟩
    refine ⟨_, rfl, _, rfl, p, ws, _, u, rfl, rfl, SqT.of ((s12.trans s3) _ _ hw1), at_of (j := c) (v := u) rfl hu, us, h3, ?_, same_new hD s3 _, us ++ [u], ?_, upd_same⟩
    · have hs := sizeLine_eq
      omega
    · rw [List.length_append, List.length_singleton, hus]
  · rintro H3 ⟨s3, us, hus, h3⟩
    refine ⟨D, us, rfl, .inl ⟨SqL.of h3, fun T3 hT3 => ?_⟩⟩
    refine q T3 us _ ((s12.trans s3).trans (Same.upd hT3)) upd_same ?_
    rw [hus, List.length_map]
/-! blank_frame -/
def spBlankF (K : PySem.W.Frag) : Sp := fun vs H Q _ => ∃ (t : Addr) (sch : Sch), vs = [.ref t] ∧ SchAt H t sch ∧ SchOk sch ∧ ∀ (f a : Addr) H', Same H H' → FrAt K H' f t a sch [] → Q (.ref f) H'
theorem ok_blank_frame (E : Hd K mg) : Cal P w K mg base 8 "blank_frame" (spBlankF K) := by
  refine cal_mk E.f_blank_frame c_blank_frame (fun _ _ _ _ _ _ us hl => match us, hl with | [_], _ => rfl) (fun vs H Q E ⟨t, sch, e, _⟩ => by rw [e]; rfl) ?_
  intro f cdv A outer s H vs Q E' hr h
  obtain ⟨t, sch, rfl, hs, ok, q⟩ := h
  have MF := mk_frame0 (P := P) (w := w) (base := base) E
  refine ⟨_, pss_one (ps_ret (pe_new MF hr (pa_cons (pv 0) pa_nil))), ?_⟩
  refine ⟨_, rfl, fun x dx hx hdx hne => ?_⟩
  have s0 : Same H (upd (upd H dx (.own x)) x (.ins (cF K) dx [])) := fun b o e => by
    rw [upd_ne (ne_of_none e hx), upd_ne (ne_of_none e hdx)]; exact e
  have hnil : RowsAt K (upd (upd H dx (.own x)) x (.ins (cF K) dx [])) (He.dflAt ("Frame", some "__init__") 0 K) sch [] := ⟨E.nil_ _, by decide, fun r hr => by cases hr⟩
  refine ⟨x, dx, t, _, sch, [], rfl, upd_same, hs.same s0, ok, hnil, fun H1 h1 h2 => ⟨rfl, ?_⟩⟩
  have s1 : Same H H1 := fun b o e => h2 b o (s0 _ _ e) (ne_of_none e hx)
  exact q x _ H1 s1 ⟨h1, hs.same s1, E.nil_ _, by decide, fun r hr => by cases hr⟩
end
end K7
/-! Sheets and blocks: as they are thought of, and as they stand in the heap. -/
namespace K7
open PySem PySem.Spec PyProof.Rows L2
/-! ### as they are thought of -/
structure Sht where
  opn : Bool
  made : Nat
  tot : Nat
  g : Nat → Nat → Addr
structure Blk where
  n : Nat
  hs : List Addr
  c : Nat
  j : Nat
structure Wd where
  sh : Addr → Option Sht
  bl : Addr → Option Blk
def setA {α : Type} (f : Addr → Option α) (a : Addr) (v : α) : Addr → Option α := fun x => if x = a then some v else f x
theorem setA_same {α : Type} {f : Addr → Option α} {a : Addr} {v : α} : setA f a v a = some v := by unfold setA; rw [if_pos rfl]
theorem setA_ne {α : Type} {f : Addr → Option α} {a b : Addr} {v : α} (h : b ≠ a) : setA f a v b = f b := by unfold setA; rw [if_neg h]
def setG (g : Nat → Nat → Addr) (c j : Nat) (b : Addr) : Nat → Nat → Addr := fun c' j' => if c' = c ∧ j' = j then b else g c' j'
theorem setG_same {g : Nat → Nat → Addr} {c j : Nat} {b : Addr} : setG g c j b c j = b := by unfold setG; rw [if_pos ⟨rfl, rfl⟩]
theorem setG_ne {g : Nat → Nat → Addr} {c j c' j' : Nat} {b : Addr} (h : ¬ (c' = c ∧ j' = j)) : setG g c j b c' j' = g c' j' := by unfold setG; rw [if_neg h]
/-- how many blocks a column of n values has, how many values its j-th block -/
def nbOf (s n : Nat) : Nat := (n + s - 1) / s
def cellsAt (s n j : Nat) : Nat := min s (n - j * s)
theorem lt_nb {s n i : Nat} (hs : 0 < s) (h : i < n) : i / s < nbOf s n := by
  unfold nbOf
  rw [Nat.div_lt_iff_lt_mul hs]
  have h1 := Nat.div_mul_le_self (n + s - 1) s
  have h2 := Nat.mod_lt (n + s - 1) hs
  have h3 := Nat.div_add_mod (n + s - 1) s
  rw [Nat.mul_comm] at h3
  omega
theorem of_lt_nb {s n j : Nat} (hs : 0 < s) (h : j < nbOf s n) : j * s < n := by
  unfold nbOf at h
  have h1 : (j + 1) * s ≤ n + s - 1 := by
    have := Nat.le_div_iff_mul_le hs (x := j + 1) (y := n + s - 1)
    exact this.mp h
  rw [Nat.add_mul, Nat.one_mul] at h1
  omega
theorem mod_lt_cells {s n i : Nat} (hs : 0 < s) (h : i < n) : i % s < cellsAt s n (i / s) := by
  unfold cellsAt
  have h1 := Nat.mod_lt i hs
  have h2 := Nat.div_add_mod i s
  rw [Nat.mul_comm] at h2
  omega
/-- a sheet that is open -/
def Wd.isOpen (w : Wd) (x : Addr) : Bool := match w.sh x with
  | some q => q.opn
  | none => false
/-- how many open sheets are among these -/
def Wd.cnt (w : Wd) (hs : List Addr) : Nat := (hs.filter fun x => w.isOpen x).length
structure WOk (wide s : Nat) (w : Wd) : Prop where
  gr : ∀ p q, w.sh p = some q → ∀ c j, c < wide → j < nbOf s q.tot → ∃ hs, w.bl (q.g c j) = some ⟨cellsAt s q.tot j, hs, c, j⟩ ∧ p ∈ hs
  hd : ∀ b k, w.bl b = some k → ∀ x ∈ k.hs, ∃ q, w.sh x = some q
  few : ∀ b k, w.bl b = some k → k.hs.length ≤ 1000
  nd : ∀ b k, w.bl b = some k → k.hs.Nodup
/-- a write to the block (c, j) of the sheet p: what becomes of the sheets, and the block that is written -/
def Own (w : Wd) (p c j : Nat) (w' : Wd) (b' : Addr) : Prop := ∃ q k, w.sh p = some q ∧ w.bl (q.g c j) = some k ∧
  ((w.cnt k.hs ≤ 1 ∧ w' = w ∧ b' = q.g c j) ∨
   (1 < w.cnt k.hs ∧ w.bl b' = none ∧ w' = ⟨setA w.sh p { q with made := q.made + 1, g := setG q.g c j b' }, setA (setA w.bl (q.g c j) { k with hs := k.hs.erase p }) b' ⟨k.n, [p], c, j⟩⟩))
/-- writes to the blocks at these (number, column), one after another -/
inductive Puts (p : Addr) : Wd → List (Nat × Nat) → Wd → Prop
  | nil (w : Wd) : Puts p w [] w
  | cons {w w1 w2 : Wd} {j c : Nat} {qs : List (Nat × Nat)} {b : Addr} : Own w p c j w1 b → Puts p w1 qs w2 → Puts p w ((j, c) :: qs) w2
theorem Puts.app {p : Addr} {w w1 w2 : Wd} {qs rs : List (Nat × Nat)} (h : Puts p w qs w1) (h2 : Puts p w1 rs w2) : Puts p w (qs ++ rs) w2 := by
  induction h with
  | nil w => exact h2
  | cons o t ih => exact .cons o (ih h2)
/-! ### in the heap -/
/-- what an object is for -/
inductive Rl where
  | sheet | parts (p : Addr) | col (p : Addr) (c : Nat) | block (c j : Nat) | cells (b : Addr) | held (b : Addr) | pool
abbrev Rls := Addr → Option Rl
def setR (ρ : Rls) (a : Addr) (r : Rl) : Rls := fun x => if x = a then some r else ρ x
theorem setR_same {ρ : Rls} {a : Addr} {r : Rl} : setR ρ a r a = some r := by unfold setR; rw [if_pos rfl]
theorem setR_ne {ρ : Rls} {a b : Addr} {r : Rl} (h : b ≠ a) : setR ρ a r b = ρ b := by unfold setR; rw [if_neg h]
def isMu : HO → Prop
  | .lst _ => True
  | .ins _ _ _ => True
  | _ => False
def RDom (ρ : Rls) (H : Hp) : Prop := ∀ a r, ρ a = some r → ∃ o, H a = some o ∧ isMu o
theorem RDom.no_tup {ρ : Rls} {H : Hp} (d : RDom ρ H) {a : Addr} {xs : List V} (h : H a = some (.tup xs)) : ρ a = none := by
  cases e : ρ a with
  | none => rfl
  | some r =>
    obtain ⟨o, h1, h2⟩ := d a r e
    rw [h] at h1
    cases h1
    exact h2.elim
theorem RDom.no_new {ρ : Rls} {H : Hp} (d : RDom ρ H) {a : Addr} (h : H a = none) : ρ a = none := by
  cases e : ρ a with
  | none => rfl
  | some r =>
    obtain ⟨o, h1, _⟩ := d a r e
    rw [h] at h1
    cases h1
theorem RDom.same {ρ : Rls} {H H' : Hp} (d : RDom ρ H) (e : Same H H') : RDom ρ H' := fun a r h => let ⟨o, h1, h2⟩ := d a r h; ⟨o, e _ _ h1, h2⟩
theorem RDom.upd {ρ : Rls} {H : Hp} (d : RDom ρ H) {x : Addr} {o : HO} (m : isMu o) : RDom ρ (L2.upd H x o) := fun a r h => by
  by_cases e : a = x
  · subst e; exact ⟨o, upd_same, m⟩
  · obtain ⟨u, h1, h2⟩ := d a r h
    exact ⟨u, by rw [upd_ne e]; exact h1, h2⟩
theorem RDom.set {ρ : Rls} {H : Hp} (d : RDom ρ H) {x : Addr} {r : Rl} {o : HO} (h : H x = some o) (m : isMu o) : RDom (setR ρ x r) H := fun a r' h' => by
  by_cases e : a = x
  · subst e; exact ⟨o, h, m⟩
  · rw [setR_ne e] at h'; exact d a r' h'
/-- what has no role stands as it stood, and gets none; roles stay -/
structure Frm (ρ : Rls) (H : Hp) (ρ' : Rls) (H' : Hp) : Prop where
  up : ∀ a r, ρ a = some r → ρ' a = some r
  fr : ∀ a o, H a = some o → ρ a = none → H' a = some o ∧ ρ' a = none
theorem Frm.refl (ρ : Rls) (H : Hp) : Frm ρ H ρ H := ⟨fun _ _ h => h, fun _ _ h n => ⟨h, n⟩⟩
theorem Frm.trans {ρ ρ1 ρ2 : Rls} {H H1 H2 : Hp} (a : Frm ρ H ρ1 H1) (b : Frm ρ1 H1 ρ2 H2) : Frm ρ H ρ2 H2 :=
  ⟨fun x r h => b.up x r (a.up x r h), fun x o h n => let ⟨h1, n1⟩ := a.fr x o h n; b.fr x o h1 n1⟩
theorem Frm.same {ρ : Rls} {H H' : Hp} (e : Same H H') : Frm ρ H ρ H' := ⟨fun _ _ h => h, fun _ _ h n => ⟨e _ _ h, n⟩⟩
/-- an object with a role is written -/
theorem Frm.upd {ρ : Rls} {H : Hp} {x : Addr} {o : HO} {r : Rl} (h : ρ x = some r) : Frm ρ H ρ (L2.upd H x o) := ⟨fun _ _ h => h, fun a u e n => by
  have : a ≠ x := fun z => by rw [z, h] at n; cases n
  exact ⟨by rw [upd_ne this]; exact e, n⟩⟩
/-- a new object gets a role -/
theorem Frm.set {ρ : Rls} {H H' : Hp} {x : Addr} {r : Rl} (f : Frm ρ H ρ H') (h : H x = none) (n : ρ x = none) : Frm ρ H (setR ρ x r) H' := ⟨fun a r' e => by
  have : a ≠ x := fun z => by rw [z, n] at e; cases e
  rw [setR_ne this]; exact e, fun a u e m => by
  have : a ≠ x := fun z => by rw [z, h] at e; cases e
  rw [setR_ne this]; exact f.fr a u e m⟩
theorem Frm.sch {ρ ρ' : Rls} {H H' : Hp} (f : Frm ρ H ρ' H') (d : RDom ρ H) {t : Addr} {sch : Sch} (h : SchAt H t sch) : SchAt H' t sch := by
  obtain ⟨ps, h1, h2, h3⟩ := h
  exact ⟨ps, (f.fr _ _ h1 (d.no_tup h1)).1, h2, fun i p q a b => (f.fr _ _ (h3 i p q a b) (d.no_tup (h3 i p q a b))).1⟩
def rowV (f : Nat → Addr) (n : Nat) : List V := (List.range n).map fun i => .ref (f i)
theorem rowV_len (f : Nat → Addr) (n : Nat) : (rowV f n).length = n := by unfold rowV; simp
theorem rowV_at {f : Nat → Addr} {n i : Nat} (h : i < n) : (rowV f n)[i]? = some (.ref (f i)) := by unfold rowV; simp [h]
theorem rowV_of {f : Nat → Addr} {n i : Nat} {v : V} (h : (rowV f n)[i]? = some v) : i < n ∧ v = .ref (f i) := by
  unfold rowV at h
  rw [List.getElem?_map] at h
  by_cases hi : i < n
  · rw [List.getElem?_range hi] at h; cases h; exact ⟨hi, rfl⟩
  · rw [List.getElem?_eq_none (by simpa using hi)] at h; cases h
theorem rowV_congr {f g : Nat → Addr} {n : Nat} (h : ∀ i, i < n → f i = g i) : rowV f n = rowV g n := by
  unfold rowV
  exact List.map_congr_left fun i hi => by rw [h i (List.mem_range.mp hi)]
theorem rowV_succ (f : Nat → Addr) (n : Nat) : rowV f (n + 1) = rowV f n ++ [.ref (f n)] := by unfold rowV; rw [List.range_succ, List.map_append]; rfl
theorem rowV_set (f : Nat → Addr) (n j : Nat) (b : Addr) : (rowV f n).set j (.ref b) = rowV (fun i => if i = j then b else f i) n := by
  unfold rowV
  apply List.ext_getElem?
  intro i
  rw [List.getElem?_set, List.getElem?_map, List.getElem?_map]
  by_cases hij : j = i
  · subst hij
    by_cases hi : j < n
    · simp [hi]
    · simp [hi]
  · have h' : ¬ i = j := fun q => hij q.symm
    by_cases hi : i < n
    · simp [hi, hij, h']
    · simp [hi, hij]
def sf (t : Addr) (s tot made : Nat) (opn : Bool) (lp : Addr) : List (Str × V) := [("heads", .ref t), ("block_size", .int (s : Nat)), ("total", .int (tot : Nat)), ("made", .int (made : Nat)), ("opened", .bl opn), ("parts", .ref lp)]
def bf (lc lh : Addr) : List (Str × V) := [("cells", .ref lc), ("sheets", .ref lh)]
section
variable {t lp lc lh : Addr} {s tot made : Nat} {opn : Bool}
theorem bf_put : putF "sheets" (.ref lh) (putF "cells" (.ref lc) []) = bf lc lh := by kernel_rfl
theorem bf_cells : (bf lc lh).lookup ("cells" : Str) = some (.ref lc) := by kernel_rfl
theorem bf_sheets : (bf lc lh).lookup ("sheets" : Str) = some (.ref lh) := by kernel_rfl
theorem sf_heads : (sf t s tot made opn lp).lookup ("heads" : Str) = some (.ref t) := by kernel_rfl
theorem sf_size : (sf t s tot made opn lp).lookup ("block_size" : Str) = some (.int (s : Nat)) := by kernel_rfl
theorem sf_total : (sf t s tot made opn lp).lookup ("total" : Str) = some (.int (tot : Nat)) := by kernel_rfl
theorem sf_made : (sf t s tot made opn lp).lookup ("made" : Str) = some (.int (made : Nat)) := by kernel_rfl
theorem sf_opened : (sf t s tot made opn lp).lookup ("opened" : Str) = some (.bl opn) := by kernel_rfl
theorem sf_parts : (sf t s tot made opn lp).lookup ("parts" : Str) = some (.ref lp) := by kernel_rfl
theorem sf_meth (m : Str) (h : ∀ x ∈ (["heads", "block_size", "total", "made", "opened", "parts"] : List Str), m ≠ x) : (sf t s tot made opn lp).lookup m = none := by
  unfold sf
  have f : ∀ x ∈ (["heads", "block_size", "total", "made", "opened", "parts"] : List Str), (m == x) = false := fun x hx => beq_eq_false_iff_ne.mpr (h x hx)
  simp only [List.lookup, f "heads" (by simp), f "block_size" (by simp), f "total" (by simp), f "made" (by simp), f "opened" (by simp), f "parts" (by simp)]
theorem sf_putMade {m : Nat} : putF "made" (.int (m : Nat)) (sf t s tot made opn lp) = sf t s tot m opn lp := by kernel_rfl
theorem sf_putOpened {b : Bool} : putF "opened" (.bl b) (sf t s tot made opn lp) = sf t s tot made b lp := by kernel_rfl
theorem sf_putParts {l : Addr} : putF "parts" (.ref l) (sf t s tot made opn lp) = sf t s tot made opn l := by kernel_rfl
theorem sf_putTotal {n : Nat} : putF "total" (.int (n : Nat)) (sf t s tot made opn lp) = sf t s n made opn lp := by kernel_rfl
theorem sf_new : putF "parts" (.ref lp) (putF "opened" (.bl true) (putF "made" (.int 0) (putF "total" (.int (tot : Nat)) (putF "block_size" (.int (s : Nat)) (putF "heads" (.ref t) []))))) = sf t s tot 0 true lp := by kernel_rfl
end
section
variable (K : PySem.W.Frag) (t : Addr) (wide s : Nat)
structure ShAt (H : Hp) (ρ : Rls) (p : Addr) (q : Sht) : Prop where
  ro : ρ p = some .sheet
  ob : ∃ (dx lp : Addr) (col : Nat → Addr), H p = some (.ins (cS K) dx (sf t s q.tot q.made q.opn lp)) ∧ ρ lp = some (.parts p) ∧ H lp = some (.lst (rowV col wide)) ∧
    ∀ c, c < wide → ρ (col c) = some (.col p c) ∧ H (col c) = some (.lst (rowV (q.g c) (nbOf s q.tot)))
structure BlAt (H : Hp) (ρ : Rls) (b : Addr) (k : Blk) : Prop where
  ro : ρ b = some (.block k.c k.j)
  ob : ∃ (dx lc lh : Addr) (cs : List V), H b = some (.ins (cB K) dx (bf lc lh)) ∧ ρ lc = some (.cells b) ∧ H lc = some (.lst cs) ∧ cs.length = k.n ∧ ρ lh = some (.held b) ∧ H lh = some (.lst (k.hs.map V.ref))
structure WAt (H : Hp) (ρ : Rls) (w : Wd) : Prop where
  dom : RDom ρ H
  sh : ∀ p q, w.sh p = some q → ShAt K t wide s H ρ p q
  bl : ∀ b k, w.bl b = some k → BlAt K H ρ b k
  ok : WOk wide s w
end
section
variable {K : PySem.W.Frag} {t : Addr} {wide s : Nat} {H H' : Hp} {ρ ρ' : Rls} {p b x : Addr} {q : Sht} {k : Blk} {o : HO}
/-- an object that is none of the sheet's changes -/
theorem ShAt.upd (h : ShAt K t wide s H ρ p q) (h1 : p ≠ x) (h2 : ρ x ≠ some (.parts p)) (h3 : ∀ c, ρ x ≠ some (.col p c)) : ShAt K t wide s (L2.upd H x o) ρ p q := by
  obtain ⟨ro, dx, lp, col, a1, a2, a3, a4⟩ := h
  refine ⟨ro, dx, lp, col, by rw [upd_ne h1]; exact a1, a2, ?_, fun c hc => ?_⟩
  · rw [upd_ne (fun z => h2 (by rw [← z]; exact a2))]; exact a3
  · obtain ⟨b1, b2⟩ := a4 c hc
    exact ⟨b1, by rw [upd_ne (fun z => h3 c (by rw [← z]; exact b1))]; exact b2⟩
theorem BlAt.upd (h : BlAt K H ρ b k) (h1 : b ≠ x) (h2 : ρ x ≠ some (.cells b)) (h3 : ρ x ≠ some (.held b)) : BlAt K (L2.upd H x o) ρ b k := by
  obtain ⟨ro, dx, lc, lh, cs, a1, a2, a3, a4, a5, a6⟩ := h
  exact ⟨ro, dx, lc, lh, cs, by rw [upd_ne h1]; exact a1, a2, by rw [upd_ne (fun z => h2 (by rw [← z]; exact a2))]; exact a3, a4, a5, by rw [upd_ne (fun z => h3 (by rw [← z]; exact a5))]; exact a6⟩
/-- more roles -/
theorem ShAt.up (h : ShAt K t wide s H ρ p q) (u : ∀ a r, ρ a = some r → ρ' a = some r) : ShAt K t wide s H ρ' p q := by
  obtain ⟨ro, dx, lp, col, a1, a2, a3, a4⟩ := h
  exact ⟨u _ _ ro, dx, lp, col, a1, u _ _ a2, a3, fun c hc => ⟨u _ _ (a4 c hc).1, (a4 c hc).2⟩⟩
theorem BlAt.up (h : BlAt K H ρ b k) (u : ∀ a r, ρ a = some r → ρ' a = some r) : BlAt K H ρ' b k := by
  obtain ⟨ro, dx, lc, lh, cs, a1, a2, a3, a4, a5, a6⟩ := h
  exact ⟨u _ _ ro, dx, lc, lh, cs, a1, u _ _ a2, a3, a4, u _ _ a5, a6⟩
/-- all that has a role stands as it stood -/
theorem ShAt.keep (h : ShAt K t wide s H ρ p q) (e : ∀ a u, H a = some u → (∃ r, ρ a = some r ∧ r ≠ .pool) → H' a = some u) : ShAt K t wide s H' ρ p q := by
  obtain ⟨ro, dx, lp, col, a1, a2, a3, a4⟩ := h
  exact ⟨ro, dx, lp, col, e _ _ a1 ⟨_, ro, by intro z; cases z⟩, a2, e _ _ a3 ⟨_, a2, by intro z; cases z⟩, fun c hc => ⟨(a4 c hc).1, e _ _ (a4 c hc).2 ⟨_, (a4 c hc).1, by intro z; cases z⟩⟩⟩
theorem BlAt.keep (h : BlAt K H ρ b k) (e : ∀ a u, H a = some u → (∃ r, ρ a = some r ∧ r ≠ .pool) → H' a = some u) : BlAt K H' ρ b k := by
  obtain ⟨ro, dx, lc, lh, cs, a1, a2, a3, a4, a5, a6⟩ := h
  exact ⟨ro, dx, lc, lh, cs, e _ _ a1 ⟨_, ro, by intro z; cases z⟩, a2, e _ _ a3 ⟨_, a2, by intro z; cases z⟩, a4, a5, e _ _ a6 ⟨_, a5, by intro z; cases z⟩⟩
theorem WAt.keep {w : Wd} (h : WAt K t wide s H ρ w) (d : RDom ρ H') (e : ∀ a u, H a = some u → (∃ r, ρ a = some r ∧ r ≠ .pool) → H' a = some u) : WAt K t wide s H' ρ w :=
  ⟨d, fun p q a => (h.sh p q a).keep e, fun b k a => (h.bl b k a).keep e, h.ok⟩
theorem WAt.same {w : Wd} (h : WAt K t wide s H ρ w) (e : Same H H') : WAt K t wide s H' ρ w := h.keep (h.dom.same e) fun a u x _ => e a u x
theorem WAt.ins {w : Wd} (h : WAt K t wide s H ρ w) {p : Addr} {q : Sht} (e : w.sh p = some q) : InsOf (cS K) H p :=
  let ⟨_, dx, lp, col, a1, _⟩ := h.sh p q e; ⟨dx, _, a1⟩
end
end K7
/-! Block and cut_blocks. -/
namespace K7
open PySem PySem.Spec PyProof.Rows L2
theorem mu_lst {xs : List V} : isMu (.lst xs) := True.intro
theorem mu_ins {C dx : Addr} {fs : List (Str × V)} : isMu (.ins C dx fs) := True.intro
/-! ### range by steps, slices -/
theorem rangeSize_nb {n s : Nat} (hs : 1 ≤ s) : Builtin.Range.rangeSize 0 (n : Int) (s : Int) = (nbOf s n : Nat) := by
  rw [rangeSize_pos (by omega) (by omega)]
  unfold nbOf
  have : ((n + s - 1 : Nat) : Int) = (n : Int) + (s : Int) - 1 := by omega
  rw [← this]
  exact (Int.natCast_ediv _ _).symm
theorem nb_le {n s : Nat} (hs : 1 ≤ s) : nbOf s n ≤ n := by
  by_cases h : n < nbOf s n
  · have := of_lt_nb (by omega : 0 < s) h
    have h2 := Nat.le_mul_of_pos_right n (by omega : 0 < s)
    omega
  · omega
theorem rgC_nb {n s : Nat} (hs : 1 ≤ s) (h2 : s ≤ 100) (hn : n ≤ 1000) : RgC 0 (n : Int) (s : Int) (nbOf s n) := by
  refine ⟨by omega, by omega, ?_, rangeSize_nb hs⟩
  unfold Builtin.Range.small
  rw [rangeSize_nb hs]
  have := nb_le (n := n) hs
  simp only [Builtin.Range.rangeFitsLong, Bool.and_eq_true, Bool.or_eq_true, decide_eq_true_eq, beq_iff_eq, show ((s : Int) > 0) by omega, if_true]
  omega
theorem rgC_lt {n s i : Nat} (hs : 1 ≤ s) (hi : i < nbOf s n) : i * s < n := of_lt_nb (by omega) hi
theorem cut_len {us : List V} {s i : Nat} (h : i * s < us.length) (e1 : HT.sIx us.length 0 (some ((i * s : Nat) : Int)) = i * s) : (cutV us (some ((i * s : Nat) : Int)) (some ((i * s + s : Nat) : Int))).length = cellsAt s us.length i := by
  unfold cutV cellsAt
  rw [e1, HT.sIx_nat, List.length_take, List.length_drop]
  omega
section
variable {K : PySem.W.Frag}
def rListOf (K : PySem.W.Frag) : List V → Hp → VK → Prop := fun xs H Q => ∃ p ys, xs = [.ref p] ∧ (SqL K H p ys ∨ SqT K H p ys) ∧ ∀ l, H l = none → Q (.ref l) (upd H l (.lst ys))
theorem call_listK {X : Cx} : CallR X (.type "list") (rListOf X.K) := call_list_of
/-! ### a new block -/
def rolesB (ρ : Rls) (lc x lh : Addr) (c j : Nat) : Rls := setR (setR (setR ρ lc (.cells x)) x (.block c j)) lh (.held x)
theorem rolesB_ne {ρ : Rls} {lc x lh a : Addr} {c j : Nat} (h1 : a ≠ lc) (h2 : a ≠ x) (h3 : a ≠ lh) : rolesB ρ lc x lh c j a = ρ a := by
  unfold rolesB; rw [setR_ne h3, setR_ne h2, setR_ne h1]
structure NewBlk (K : PySem.W.Frag) (H H' : Hp) (x lc lh p : Addr) (cs : List V) : Prop where
  c1 : H lc = none
  x1 : H x = none
  h1 : H lh = none
  n1 : lc ≠ x
  n2 : lc ≠ lh
  n3 : x ≠ lh
  ob : ∃ dx, H' x = some (.ins (cB K) dx (bf lc lh))
  oc : H' lc = some (.lst cs)
  oh : H' lh = some (.lst [.ref p])
  sm : Same H H'
theorem NewBlk.up {ρ : Rls} {H H' : Hp} {x lc lh p : Addr} {cs : List V} (N : NewBlk K H H' x lc lh p cs) (d : RDom ρ H) (c j : Nat) {a : Addr} {r : Rl} (h : ρ a = some r) : rolesB ρ lc x lh c j a = some r := by
  obtain ⟨o, e, _⟩ := d a r h
  rw [rolesB_ne (ne_of_none e N.c1) (ne_of_none e N.x1) (ne_of_none e N.h1)]
  exact h
theorem NewBlk.frm {ρ : Rls} {H H' : Hp} {x lc lh p : Addr} {cs : List V} (N : NewBlk K H H' x lc lh p cs) (d : RDom ρ H) (c j : Nat) : Frm ρ H (rolesB ρ lc x lh c j) H' :=
  ⟨fun a r h => N.up d c j h, fun a o h n => ⟨N.sm _ _ h, by rw [rolesB_ne (ne_of_none h N.c1) (ne_of_none h N.x1) (ne_of_none h N.h1)]; exact n⟩⟩
theorem NewBlk.dom {ρ : Rls} {H H' : Hp} {x lc lh p : Addr} {cs : List V} (N : NewBlk K H H' x lc lh p cs) (d : RDom ρ H) (c j : Nat) : RDom (rolesB ρ lc x lh c j) H' := by
  intro a r h
  unfold rolesB at h
  by_cases e3 : a = lh
  · exact ⟨_, by rw [e3]; exact N.oh, mu_lst⟩
  rw [setR_ne e3] at h
  by_cases e2 : a = x
  · obtain ⟨dx, e⟩ := N.ob
    exact ⟨_, by rw [e2]; exact e, mu_ins⟩
  rw [setR_ne e2] at h
  by_cases e1 : a = lc
  · exact ⟨_, by rw [e1]; exact N.oc, mu_lst⟩
  rw [setR_ne e1] at h
  exact d.same N.sm a r h
theorem NewBlk.at {ρ : Rls} {H H' : Hp} {x lc lh p : Addr} {cs : List V} (N : NewBlk K H H' x lc lh p cs) (c j : Nat) {n : Nat} (hn : cs.length = n) : BlAt K H' (rolesB ρ lc x lh c j) x ⟨n, [p], c, j⟩ := by
  obtain ⟨dx, e⟩ := N.ob
  refine ⟨?_, dx, lc, lh, cs, e, ?_, N.oc, hn, ?_, N.oh⟩
  · unfold rolesB; rw [setR_ne N.n3, setR_same]
  · unfold rolesB; rw [setR_ne N.n2, setR_ne N.n1, setR_same]
  · unfold rolesB; rw [setR_same]
end
section
variable {P : Program} {w : World} {K : PySem.W.Frag} {mg : Str → Option Value} {base : Heap}
def spBlock (K : PySem.W.Frag) : Sp := fun vs H Q _ => ∃ (x dx lc p : Addr), vs = [.ref x, .ref lc, .ref p] ∧ H x = some (.ins (cB K) dx []) ∧
  ∀ (lh : Addr) H', H lh = none → H' x = some (.ins (cB K) dx (bf lc lh)) → H' lh = some (.lst [.ref p]) → (∀ b o, H b = some o → b ≠ x → H' b = some o) → Q .non H'
theorem mk_block (E : Hd K mg) : Mak P w K mg base 1 "Block" (cB K) (spBlock K) [] := by
  refine mak_mk E.g_Block E.f_Block_init c_Block_init (fun _ _ _ _ _ _ us hl => match us, hl with | [_, _, _], _ => rfl) (fun vs H Q E ⟨x, dx, lc, p, e, _⟩ => by rw [e]; rfl) ?_
  intro f cdv A outer s H vs Q E' hr h
  obtain ⟨x, dx, lc, p, rfl, hx, q⟩ := h
  refine ⟨_, pss_cons (ps_fld (pv 0) (pv 1) rfl) (pss_one (ps_fld (pv 0) (pe_lst (pa_cons (pv 2) pa_nil)) rfl)), ?_⟩
  refine ⟨_, rfl, _, rfl, x, cB K, dx, [], rfl, hx, E.cl_Block, E.no_Block_cells, (by show 0 < 1000; decide), ?_⟩
  refine ⟨_, rfl, by have := sizeLine_eq; simp only [List.length_cons, List.length_nil]; omega, fun lh hlh => ?_⟩
  have hne : x ≠ lh := ne_of_none upd_same hlh
  have hlh' : H lh = none := by rw [upd_ne (Ne.symm hne)] at hlh; exact hlh
  refine ⟨_, rfl, x, cB K, dx, _, rfl, by rw [upd_ne hne]; exact upd_same, E.cl_Block, E.no_Block_sheets, (by show 1 < 1000; decide), ?_⟩
  refine q lh _ hlh' (by rw [upd_same, bf_put]) (by rw [upd_ne (Ne.symm hne), upd_same]) fun b o e nb => ?_
  rw [upd_ne nb, upd_ne (ne_of_none e hlh'), upd_ne nb]
  exact e
/-- list(..), then Block(list, p) -/
theorem new_block {H2 : Hp} {lc p x dx : Addr} {cs : List V} {Q : VK} {E : XK} (h : H2 lc = none) (hx : (upd H2 lc (.lst cs)) x = none) (hdx : (upd H2 lc (.lst cs)) dx = none) (hne : dx ≠ x)
    (q : ∀ lh H', NewBlk K H2 H' x lc lh p cs → Q .non H') : spBlock K [.ref x, .ref lc, .ref p] (upd (upd (upd H2 lc (.lst cs)) dx (.own x)) x (.ins (cB K) dx [])) Q E := by
  have n1 : lc ≠ x := ne_of_none upd_same hx
  have n2 : lc ≠ dx := ne_of_none upd_same hdx
  have hx2 : H2 x = none := by rw [upd_ne (Ne.symm n1)] at hx; exact hx
  have hd2 : H2 dx = none := by rw [upd_ne (Ne.symm n2)] at hdx; exact hdx
  refine ⟨x, dx, lc, p, rfl, upd_same, fun lh H' hlh ho hl hs => ?_⟩
  have m3 : x ≠ lh := ne_of_none upd_same hlh
  have hlh2 : (upd (upd H2 lc (.lst cs)) dx (.own x)) lh = none := by rw [upd_ne (Ne.symm m3)] at hlh; exact hlh
  have m2 : dx ≠ lh := ne_of_none upd_same hlh2
  have hlh3 : (upd H2 lc (.lst cs)) lh = none := by rw [upd_ne (Ne.symm m2)] at hlh2; exact hlh2
  have m1 : lc ≠ lh := ne_of_none upd_same hlh3
  have hlh4 : H2 lh = none := by rw [upd_ne (Ne.symm m1)] at hlh3; exact hlh3
  refine q lh H' ⟨h, hx2, hlh4, n1, m1, m3, ⟨dx, ho⟩, ?_, hl, fun b o e => ?_⟩
  · exact hs lc _ (by rw [upd_ne n1, upd_ne n2, upd_same]) n1
  · exact hs b o (by rw [upd_ne (ne_of_none e hx2), upd_ne (ne_of_none e hd2), upd_ne (ne_of_none e h)]; exact e) (ne_of_none e hx2)
/-! cut_blocks -/
def spCut (K : PySem.W.Frag) : Sp := fun vs H Q _ => ∃ (T p : Addr) (us : List V) (s c : Nat) (ρ : Rls), vs = [.ref T, .int (s : Nat), .ref p] ∧ H T = some (.tup us) ∧ us.length ≤ 1000 ∧ 1 ≤ s ∧ s ≤ 100 ∧ RDom ρ H ∧
  ∀ (l : Addr) (g : Nat → Addr) (ρ' : Rls) H', Same H H' → Frm ρ H ρ' H' → RDom ρ' H' → ρ' l = none → H l = none → H' l = some (.lst (rowV g (nbOf s us.length))) →
    (∀ j, j < nbOf s us.length → BlAt K H' ρ' (g j) ⟨cellsAt s us.length j, [p], c, j⟩) → (∀ j, j < nbOf s us.length → H (g j) = none) → Q (.ref l) H'
theorem ok_cut (E : Hd K mg) : Cal P w K mg base 3 "cut_blocks" (spCut K) := by
  refine cal_mk E.f_cut_blocks c_cut_blocks (fun _ _ _ _ _ _ us hl => match us, hl with | [_, _, _], _ => rfl) (fun vs H Q E ⟨T, p, us, s, c, ρ, e, _⟩ => by rw [e]; rfl) ?_
  intro f cdv A outer s0 H vs Q E' hr h
  obtain ⟨T, p, us, s, c, ρ, rfl, hT, hus, hs1, hs2, hd, q⟩ := h
  have MB : Mak P w K mg base 1 "Block" (cB K) (spBlock K) [] := mk_block E
  refine ⟨_, pss_one (ps_ret (pe_lc (own := [("start", 3)]) (g := gName 3) (tt := tYes)
    (te := tMake (cB K) (spBlock K) [] E0 (tCons (tCB (rListOf K) (tCons (tSl (rSlA K) (tVar 0) (tPart (tVar 3)) (tPart (tOp (rI0 fun i j => .int (i + j)) (tVar 3) (tVar 1)))) tNil)) (tCons (tVar 2) tNil)))
    rfl c_cut_blocks.nd (pi_range3 rfl E.b_range (pa_cons pe_int (pa_cons (pe_b call_len_seq E.b_len (pa_cons (pv 0) pa_nil)) (pa_cons (pv 1) pa_nil))))
    (blkOk_by (N := n_cut_blocks) (sc := defScope s_cut_blocks) (by decide +kernel)) (fun _ _ _ _ _ => pg_name (i := 3) c_cut_blocks.nd rfl (Or.inl rfl)) (fun _ _ _ _ _ => pts_nil)
    (fun _ _ _ _ _ => pe_new (j := 2) MB hr (pa_cons (pe_ty call_listK E.b_list (pa_cons (pe_slice sl_tupA (pv 0) (po_some (pv 3)) (po_some (pe_op op_add (pv 3) (pv 1)))) pa_nil)) (pa_cons (pv 2) pa_nil))))), ?_⟩
  refine ⟨_, rfl, T, us, rfl, .inr (SqT.of hT), _, rfl, 0, (us.length : Nat), (s : Nat), _, rfl, rgC_nb hs1 hs2 hus, fun D hD => ?_⟩
  refine lc_it walk_rangeC (fun i H1 => Same H H1 ∧ ∃ (ρ1 : Rls) (g : Nat → Addr), Frm ρ H ρ1 H1 ∧ RDom ρ1 H1 ∧ ρ1 D = none ∧ H1 D = some (.lst (rowV g i)) ∧ (∀ j, j < i → BlAt K H1 ρ1 (g j) ⟨cellsAt s us.length j, [p], c, j⟩) ∧ (∀ j, j < i → H (g j) = none))
    ⟨Same.upd hD, ρ, fun _ => 0, Frm.same (Same.upd hD), hd.same (Same.upd hD), hd.no_new hD, upd_same, fun j hj => absurd hj (Nat.not_lt_zero j), fun j hj => absurd hj (Nat.not_lt_zero j)⟩ (fun _ _ _ _ => trivial) ?_ ?_
  · rintro i x H1 H2 hi ⟨s1, ρ1, g, f1, d1, r1, e1, b1, g1⟩ ⟨rfl, rfl⟩
    have his : i * s < us.length := rgC_lt hs1 hi
    have ez : (0 : Int) + (i : Nat) * (s : Int) = ((i * s : Nat) : Int) := by push_cast; omega
    have ez2 : (0 : Int) + (i : Nat) * (s : Int) + (s : Int) = ((i * s + s : Nat) : Int) := by push_cast; omega
    have e1' : HT.sIx us.length 0 (some ((i * s : Nat) : Int)) = i * s := by rw [HT.sIx_nat]; omega
    have hT1 : H2 T = some (.tup us) := s1 _ _ hT
    -- what is left, whatever tuple is cut
    have fin : ∀ (H3 : Hp) (T3 : Addr) (cs : List V), Same H2 H3 → SqT K H3 T3 cs → cs.length = cellsAt s us.length i → rListOf K [.ref T3] H3 fun v H4 => ∃ v2, ([some (V.ref T), some (V.int (s : Nat)), some (V.ref p), some (V.int (0 + (i : Nat) * (s : Int)))] : L2.St)[2]? = some (some v2) ∧
        ∀ x dx, H4 x = none → H4 dx = none → dx ≠ x → spBlock K (.ref x :: ([v, v2] ++ [])) (upd (upd H4 dx (.own x)) x (.ins (cB K) dx [])) (fun v5 H5 => v5 = .non ∧ ∃ acc, H5 D = some (.lst acc) ∧ acc.length < sizeLine ∧
          (Same H (upd H5 D (.lst (acc ++ [.ref x]))) ∧ ∃ (ρ1 : Rls) (g : Nat → Addr), Frm ρ H ρ1 (upd H5 D (.lst (acc ++ [.ref x]))) ∧ RDom ρ1 (upd H5 D (.lst (acc ++ [.ref x]))) ∧ ρ1 D = none ∧ (upd H5 D (.lst (acc ++ [.ref x]))) D = some (.lst (rowV g (i + 1))) ∧
            (∀ j, j < i + 1 → BlAt K (upd H5 D (.lst (acc ++ [.ref x]))) ρ1 (g j) ⟨cellsAt s us.length j, [p], c, j⟩) ∧ (∀ j, j < i + 1 → H (g j) = none))) E0 := by
      intro H3 T3 cs s3 hT3 hcs
      refine ⟨T3, cs, rfl, .inr hT3, fun lc hlc => ⟨_, rfl, fun x dx hx hdx hne => ?_⟩⟩
      refine new_block hlc hx hdx hne fun lh H5 N => ⟨rfl, rowV g i, ?_, ?_, ?_⟩
      · exact N.sm _ _ (s3 _ _ e1)
      · rw [rowV_len]
        have := nb_le (n := us.length) hs1
        have := sizeLine_eq
        omega
      have s13 : Same H H3 := s1.trans s3
      have d3 : RDom ρ1 H3 := d1.same s3
      have hDr : D ≠ lc ∧ D ≠ x ∧ D ≠ lh := ⟨ne_of_none (s3 _ _ e1) N.c1, ne_of_none (s3 _ _ e1) N.x1, ne_of_none (s3 _ _ e1) N.h1⟩
      have rD : rolesB ρ1 lc x lh c i D = none := by rw [rolesB_ne hDr.1 hDr.2.1 hDr.2.2]; exact r1
      have f3 : Frm ρ1 H3 (rolesB ρ1 lc x lh c i) H5 := N.frm d3 c i
      have sD : ∀ o, Same H (upd H5 D o) := fun o b u e => by
        rw [upd_ne (ne_of_none e hD)]; exact N.sm _ _ (s13 _ _ e)
      refine ⟨sD _, rolesB ρ1 lc x lh c i, fun j => if j = i then x else g j, ⟨fun a r h => N.up d3 c i (f1.up _ _ h), fun a o h n => ⟨sD _ _ _ h, ?_⟩⟩, (N.dom d3 c i).upd mu_lst, rD, ?_, fun j hj => ?_, fun j hj => ?_⟩
      · exact (f3.fr a o (s13 _ _ h) (f1.fr a o h n).2).2
      · rw [upd_same, rowV_succ, if_pos rfl, rowV_congr (f := g) (g := fun j => if j = i then x else g j) fun j hj => by show g j = if j = i then x else g j; rw [if_neg (by omega)]]
      · have pool : ∀ (a : Addr) (u : HO), H5 a = some u → (∃ r, (rolesB ρ1 lc x lh c i) a = some r ∧ r ≠ .pool) → (upd H5 D (.lst (rowV g i ++ [.ref x]))) a = some u := fun a u e ⟨r, h, _⟩ => by
          rw [upd_ne (fun z => by rw [z, rD] at h; cases h)]; exact e
        by_cases hji : j = i
        · subst hji
          show BlAt K _ _ (if j = j then x else g j) _
          rw [if_pos rfl]
          exact (N.at (ρ := ρ1) c j hcs).keep pool
        · show BlAt K _ _ (if j = i then x else g j) _
          rw [if_neg hji]
          have := (b1 j (by omega)).up (ρ' := rolesB ρ1 lc x lh c i) fun a r h => N.up d3 c i h
          refine this.keep fun a u e hr => ?_
          exact pool a u (N.sm _ _ (s3 _ _ e)) hr
      · show H (if j = i then x else g j) = none
        by_cases hji : j = i
        · rw [if_pos hji]
          cases e : H x with
          | none => rfl
          | some o => have := s13 _ _ e; rw [N.x1] at this; cases this
        · rw [if_neg hji]; exact g1 j (by omega)
    refine ⟨rfl, yesT ?_⟩
    refine ⟨_, rfl, _, rfl, _, rfl, _, rfl, _, rfl, _, _, rfl, rfl, _, rfl, T, us, rfl, SqT.of hT1, ?_, ?_⟩
    · rintro ⟨w1, w2⟩
      rw [ez] at w1
      rw [ez2] at w2
      rw [e1'] at w1
      rw [HT.sIx_nat] at w2
      refine fin H2 T us (Same.refl _) (SqT.of hT1) ?_
      unfold cellsAt
      omega
    · intro _ T3 hT3
      refine fin _ T3 _ (Same.upd hT3) (SqT.of upd_same) ?_
      rw [ez2, ez]
      exact cut_len his e1'
  · rintro H1 ⟨s1, ρ1, g, f1, d1, r1, e1, b1, g1⟩
    exact q D g ρ1 H1 s1 f1 d1 r1 hD e1 b1 g1
end
end K7
/-! Sheet.__init__. -/
namespace K7
open PySem PySem.Spec PyProof.Rows L2
section
variable (P : Program) (w : World) (K : PySem.W.Frag) (mg : Str → Option Value) (base : Heap)
/-- C(e, block = b) -/
structure MakK (k : Nat) (x : Str) (C : Addr) (sp : Sp) : Prop where
  ex : ∃ (f : Addr) (fd : FuncData) (ps : List Str), Mk K C f ∧ FnOk P w K mg base CX0 k f fd ps sp ∧ mg x = some (.ref C) ∧ KBn K fd ps 2 (["block"] : List Str) (fun us ws => us ++ ws) (fun vs zs => vs ++ zs)
end
section
variable {X : Cx} {k j : Nat} {C : Addr} {x : Str} {sp : Sp} {p pos kpos : Pos} {e b : Expr} {ta tb : TE}
theorem pe_newK (c : MakK X.prog X.w X.K X.mg X.base k x C sp) (hr : Room j X.A) (ha : PE X e ta) (hb : PE X b tb) (hk : k + 1 ≤ j := by decide) (hg : Gl X x := by rfl) (hdb : (x == ("__debug__" : Str)) = false := by decide)
    (hs : starEach [e] X.env = (false, eval e X.env) :: starEach [] X.env := by rfl)
    (hall : (backToKw pos (keywordEach [⟨some "block", b, kpos⟩] X.env)).all (·.1.isSome) = true := by rfl) (hks : (backToKw pos (keywordEach [⟨some "block", b, kpos⟩] X.env)).filterMap (·.1) = (["block"] : List Str) := by rfl)
    (hpl : ((backTo pos (starEach [e] X.env)).any (·.1) || (backToKw pos (keywordEach [⟨some "block", b, kpos⟩] X.env)).any (·.1.isNone)) = false := by rfl) :
    PE X (.Call (.Name x p) [e] [⟨some "block", b, kpos⟩] pos) (tMakeK C 1 1 sp (fun vs zs => vs ++ zs) E0 (tCons ta tNil) (tCons tb tNil)) := by
  obtain ⟨f, fd, ps, M, F, hm, kb⟩ := c.ex
  exact pe_makeK M F (hr.mono hk) hg hm kb pass0 (pa_cons ha pa_nil hs) (pk_cons hb pk_nil) hall hks hdb hs hpl
end
section
variable {P : Program} {w : World} {K : PySem.W.Frag} {mg : Str → Option Value} {base : Heap}
/-- what a new sheet brings: the rows' number is n -/
structure NewS (K : PySem.W.Frag) (t : Addr) (wide s n : Nat) (H : Hp) (ρ : Rls) (x : Addr) (g : Nat → Nat → Addr) (H' : Hp) (ρ' : Rls) : Prop where
  sm : ∀ b o, H b = some o → b ≠ x → H' b = some o
  up : ∀ a r, ρ a = some r → ρ' a = some r
  fr : ∀ a o, H a = some o → a ≠ x → ρ a = none → ρ' a = none
  dom : RDom ρ' H'
  sh : ShAt K t wide s H' ρ' x ⟨true, 0, n, g⟩
  bl : ∀ c j, c < wide → j < nbOf s n → BlAt K H' ρ' (g c j) ⟨cellsAt s n j, [x], c, j⟩
  nw : ∀ c j, c < wide → j < nbOf s n → H (g c j) = none
def spSheet (K : PySem.W.Frag) : Sp := fun vs H Q _ => ∃ (x dx f t a : Addr) (sch : Sch) (rs : List Addr) (s : Nat) (ρ : Rls), vs = [.ref x, .ref f, .int (s : Nat)] ∧ H x = some (.ins (cS K) dx []) ∧ f ≠ x ∧ FrAt K H f t a sch rs ∧ SchOk sch ∧ 1 ≤ s ∧ s ≤ 100 ∧ RDom ρ H ∧ ρ x = none ∧
  ∀ g H' ρ', NewS K t sch.length s rs.length H ρ x g H' ρ' → Q .non H'
theorem sch_ne {H : Hp} {t x : Addr} {sch : Sch} {C dx : Addr} {fs fs' : List (Str × V)} (h : SchAt H t sch) (e : H x = some (.ins C dx fs)) : SchAt (upd H x (.ins C dx fs')) t sch := by
  obtain ⟨ps, h1, h2, h3⟩ := h
  refine ⟨ps, by rw [upd_ne (fun z => by rw [z, e] at h1; cases h1)]; exact h1, h2, fun i p q a b => by rw [upd_ne (fun z => by have := h3 i p q a b; rw [z, e] at this; cases this)]; exact h3 i p q a b⟩
theorem rows_ne {H : Hp} {a x : Addr} {sch : Sch} {rs : List Addr} {C dx : Addr} {fs fs' : List (Str × V)} (h : RowsAt K H a sch rs) (e : H x = some (.ins C dx fs)) : RowsAt K (upd H x (.ins C dx fs')) a sch rs := by
  obtain ⟨h1, h2, h3⟩ := h
  refine ⟨?_, h2, fun r hr => ?_⟩
  · rcases h1 with (h | ⟨o, h⟩) | h
    · exact .inl (.inl (by rw [upd_ne (fun z => by rw [z, e] at h; cases h)]; exact h))
    · exact .inl (.inr ⟨o, by rw [upd_ne (fun z => by rw [z, e] at h; cases h)]; exact h⟩)
    · exact .inr h
  · obtain ⟨vs, e1, e2⟩ := h3 r hr
    exact ⟨vs, by rw [upd_ne (fun z => by rw [z, e] at e1; cases e1)]; exact e1, e2⟩
theorem fr_ne {H : Hp} {f t a x : Addr} {sch : Sch} {rs : List Addr} {C dx : Addr} {fs fs' : List (Str × V)} (h : FrAt K H f t a sch rs) (hf : f ≠ x) (e : H x = some (.ins C dx fs)) : FrAt K (upd H x (.ins C dx fs')) f t a sch rs := by
  obtain ⟨⟨d, h1⟩, h2, h3⟩ := h
  exact ⟨⟨d, by rw [upd_ne hf]; exact h1⟩, sch_ne h2 e, rows_ne h3 e⟩
theorem mk_sheet (E : Hd K mg) : MakK P w K mg base 4 "Sheet" (cS K) (spSheet K) := by
  obtain ⟨f0, fd, F, hk⟩ := E.f_Sheet_init
  obtain ⟨mv, hb⟩ := F.kbinds0 (ps := p_Sheet_init) 2 ["block"] [] (fun us _ ws => us ++ ws) (by simp) (by simp) (fun r1 _ r3 => r1.append r3)
    (fun D doc pm an cdv ct us mv ws h1 h2 h3 => match us, h1, mv, h2, ws, h3 with | [_, _], _, [], _, [_], _ => rfl)
  refine ⟨f0, fd, p_Sheet_init, hk, fn_mk F c_Sheet_init (fun vs H Q E ⟨x, dx, f, t, a, sch, rs, s, ρ, e, _⟩ => by rw [e]; rfl) ?_, E.g_Sheet, hb⟩
  intro f1 cdv A outer s0 H vs Q E' hr h
  obtain ⟨x, dx, f, t, a, sch, rs, s, ρ, rfl, hx, hfx, hF, ok, hs1, hs2, hd, hρ, q⟩ := h
  have CI : Cal P w K mg base 1 "is_integer" spIsInt := ok_is_integer E
  have PS : Prp P w K mg base 1 (cF K) "schema" (spSchema K) := ok_Frame_schema E
  have LF : LenM P w K mg base 1 (cF K) (spFLen K) := ok_Frame_len E
  have MC : Met P w K mg base 3 (cF K) "column" (spColumn K) := ok_Frame_column E
  have CC : Cal P w K mg base 3 "cut_blocks" (spCut K) := ok_cut E
  obtain ⟨cr, u0, cv⟩ := E.most
  refine ⟨_, pss_cons (ps_if (pt_not (pt_val (pe_b (C8.call_isC E.ins_Frame) E.b_isinstance (pa_cons (pv 1) (pa_cons (pe_glob (v := .ref (cF K)) rfl E.g_Frame rfl) pa_nil))))) pss_never pss_nil)
    (pss_cons (ps_if (PW.pt (pw_or (pt_not (pt_val (pe_f CI hr (pa_cons (pv 2) pa_nil)))) (pw_or1 (pt_not (pt_chain op_le op_le pe_int (pv 2) (ClX.pe_cval (pe_glob (v := .ref (cS K)) rfl E.g_Sheet rfl))))))) pss_never pss_nil)
    (pss_cons (ps_fld (pv 0) (pe_p PS hr (pv 1)) rfl)
    (pss_cons (ps_fld (pv 0) (pv 2) rfl)
    (pss_cons (ps_fld (pv 0) (pe_l LF hr E.b_len (pa_cons (pv 1) pa_nil)) rfl)
    (pss_cons (ps_fld (pv 0) pe_int rfl)
    (pss_cons (ps_fld (pv 0) pe_bl rfl)
    (pss_one (ps_fld (pv 0) (pe_lc (own := [("name", 3), ("kind", 4)]) (g := gTup K 2 (gCons (gName 3) (gCons (gName 4) gNil))) (tt := tYes)
      (te := tCall (spCut K) [] E0 (tCons (tMeth (cF K) "column" (spColumn K) [] E0 (tVar 1) (tCons (tVar 3) tNil)) (tCons (tVar 2) (tCons (tVar 0) tNil))))
      rfl c_Sheet_init.nd (pi_tup (pe_fld (pv 0) rfl)) (blkOk_by (N := n_Sheet_init) (sc := defScope s_Sheet_init) (by decide +kernel))
      (fun _ _ _ _ _ => pg_tup rfl (pgs_cons (pg_name (i := 3) c_Sheet_init.nd rfl (Or.inl rfl)) (pgs_cons (pg_name (i := 4) c_Sheet_init.nd rfl (Or.inl rfl)) pgs_nil))) (fun _ _ _ _ _ => pts_nil)
      (fun _ _ _ _ _ => pe_f (j := 3) CC hr (pa_cons (pe_m (j := 3) MC hr (pv 1) (pa_cons (pv 3) pa_nil)) (pa_cons (pv 2) (pa_cons (pv 0) pa_nil))))) rfl)))))))), ?_⟩
  obtain ⟨⟨dxf, hf⟩, hsch, hrows⟩ := hF
  refine ⟨_, rfl, f, dxf, _, rfl, hf, true, rfl, iteF ?_⟩
  refine ⟨_, rfl, _, rfl, true, rfl, iteF ?_⟩
  refine ⟨_, rfl, _, _, rfl, rfl, _, rfl, ?_⟩
  rw [decide_eq_true (show (1 : Int) ≤ (s : Nat) by omega)]
  refine iteT ⟨_, _, _, _, rfl, cr, cv, _, _, rfl, rfl, true, congrArg V.bl (decide_eq_true (by omega)), iteF ?_⟩
  -- the fields
  refine ⟨_, rfl, f, dxf, _, rfl, hf, f, dxf, t, a, rfl, hf, _, rfl, x, cS K, dx, [], rfl, hx, E.cl_Sheet, E.no_Sheet_heads, (by show 0 < 1000; decide), ?_⟩
  refine ⟨_, rfl, _, rfl, x, cS K, dx, _, rfl, upd_same, E.cl_Sheet, E.no_Sheet_block_size, (by show 1 < 1000; decide), ?_⟩
  have hf2 : ∀ u1 u2, upd (upd H x u1) x u2 f = some (.ins (cF K) dxf (ff t a)) := fun u1 u2 => by rw [upd_ne hfx, upd_ne hfx]; exact hf
  have hra : ∀ {H1 : Hp} {dx fs fs'}, H1 x = some (.ins (cS K) dx fs) → RowsAt K H1 a sch rs → RowsAt K (upd H1 x (.ins (cS K) dx fs')) a sch rs := fun e h => rows_ne h e
  have hrw2 : RowsAt K (upd (upd H x (.ins (cS K) dx (putF "heads" (.ref t) []))) x (.ins (cS K) dx (putF "block_size" (.int (s : Nat)) (putF "heads" (.ref t) [])))) a sch rs := rows_ne (rows_ne hrows hx) upd_same
  refine ⟨_, rfl, f, dxf, _, rfl, hf2 _ _, f, dxf, t, a, rs.map V.ref, rfl, hf2 _ _, hrw2.1, _, rfl, ?_, _, rfl, x, cS K, dx, _, rfl, upd_same, E.cl_Sheet, E.no_Sheet_total, (by show 2 < 1000; decide), ?_⟩
  · rw [List.length_map]
    have := hrows.2.1
    omega
  refine ⟨_, rfl, x, cS K, dx, _, rfl, upd_same, E.cl_Sheet, E.no_Sheet_made, (by show 3 < 1000; decide), ?_⟩
  refine ⟨_, rfl, x, cS K, dx, _, rfl, upd_same, E.cl_Sheet, E.no_Sheet_opened, (by show 4 < 1000; decide), ?_⟩
  rw [List.length_map]
  generalize hH0 : upd (upd (upd (upd (upd H x _) x _) x _) x _) x _ = H0
  have hx0 : H0 x = some (.ins (cS K) dx (putF "opened" (.bl true) (putF "made" (.int 0) (putF "total" (.int (rs.length : Nat)) (putF "block_size" (.int (s : Nat)) (putF "heads" (.ref t) [])))))) := by
    rw [← hH0]; exact upd_same
  have sm0 : ∀ b o, H b = some o → b ≠ x → H0 b = some o := fun b o e nb => by
    rw [← hH0, upd_ne nb, upd_ne nb, upd_ne nb, upd_ne nb, upd_ne nb]; exact e
  have sm0' : ∀ b o, H0 b = some o → b ≠ x → H b = some o := fun b o e nb => by
    rw [← hH0, upd_ne nb, upd_ne nb, upd_ne nb, upd_ne nb, upd_ne nb] at e; exact e
  have hF0 : FrAt K H0 f t a sch rs := by
    rw [← hH0]
    exact fr_ne (fr_ne (fr_ne (fr_ne (fr_ne ⟨⟨dxf, hf⟩, hsch, hrows⟩ hfx hx) hfx upd_same) hfx upd_same) hfx upd_same) hfx upd_same
  have hd0 : RDom ρ H0 := by
    rw [← hH0]
    exact ((((hd.upd mu_ins).upd mu_ins).upd mu_ins).upd mu_ins).upd mu_ins
  clear hH0
  have hn : rs.length ≤ 1000 := hrows.2.1
  obtain ⟨⟨dxf0, hf0⟩, hsch0, hrows0⟩ := hF0
  obtain ⟨ps, ht0, hlen, hps⟩ := id hsch0
  refine ⟨_, rfl, x, cS K, dx, _, _, rfl, hx0, E.cl_Sheet, E.no_Sheet_heads, by kernel_rfl, t, rfl, ⟨_, SqT.of ht0⟩, fun D hD => ?_⟩
  have nxD : x ≠ D := ne_of_none hx0 hD
  refine lc_it (walk_tup (K := K) (a := t) (xs := ps.map V.ref)) (fun i H1 => Same H0 H1 ∧ ∃ (ρ1 : Rls) (g : Nat → Nat → Addr) (col : Nat → Addr), Frm ρ H0 ρ1 H1 ∧ RDom ρ1 H1 ∧ ρ1 D = none ∧ H1 D = some (.lst (rowV col i)) ∧
      (∀ c, c < i → ρ1 (col c) = some (.col x c) ∧ H1 (col c) = some (.lst (rowV (g c) (nbOf s rs.length)))) ∧ (∀ c j, c < i → j < nbOf s rs.length → BlAt K H1 ρ1 (g c j) ⟨cellsAt s rs.length j, [x], c, j⟩) ∧ (∀ c j, c < i → j < nbOf s rs.length → H0 (g c j) = none))
    ⟨Same.upd hD, ρ, fun _ _ => 0, fun _ => 0, Frm.same (Same.upd hD), hd0.same (Same.upd hD), hd0.no_new hD, upd_same, fun c hc => absurd hc (Nat.not_lt_zero c), fun c _ hc => absurd hc (Nat.not_lt_zero c), fun c _ hc => absurd hc (Nat.not_lt_zero c)⟩
    (fun i H1 _ ⟨s1, _⟩ => SqT.of (s1 _ _ ht0)) ?_ ?_
  · rintro i y H1 H2 hi ⟨s1, ρ1, g, col, f1, d1, r1, e1, c1, b1, g1⟩ ⟨rfl, hy⟩
    rw [List.length_map] at hi
    have hi2 : i < sch.length := by omega
    obtain ⟨p, hp⟩ : ∃ p, ps[i]? = some p := ⟨ps[i], List.getElem?_eq_getElem hi⟩
    obtain ⟨nk, hc⟩ : ∃ c, sch[i]? = some c := ⟨sch[i], List.getElem?_eq_getElem hi2⟩
    rw [List.getElem?_map, hp] at hy
    cases hy
    refine ⟨p, _, rfl, SqT.of (s1 _ _ (hps i p nk hp hc)), rfl, _, _, rfl, _, _, rfl, rfl, rfl, yesT ?_⟩
    refine ⟨_, rfl, f, dxf0, _, rfl, s1 _ _ hf0, rfl, _, rfl, f, dxf0, t, a, sch, rs, i, nk, rfl, s1 _ _ hf0, hsch0.same s1, ok, hrows0.same s1, hc, fun T us H3 s3 hT hus => ?_⟩
    refine ⟨_, rfl, _, rfl, T, x, us, s, i, ρ1, rfl, hT, by omega, hs1, hs2, d1.same s3, fun l g' ρ' H4 s4 f4 d4 r4 hl e4 b4 g4 => ?_⟩
    rw [hus] at e4 b4 g4
    have hD3 := s3 _ _ e1
    have hDl : D ≠ l := ne_of_none hD3 hl
    have hρD : ρ' D = none := (f4.fr D _ hD3 r1).2
    have hc2 : ∀ c, c < i → col c ≠ l := fun c hc z => by
      have := (c1 c hc).2
      rw [z] at this
      rw [s3 _ _ this] at hl
      cases hl
    refine ⟨rowV col i, s4 _ _ hD3, by rw [rowV_len]; have := sizeLine_eq; have := ok.few; omega, ?_⟩
    have s14 : Same H0 H4 := (s1.trans s3).trans s4
    have hDx : ∀ o, Same H0 (upd H4 D o) := fun o b u e => by rw [upd_ne (ne_of_none e hD)]; exact s14 _ _ e
    have lH0 : H0 l = none := by
      cases e : H0 l with
      | none => rfl
      | some o => rw [s3 _ _ (s1 _ _ e)] at hl; cases hl
    have keepD : ∀ {o}, ∀ (b : Addr) (u : HO), H4 b = some u → (∃ r, (setR ρ' l (.col x i)) b = some r ∧ r ≠ .pool) → (upd H4 D o) b = some u := fun b u e ⟨r, hr', _⟩ => by
      rw [upd_ne (fun z => by rw [z, setR_ne hDl, hρD] at hr'; cases hr')]; exact e
    have upl : ∀ (b : Addr) (r : Rl), ρ' b = some r → setR ρ' l (.col x i) b = some r := fun b r e => by
      rw [setR_ne (fun z => by rw [z, r4] at e; cases e)]; exact e
    refine ⟨hDx _, setR ρ' l (.col x i), fun c => if c = i then g' else g c, fun c => if c = i then l else col c, ⟨fun b r e => upl b r (f4.up _ _ (f1.up _ _ e)), fun b o e n => ⟨hDx _ _ _ e, ?_⟩⟩, ?_, by rw [setR_ne hDl]; exact hρD, ?_, ?_, ?_, ?_⟩
    · rw [setR_ne (ne_of_none e lH0)]
      exact (f4.fr b o ((s1.trans s3) _ _ e) (f1.fr b o e n).2).2
    · refine RDom.set (d4.upd mu_lst) (o := .lst (rowV g' (nbOf s rs.length))) ?_ mu_lst
      rw [upd_ne (Ne.symm hDl)]; exact e4
    · rw [upd_same, rowV_succ, if_pos rfl, rowV_congr (f := col) (g := fun j => if j = i then l else col j) fun j hj => by show col j = if j = i then l else col j; rw [if_neg (by omega)]]
    · intro c hc
      by_cases hci : c = i
      · subst hci
        show setR ρ' l (.col x c) (if c = c then l else col c) = _ ∧ upd H4 D _ (if c = c then l else col c) = some (.lst (rowV (if c = c then g' else g c) _))
        rw [if_pos rfl, if_pos rfl, setR_same, upd_ne (Ne.symm hDl)]
        exact ⟨rfl, e4⟩
      · show setR ρ' l (.col x i) (if c = i then l else col c) = _ ∧ upd H4 D _ (if c = i then l else col c) = some (.lst (rowV (if c = i then g' else g c) _))
        rw [if_neg hci, if_neg hci]
        obtain ⟨k1, k2⟩ := c1 c (by omega)
        have k3 := f4.up _ _ k1
        refine ⟨upl _ _ k3, ?_⟩
        rw [upd_ne (fun z => by rw [z, hρD] at k3; cases k3)]
        exact s4 _ _ (s3 _ _ k2)
    · intro c j hc hj
      by_cases hci : c = i
      · subst hci
        show BlAt K _ _ ((if c = c then g' else g c) j) _
        rw [if_pos rfl]
        exact ((b4 j hj).up upl).keep keepD
      · show BlAt K _ _ ((if c = i then g' else g c) j) _
        rw [if_neg hci]
        have k1 := (b1 c j (by omega) hj).up (ρ' := setR ρ' l (.col x i)) fun b r e => upl b r (f4.up _ _ e)
        exact k1.keep fun b u e hr' => keepD b u (s4 _ _ (s3 _ _ e)) hr'
    · intro c j hc hj
      by_cases hci : c = i
      · show H0 ((if c = i then g' else g c) j) = none
        rw [if_pos hci]
        cases e : H0 (g' j) with
        | none => rfl
        | some o => have := g4 j hj; rw [s3 _ _ (s1 _ _ e)] at this; cases this
      · show H0 ((if c = i then g' else g c) j) = none
        rw [if_neg hci]; exact g1 c j (by omega) hj
  · rintro H1 ⟨s1, ρ1, g, col, f1, d1, r1, e1, c1, b1, g1⟩
    rw [List.length_map, hlen] at e1 c1 b1 g1
    have rx : ρ1 x = none := (f1.fr x _ hx0 hρ).2
    refine ⟨_, rfl, x, cS K, dx, _, rfl, s1 _ _ hx0, E.cl_Sheet, E.no_Sheet_parts, (by show 5 < 1000; decide), ?_⟩
    rw [sf_new]
    have up3 : ∀ (b : Addr) (r : Rl), ρ1 b = some r → setR (setR ρ1 D (.parts x)) x .sheet b = some r := fun b r e => by
      rw [setR_ne (fun z => by rw [z, rx] at e; cases e), setR_ne (fun z => by rw [z, r1] at e; cases e)]; exact e
    have kp : ∀ (b : Addr) (u : HO) (o : HO), H1 b = some u → b ≠ x → (upd H1 x o) b = some u := fun b u o e nb => by rw [upd_ne nb]; exact e
    refine q g _ (setR (setR ρ1 D (.parts x)) x .sheet) ⟨fun b o e nb => by rw [upd_ne nb]; exact s1 _ _ (sm0 _ _ e nb), fun b r e => up3 b r (f1.up _ _ e), fun b o e nb n => ?_, ?_, ?_, ?_, ?_⟩
    · have e0 := sm0 b o e nb
      rw [setR_ne nb, setR_ne (ne_of_none e0 hD)]
      exact (f1.fr b o e0 n).2
    · refine RDom.set (RDom.set (d1.upd mu_ins) (o := .lst (rowV col sch.length)) ?_ mu_lst) upd_same mu_ins
      rw [upd_ne (Ne.symm nxD)]; exact e1
    · refine ⟨setR_same, dx, D, col, upd_same, by rw [setR_ne (Ne.symm nxD), setR_same], by rw [upd_ne (Ne.symm nxD)]; exact e1, fun c hc => ?_⟩
      obtain ⟨k1, k2⟩ := c1 c hc
      exact ⟨up3 _ _ k1, kp _ _ _ k2 fun z => by rw [z, rx] at k1; cases k1⟩
    · intro c j hc hj
      have k1 := b1 c j hc hj
      obtain ⟨ro, dy, lc, lh, cs, a1, a2, a3, a4, a5, a6⟩ := k1
      refine ⟨up3 _ _ ro, dy, lc, lh, cs, kp _ _ _ a1 (fun z => by rw [z, rx] at ro; cases ro), up3 _ _ a2, kp _ _ _ a3 (fun z => by rw [z, rx] at a2; cases a2), a4, up3 _ _ a5, kp _ _ _ a6 fun z => by rw [z, rx] at a5; cases a5⟩
    · intro c j hc hj
      have k1 := g1 c j hc hj
      cases e : H (g c j) with
      | none => rfl
      | some o =>
        by_cases hgx : g c j = x
        · rw [hgx, hx0] at k1; cases k1
        · rw [sm0 _ _ e hgx] at k1; cases k1
end
end K7
/-! Sheet: copies, check_open, place_of, own_block. -/
namespace K7
open PySem PySem.Spec PyProof.Rows L2
/-! ### as they are thought of -/
theorem Own.ok {wide s : Nat} {w w' : Wd} {p b' : Addr} {c j : Nat} (ok : WOk wide s w) (h : Own w p c j w' b') (hin : ∀ q, w.sh p = some q → c < wide ∧ j < nbOf s q.tot) : WOk wide s w' := by
  obtain ⟨q, k, hq, hk, h⟩ := h
  rcases h with ⟨_, rfl, _⟩ | ⟨_, hn, rfl⟩
  · exact ok
  have hbb : q.g c j ≠ b' := fun z => by rw [z, hn] at hk; cases hk
  refine ⟨fun p' q' hp' c' j' hc' hj' => ?_, fun b2 k2 h2 x hx => ?_, fun b2 k2 h2 => ?_, fun b2 k2 h2 => ?_⟩
  · by_cases hpp : p' = p
    · subst hpp
      have hp2 : setA w.sh p' { q with made := q.made + 1, g := setG q.g c j b' } p' = some q' := hp'
      rw [setA_same] at hp2
      cases hp2
      obtain ⟨hs, e1, e2⟩ := ok.gr p' q hq c' j' hc' hj'
      by_cases hcj : c' = c ∧ j' = j
      · obtain ⟨rfl, rfl⟩ := hcj
        rw [hk] at e1
        cases e1
        refine ⟨[p'], ?_, List.mem_singleton.mpr rfl⟩
        show setA (setA w.bl (q.g c' j') _) b' _ (setG q.g c' j' b' c' j') = _
        rw [setG_same, setA_same]
      · refine ⟨hs, ?_, e2⟩
        show setA (setA w.bl (q.g c j) _) b' _ (setG q.g c j b' c' j') = _
        rw [setG_ne hcj, setA_ne (fun z => by rw [z, hn] at e1; cases e1), setA_ne ?_]
        · exact e1
        · intro z
          rw [z, hk] at e1
          cases e1
          obtain ⟨hs0, e3, _⟩ := ok.gr p' q hq c j (hin q hq).1 (hin q hq).2
          rw [hk] at e3
          have e4 := Option.some.inj e3
          injection e4 with _ _ i1 i2
          exact hcj ⟨i1, i2⟩
    · have hp2 : setA w.sh p { q with made := q.made + 1, g := setG q.g c j b' } p' = some q' := hp'
      rw [setA_ne hpp] at hp2
      obtain ⟨hs, e1, e2⟩ := ok.gr p' q' hp2 c' j' hc' hj'
      have n1 : q'.g c' j' ≠ b' := fun z => by rw [z, hn] at e1; cases e1
      by_cases hz : q'.g c' j' = q.g c j
      · have e1' := e1
        rw [hz, hk] at e1'
        cases e1'
        refine ⟨hs.erase p, ?_, (List.mem_erase_of_ne hpp).mpr e2⟩
        show setA (setA w.bl (q.g c j) _) b' _ (q'.g c' j') = _
        rw [setA_ne n1, hz, setA_same]
      · refine ⟨hs, ?_, e2⟩
        show setA (setA w.bl (q.g c j) _) b' _ (q'.g c' j') = _
        rw [setA_ne n1, setA_ne hz]
        exact e1
  · have ex : ∀ y, (∃ q0, w.sh y = some q0) → ∃ q0, setA w.sh p { q with made := q.made + 1, g := setG q.g c j b' } y = some q0 := fun y ⟨q0, e⟩ => by
      by_cases hy : y = p
      · exact ⟨_, by rw [hy, setA_same]⟩
      · exact ⟨q0, by rw [setA_ne hy]; exact e⟩
    have h2' : setA (setA w.bl (q.g c j) { k with hs := k.hs.erase p }) b' ⟨k.n, [p], c, j⟩ b2 = some k2 := h2
    by_cases hb : b2 = b'
    · rw [hb, setA_same] at h2'
      cases h2'
      rw [List.mem_singleton.mp hx]
      exact ex p ⟨q, hq⟩
    · rw [setA_ne hb] at h2'
      by_cases hb2 : b2 = q.g c j
      · rw [hb2, setA_same] at h2'
        cases h2'
        exact ex x (ok.hd _ k hk x (List.mem_of_mem_erase hx))
      · rw [setA_ne hb2] at h2'
        exact ex x (ok.hd b2 k2 h2' x hx)
  · have h2' : setA (setA w.bl (q.g c j) { k with hs := k.hs.erase p }) b' ⟨k.n, [p], c, j⟩ b2 = some k2 := h2
    by_cases hb : b2 = b'
    · rw [hb, setA_same] at h2'
      cases h2'
      exact (by decide : 1 ≤ 1000)
    · rw [setA_ne hb] at h2'
      by_cases hb2 : b2 = q.g c j
      · rw [hb2, setA_same] at h2'
        cases h2'
        exact Nat.le_trans (List.length_erase_le ..) (ok.few _ k hk)
      · rw [setA_ne hb2] at h2'
        exact ok.few b2 k2 h2'
  · have h2' : setA (setA w.bl (q.g c j) { k with hs := k.hs.erase p }) b' ⟨k.n, [p], c, j⟩ b2 = some k2 := h2
    by_cases hb : b2 = b'
    · rw [hb, setA_same] at h2'
      cases h2'
      exact List.nodup_cons.mpr ⟨by simp, List.nodup_nil⟩
    · rw [setA_ne hb] at h2'
      by_cases hb2 : b2 = q.g c j
      · rw [hb2, setA_same] at h2'
        cases h2'
        exact (ok.nd _ k hk).erase p
      · rw [setA_ne hb2] at h2'
        exact ok.nd b2 k2 h2'
def oneIf (b : Bool) : Int := if b then 1 else 0
theorem sum_cnt (w : Wd) : ∀ hs : List Addr, (hs.map fun x => oneIf (w.isOpen x)).sum = ((w.cnt hs : Nat) : Int)
  | [] => rfl
  | x :: hs => by
    rw [List.map_cons, List.sum_cons, sum_cnt w hs]
    unfold Wd.cnt
    rw [List.filter_cons]
    cases h : w.isOpen x
    · simp [oneIf]
    · simp only [oneIf, if_true, List.length_cons]
      push_cast
      omega
theorem iteF' {A B : Prop} {b : Bool} (e : b = false) (h : B) : if b = true then A else B := by rw [e]; exact iteF h
theorem iteT' {A B : Prop} {b : Bool} (e : b = true) (h : A) : if b = true then A else B := by rw [e]; exact iteT h
theorem ixN_at {n j : Nat} (hj : j < n) : ixN n (j : Int) = some j := by
  unfold ixN
  rw [if_pos (by omega), if_pos (by omega), Int.toNat_natCast]
section
variable {K : PySem.W.Frag} {t : Addr} {wide s : Nat} {H H' : Hp} {ρ ρ' : Rls} {p b : Addr} {q : Sht} {k : Blk}
theorem ShAt.keepR (h : ShAt K t wide s H ρ p q) (u : ∀ a r, ρ a = some r → ρ' a = some r) (e : ∀ a o r, H a = some o → ρ a = some r → ((r = .sheet ∧ a = p) ∨ r = .parts p ∨ ∃ c, r = .col p c) → H' a = some o) : ShAt K t wide s H' ρ' p q := by
  obtain ⟨ro, dx, lp, col, a1, a2, a3, a4⟩ := h
  exact ⟨u _ _ ro, dx, lp, col, e _ _ _ a1 ro (.inl ⟨rfl, rfl⟩), u _ _ a2, e _ _ _ a3 a2 (.inr (.inl rfl)), fun c hc => ⟨u _ _ (a4 c hc).1, e _ _ _ (a4 c hc).2 (a4 c hc).1 (.inr (.inr ⟨c, rfl⟩))⟩⟩
theorem BlAt.keepR (h : BlAt K H ρ b k) (u : ∀ a r, ρ a = some r → ρ' a = some r) (e : ∀ a o r, H a = some o → ρ a = some r → ((r = .block k.c k.j ∧ a = b) ∨ r = .cells b ∨ r = .held b) → H' a = some o) : BlAt K H' ρ' b k := by
  obtain ⟨ro, dx, lc, lh, cs, a1, a2, a3, a4, a5, a6⟩ := h
  exact ⟨u _ _ ro, dx, lc, lh, cs, e _ _ _ a1 ro (.inl ⟨rfl, rfl⟩), u _ _ a2, e _ _ _ a3 a2 (.inr (.inl rfl)), a4, u _ _ a5, e _ _ _ a6 a5 (.inr (.inr rfl))⟩
end
section
variable {P : Program} {w : World} {K : PySem.W.Frag} {mg : Str → Option Value} {base : Heap}
variable (K : PySem.W.Frag) (t : Addr) (wide s : Nat)
def spCopies : Sp := fun vs H Q _ => ∃ (p : Addr) (ρ : Rls) (w : Wd) (q : Sht), vs = [.ref p] ∧ WAt K t wide s H ρ w ∧ w.sh p = some q ∧ Q (.int (q.made : Nat)) H
def spOpen : Sp := fun vs H Q _ => ∃ (p : Addr) (ρ : Rls) (w : Wd) (q : Sht), vs = [.ref p] ∧ WAt K t wide s H ρ w ∧ w.sh p = some q ∧ q.opn = true ∧ Q .non H
def spPlace (sch : Sch) : Sp := fun vs H Q _ => ∃ (p : Addr) (ρ : Rls) (w : Wd) (q : Sht) (c : Nat) (nk : Str × Str), vs = [.ref p, .str nk.1] ∧ WAt K t wide s H ρ w ∧ w.sh p = some q ∧ SchAt H t sch ∧ SchOk sch ∧ sch[c]? = some nk ∧
  ∀ H', Same H H' → Q (.int (c : Nat)) H'
def spOwn : Sp := fun vs H Q _ => ∃ (p : Addr) (ρ : Rls) (w : Wd) (q : Sht) (c j : Nat), vs = [.ref p, .int (c : Nat), .int (j : Nat)] ∧ WAt K t wide s H ρ w ∧ w.sh p = some q ∧ c < wide ∧ j < nbOf s q.tot ∧
  ∀ w' b ρ' H', Own w p c j w' b → WAt K t wide s H' ρ' w' → Frm ρ H ρ' H' → Q (.ref b) H'
end
section
variable {P : Program} {w0 : World} {K : PySem.W.Frag} {mg : Str → Option Value} {base : Heap} {t : Addr} {wide s : Nat}
theorem ok_copies (E : Hd K mg) : Prp P w0 K mg base 1 (cS K) "copies" (spCopies K t wide s) := by
  refine prp_mk E.cl_Sheet E.f_Sheet_copies c_Sheet_copies (fun _ _ _ _ _ _ us hl => match us, hl with | [_], _ => rfl) (fun vs H Q E ⟨p, ρ, w, q, e, _⟩ => by rw [e]; rfl) ?_
  intro f cdv A outer s0 H vs Q E' hr h
  obtain ⟨p, ρ, w, q, rfl, W, hp, qq⟩ := h
  obtain ⟨ro, dx, lp, col, hpo, rlp, hlp, hcol⟩ := W.sh p q hp
  refine ⟨_, pss_one (ps_ret (pe_fld (pv 0) rfl)), ?_⟩
  exact ⟨_, rfl, p, cS K, dx, _, _, rfl, hpo, E.cl_Sheet, E.no_Sheet_made, sf_made, qq⟩
theorem ok_check_open (E : Hd K mg) : Met P w0 K mg base 1 (cS K) "check_open" (spOpen K t wide s) := by
  refine met_mk E.cl_Sheet E.f_Sheet_check_open c_Sheet_check_open (fun _ _ _ _ _ _ us hl => match us, hl with | [_], _ => rfl) (fun vs H Q E ⟨p, ρ, w, q, e, _⟩ => by rw [e]; rfl) ?_
  intro f cdv A outer s0 H vs Q E' hr h
  obtain ⟨p, ρ, w, q, rfl, W, hp, ho, qq⟩ := h
  obtain ⟨ro, dx, lp, col, hpo, rlp, hlp, hcol⟩ := W.sh p q hp
  refine ⟨_, pss_one (ps_if (pt_not (pt_val (pe_fld (pv 0) rfl))) pss_never pss_nil), ?_⟩
  refine ⟨_, rfl, p, cS K, dx, _, _, rfl, hpo, E.cl_Sheet, E.no_Sheet_opened, sf_opened, true, ?_, iteF qq⟩
  rw [ho]
theorem ok_place_of (E : Hd K mg) {sch : Sch} : Met P w0 K mg base 1 (cS K) "place_of" (spPlace K t wide s sch) := by
  refine met_mk E.cl_Sheet E.f_Sheet_place_of c_Sheet_place_of (fun _ _ _ _ _ _ us hl => match us, hl with | [_, _], _ => rfl) (fun vs H Q E ⟨p, ρ, w, q, c, nk, e, _⟩ => by rw [e]; rfl) ?_
  intro f cdv A outer s0 H vs Q E' hr h
  obtain ⟨p, ρ, w, q, c, nk, rfl, W, hp, ⟨ps, ht, hlen, hps⟩, ok, hc, qq⟩ := h
  obtain ⟨ro, dx, lp, col, hpo, rlp, hlp, hcol⟩ := W.sh p q hp
  refine ⟨_, pss_cons (ps_for PassesOwn.never rfl (pi_enumT rfl E.b_enumerate (pa_cons (pe_fld (pv 0) rfl) pa_nil))
    (pg_tup rfl (pgs_cons (pg_name (i := 2) c_Sheet_place_of.nd rfl (Or.inl rfl)) (pgs_cons (pg_tup rfl (pgs_cons (pg_name (i := 3) c_Sheet_place_of.nd rfl (Or.inl rfl)) (pgs_cons (pg_name (i := 4) c_Sheet_place_of.nd rfl (Or.inl rfl)) pgs_nil))) pgs_nil)))
    (pss_one (ps_if (pt_cmpR op_eq (pv 3) (pv 1) (nomark _)) (pss_one (ps_ret (pv 2))) pss_nil))) pss_never, ?_⟩
  have hcl : c < sch.length := (List.getElem?_eq_some_iff.mp hc).1
  refine ⟨_, rfl, p, cS K, dx, _, _, rfl, hpo, E.cl_Sheet, E.no_Sheet_heads, sf_heads, t, _, rfl, SqT.of ht, for_it (walk_enumT (K := K) (a := t) (xs := ps.map V.ref))
    (fun i σ H1 => i ≤ c ∧ ∃ v2 v3 v4 : Option V, σ = [some (.ref p), some (.str nk.1), v2, v3, v4] ∧ Same H H1) ⟨Nat.zero_le _, none, none, none, rfl, Same.refl H⟩ (fun i σ H1 _ ⟨_, _, _, _, _, s1⟩ => SqT.of (s1 _ _ ht)) ?_ ?_⟩
  · rintro i x σ H1 H2 hi ⟨hic, v2, v3, v4, rfl, s1⟩ ⟨T, x1, y1, rfl, hT, rfl, e1, e2⟩
    cases e1
    rw [List.length_map] at hi
    have hi2 : i < sch.length := by omega
    obtain ⟨a, ha⟩ : ∃ p, ps[i]? = some p := ⟨ps[i], List.getElem?_eq_getElem hi⟩
    obtain ⟨nk2, hc2⟩ : ∃ c, sch[i]? = some c := ⟨sch[i], List.getElem?_eq_getElem hi2⟩
    have e2' : (ps.map V.ref)[i]? = some y1 := e2
    rw [List.getElem?_map, ha] at e2'
    cases e2'
    have s2 : Same H (upd H1 T (.tup [.int (i : Nat), .ref a])) := s1.trans (Same.upd hT)
    refine ⟨T, _, rfl, SqT.of upd_same, rfl, _, _, rfl, _, _, rfl, a, _, rfl, SqT.of (s2 _ _ (hps i a nk2 ha hc2)), rfl, _, _, rfl, _, _, rfl, rfl, rfl, ?_⟩
    refine ⟨_, rfl, _, rfl, rfl, _, rfl, ?_⟩
    by_cases hic2 : i = c
    · subst hic2
      rw [hc] at hc2
      cases hc2
      refine iteT' (decide_eq_true rfl) ⟨_, rfl, qq _ s2⟩
    · refine iteF' (decide_eq_false fun z => ?_) ⟨by omega, _, _, _, rfl, s2⟩
      have zz : nk2.1 = nk.1 := by injection z
      exact hic2 (nd_ix ok.nd (i := i) (j := c) (x := nk.1) (by rw [List.getElem?_map, hc2]; exact congrArg some zz) (by rw [List.getElem?_map, hc]; rfl))
  · rintro σ H1 ⟨hic, _⟩
    rw [List.length_map] at hic
    omega
/-! own_block -/
def rIsO : List V → Hp → VK → Prop := fun xs H Q => (∃ i, xs = [.int i] ∧ Q (.int i) H) ∨ ∃ k, xs = [.bl k] ∧ Q (.int (if k then 1 else 0)) H
theorem call_intO {X : Cx} : CallR X (.type "int") rIsO := call_int1
theorem open_of {w : Wd} {x : Addr} {q : Sht} (h : w.sh x = some q) : w.isOpen x = q.opn := by unfold Wd.isOpen; rw [h]
theorem ok_own_block (E : Hd K mg) : Met P w0 K mg base 3 (cS K) "own_block" (spOwn K t wide s) := by
  refine met_mk E.cl_Sheet E.f_Sheet_own_block c_Sheet_own_block (fun _ _ _ _ _ _ us hl => match us, hl with | [_, _, _], _ => rfl) (fun vs H Q E ⟨p, ρ, w, q, c, j, e, _⟩ => by rw [e]; rfl) ?_
  intro f cdv A outer s0 H vs Q E' hr h
  obtain ⟨p, ρ, w, q, c, j, rfl, W, hp, hc, hj, qq⟩ := h
  obtain ⟨ro, dx, lp, col, hpo, rlp, hlp, hcol⟩ := W.sh p q hp
  obtain ⟨rcol, hcolo⟩ := hcol c hc
  obtain ⟨hs, hk, hmem⟩ := W.ok.gr p q hp c j hc hj
  obtain ⟨rb, dxb, lc, lh, cs, hb, rlc, hlc, hcs, rlh, hlh⟩ := W.bl _ _ hk
  have MB : Mak P w0 K mg base 1 "Block" (cB K) (spBlock K) [] := mk_block E
  have hfew : hs.length ≤ 1000 := W.ok.few _ _ hk
  have hsl := sizeLine_eq
  refine ⟨_, pss_cons (ps_set (i := 3) c_Sheet_own_block.nd rfl (Or.inl rfl) (pe_ix ix_list (pe_ix ix_list (pe_fld (pv 0) rfl) (pv 1) (fun _ _ => rfl)) (pv 2) (fun _ _ => rfl)))
    (pss_cons (ps_if (pt_cmpR op_gt (pe_b (cr_sum rfl) E.b_sum (pa_cons (pe_lc (own := [("sheet", 4)]) (g := gName 4) (tt := tYes) (te := tCB rIsO (tCons (tFld K (tVar 4) "opened") tNil)) rfl c_Sheet_own_block.nd (pi_list (pe_fld (pv 3) rfl))
        (blkOk_by (N := n_Sheet_own_block) (sc := defScope s_Sheet_own_block) (by decide +kernel)) (fun _ _ _ _ _ => pg_name (i := 4) c_Sheet_own_block.nd rfl (Or.inl rfl)) (fun _ _ _ _ _ => pts_nil)
        (fun _ _ _ _ _ => pe_ty call_intO E.b_int (pa_cons (pe_fld (pv 4) rfl) pa_nil))) pa_nil)) pe_int (nomark _))
      (pss_cons (ps_expr (pe_bm PySem.F.plainAttrs_list PySem.F.slot_list_remove PySem.F.type_list_remove (mt_removeI E.eq_Sheet hr.units) (pe_fld (pv 3) rfl) (pa_cons (pv 0) pa_nil)))
      (pss_cons (ps_set (i := 3) c_Sheet_own_block.nd rfl (Or.inl rfl) (pe_new MB hr (pa_cons (pe_ty call_listK E.b_list (pa_cons (pe_fld (pv 3) rfl) pa_nil)) (pa_cons (pv 0) pa_nil))))
      (pss_cons (ps_asg (pv 3) (pg_sub (pe_ix ix_list (pe_fld (pv 0) rfl) (pv 1) (fun _ _ => rfl)) (pv 2) set_list))
      (pss_one (ps_fldaug (pv 0) pe_int in_add))))) pss_nil)
    (pss_one (ps_ret (pv 3)))), ?_⟩
  refine ⟨_, rfl, p, cS K, dx, _, _, rfl, hpo, E.cl_Sheet, E.no_Sheet_parts, sf_parts, _, rfl, lp, _, _, _, rfl, rfl, SqL.of hlp, atI_nat (rowV_at hc), _, rfl, col c, _, _, _, rfl, rfl, SqL.of hcolo, atI_nat (rowV_at hj), ?_⟩
  refine ⟨_, rfl, q.g c j, cB K, dxb, _, _, rfl, hb, E.cl_Block, E.no_Block_sheets, bf_sheets, lh, rfl, ⟨_, SqL.of hlh⟩, fun D hD => ?_⟩
  refine lc_it (walk_list (K := K) (a := lh) (xs := hs.map V.ref)) (fun i H1 => Same H H1 ∧ H1 D = some (.lst (((hs.take i).map fun x => oneIf (w.isOpen x)).map V.int))) ⟨Same.upd hD, upd_same⟩ (fun i H1 _ ⟨s1, _⟩ => SqL.of (s1 _ _ hlh)) ?_ ?_
  · rintro i x H1 H2 hi ⟨s1, h1⟩ ⟨rfl, hx⟩
    rw [List.length_map] at hi
    obtain ⟨y, hy⟩ : ∃ y, hs[i]? = some y := ⟨hs[i], List.getElem?_eq_getElem hi⟩
    rw [List.getElem?_map, hy] at hx
    cases hx
    obtain ⟨qy, hqy⟩ := W.ok.hd _ _ hk y (List.mem_of_getElem? hy)
    obtain ⟨_, dxy, _, _, hyo, _⟩ := W.sh y qy hqy
    refine ⟨rfl, yesT ⟨_, rfl, y, cS K, dxy, _, _, rfl, s1 _ _ hyo, E.cl_Sheet, E.no_Sheet_opened, sf_opened, .inr ⟨qy.opn, rfl, _, h1, ?_, same_new hD s1 _, ?_⟩⟩⟩
    · rw [List.length_map, List.length_map, List.length_take]
      omega
    · rw [upd_same, List.take_succ, hy]
      simp only [Option.toList, List.map_append, List.map_cons, List.map_nil, oneIf, open_of hqy]
  rintro H1 ⟨s1, h1⟩
  rw [List.length_map, List.take_length] at h1
  refine ⟨D, _, rfl, SqL.of h1, _, _, rfl, rfl, decide (1 < w.cnt hs), ?_, ?_⟩
  · rw [sum_cnt]
    exact congrArg V.bl (decide_eq_decide.mpr (by omega))
  by_cases hcnt : 1 < w.cnt hs
  · refine iteT' (decide_eq_true hcnt) ?_
    -- as it stood, in H1
    have hb1 := s1 _ _ hb
    have hlh1 := s1 _ _ hlh
    have hins : ∀ y ∈ hs, InsOf (cS K) H1 y := fun y hy => by
      obtain ⟨qy, hqy⟩ := W.ok.hd _ _ hk y hy
      obtain ⟨_, dxy, _, _, hyo, _⟩ := W.sh y qy hqy
      exact ⟨_, _, s1 _ _ hyo⟩
    refine ⟨_, rfl, q.g c j, cB K, dxb, _, _, rfl, hb1, E.cl_Block, E.no_Block_sheets, bf_sheets, .inl ⟨rfl, _, SqL.of hlh1⟩, _, rfl, lh, hs, p, rfl, rfl, hlh1, hmem, hins, ?_⟩
    -- the new block
    have d1 : RDom ρ H1 := W.dom.same s1
    have d2 : RDom ρ (upd H1 lh (.lst ((hs.erase p).map V.ref))) := d1.upd mu_lst
    have n2 : ∀ {a : Addr} {r : Rl}, ρ a = some r → r ≠ .held (q.g c j) → a ≠ lh := fun h hn z => by rw [z, rlh] at h; cases h; exact hn rfl
    have hb2 := hb1
    have hlc1 := s1 _ _ hlc
    refine ⟨_, rfl, q.g c j, cB K, dxb, _, _, rfl, by rw [upd_ne (n2 rb (by intro z; cases z))]; exact hb1, E.cl_Block, E.no_Block_cells, bf_cells, lc, cs, rfl, .inl (SqL.of (by rw [upd_ne (n2 rlc (by intro z; cases z))]; exact hlc1)), fun lc' hlc' => ⟨_, rfl, fun x dx' hx hdx hne => ?_⟩⟩
    refine new_block hlc' hx hdx hne fun lh' H3 N => ⟨rfl, ?_⟩
    have s3 : ∀ {a : Addr} {o : HO}, H a = some o → a ≠ lh → H3 a = some o := fun e hn => N.sm _ _ (by rw [upd_ne hn]; exact s1 _ _ e)
    have hp3 := s3 hpo (n2 ro (by intro z; cases z))
    have hlp3 := s3 hlp (n2 rlp (by intro z; cases z))
    have hcol3 := s3 hcolo (n2 rcol (by intro z; cases z))
    refine ⟨_, rfl, _, rfl, p, cS K, dx, _, _, rfl, hp3, E.cl_Sheet, E.no_Sheet_parts, sf_parts, _, rfl, lp, _, _, _, rfl, rfl, SqL.of hlp3, atI_nat (rowV_at hc), _, rfl, col c, _, _, j, rfl, rfl, hcol3, ixN_at (by rw [rowV_len]; exact hj), ?_⟩
    have np : p ≠ col c := fun z => by rw [z, rcol] at ro; cases ro
    have hp4 : (upd H3 (col c) (.lst ((rowV (q.g c) (nbOf s q.tot)).set j (.ref x)))) p = some (.ins (cS K) dx (sf t s q.tot q.made q.opn lp)) := by rw [upd_ne np]; exact hp3
    refine ⟨_, rfl, p, cS K, dx, _, _, rfl, hp4, E.cl_Sheet, E.no_Sheet_made, sf_made, _, _, rfl, rfl, dx, _, hp4, (by show 6 < 1000; decide), ?_⟩
    rw [rowV_set, show ((q.made : Int) + 1) = ((q.made + 1 : Nat) : Int) from rfl, sf_putMade]
    -- what stands
    have nb : w.bl x = none := by
      cases e : w.bl x with
      | none => rfl
      | some kx =>
        obtain ⟨_, _, _, _, _, ex, _⟩ := W.bl x kx e
        have := N.x1
        by_cases hxl : x = lh
        · rw [hxl, upd_same] at this; cases this
        · rw [upd_ne hxl, s1 _ _ ex] at this; cases this
    have OWN : Own w p c j ⟨setA w.sh p { q with made := q.made + 1, g := setG q.g c j x }, setA (setA w.bl (q.g c j) { (⟨cellsAt s q.tot j, hs, c, j⟩ : Blk) with hs := hs.erase p }) x ⟨cellsAt s q.tot j, [p], c, j⟩⟩ x :=
      ⟨q, _, hp, hk, .inr ⟨hcnt, nb, rfl⟩⟩
    have rup : ∀ (a : Addr) (r : Rl), ρ a = some r → rolesB ρ lc' x lh' c j a = some r := fun a r h => N.up d2 c j h
    -- H5 against H
    have e5 : ∀ (a : Addr) (o : HO), H a = some o → a ≠ lh → a ≠ col c → a ≠ p → (upd (upd H3 (col c) (.lst (rowV (fun i => if i = j then x else q.g c i) (nbOf s q.tot)))) p (.ins (cS K) dx (sf t s q.tot (q.made + 1) q.opn lp))) a = some o := fun a o e h1 h2 h3 => by
      rw [upd_ne h3, upd_ne h2]; exact s3 e h1
    have e3 : ∀ (a : Addr) (o : HO), H3 a = some o → a ≠ col c → a ≠ p → (upd (upd H3 (col c) (.lst (rowV (fun i => if i = j then x else q.g c i) (nbOf s q.tot)))) p (.ins (cS K) dx (sf t s q.tot (q.made + 1) q.opn lp))) a = some o := fun a o e h2 h3 => by
      rw [upd_ne h3, upd_ne h2]; exact e
    have ro' := rup _ _ ro
    have rcol' := rup _ _ rcol
    refine ⟨_, rfl, qq _ x (rolesB ρ lc' x lh' c j) _ OWN ⟨((N.dom d2 c j).upd mu_lst).upd mu_ins, fun p' q' hp' => ?_, fun b' k' hb' => ?_, Own.ok W.ok OWN fun q2 e2 => by rw [hp] at e2; cases e2; exact ⟨hc, hj⟩⟩ ?_⟩
    · by_cases hpp : p' = p
      · subst hpp
        have hp2 : setA w.sh p' { q with made := q.made + 1, g := setG q.g c j x } p' = some q' := hp'
        rw [setA_same] at hp2
        cases hp2
        refine ⟨ro', dx, lp, col, upd_same, rup _ _ rlp, ?_, fun c' hc' => ⟨rup _ _ (hcol c' hc').1, ?_⟩⟩
        · exact e5 lp _ hlp (n2 rlp (by intro z; cases z)) (fun z => by rw [z, rcol] at rlp; cases rlp) (fun z => by rw [z, ro] at rlp; cases rlp)
        · by_cases hcc : c' = c
          · subst hcc
            rw [upd_ne (Ne.symm np), upd_same]
            refine congrArg (fun z => some (HO.lst z)) (rowV_congr fun i hi => ?_)
            by_cases hij : i = j
            · subst hij
              rw [if_pos rfl]
              exact setG_same.symm
            · rw [if_neg hij]
              exact (setG_ne fun z => hij z.2).symm
          · obtain ⟨k1, k2⟩ := hcol c' hc'
            have : rowV (setG q.g c j x c') (nbOf s q.tot) = rowV (q.g c') (nbOf s q.tot) := rowV_congr fun i _ => setG_ne fun z => hcc z.1
            show _ = some (HO.lst (rowV (setG q.g c j x c') (nbOf s q.tot)))
            rw [this]
            exact e5 _ _ k2 (n2 k1 (by intro z; cases z)) (fun z => by rw [z, rcol] at k1; cases k1; exact hcc rfl) (fun z => by rw [z, ro] at k1; cases k1)
      · have hp2 : setA w.sh p { q with made := q.made + 1, g := setG q.g c j x } p' = some q' := hp'
        rw [setA_ne hpp] at hp2
        refine (W.sh p' q' hp2).keepR rup fun a o r e hr' ha => ?_
        rcases ha with ⟨rfl, rfl⟩ | rfl | ⟨c', rfl⟩
        · exact e5 _ _ e (n2 hr' (by intro z; cases z)) (fun z => by rw [z, rcol] at hr'; cases hr') hpp
        · exact e5 _ _ e (n2 hr' (by intro z; cases z)) (fun z => by rw [z, rcol] at hr'; cases hr') (fun z => by rw [z, ro] at hr'; cases hr')
        · exact e5 _ _ e (n2 hr' (by intro z; cases z)) (fun z => by rw [z, rcol] at hr'; cases hr'; exact hpp rfl) (fun z => by rw [z, ro] at hr'; cases hr')
    · have hb2' : setA (setA w.bl (q.g c j) { (⟨cellsAt s q.tot j, hs, c, j⟩ : Blk) with hs := hs.erase p }) x ⟨cellsAt s q.tot j, [p], c, j⟩ b' = some k' := hb'
      by_cases hbx : b' = x
      · subst hbx
        rw [setA_same] at hb2'
        cases hb2'
        refine (N.at (ρ := ρ) c j hcs).keepR (fun _ _ h => h) fun a o r e hr' ha => ?_
        have na : a ≠ col c ∧ a ≠ p := by
          rcases ha with ⟨rfl, rfl⟩ | rfl | rfl
          · exact ⟨(fun z => by have h := rcol'; rw [← z, hr'] at h; cases h), (fun z => by have h := ro'; rw [← z, hr'] at h; cases h)⟩
          · exact ⟨(fun z => by have h := rcol'; rw [← z, hr'] at h; cases h), (fun z => by have h := ro'; rw [← z, hr'] at h; cases h)⟩
          · exact ⟨(fun z => by have h := rcol'; rw [← z, hr'] at h; cases h), (fun z => by have h := ro'; rw [← z, hr'] at h; cases h)⟩
        exact e3 a o e na.1 na.2
      · rw [setA_ne hbx] at hb2'
        by_cases hbb : b' = q.g c j
        · subst hbb
          rw [setA_same] at hb2'
          cases hb2'
          refine ⟨rup _ _ rb, dxb, lc, lh, cs, e5 _ _ hb (n2 rb (by intro z; cases z)) (fun z => by rw [z, rcol] at rb; cases rb) (fun z => by rw [z, ro] at rb; cases rb), rup _ _ rlc,
            e5 _ _ hlc (n2 rlc (by intro z; cases z)) (fun z => by rw [z, rcol] at rlc; cases rlc) (fun z => by rw [z, ro] at rlc; cases rlc), hcs, rup _ _ rlh, ?_⟩
          exact e3 lh _ (N.sm _ _ upd_same) (fun z => by rw [z, rcol] at rlh; cases rlh) (fun z => by rw [z, ro] at rlh; cases rlh)
        · rw [setA_ne hbb] at hb2'
          refine (W.bl b' k' hb2').keepR rup fun a o r e hr' ha => ?_
          rcases ha with ⟨rfl, rfl⟩ | rfl | rfl
          · exact e5 _ _ e (n2 hr' (by intro z; cases z)) (fun z => by rw [z, rcol] at hr'; cases hr') (fun z => by rw [z, ro] at hr'; cases hr')
          · exact e5 _ _ e (n2 hr' (by intro z; cases z)) (fun z => by rw [z, rcol] at hr'; cases hr') (fun z => by rw [z, ro] at hr'; cases hr')
          · exact e5 _ _ e (n2 hr' (by intro z; cases z; exact hbb rfl)) (fun z => by rw [z, rcol] at hr'; cases hr') (fun z => by rw [z, ro] at hr'; cases hr')
    · exact (((Frm.same s1).trans (Frm.upd rlh)).trans (N.frm d2 c j)).trans ((Frm.upd rcol').trans (Frm.upd ro'))
  · refine iteF' (decide_eq_false hcnt) ⟨_, rfl, ?_⟩
    exact qq w _ ρ H1 ⟨q, _, hp, hk, .inl ⟨by have : ¬ 1 < w.cnt hs := hcnt; show w.cnt hs ≤ 1; omega, rfl, rfl⟩⟩ (W.same s1) (Frm.same s1)
end
end K7
/-! Sheet: put, close, shared. -/
namespace K7
open PySem PySem.Spec PyProof.Rows L2
/-- a loop, whatever its turn is -/
theorem loop_it {J : It} {n : Nat} {G : Hp → Prop} {Y : Nat → Hp → V → Hp → Prop} (w : Walk J n G Y) {B : (Hp → Prop) → V → Hp → Prop} {H0 : Hp} {Qd : Hp → Prop} (Pv : Nat → Hp → Prop) (h0 : Pv 0 H0) (hG : ∀ i H, i ≤ n → Pv i H → G H)
    (hs : ∀ i x H H', i < n → Pv i H → Y i H x H' → B (Pv (i + 1)) x H') (hd : ∀ H, Pv n H → Qd H) :
    ∃ W : Nat → Nat → Hp → Prop, (∃ m, W 0 m H0) ∧ ∀ i m H, W i m H →
      (J.stop i H ∧ Qd H) ∨ (J.go i H ∧ ∃ Nx : Hp → Prop, (∀ H', Nx H' → ∃ m', m' < m ∧ W (i + 1) m' H') ∧ ∀ x H', J.yld i H x H' → B Nx x H') := by
  refine ⟨fun i m H => m = n - i ∧ i ≤ n ∧ Pv i H, ⟨n, by simp, Nat.zero_le _, h0⟩, ?_⟩
  rintro i m H ⟨rfl, hi, p⟩
  have q := hG i H hi p
  by_cases hlt : i < n
  · refine .inr ⟨w.goes i H hlt q, Pv (i + 1), fun H' p' => ⟨n - (i + 1), by omega, rfl, hlt, p'⟩, fun x H' y => hs i x H H' hlt p (w.yields i H x H' hlt q y)⟩
  · have e : i = n := by omega
    subst e
    exact .inl ⟨w.stops H q, hd H p⟩
/-- does the block at b know the sheet x -/
def Wd.holds (w : Wd) (b x : Addr) : Bool := match w.bl b with
  | some k => decide (x ∈ k.hs)
  | none => false
/-- what shared adds up -/
def shRow (w : Wd) (s : Nat) (q : Sht) (x : Addr) (c n : Nat) : List Int := (List.range n).map fun j => oneIf (w.holds (q.g c j) x)
def shAll (w : Wd) (s : Nat) (q : Sht) (x : Addr) (n : Nat) : List Int := (List.range n).flatMap fun c => shRow w s q x c (nbOf s q.tot)
theorem shRow_succ (w : Wd) (s : Nat) (q : Sht) (x : Addr) (c n : Nat) : shRow w s q x c (n + 1) = shRow w s q x c n ++ [oneIf (w.holds (q.g c n) x)] := by
  unfold shRow; rw [List.range_succ, List.map_append]; rfl
theorem shAll_succ (w : Wd) (s : Nat) (q : Sht) (x : Addr) (n : Nat) : shAll w s q x (n + 1) = shAll w s q x n ++ shRow w s q x n (nbOf s q.tot) := by
  unfold shAll; rw [List.range_succ, List.flatMap_append]; simp
theorem shRow_len (w : Wd) (s : Nat) (q : Sht) (x : Addr) (c n : Nat) : (shRow w s q x c n).length = n := by unfold shRow; simp
theorem shAll_len (w : Wd) (s : Nat) (q : Sht) (x : Addr) : ∀ n : Nat, (shAll w s q x n).length = n * nbOf s q.tot
  | 0 => by simp [shAll]
  | n + 1 => by rw [shAll_succ, List.length_append, shAll_len w s q x n, shRow_len, Nat.add_mul, Nat.one_mul]
theorem Own.blk {wide s : Nat} {w w' : Wd} {p b : Addr} {c j : Nat} {q : Sht} (ok : WOk wide s w) (h : Own w p c j w' b) (hp : w.sh p = some q) (hc : c < wide) (hj : j < nbOf s q.tot) : ∃ hs, w'.bl b = some ⟨cellsAt s q.tot j, hs, c, j⟩ := by
  obtain ⟨q2, k, e1, e2, h⟩ := h
  rw [hp] at e1
  cases e1
  obtain ⟨hs, e3, _⟩ := ok.gr p q hp c j hc hj
  rw [e3] at e2
  cases e2
  rcases h with ⟨_, rfl, rfl⟩ | ⟨_, _, rfl⟩
  · exact ⟨hs, e3⟩
  · exact ⟨[p], setA_same⟩
section
variable (K : PySem.W.Frag) (t : Addr) (wide s : Nat)
def spPut (sch : Sch) : Sp := fun vs H Q _ => ∃ (p : Addr) (ρ : Rls) (w : Wd) (q : Sht) (i c : Nat) (nk : Str × Str) (v : V), vs = [.ref p, .int (i : Nat), .str nk.1, v] ∧ WAt K t sch.length s H ρ w ∧ w.sh p = some q ∧ q.opn = true ∧ i < q.tot ∧ SchAt H t sch ∧ SchOk sch ∧ sch[c]? = some nk ∧ ValOk nk.2 v ∧ 1 ≤ s ∧ s ≤ 100 ∧
  ∀ w' b ρ' H', Own w p c (i / s) w' b → WAt K t sch.length s H' ρ' w' → Frm ρ H ρ' H' → Q .non H'
/-- the sheet is closed -/
def Wd.shut (w : Wd) (p : Addr) (q : Sht) : Wd := ⟨setA w.sh p { q with opn := false }, w.bl⟩
def spClose : Sp := fun vs H Q _ => ∃ (p : Addr) (ρ : Rls) (w : Wd) (q : Sht), vs = [.ref p] ∧ WAt K t wide s H ρ w ∧ w.sh p = some q ∧ q.opn = true ∧ ∀ H', WAt K t wide s H' ρ (w.shut p q) → Frm ρ H ρ H' → Q .non H'
def spShared : Sp := fun vs H Q _ => ∃ (p x : Addr) (ρ : Rls) (w : Wd) (q qx : Sht), vs = [.ref p, .ref x] ∧ WAt K t wide s H ρ w ∧ w.sh p = some q ∧ w.sh x = some qx ∧ q.opn = true ∧ qx.opn = true ∧ wide ≤ 12 ∧ q.tot ≤ 1000 ∧ 1 ≤ s ∧
  ∀ H', Same H H' → Q (.int (shAll w s q x wide).sum) H'
end
theorem WOk.shut {wide s : Nat} {w : Wd} {p : Addr} {q : Sht} (ok : WOk wide s w) (hp : w.sh p = some q) : WOk wide s (w.shut p q) := by
  refine ⟨fun p' q' h c j hc hj => ?_, fun b k hb x hx => ?_, ok.few, ok.nd⟩
  · have h' : setA w.sh p { q with opn := false } p' = some q' := h
    by_cases e : p' = p
    · subst e
      rw [setA_same] at h'
      cases h'
      exact ok.gr p' q hp c j hc hj
    · rw [setA_ne e] at h'
      exact ok.gr p' q' h' c j hc hj
  · obtain ⟨q0, e⟩ := ok.hd b k hb x hx
    by_cases z : x = p
    · exact ⟨_, by show setA w.sh p _ x = _; rw [z, setA_same]⟩
    · exact ⟨q0, by show setA w.sh p _ x = _; rw [setA_ne z]; exact e⟩
section
variable {P : Program} {w0 : World} {K : PySem.W.Frag} {mg : Str → Option Value} {base : Heap} {t : Addr} {wide s : Nat}
theorem ok_close (E : Hd K mg) : Met P w0 K mg base 2 (cS K) "close" (spClose K t wide s) := by
  refine met_mk E.cl_Sheet E.f_Sheet_close c_Sheet_close (fun _ _ _ _ _ _ us hl => match us, hl with | [_], _ => rfl) (fun vs H Q E ⟨p, ρ, w, q, e, _⟩ => by rw [e]; rfl) ?_
  intro f cdv A outer s0 H vs Q E' hr h
  obtain ⟨p, ρ, w, q, rfl, W, hp, ho, qq⟩ := h
  obtain ⟨ro, dx, lp, col, hpo, rlp, hlp, hcol⟩ := W.sh p q hp
  have MO : Met P w0 K mg base 1 (cS K) "check_open" (spOpen K t wide s) := ok_check_open E
  refine ⟨_, pss_cons (ps_expr (pe_m0 MO hr (pv 0))) (pss_one (ps_fld (pv 0) pe_bl rfl)), ?_⟩
  refine ⟨_, rfl, p, dx, _, rfl, hpo, sf_meth _ (by decide), p, ρ, w, q, rfl, W, hp, ho, ?_⟩
  refine ⟨_, rfl, p, cS K, dx, _, rfl, hpo, E.cl_Sheet, E.no_Sheet_opened, (by show 6 < 1000; decide), ?_⟩
  rw [sf_putOpened]
  refine qq _ ⟨W.dom.upd mu_ins, fun p' q' h => ?_, fun b k hb => ?_, W.ok.shut hp⟩ (Frm.upd ro)
  · have h' : setA w.sh p { q with opn := false } p' = some q' := h
    by_cases e : p' = p
    · subst e
      rw [setA_same] at h'
      cases h'
      exact ⟨ro, dx, lp, col, upd_same, rlp, by rw [upd_ne (fun z => by rw [z, ro] at rlp; cases rlp)]; exact hlp, fun c hc => ⟨(hcol c hc).1, by rw [upd_ne (fun z => by have := (hcol c hc).1; rw [z, ro] at this; cases this)]; exact (hcol c hc).2⟩⟩
    · rw [setA_ne e] at h'
      exact (W.sh p' q' h').upd e (by rw [ro]; intro z; cases z) fun c => by rw [ro]; intro z; cases z
  · have hbr := (W.bl b k hb).ro
    exact (W.bl b k hb).upd (fun z => by rw [z, ro] at hbr; cases hbr) (by rw [ro]; intro z; cases z) (by rw [ro]; intro z; cases z)
theorem ok_put (E : Hd K mg) {sch : Sch} : Met P w0 K mg base 4 (cS K) "put" (spPut K t s sch) := by
  refine met_mk E.cl_Sheet E.f_Sheet_put c_Sheet_put (fun _ _ _ _ _ _ us hl => match us, hl with | [_, _, _, _], _ => rfl) (fun vs H Q E ⟨p, ρ, w, q, i, c, nk, v, e, _⟩ => by rw [e]; rfl) ?_
  intro f cdv A outer s0 H vs Q E' hr h
  obtain ⟨p, ρ, w, q, i, c, nk, v, rfl, W, hp, ho, hi, hs, ok, hc, hv, hs1, hs2, qq⟩ := h
  obtain ⟨ro, dx, lp, col, hpo, rlp, hlp, hcol⟩ := W.sh p q hp
  have MO : Met P w0 K mg base 1 (cS K) "check_open" (spOpen K t sch.length s) := ok_check_open E
  have CI : Cal P w0 K mg base 1 "is_integer" spIsInt := ok_is_integer E
  have MP : Met P w0 K mg base 1 (cS K) "place_of" (spPlace K t sch.length s sch) := ok_place_of E
  have CV : Cal P w0 K mg base 2 "is_value" spIsValue := ok_is_value E
  have MW : Met P w0 K mg base 3 (cS K) "own_block" (spOwn K t sch.length s) := ok_own_block E
  have hcw : c < sch.length := (List.getElem?_eq_some_iff.mp hc).1
  have hjn : i / s < nbOf s q.tot := lt_nb (by omega) hi
  refine ⟨_, pss_cons (ps_expr (pe_m0 MO hr (pv 0)))
    (pss_cons (ps_if (PW.pt (pw_or (pt_not (pt_val (pe_f CI hr (pa_cons (pv 1) pa_nil)))) (pw_or1 (pt_not (pt_chain op_le op_lt pe_int (pv 1) (pe_fld (pv 0) rfl)))))) pss_never pss_nil)
    (pss_cons (ps_set (i := 4) c_Sheet_put.nd rfl (Or.inl rfl) (pe_m MP hr (pv 0) (pa_cons (pv 2) pa_nil)))
    (pss_cons (ps_if (pt_not (pt_val (pe_f CV hr (pa_cons (pe_ix ix_tup (pe_ix ix_tup (pe_fld (pv 0) rfl) (pv 4) (fun _ _ => rfl)) pe_int (fun _ _ => rfl)) (pa_cons (pv 3) pa_nil))))) pss_never pss_nil)
    (pss_cons (ps_set (i := 5) c_Sheet_put.nd rfl (Or.inl rfl) (pe_m MW hr (pv 0) (pa_cons (pv 4) (pa_cons (pe_op op_fdiv (pv 1) (pe_fld (pv 0) rfl)) pa_nil))))
    (pss_one (ps_asg (pv 3) (pg_sub (pe_fld (pv 5) rfl) (pe_op op_mod (pv 1) (pe_fld (pv 0) rfl)) set_list))))))), ?_⟩
  refine ⟨_, rfl, p, dx, _, rfl, hpo, sf_meth _ (by decide), p, ρ, w, q, rfl, W, hp, ho, ?_⟩
  refine ⟨_, rfl, _, rfl, true, rfl, iteF ?_⟩
  refine ⟨_, rfl, _, _, rfl, rfl, _, rfl, ?_⟩
  rw [decide_eq_true (show (0 : Int) ≤ (i : Nat) by omega)]
  refine iteT ⟨_, rfl, p, cS K, dx, _, _, rfl, hpo, E.cl_Sheet, E.no_Sheet_total, sf_total, _, _, rfl, rfl, true, congrArg V.bl (decide_eq_true (by omega)), iteF ?_⟩
  refine ⟨_, rfl, p, dx, _, rfl, hpo, sf_meth _ (by decide), _, rfl, p, ρ, w, q, c, nk, rfl, W, hp, hs, ok, hc, fun H1 s1 => ?_⟩
  obtain ⟨ps, ht, hlen, hps⟩ := hs.same s1
  obtain ⟨a, ha⟩ : ∃ a, ps[c]? = some a := ⟨ps[c], List.getElem?_eq_getElem (by omega)⟩
  refine ⟨_, rfl, p, cS K, dx, _, _, rfl, s1 _ _ hpo, E.cl_Sheet, E.no_Sheet_heads, sf_heads, _, rfl, t, _, _, _, rfl, rfl, SqT.of ht, at_of (j := c) (v := .ref a) rfl (by rw [List.getElem?_map, ha]; rfl), a, _, _, _, rfl, rfl, SqT.of (hps c a nk ha hc), at_of (j := 1) (v := .str nk.2) rfl rfl, ?_⟩
  refine ⟨_, rfl, nk.2, v, rfl, ok.kd nk (List.mem_of_getElem? hc), hv, fun H2 s2 => ⟨true, rfl, iteF ?_⟩⟩
  have s12 := s1.trans s2
  refine ⟨_, rfl, p, dx, _, rfl, s12 _ _ hpo, sf_meth _ (by decide), _, rfl, _, rfl, _, rfl, p, cS K, dx, _, _, rfl, s12 _ _ hpo, E.cl_Sheet, E.no_Sheet_block_size, sf_size, _, _, rfl, rfl, ⟨by omega, by omega⟩, ?_⟩
  refine ⟨p, ρ, w, q, c, i / s, rfl, W.same s12, hp, hcw, hjn, fun w' b ρ' H3 OWN W3 F3 => ?_⟩
  obtain ⟨hs3, hb3⟩ := Own.blk W.ok OWN hp hcw hjn
  obtain ⟨rb, dxb, lc, lh, cs, hb, rlc, hlc, hcs, rlh, hlh⟩ := W3.bl _ _ hb3
  obtain ⟨q3, hp3, ho3, ht3⟩ : ∃ q3, w'.sh p = some q3 ∧ q3.opn = q.opn ∧ q3.tot = q.tot := by
    obtain ⟨q2, k2, z1, z2, z3⟩ := OWN
    rw [hp] at z1
    cases z1
    rcases z3 with ⟨_, rfl, _⟩ | ⟨_, _, rfl⟩
    · exact ⟨q, hp, rfl, rfl⟩
    · exact ⟨_, setA_same, rfl, rfl⟩
  obtain ⟨ro3, dx3, lp3, col3, hpo3, _⟩ := W3.sh p q3 hp3
  refine ⟨_, rfl, _, rfl, b, cB K, dxb, _, _, rfl, hb, E.cl_Block, E.no_Block_cells, bf_cells, _, rfl, _, rfl, p, cS K, dx3, _, _, rfl, hpo3, E.cl_Sheet, E.no_Sheet_block_size, sf_size, _, _, rfl, rfl, (by show (0 : Int) < (s : Nat); omega), ?_⟩
  have hcl : i % s < cs.length := by rw [hcs]; exact mod_lt_cells (by omega) hi
  refine ⟨lc, cs, _, i % s, rfl, rfl, hlc, ixN_at hcl, ?_⟩
  refine qq w' b ρ' _ OWN ⟨W3.dom.upd mu_lst, fun p' q' h => ?_, fun b' k' h => ?_, W3.ok⟩ (((Frm.same s12).trans F3).trans (Frm.upd rlc))
  · refine (W3.sh p' q' h).upd (fun z => ?_) (by rw [rlc]; intro z; cases z) fun c => by rw [rlc]; intro z; cases z
    have := (W3.sh p' q' h).ro
    rw [z, rlc] at this
    cases this
  · by_cases hbb : b' = b
    · subst hbb
      rw [hb3] at h
      cases h
      refine ⟨rb, dxb, lc, lh, cs.set (i % s) v, by rw [upd_ne (fun z => by rw [z, rlc] at rb; cases rb)]; exact hb, rlc, upd_same, by rw [List.length_set]; exact hcs, rlh, by rw [upd_ne (fun z => by rw [z, rlc] at rlh; cases rlh)]; exact hlh⟩
    · have hbr := (W3.bl b' k' h).ro
      exact (W3.bl b' k' h).upd (fun z => by rw [z, rlc] at hbr; cases hbr) (by rw [rlc]; intro z; cases z; exact hbb rfl) (by rw [rlc]; intro z; cases z)
theorem ok_shared (E : Hd K mg) : Met P w0 K mg base 2 (cS K) "shared" (spShared K t wide s) := by
  refine met_mk E.cl_Sheet E.f_Sheet_shared c_Sheet_shared (fun _ _ _ _ _ _ us hl => match us, hl with | [_, _], _ => rfl) (fun vs H Q E ⟨p, x, ρ, w, q, qx, e, _⟩ => by rw [e]; rfl) ?_
  intro f cdv A outer s0 H vs Q E' hr h
  obtain ⟨p, x, ρ, w, q, qx, rfl, W, hp, hx, ho, hox, hw12, htot, hs1, qq⟩ := h
  obtain ⟨ro, dx, lp, col, hpo, rlp, hlp, hcol⟩ := W.sh p q hp
  obtain ⟨_, dxx, _, _, hxo, _⟩ := W.sh x qx hx
  have hsl := sizeLine_eq
  have hnb : nbOf s q.tot ≤ 1000 := Nat.le_trans (nb_le hs1) htot
  refine ⟨_, pss_cons (ps_if (pt_not (pt_val (pe_b (C8.call_isC E.ins_Sheet) E.b_isinstance (pa_cons (pv 1) (pa_cons (pe_glob (v := .ref (cS K)) rfl E.g_Sheet rfl) pa_nil))))) pss_never pss_nil)
    (pss_cons (ps_if (PW.pt (pw_or (pt_not (pt_val (pe_fld (pv 0) rfl))) (pw_or1 (pt_not (pt_val (pe_fld (pv 1) rfl)))))) pss_never pss_nil)
    (pss_one (ps_ret (pe_b (cr_sum rfl) E.b_sum (pa_cons (pe_lc2 (own := [("blocks", 2), ("block", 3)]) (vs1 := [3]) (g := gName 2) (g1 := gName 3) (tt := tYes) (tt1 := tYes) (wi1 := iList K (tVar 2))
      (te := tCB rIsO (tCons (tOp (rInI (cS K)) (tVar 1) (tFld K (tVar 3) "sheets")) tNil)) rfl c_Sheet_shared.nd (pi_list (pe_fld (pv 0) rfl)) (blkOk_by (N := n_Sheet_shared) (sc := defScope s_Sheet_shared) (by decide +kernel)) (by decide)
      (fun _ _ _ _ _ => pg_name (i := 2) c_Sheet_shared.nd rfl (Or.inl rfl)) (fun _ _ _ _ _ => pts_nil) (fun _ _ _ _ _ => pi_list (pv 2)) (fun _ _ _ _ _ => pg_name (i := 3) c_Sheet_shared.nd rfl (Or.inl rfl)) (fun _ _ _ _ _ => pts_nil)
      (fun _ _ _ _ _ => pe_ty call_intO E.b_int (pa_cons (pe_cmpR (op_inI E.eq_Sheet hr.units) (pv 1) (pe_fld (pv 3) rfl) (by with_unfolding_all rfl)) pa_nil))) pa_nil))))), ?_⟩
  refine ⟨_, rfl, x, dxx, _, rfl, hxo, true, rfl, iteF ?_⟩
  refine ⟨_, rfl, p, cS K, dx, _, _, rfl, hpo, E.cl_Sheet, E.no_Sheet_opened, sf_opened, true, by rw [ho], iteF ?_⟩
  refine ⟨_, rfl, x, cS K, dxx, _, _, rfl, hxo, E.cl_Sheet, E.no_Sheet_opened, sf_opened, true, by rw [hox], iteF ?_⟩
  refine ⟨_, rfl, p, cS K, dx, _, _, rfl, hpo, E.cl_Sheet, E.no_Sheet_parts, sf_parts, lp, rfl, ⟨_, SqL.of hlp⟩, fun D hD => ?_⟩
  refine loop_it (walk_list (K := K) (a := lp) (xs := rowV col wide)) (fun i H1 => Same H H1 ∧ H1 D = some (.lst ((shAll w s q x i).map V.int))) ⟨Same.upd hD, upd_same⟩ (fun i H1 _ ⟨s1, _⟩ => SqL.of (s1 _ _ hlp)) ?_ ?_
  · rintro c y H1 H2 hc ⟨s1, h1⟩ ⟨rfl, hy⟩
    rw [rowV_len] at hc
    obtain ⟨_, rfl⟩ := rowV_of hy
    obtain ⟨rcol, hcolo⟩ := hcol c hc
    refine ⟨rfl, yesT ⟨_, rfl, col c, rfl, ⟨_, SqL.of (s1 _ _ hcolo)⟩, ?_⟩⟩
    refine loop_it (walk_list (K := K) (a := col c) (xs := rowV (q.g c) (nbOf s q.tot))) (fun j H3 => Same H H3 ∧ H3 D = some (.lst ((shAll w s q x c ++ shRow w s q x c j).map V.int))) ⟨s1, by rw [show shRow w s q x c 0 = [] from rfl, List.append_nil]; exact h1⟩ (fun i H1 _ ⟨s1, _⟩ => SqL.of (s1 _ _ hcolo)) ?_ ?_
    · rintro j z H3 H4 hj ⟨s3, h3⟩ ⟨rfl, hz⟩
      rw [rowV_len] at hj
      obtain ⟨_, rfl⟩ := rowV_of hz
      obtain ⟨hs, hk, hmem⟩ := W.ok.gr p q hp c j hc hj
      obtain ⟨rb, dxb, lc, lh, cs, hb, rlc, hlc, hcs, rlh, hlh⟩ := W.bl _ _ hk
      have hins : ∀ y ∈ hs, InsOf (cS K) H4 y := fun y hy => by
        obtain ⟨qy, hqy⟩ := W.ok.hd _ _ hk y hy
        obtain ⟨_, dxy, _, _, hyo, _⟩ := W.sh y qy hqy
        exact ⟨_, _, s3 _ _ hyo⟩
      refine ⟨rfl, yesT ⟨_, rfl, _, rfl, q.g c j, cB K, dxb, _, _, rfl, s3 _ _ hb, E.cl_Block, E.no_Block_sheets, bf_sheets, x, lh, hs, rfl, rfl, s3 _ _ hlh, ⟨_, _, s3 _ _ hxo⟩, hins, .inr ⟨_, rfl, _, h3, ?_, same_new hD s3 _, ?_⟩⟩⟩
      · rw [List.length_map, List.length_append, shAll_len, shRow_len]
        have h5 : c * nbOf s q.tot ≤ 12 * 1000 := Nat.mul_le_mul (by omega) hnb
        omega
      · have hh : w.holds (q.g c j) x = decide (x ∈ hs) := by unfold Wd.holds; rw [hk]
        rw [upd_same, shRow_succ, hh, ← List.append_assoc]
        simp only [List.map_append, List.map_cons, List.map_nil, oneIf]
    · rintro H3 ⟨s3, h3⟩
      rw [rowV_len] at h3
      exact ⟨s3, by rw [shAll_succ]; exact h3⟩
  · rintro H1 ⟨s1, h1⟩
    rw [rowV_len] at h1
    exact ⟨D, _, rfl, SqL.of h1, qq H1 s1⟩
end
end K7
/-! Sheet: a new one, blank, hold, twin. -/
namespace K7
open PySem PySem.Spec PyProof.Rows L2
/-! ### as they are thought of -/
def noW : Wd := ⟨fun _ => none, fun _ => none⟩
/-- one sheet, its blocks told by the roles -/
def boxW (ρ : Rls) (wide s n : Nat) (x : Addr) (g : Nat → Nat → Addr) : Wd := ⟨setA (fun _ => none) x ⟨true, 0, n, g⟩, fun b => match ρ b with
  | some (.block c j) => if c < wide ∧ j < nbOf s n ∧ g c j = b then some ⟨cellsAt s n j, [x], c, j⟩ else none
  | _ => none⟩
theorem boxW_bl {ρ : Rls} {wide s n : Nat} {x b : Addr} {g : Nat → Nat → Addr} {k : Blk} (h : (boxW ρ wide s n x g).bl b = some k) : ∃ c j, c < wide ∧ j < nbOf s n ∧ b = g c j ∧ k = ⟨cellsAt s n j, [x], c, j⟩ := by
  unfold boxW at h
  simp only at h
  split at h
  · split at h
    · rename_i c j _ hh
      cases h
      exact ⟨c, j, hh.1, hh.2.1, hh.2.2.symm, rfl⟩
    · cases h
  · cases h
def holdBl (wide nb : Nat) (g : Nat → Nat → Addr) (p b : Addr) (k : Blk) : Blk := if b = g k.c k.j ∧ k.c < wide ∧ k.j < nb then { k with hs := k.hs ++ [p] } else k
theorem holdBl_eq (wide nb : Nat) (g : Nat → Nat → Addr) (p b : Addr) (k : Blk) : holdBl wide nb g p b k = ⟨k.n, if b = g k.c k.j ∧ k.c < wide ∧ k.j < nb then k.hs ++ [p] else k.hs, k.c, k.j⟩ := by
  unfold holdBl
  split <;> rfl
/-- p holds what q0 holds -/
def Wd.hold (w : Wd) (wide s : Nat) (p : Addr) (q q0 : Sht) : Wd := ⟨setA w.sh p { q with tot := q0.tot, g := q0.g }, fun b => (w.bl b).map (holdBl wide (nbOf s q0.tot) q0.g p b)⟩
def Wd.blank (w : Wd) (x : Addr) (g : Nat → Nat → Addr) : Wd := ⟨setA w.sh x ⟨true, 0, 0, g⟩, w.bl⟩
theorem hold_sub {wide nb : Nat} {g : Nat → Nat → Addr} {p b x : Addr} {k : Blk} (h : x ∈ k.hs) : x ∈ (holdBl wide nb g p b k).hs := by
  rw [holdBl_eq]
  show x ∈ ite _ _ _
  split
  · exact List.mem_append_left _ h
  · exact h
theorem hold_of {wide nb : Nat} {g : Nat → Nat → Addr} {p b x : Addr} {k : Blk} (h : x ∈ (holdBl wide nb g p b k).hs) : x ∈ k.hs ∨ x = p := by
  rw [holdBl_eq] at h
  have h' : x ∈ ite (b = g k.c k.j ∧ k.c < wide ∧ k.j < nb) (k.hs ++ [p]) k.hs := h
  split at h'
  · rcases List.mem_append.mp h' with z | z
    · exact .inl z
    · exact .inr (List.mem_singleton.mp z)
  · exact .inl h'
theorem WOk.hold {wide s : Nat} {w : Wd} {p p0 : Addr} {q q0 : Sht} (ok : WOk wide s w) (hp : w.sh p = some q) (h0 : w.sh p0 = some q0) (few : ∀ b k, w.bl b = some k → k.hs.length < 1000) (nw : ∀ b k, w.bl b = some k → p ∉ k.hs) : WOk wide s (w.hold wide s p q q0) := by
  have mp : ∀ {b : Addr} {k : Blk}, (w.hold wide s p q q0).bl b = some k → ∃ k0, w.bl b = some k0 ∧ k = holdBl wide (nbOf s q0.tot) q0.g p b k0 := fun {b k} h => by
    have h' : (w.bl b).map (holdBl wide (nbOf s q0.tot) q0.g p b) = some k := h
    cases e : w.bl b with
    | none => rw [e] at h'; cases h'
    | some k0 => rw [e] at h'; exact ⟨k0, rfl, (Option.some.inj h').symm⟩
  refine ⟨fun p' q' h c j hc hj => ?_, fun b k hb x hx => ?_, fun b k hb => ?_, fun b k hb => ?_⟩
  · have h' : setA w.sh p { q with tot := q0.tot, g := q0.g } p' = some q' := h
    by_cases e : p' = p
    · subst e
      rw [setA_same] at h'
      cases h'
      obtain ⟨hs, e1, e2⟩ := ok.gr p0 q0 h0 c j hc hj
      refine ⟨hs ++ [p'], ?_, by simp⟩
      show (w.bl (q0.g c j)).map _ = _
      rw [e1]
      show some (holdBl _ _ _ _ _ _) = _
      rw [holdBl_eq, if_pos ⟨rfl, hc, hj⟩]
    · rw [setA_ne e] at h'
      obtain ⟨hs, e1, e2⟩ := ok.gr p' q' h' c j hc hj
      refine ⟨(holdBl wide (nbOf s q0.tot) q0.g p (q'.g c j) ⟨cellsAt s q'.tot j, hs, c, j⟩).hs, ?_, hold_sub e2⟩
      show (w.bl (q'.g c j)).map _ = _
      rw [e1]
      show some (holdBl _ _ _ _ _ _) = _
      rw [holdBl_eq]
  · obtain ⟨k0, e, rfl⟩ := mp hb
    by_cases z : x = p
    · exact ⟨_, by show setA w.sh p _ x = _; rw [z, setA_same]⟩
    · rcases hold_of hx with hx | hx
      · obtain ⟨q1, e1⟩ := ok.hd b k0 e x hx
        exact ⟨q1, by show setA w.sh p _ x = _; rw [setA_ne z]; exact e1⟩
      · exact absurd hx z
  · obtain ⟨k0, e, rfl⟩ := mp hb
    have := few b k0 e
    rw [holdBl_eq]
    show (ite _ _ _ : List Addr).length ≤ 1000
    split
    · rw [List.length_append, List.length_singleton]; omega
    · omega
  · obtain ⟨k0, e, rfl⟩ := mp hb
    have h1 := ok.nd b k0 e
    rw [holdBl_eq]
    show (ite _ _ _ : List Addr).Nodup
    split
    · rw [List.nodup_append]
      refine ⟨h1, List.nodup_cons.mpr ⟨by simp, List.nodup_nil⟩, fun a ha b' hb' z => ?_⟩
      rw [List.mem_singleton.mp hb'] at z
      exact nw b k0 e (z ▸ ha)
    · exact h1
/-- how far the loop over blocks is -/
def doneAt (g : Nat → Nat → Addr) (wide nb c0 j0 : Nat) (b : Addr) (k : Blk) : Bool := decide (b = g k.c k.j ∧ k.c < wide ∧ k.j < nb ∧ (k.c < c0 ∨ (k.c = c0 ∧ k.j < j0)))
def partBl (g : Nat → Nat → Addr) (wide nb c0 j0 : Nat) (p b : Addr) (k : Blk) : Blk := if doneAt g wide nb c0 j0 b k then { k with hs := k.hs ++ [p] } else k
theorem partBl_zero {g : Nat → Nat → Addr} {wide nb : Nat} {p b : Addr} {k : Blk} : partBl g wide nb 0 0 p b k = k := by
  unfold partBl doneAt
  rw [if_neg (by simp)]
theorem partBl_row {g : Nat → Nat → Addr} {wide nb c0 : Nat} {p b : Addr} {k : Blk} : partBl g wide nb c0 nb p b k = partBl g wide nb (c0 + 1) 0 p b k := by
  have : doneAt g wide nb c0 nb b k = doneAt g wide nb (c0 + 1) 0 b k := by
    unfold doneAt
    refine decide_eq_decide.mpr ⟨fun ⟨a1, a2, a3, a4⟩ => ⟨a1, a2, a3, ?_⟩, fun ⟨a1, a2, a3, a4⟩ => ⟨a1, a2, a3, ?_⟩⟩ <;> omega
  unfold partBl
  rw [this]
theorem partBl_end {g : Nat → Nat → Addr} {wide nb : Nat} {p b : Addr} {k : Blk} : partBl g wide nb wide 0 p b k = holdBl wide nb g p b k := by
  have : doneAt g wide nb wide 0 b k = decide (b = g k.c k.j ∧ k.c < wide ∧ k.j < nb) := by
    unfold doneAt
    refine decide_eq_decide.mpr ⟨fun ⟨a1, a2, a3, a4⟩ => ⟨a1, a2, a3⟩, fun ⟨a1, a2, a3⟩ => ⟨a1, a2, a3, .inl a2⟩⟩
  unfold partBl holdBl
  rw [this]
  by_cases h : b = g k.c k.j ∧ k.c < wide ∧ k.j < nb
  · rw [if_pos (decide_eq_true h), if_pos h]
  · rw [if_neg (by rw [decide_eq_false h]; exact Bool.false_ne_true), if_neg h]
section
variable {K : PySem.W.Frag} {t : Addr} {wide s n : Nat} {H H' : Hp} {ρ ρ' : Rls} {x : Addr} {g : Nat → Nat → Addr}
theorem NewS.box (N : NewS K t wide s n H ρ x g H' ρ') (hs : 1 ≤ s) : WAt K t wide s H' ρ' (boxW ρ' wide s n x g) := by
  have gr : ∀ c j, c < wide → j < nbOf s n → (boxW ρ' wide s n x g).bl (g c j) = some ⟨cellsAt s n j, [x], c, j⟩ := fun c j hc hj => by
    unfold boxW
    have hr := (N.bl c j hc hj).ro
    simp only [hr]
    rw [if_pos ⟨hc, hj, True.intro⟩]
  refine ⟨N.dom, fun p q h => ?_, fun b k h => ?_, fun p q h c j hc hj => ?_, fun b k h y hy => ?_, fun b k h => ?_, fun b k h => ?_⟩
  · have h' : setA (fun _ => none) x (⟨true, 0, n, g⟩ : Sht) p = some q := h
    by_cases e : p = x
    · subst e; rw [setA_same] at h'; cases h'; exact N.sh
    · rw [setA_ne e] at h'; cases h'
  · obtain ⟨c, j, hc, hj, rfl, rfl⟩ := boxW_bl h
    exact N.bl c j hc hj
  · have h' : setA (fun _ => none) x (⟨true, 0, n, g⟩ : Sht) p = some q := h
    by_cases e : p = x
    · subst e; rw [setA_same] at h'; cases h'
      exact ⟨_, gr c j hc hj, List.mem_singleton.mpr rfl⟩
    · rw [setA_ne e] at h'; cases h'
  · obtain ⟨c, j, hc, hj, rfl, rfl⟩ := boxW_bl h
    rw [List.mem_singleton.mp hy]
    exact ⟨⟨true, 0, n, g⟩, by show setA (fun _ => none) x _ x = _; rw [setA_same]⟩
  · obtain ⟨c, j, hc, hj, rfl, rfl⟩ := boxW_bl h
    exact (by decide : 1 ≤ 1000)
  · obtain ⟨c, j, hc, hj, rfl, rfl⟩ := boxW_bl h
    exact List.nodup_cons.mpr ⟨by simp, List.nodup_nil⟩
theorem NewS.blank {w : Wd} (N : NewS K t wide s 0 H ρ x g H' ρ') (hs : 1 ≤ s) (hx : ρ x = none) (W : WAt K t wide s H ρ w) : WAt K t wide s H' ρ' (w.blank x g) := by
  have z : nbOf s 0 = 0 := by unfold nbOf; exact Nat.div_eq_of_lt (by omega)
  have kp : ∀ a o r, H a = some o → ρ a = some r → H' a = some o := fun a o r e h => N.sm a o e fun z => by rw [z, hx] at h; cases h
  refine ⟨N.dom, fun p q h => ?_, fun b k h => (W.bl b k h).keepR N.up fun a o r e hr _ => kp a o r e hr, fun p q h c j hc hj => ?_, fun b k h y hy => ?_, W.ok.few, W.ok.nd⟩
  · have h' : setA w.sh x (⟨true, 0, 0, g⟩ : Sht) p = some q := h
    by_cases e : p = x
    · subst e; rw [setA_same] at h'; cases h'; exact N.sh
    · rw [setA_ne e] at h'
      exact (W.sh p q h').keepR N.up fun a o r e hr _ => kp a o r e hr
  · have h' : setA w.sh x (⟨true, 0, 0, g⟩ : Sht) p = some q := h
    by_cases e : p = x
    · subst e; rw [setA_same] at h'; cases h'
      exact absurd hj (by show ¬ j < nbOf s 0; rw [z]; exact Nat.not_lt_zero j)
    · rw [setA_ne e] at h'
      exact W.ok.gr p q h' c j hc hj
  · obtain ⟨q0, e⟩ := W.ok.hd b k h y hy
    by_cases z : y = x
    · exact ⟨_, by show setA w.sh x _ y = _; rw [z, setA_same]⟩
    · exact ⟨q0, by show setA w.sh x _ y = _; rw [setA_ne z]; exact e⟩
theorem NewS.frm (N : NewS K t wide s n H ρ x g H' ρ') {H0 : Hp} (e : Same H0 H) (hx : H0 x = none) : Frm ρ H0 ρ' H' :=
  ⟨N.up, fun a o h nn => ⟨N.sm a o (e _ _ h) (ne_of_none h hx), N.fr a o (e _ _ h) (ne_of_none h hx) nn⟩⟩
end
section
variable (K : PySem.W.Frag) (t : Addr) (s : Nat)
def spBlank (sch : Sch) : Sp := fun vs H Q _ => ∃ (p : Addr) (ρ : Rls) (w : Wd) (q : Sht), vs = [.ref p] ∧ WAt K t sch.length s H ρ w ∧ w.sh p = some q ∧ SchAt H t sch ∧ SchOk sch ∧ 1 ≤ s ∧ s ≤ 100 ∧
  ∀ x g ρ' H', w.sh x = none → WAt K t sch.length s H' ρ' (w.blank x g) → Frm ρ H ρ' H' → Q (.ref x) H'
def spHold (wide : Nat) : Sp := fun vs H Q _ => ∃ (p p0 : Addr) (ρ : Rls) (w : Wd) (q q0 : Sht), vs = [.ref p, .ref p0] ∧ WAt K t wide s H ρ w ∧ w.sh p = some q ∧ w.sh p0 = some q0 ∧ p ≠ p0 ∧ q.tot = 0 ∧ 1 ≤ s ∧ wide ≤ 12 ∧ q0.tot ≤ 1000 ∧
  (∀ b k, w.bl b = some k → k.hs.length < 1000) ∧ (∀ b k, w.bl b = some k → p ∉ k.hs) ∧ ∀ ρ' H', WAt K t wide s H' ρ' (w.hold wide s p q q0) → Frm ρ H ρ' H' → Q .non H'
def spTwin (sch : Sch) : Sp := fun vs H Q _ => ∃ (p : Addr) (ρ : Rls) (w : Wd) (q : Sht), vs = [.ref p] ∧ WAt K t sch.length s H ρ w ∧ w.sh p = some q ∧ q.opn = true ∧ SchAt H t sch ∧ SchOk sch ∧ 1 ≤ s ∧ s ≤ 100 ∧ q.tot ≤ 1000 ∧ (∀ b k, w.bl b = some k → k.hs.length < 1000) ∧
  ∀ x g ρ' H', w.sh x = none → WAt K t sch.length s H' ρ' ((w.blank x g).hold sch.length s x ⟨true, 0, 0, g⟩ q) → Frm ρ H ρ' H' → Q (.ref x) H'
end
section
variable {P : Program} {w0 : World} {K : PySem.W.Frag} {mg : Str → Option Value} {base : Heap} {t : Addr} {wide s : Nat}
theorem ok_blank (E : Hd K mg) {sch : Sch} : Met P w0 K mg base 9 (cS K) "blank" (spBlank K t s sch) := by
  refine met_mk E.cl_Sheet E.f_Sheet_blank c_Sheet_blank (fun _ _ _ _ _ _ us hl => match us, hl with | [_], _ => rfl) (fun vs H Q E ⟨p, ρ, w, q, e, _⟩ => by rw [e]; rfl) ?_
  intro f cdv A outer s0 H vs Q E' hr h
  obtain ⟨p, ρ, w, q, rfl, W, hp, hs, ok, hs1, hs2, qq⟩ := h
  obtain ⟨ro, dx, lp, col, hpo, rlp, hlp, hcol⟩ := W.sh p q hp
  have CB : Cal P w0 K mg base 8 "blank_frame" (spBlankF K) := ok_blank_frame E
  have MS : MakK P w0 K mg base 4 "Sheet" (cS K) (spSheet K) := mk_sheet E
  refine ⟨_, pss_one (ps_ret (pe_newK MS hr (pe_f CB hr (pa_cons (pe_fld (pv 0) rfl) pa_nil)) (pe_fld (pv 0) rfl))), ?_⟩
  refine ⟨_, rfl, p, cS K, dx, _, _, rfl, hpo, E.cl_Sheet, E.no_Sheet_heads, sf_heads, t, sch, rfl, hs, ok, fun fr a H1 s1 hF => ?_⟩
  refine ⟨_, rfl, p, cS K, dx, _, _, rfl, s1 _ _ hpo, E.cl_Sheet, E.no_Sheet_block_size, sf_size, rfl, rfl, fun x dx' hx hdx hne => ?_⟩
  have e2 : Same H1 (upd (upd H1 dx' (.own x)) x (.ins (cS K) dx' [])) := fun b o e => by rw [upd_ne (ne_of_none e hx), upd_ne (ne_of_none e hdx)]; exact e
  have hx0 : H x = none := by
    cases e : H x with
    | none => rfl
    | some o => rw [s1 _ _ e] at hx; cases hx
  have rx : ρ x = none := W.dom.no_new hx0
  have s02 := s1.trans e2
  refine ⟨x, dx', fr, t, a, sch, [], s, ρ, rfl, upd_same, (by obtain ⟨⟨_, h⟩, _⟩ := hF; exact ne_of_none h hx), hF.same e2, ok, hs1, hs2, W.dom.same s02, rx, fun g H2 ρ2 N => ⟨rfl, ?_⟩⟩
  refine qq x g ρ2 H2 ?_ (N.blank hs1 rx (W.same s02)) (N.frm s02 hx0)
  cases e : w.sh x with
  | none => rfl
  | some q1 => have := (W.sh x q1 e).ro; rw [rx] at this; cases this
theorem ok_hold (E : Hd K mg) : Met P w0 K mg base 1 (cS K) "hold" (spHold K t s wide) := by
  refine met_mk E.cl_Sheet E.f_Sheet_hold c_Sheet_hold (fun _ _ _ _ _ _ us hl => match us, hl with | [_, _], _ => rfl) (fun vs H Q E ⟨p, p0, ρ, w, q, q0, e, _⟩ => by rw [e]; rfl) ?_
  intro f cdv A outer s0 H vs Q E' hr h
  obtain ⟨p, p0, ρ, w, q, q0, rfl, W, hp, hp0, hne, htot, hs1, hw12, htot0, few, nw, qq⟩ := h
  obtain ⟨ro, dx, lp, col, hpo, rlp, hlp, hcol⟩ := W.sh p q hp
  obtain ⟨ro0, dx0, lp0, col0, hpo0, rlp0, hlp0, hcol0⟩ := W.sh p0 q0 hp0
  have hsl := sizeLine_eq
  have hnb : nbOf s q0.tot ≤ 1000 := Nat.le_trans (nb_le hs1) htot0
  refine ⟨_, pss_cons (ps_fld (pv 0) (pe_fld (pv 1) rfl) rfl)
    (pss_cons (ps_fld (pv 0) (pe_lc (own := [("blocks", 2)]) (g := gName 2) (tt := tYes) (te := tCB (rListOf K) (tCons (tVar 2) tNil)) rfl c_Sheet_hold.nd (pi_list (pe_fld (pv 1) rfl)) (blkOk_by (N := n_Sheet_hold) (sc := defScope s_Sheet_hold) (by decide +kernel))
      (fun _ _ _ _ _ => pg_name (i := 2) c_Sheet_hold.nd rfl (Or.inl rfl)) (fun _ _ _ _ _ => pts_nil) (fun _ _ _ _ _ => pe_ty call_listK E.b_list (pa_cons (pv 2) pa_nil))) rfl)
    (pss_one (ps_for PassesOwn.never rfl (pi_list (pe_fld (pv 0) rfl)) (pg_name (i := 2) c_Sheet_hold.nd rfl (Or.inl rfl))
      (pss_one (ps_for PassesOwn.never rfl (pi_list (pv 2)) (pg_name (i := 3) c_Sheet_hold.nd rfl (Or.inl rfl))
        (pss_one (ps_expr (pe_bm PySem.F.plainAttrs_list PySem.F.slot_list_append PySem.F.type_list_append mt_append (pe_fld (pv 3) rfl) (pa_cons (pv 0) pa_nil))))))))), ?_⟩
  -- total
  refine ⟨_, rfl, p0, cS K, dx0, _, _, rfl, hpo0, E.cl_Sheet, E.no_Sheet_total, sf_total, _, rfl, p, cS K, dx, _, rfl, hpo, E.cl_Sheet, E.no_Sheet_total, (by show 6 < 1000; decide), ?_⟩
  rw [sf_putTotal]
  have hlp01 : (upd H p (.ins (cS K) dx (sf t s q0.tot q.made q.opn lp))) lp0 = some (.lst (rowV col0 wide)) := by rw [upd_ne (fun z => by rw [z, ro] at rlp0; cases rlp0)]; exact hlp0
  have hpo01 : (upd H p (.ins (cS K) dx (sf t s q0.tot q.made q.opn lp))) p0 = some (.ins (cS K) dx0 (sf t s q0.tot q0.made q0.opn lp0)) := by rw [upd_ne (Ne.symm hne)]; exact hpo0
  generalize hH1 : upd H p (.ins (cS K) dx (sf t s q0.tot q.made q.opn lp)) = H1
  have hp1 : H1 p = some (.ins (cS K) dx (sf t s q0.tot q.made q.opn lp)) := by rw [← hH1]; exact upd_same
  have sm1 : ∀ a o, H a = some o → a ≠ p → H1 a = some o := fun a o e n => by rw [← hH1, upd_ne n]; exact e
  have d1 : RDom ρ H1 := by rw [← hH1]; exact W.dom.upd mu_ins
  have f1 : Frm ρ H ρ H1 := by rw [← hH1]; exact Frm.upd ro
  rw [hH1] at hlp01 hpo01
  clear hH1
  have hc1 : ∀ c, c < wide → H1 (col0 c) = some (.lst (rowV (q0.g c) (nbOf s q0.tot))) := fun c hc => sm1 _ _ (hcol0 c hc).2 fun z => by have := (hcol0 c hc).1; rw [z, ro] at this; cases this
  refine ⟨_, rfl, p0, cS K, dx0, _, _, rfl, hpo01, E.cl_Sheet, E.no_Sheet_parts, sf_parts, lp0, rfl, ⟨_, SqL.of hlp01⟩, fun D hD => ?_⟩
  refine lc_it (walk_list (K := K) (a := lp0) (xs := rowV col0 wide)) (fun i H2 => Same H1 H2 ∧ ∃ (ρ2 : Rls) (coln : Nat → Addr), Frm ρ H1 ρ2 H2 ∧ RDom ρ2 H2 ∧ ρ2 D = none ∧ H2 D = some (.lst (rowV coln i)) ∧ (∀ c, c < i → ρ2 (coln c) = some (.col p c) ∧ H2 (coln c) = some (.lst (rowV (q0.g c) (nbOf s q0.tot)))))
    ⟨Same.upd hD, ρ, fun _ => 0, Frm.same (Same.upd hD), d1.same (Same.upd hD), d1.no_new hD, upd_same, fun c hc => absurd hc (Nat.not_lt_zero c)⟩ (fun i H2 _ ⟨s2, _⟩ => SqL.of (s2 _ _ hlp01)) ?_ ?_
  · rintro i y H2 H3 hi ⟨s2, ρ2, coln, f2, d2, r2, e2, c2⟩ ⟨rfl, hy⟩
    rw [rowV_len] at hi
    obtain ⟨_, rfl⟩ := rowV_of hy
    refine ⟨rfl, yesT ⟨_, rfl, col0 i, _, rfl, .inl (SqL.of (s2 _ _ (hc1 i hi))), fun l hl => ?_⟩⟩
    have hDl : D ≠ l := ne_of_none e2 hl
    have sl : Same H3 (upd H3 l (.lst (rowV (q0.g i) (nbOf s q0.tot)))) := Same.upd hl
    have rl : ρ2 l = none := d2.no_new hl
    have lH1 : H1 l = none := by
      cases e : H1 l with
      | none => rfl
      | some o => rw [s2 _ _ e] at hl; cases hl
    have sD : ∀ o, Same H1 (upd (upd H3 l (.lst (rowV (q0.g i) (nbOf s q0.tot)))) D o) := fun o b u e => by rw [upd_ne (ne_of_none e hD)]; exact sl _ _ (s2 _ _ e)
    have upl : ∀ (b : Addr) (r : Rl), ρ2 b = some r → setR ρ2 l (.col p i) b = some r := fun b r e => by rw [setR_ne (fun z => by rw [z, rl] at e; cases e)]; exact e
    refine ⟨_, sl _ _ e2, by rw [rowV_len]; omega, sD _, setR ρ2 l (.col p i), fun c => if c = i then l else coln c, ⟨fun b r e => upl b r (f2.up _ _ e), fun b o e n => ⟨sD _ _ _ e, ?_⟩⟩, ?_, by rw [setR_ne hDl]; exact r2, ?_, fun c hc => ?_⟩
    · rw [setR_ne (ne_of_none e lH1)]
      exact (f2.fr b o e n).2
    · refine RDom.set ((d2.same sl).upd mu_lst) (o := .lst (rowV (q0.g i) (nbOf s q0.tot))) ?_ mu_lst
      rw [upd_ne (Ne.symm hDl), upd_same]
    · rw [upd_same, rowV_succ, if_pos rfl, rowV_congr (f := coln) (g := fun j => if j = i then l else coln j) fun j hj => by show coln j = if j = i then l else coln j; rw [if_neg (by omega)]]
    · by_cases hci : c = i
      · subst hci
        show setR ρ2 l (.col p c) (if c = c then l else coln c) = _ ∧ upd (upd H3 l _) D _ (if c = c then l else coln c) = _
        rw [if_pos rfl, setR_same, upd_ne (Ne.symm hDl), upd_same]
        exact ⟨rfl, rfl⟩
      · show setR ρ2 l (.col p i) (if c = i then l else coln c) = _ ∧ upd (upd H3 l _) D _ (if c = i then l else coln c) = _
        rw [if_neg hci]
        obtain ⟨k1, k2⟩ := c2 c (by omega)
        refine ⟨upl _ _ k1, ?_⟩
        rw [upd_ne (fun z => by rw [z, r2] at k1; cases k1)]
        exact sl _ _ k2
  rintro H2 ⟨s2, ρ2, coln, f2, d2, r2, e2, c2⟩
  rw [rowV_len] at e2 c2
  have rp2 : ρ2 p = some .sheet := f2.up _ _ ro
  refine ⟨_, rfl, p, cS K, dx, _, rfl, s2 _ _ hp1, E.cl_Sheet, E.no_Sheet_parts, (by show 6 < 1000; decide), ?_⟩
  rw [sf_putParts]
  have npD : p ≠ D := fun z => by rw [← z, rp2] at r2; cases r2
  have hD3 : (upd H2 p (.ins (cS K) dx (sf t s q0.tot q.made q.opn D))) D = some (.lst (rowV coln wide)) := by rw [upd_ne (Ne.symm npD)]; exact e2
  -- the world with the parts held
  let ρ3 := setR ρ2 D (.parts p)
  have up3 : ∀ (a : Addr) (r : Rl), ρ a = some r → ρ3 a = some r := fun a r e => by
    have := f2.up _ _ e
    show setR ρ2 D (.parts p) a = some r
    rw [setR_ne (fun z => by rw [z, r2] at this; cases this)]; exact this
  have hp3 : (upd H2 p (.ins (cS K) dx (sf t s q0.tot q.made q.opn D))) p = some (.ins (cS K) dx (sf t s q0.tot q.made q.opn D)) := upd_same
  have kp3 : ∀ (a : Addr) (o : HO) (r : Rl), H a = some o → ρ a = some r → a ≠ p → (upd H2 p (.ins (cS K) dx (sf t s q0.tot q.made q.opn D))) a = some o := fun a o r e hr' n => by
    rw [upd_ne n]; exact s2 _ _ (sm1 _ _ e n)
  have d3 : RDom ρ3 (upd H2 p (.ins (cS K) dx (sf t s q0.tot q.made q.opn D))) := RDom.set (d2.upd mu_ins) hD3 mu_lst
  have F3 : Frm ρ H ρ3 (upd H2 p (.ins (cS K) dx (sf t s q0.tot q.made q.opn D))) := by
    refine f1.trans ⟨fun a r e => up3 a r e, fun a o e n => ?_⟩
    have np : a ≠ p := fun z => by rw [z, ro] at n; cases n
    have nD : a ≠ D := ne_of_none e hD
    exact ⟨by rw [upd_ne np]; exact s2 _ _ e, by show setR ρ2 D (.parts p) a = none; rw [setR_ne nD]; exact (f2.fr a o e n).2⟩
  have shp3 : ShAt K t wide s (upd H2 p (.ins (cS K) dx (sf t s q0.tot q.made q.opn D))) ρ3 p { q with tot := q0.tot, g := q0.g } := by
    refine ⟨up3 _ _ ro, dx, D, coln, hp3, by show setR ρ2 D (.parts p) D = _; rw [setR_same], hD3, fun c hc => ?_⟩
    obtain ⟨k1, k2⟩ := c2 c hc
    exact ⟨by show setR ρ2 D (.parts p) _ = _; rw [setR_ne (fun z => by rw [z, r2] at k1; cases k1)]; exact k1, by rw [upd_ne (fun z => by rw [z, rp2] at k1; cases k1)]; exact k2⟩
  have shs3 : ∀ p' q', w.sh p' = some q' → p' ≠ p → ShAt K t wide s (upd H2 p (.ins (cS K) dx (sf t s q0.tot q.made q.opn D))) ρ3 p' q' := fun p' q' h n =>
    (W.sh p' q' h).keepR up3 fun a o r e hr' ha => kp3 a o r e hr' (by
      rcases ha with ⟨_, rfl⟩ | rfl | ⟨c, rfl⟩
      · exact n
      · exact fun z => by rw [z, ro] at hr'; cases hr'
      · exact fun z => by rw [z, ro] at hr'; cases hr')
  have bls3 : ∀ b k, w.bl b = some k → BlAt K (upd H2 p (.ins (cS K) dx (sf t s q0.tot q.made q.opn D))) ρ3 b k := fun b k h =>
    (W.bl b k h).keepR up3 fun a o r e hr' ha => kp3 a o r e hr' (by
      rcases ha with ⟨rfl, _⟩ | rfl | rfl
      · exact fun z => by rw [z, ro] at hr'; cases hr'
      · exact fun z => by rw [z, ro] at hr'; cases hr'
      · exact fun z => by rw [z, ro] at hr'; cases hr')
  obtain ⟨_, dx4, lp4, col4, g1, g2, g3, g4⟩ := id shp3
  generalize (upd H2 p (.ins (cS K) dx (sf t s q0.tot q.made q.opn D))) = H3 at *
  have gu := hp3.symm.trans g1
  -- what the loops keep
  have rhb : ∀ {a b : Addr} {r : Rl}, ρ3 a = some r → r ≠ .held b → ∀ {l}, ρ3 l = some (.held b) → a ≠ l := fun h n l hl z => by rw [z, hl] at h; cases h; exact n rfl
  refine ⟨_, rfl, p, cS K, dx4, _, _, rfl, g1, E.cl_Sheet, E.no_Sheet_parts, sf_parts, lp4, rfl, ⟨_, SqL.of g3⟩, ?_⟩
  refine for_it (walk_list (K := K) (a := lp4) (xs := rowV col4 wide)) (fun c σ H4 => (∃ v2 v3 : Option V, σ = [some (.ref p), some (.ref p0), v2, v3]) ∧ RDom ρ3 H4 ∧ (∀ a o, H3 a = some o → (∀ b, ρ3 a ≠ some (.held b)) → H4 a = some o) ∧ ∀ b k, w.bl b = some k → BlAt K H4 ρ3 b (partBl q0.g wide (nbOf s q0.tot) c 0 p b k))
    ⟨⟨none, none, rfl⟩, d3, fun _ _ e _ => e, fun b k h => by rw [partBl_zero]; exact bls3 b k h⟩ (fun c σ H4 _ ⟨_, _, e4, _⟩ => SqL.of (e4 _ _ g3 fun b z => by rw [g2] at z; cases z)) ?_ ?_
  · rintro c y σ H4 H5 hc ⟨⟨v2, v3, rfl⟩, d4, e4, b4⟩ ⟨rfl, hy⟩
    rw [rowV_len] at hc
    obtain ⟨_, rfl⟩ := rowV_of hy
    obtain ⟨rc4, hc4⟩ := g4 c hc
    have hc5 := e4 _ _ hc4 fun b z => by rw [rc4] at z; cases z
    refine ⟨_, rfl, col4 c, rfl, ⟨_, SqL.of hc5⟩, ?_⟩
    refine for_it (walk_list (K := K) (a := col4 c) (xs := rowV (q0.g c) (nbOf s q0.tot))) (fun j σ H4 => (∃ v2 v3 : Option V, σ = [some (.ref p), some (.ref p0), v2, v3]) ∧ RDom ρ3 H4 ∧ (∀ a o, H3 a = some o → (∀ b, ρ3 a ≠ some (.held b)) → H4 a = some o) ∧ ∀ b k, w.bl b = some k → BlAt K H4 ρ3 b (partBl q0.g wide (nbOf s q0.tot) c j p b k))
      ⟨⟨_, _, rfl⟩, d4, e4, b4⟩ (fun j σ H4 _ ⟨_, _, e4, _⟩ => SqL.of (e4 _ _ hc4 fun b z => by rw [rc4] at z; cases z)) ?_ ?_
    · rintro j z σ H6 H7 hj ⟨⟨v2, v3, rfl⟩, d6, e6, b6⟩ ⟨rfl, hz⟩
      rw [rowV_len] at hj
      obtain ⟨_, rfl⟩ := rowV_of hz
      obtain ⟨hs, hk, hmem⟩ := W.ok.gr p0 q0 hp0 c j hc hj
      have hB := b6 _ _ hk
      have hpart : partBl q0.g wide (nbOf s q0.tot) c j p (q0.g c j) ⟨cellsAt s q0.tot j, hs, c, j⟩ = ⟨cellsAt s q0.tot j, hs, c, j⟩ := by
        unfold partBl doneAt
        rw [if_neg]
        simp
      rw [hpart] at hB
      obtain ⟨rb, dxb, lc, lh, cs, hb, rlc, hlc, hcs, rlh, hlh⟩ := hB
      refine ⟨_, rfl, q0.g c j, cB K, dxb, _, _, rfl, hb, E.cl_Block, E.no_Block_sheets, bf_sheets, .inl ⟨rfl, _, SqL.of hlh⟩, _, rfl, lh, _, _, rfl, rfl, hlh, ?_, ?_⟩
      · rw [List.length_map]
        have := few _ _ hk
        show hs.length < sizeLine
        have : hs.length < 1000 := this
        omega
      refine ⟨⟨_, _, rfl⟩, d6.upd mu_lst, fun a o e n => ?_, fun b k hbk => ?_⟩
      · rw [upd_ne (fun z => by rw [z] at n; exact n _ rlh)]
        exact e6 a o e n
      · by_cases hbb : b = q0.g c j
        · subst hbb
          rw [hk] at hbk
          cases hbk
          have : partBl q0.g wide (nbOf s q0.tot) c (j + 1) p (q0.g c j) ⟨cellsAt s q0.tot j, hs, c, j⟩ = ⟨cellsAt s q0.tot j, hs ++ [p], c, j⟩ := by
            unfold partBl doneAt
            rw [if_pos]
            exact decide_eq_true ⟨rfl, hc, hj, .inr ⟨rfl, Nat.lt_succ_self j⟩⟩
          rw [this]
          refine ⟨rb, dxb, lc, lh, cs, by rw [upd_ne (rhb rb (by intro z; cases z) rlh)]; exact hb, rlc, by rw [upd_ne (rhb rlc (by intro z; cases z) rlh)]; exact hlc, hcs, rlh, ?_⟩
          rw [upd_same, List.map_append]
          rfl
        · have : partBl q0.g wide (nbOf s q0.tot) c (j + 1) p b k = partBl q0.g wide (nbOf s q0.tot) c j p b k := by
            have : doneAt q0.g wide (nbOf s q0.tot) c (j + 1) b k = doneAt q0.g wide (nbOf s q0.tot) c j b k := by
              unfold doneAt
              refine decide_eq_decide.mpr ⟨fun ⟨a1, a2, a3, a4⟩ => ⟨a1, a2, a3, ?_⟩, fun ⟨a1, a2, a3, a4⟩ => ⟨a1, a2, a3, by omega⟩⟩
              rcases a4 with a4 | ⟨a4, a5⟩
              · exact .inl a4
              · refine .inr ⟨a4, ?_⟩
                have : k.j ≠ j := fun z => hbb (by rw [a1, a4, z])
                omega
            unfold partBl
            rw [this]
          rw [this]
          have hq := b6 b k hbk
          have hro := hq.ro
          refine hq.upd (fun z => ?_) (by rw [rlh]; intro z; cases z) (by rw [rlh]; intro z; cases z; exact hbb rfl)
          rw [z, rlh] at hro
          cases hro
    · rintro σ H6 ⟨⟨v2, v3, rfl⟩, d6, e6, b6⟩
      rw [rowV_len] at b6
      exact ⟨⟨_, _, rfl⟩, d6, e6, fun b k h => by rw [← partBl_row]; exact b6 b k h⟩
  · rintro σ H4 ⟨⟨v2, v3, rfl⟩, d4, e4, b4⟩
    rw [rowV_len] at b4
    have kpR : ∀ {a : Addr} {o : HO} {r : Rl} {p' : Addr}, H3 a = some o → ρ3 a = some r → ((r = .sheet ∧ a = p') ∨ r = .parts p' ∨ ∃ c, r = .col p' c) → H4 a = some o := fun e hr' ha => e4 _ _ e fun b z => by
      rw [hr'] at z
      rcases ha with ⟨rfl, _⟩ | rfl | ⟨c, rfl⟩ <;> cases z
    refine qq ρ3 H4 ⟨d4, fun p' q' h => ?_, fun b k h => ?_, W.ok.hold hp hp0 few nw⟩ ⟨F3.up, fun a o e n => ?_⟩
    · have h' : setA w.sh p { q with tot := q0.tot, g := q0.g } p' = some q' := h
      by_cases e : p' = p
      · subst e
        rw [setA_same] at h'
        cases h'
        exact shp3.keepR (fun _ _ h => h) fun a o r e hr' ha => kpR e hr' ha
      · rw [setA_ne e] at h'
        exact (shs3 p' q' h' e).keepR (fun _ _ h => h) fun a o r e hr' ha => kpR e hr' ha
    · have h' : (w.bl b).map (holdBl wide (nbOf s q0.tot) q0.g p b) = some k := h
      cases e : w.bl b with
      | none => rw [e] at h'; cases h'
      | some k0 =>
        rw [e] at h'
        cases h'
        rw [← partBl_end]
        exact b4 b k0 e
    · obtain ⟨k1, k2⟩ := F3.fr a o e n
      exact ⟨e4 a o k1 (fun b z => by rw [k2] at z; cases z), k2⟩
theorem ok_twin (E : Hd K mg) {sch : Sch} : Met P w0 K mg base 10 (cS K) "twin" (spTwin K t s sch) := by
  refine met_mk E.cl_Sheet E.f_Sheet_twin c_Sheet_twin (fun _ _ _ _ _ _ us hl => match us, hl with | [_], _ => rfl) (fun vs H Q E ⟨p, ρ, w, q, e, _⟩ => by rw [e]; rfl) ?_
  intro f cdv A outer s0 H vs Q E' hr h
  obtain ⟨p, ρ, w, q, rfl, W, hp, ho, hs, ok, hs1, hs2, htot, few, qq⟩ := h
  obtain ⟨ro, dx, lp, col, hpo, rlp, hlp, hcol⟩ := W.sh p q hp
  have MO : Met P w0 K mg base 1 (cS K) "check_open" (spOpen K t sch.length s) := ok_check_open E
  have MB : Met P w0 K mg base 9 (cS K) "blank" (spBlank K t s sch) := ok_blank E
  have MH : Met P w0 K mg base 1 (cS K) "hold" (spHold K t s sch.length) := ok_hold E
  refine ⟨_, pss_cons (ps_expr (pe_m0 MO hr (pv 0))) (pss_cons (ps_set (i := 1) c_Sheet_twin.nd rfl (Or.inl rfl) (pe_m0 MB hr (pv 0))) (pss_cons (ps_expr (pe_m MH hr (pv 1) (pa_cons (pv 0) pa_nil))) (pss_one (ps_ret (pv 1))))), ?_⟩
  refine ⟨_, rfl, p, dx, _, rfl, hpo, sf_meth _ (by decide), p, ρ, w, q, rfl, W, hp, ho, ?_⟩
  refine ⟨_, rfl, p, dx, _, rfl, hpo, sf_meth _ (by decide), p, ρ, w, q, rfl, W, hp, hs, ok, hs1, hs2, fun x g ρ1 H1 hx W1 F1 => ?_⟩
  have hpx : x ≠ p := fun z => by rw [z, hp] at hx; cases hx
  have hx1 : (w.blank x g).sh x = some ⟨true, 0, 0, g⟩ := setA_same
  have hp1 : (w.blank x g).sh p = some q := by show setA w.sh x _ p = _; rw [setA_ne (Ne.symm hpx)]; exact hp
  obtain ⟨_, dx1, _, _, hxo, _⟩ := W1.sh x _ hx1
  refine ⟨_, rfl, x, dx1, _, rfl, hxo, sf_meth _ (by decide), _, rfl, x, p, ρ1, w.blank x g, ⟨true, 0, 0, g⟩, q, rfl, W1, hx1, hp1, hpx, rfl, hs1, ok.few, htot, few, fun b k hb hm => ?_, fun ρ2 H2 W2 F2 => ?_⟩
  · obtain ⟨q2, e⟩ := W.ok.hd b k hb x hm
    rw [hx] at e
    cases e
  · exact ⟨_, rfl, qq x g ρ2 H2 hx W2 (F1.trans F2)⟩
end
end K7
/-! The law's drawing helpers. -/
namespace K7
open PySem PySem.Spec PyProof.Rows L2
def PoolAt (H : Hp) (l : Addr) : Prop := ∃ a d n : Int, H l = some (.lst [.int a, .int d, .int n])
/-- all but the pool stands -/
def PSame (l : Addr) (H H' : Hp) : Prop := ∀ b o, H b = some o → b ≠ l → H' b = some o
theorem PSame.refl (l : Addr) (H : Hp) : PSame l H H := fun _ _ e _ => e
theorem PSame.trans {l : Addr} {H H1 H2 : Hp} (a : PSame l H H1) (b : PSame l H1 H2) : PSame l H H2 := fun x o e n => b x o (a x o e n) n
theorem PSame.of {l : Addr} {H H' : Hp} (a : Same H H') : PSame l H H' := fun x o e _ => a x o e
theorem PoolAt.same {H H' : Hp} {l : Addr} (h : PoolAt H l) (e : Same H H') : PoolAt H' l := let ⟨a, d, n, h1⟩ := h; ⟨a, d, n, e _ _ h1⟩
theorem PoolAt.ne {H : Hp} {l a : Addr} (h : PoolAt H l) (e : H a = none) : a ≠ l := fun z => by
  obtain ⟨_, _, _, h1⟩ := h
  rw [← z, e] at h1; cases h1
theorem PoolAt.ne_tup {H : Hp} {l a : Addr} {xs : List V} (h : PoolAt H l) (e : H a = some (.tup xs)) : a ≠ l := fun z => by
  obtain ⟨_, _, _, h1⟩ := h
  rw [← z, e] at h1; cases h1
theorem PoolAt.ne_ins {H : Hp} {l a C dx : Addr} {fs : List (Str × V)} (h : PoolAt H l) (e : H a = some (.ins C dx fs)) : a ≠ l := fun z => by
  obtain ⟨_, _, _, h1⟩ := h
  rw [← z, e] at h1; cases h1
theorem SchAt.ps {H H' : Hp} {t l : Addr} {sch : Sch} (h : SchAt H t sch) (p : PoolAt H l) (e : PSame l H H') : SchAt H' t sch := by
  obtain ⟨ps, h1, h2, h3⟩ := h
  exact ⟨ps, e _ _ h1 (p.ne_tup h1), h2, fun i q c a b => e _ _ (h3 i q c a b) (p.ne_tup (h3 i q c a b))⟩
theorem nat_of {i : Int} (h : 0 ≤ i) : ∃ r : Nat, i = (r : Int) := ⟨i.toNat, (Int.toNat_of_nonneg h).symm⟩
theorem pick {xs : List V} {r : Nat} (h : r < xs.length) : ∃ v, xs[r]? = some v ∧ v ∈ xs := ⟨xs[r], List.getElem?_eq_getElem h, List.getElem_mem h⟩
section
variable {P : Program} {w0 : World} {K : PySem.W.Frag} {mg : Str → Option Value} {base : Heap}
/-! cell -/
def spLCell (K : PySem.W.Frag) : Sp := fun vs H Q _ => ∃ (a : Addr) (ns : List Int) (k : Nat), vs = [.ref a, .int (k : Nat)] ∧ SqL K H a (ns.map V.int) ∧ k ≤ 5 ∧ ∀ (r : Int) H', Same H H' → Q (.int r) H'
theorem cut_int {ns : List Int} {lo hi : Option Int} {i : Nat} {x : V} (h : (cutV (ns.map V.int) lo hi)[i]? = some x) : ∃ n, x = .int n := by
  have h1 := List.mem_of_getElem? h
  unfold cutV at h1
  have h2 := List.mem_of_mem_drop (List.mem_of_mem_take h1)
  obtain ⟨n, _, e⟩ := List.mem_map.mp h2
  exact ⟨n, e.symm⟩
theorem SqL.same {K : PySem.W.Frag} {H H' : Hp} {a : Addr} {xs : List V} (h : SqL K H a xs) (e : Same H H') : SqL K H' a xs := by
  rcases h with (h | ⟨o, h⟩) | h
  · exact .inl (.inl (e _ _ h))
  · exact .inl (.inr ⟨o, e _ _ h⟩)
  · exact .inr h
theorem ok_l_cell (E : Hd K mg) : Cal P w0 K mg base 1 "_law_cell" (spLCell K) := by
  refine cal_mk E.f_l_cell c_l_cell (fun _ _ _ _ _ _ us hl => match us, hl with | [_, _], _ => rfl) (fun vs H Q E ⟨a, ns, k, e, _⟩ => by rw [e]; rfl) ?_
  intro f cdv A outer s0 H vs Q E' hr h
  obtain ⟨a, ns, k, rfl, ha, hk, q⟩ := h
  refine ⟨_, pss_cons (ps_if (pt_cmpR op_lt (pv 1) (pe_b call_len_seq E.b_len (pa_cons (pv 0) pa_nil)) (nomark _)) (pss_one (ps_ret (pe_ix ix_list (pv 0) (pv 1) (fun _ _ => rfl)))) pss_nil)
    (pss_cons (ps_set (i := 2) c_l_cell.nd rfl (Or.inl rfl) (pe_op op_mod (pe_op op_mul pe_int (pe_op op_add (pe_op op_add (pe_op op_mul (pv 1) (pv 1)) (pe_op op_mul pe_int (pv 1))) pe_int)) pe_int))
    (pss_cons (ps_for PassesOwn.never rfl (pi_list (pe_slice sl_list (pv 0) po_none (po_some pe_int))) (pg_name (i := 3) c_l_cell.nd rfl (Or.inl rfl))
      (pss_one (ps_set (i := 2) c_l_cell.nd rfl (Or.inl rfl) (pe_op op_mod (pe_op op_add (pe_op op_mul (pv 2) pe_int) (pv 3)) pe_int))))
    (pss_one (ps_ret (pv 2))))), ?_⟩
  refine ⟨_, rfl, _, rfl, a, _, rfl, .inl ha, _, _, rfl, rfl, _, rfl, ?_⟩
  by_cases hkn : k < ns.length
  · refine iteT' (decide_eq_true (by rw [List.length_map]; omega)) ?_
    exact ⟨_, rfl, _, rfl, a, _, _, _, rfl, rfl, ha, atI_nat (j := k) (v := .int ns[k]) (by rw [List.getElem?_map, List.getElem?_eq_getElem hkn]; rfl), q _ H (Same.refl H)⟩
  · refine iteF' (decide_eq_false (by rw [List.length_map]; omega)) ?_
    refine ⟨_, rfl, _, rfl, _, _, rfl, rfl, .inl ⟨by omega, by omega⟩, _, rfl, _, _, rfl, rfl, .inl ⟨by decide, by decide⟩, _, _, rfl, rfl, _, _, rfl, rfl, _, _, rfl, rfl, .inl ⟨by decide, by decide⟩, _, _, rfl, rfl, (show (0 : Int) < 2147483423 by decide), ?_⟩
    refine ⟨_, rfl, _, rfl, a, _, rfl, ha, fun p hp => ⟨p, rfl, ⟨_, SqL.of upd_same⟩, ?_⟩⟩
    refine for_it (walk_list (K := K) (a := p) (xs := cutV (ns.map V.int) none (some 3))) (fun i σ H1 => Same (upd H p (.lst (cutV (ns.map V.int) none (some 3)))) H1 ∧ ∃ (r : Int) (v3 : Option V), σ = [some (.ref a), some (.int (k : Nat)), some (.int r), v3])
      ⟨Same.refl _, _, none, rfl⟩ (fun i σ H1 _ ⟨s1, _⟩ => SqL.of (s1 _ _ upd_same)) ?_ ?_
    · rintro i x σ H1 H2 hi ⟨s1, r, v3, rfl⟩ ⟨rfl, hx⟩
      obtain ⟨n, rfl⟩ := cut_int hx
      exact ⟨_, rfl, _, _, rfl, rfl, .inr ⟨by decide, by decide⟩, _, rfl, _, _, rfl, rfl, _, _, rfl, rfl, (show (0 : Int) < 2147483423 by decide), s1, _, _, rfl⟩
    · rintro σ H1 ⟨s1, r, v3, rfl⟩
      exact ⟨_, rfl, q r H1 ((Same.upd hp).trans s1)⟩
/-! pool -/
def spLPool : Sp := fun vs H Q _ => ∃ i : Int, vs = [.int i] ∧ ∀ (l : Addr) H', Same H H' → H l = none → PoolAt H' l → Q (.ref l) H'
theorem ok_l_pool (E : Hd K mg) : Cal P w0 K mg base 1 "_law_pool" spLPool := by
  refine cal_mk E.f_l_pool c_l_pool (fun _ _ _ _ _ _ us hl => match us, hl with | [_], _ => rfl) (fun vs H Q E ⟨i, e, _⟩ => by rw [e]; rfl) ?_
  intro f cdv A outer s0 H vs Q E' hr h
  obtain ⟨i, rfl, q⟩ := h
  refine ⟨_, pss_cons (ps_set (i := 1) c_l_pool.nd rfl (Or.inl rfl) (pe_ifExp (PW.pt (pw_or (pt_cmpR op_lt (pv 0) pe_int (nomark _)) (pw_or1 (pt_cmpR op_ge (pv 0) (pe_op op_pow pe_int pe_int) (nomark _))))) (pe_b call_abs E.b_abs (pa_cons (pv 0) pa_nil)) pe_int))
    (pss_one (ps_ret (pe_lst (pa_cons (pe_op op_mod (pv 0) pe_int) (pa_cons (pv 1) (pa_cons pe_int pa_nil)))))), ?_⟩
  have hsl := sizeLine_eq
  have fin : ∀ d : Int, tSeq (tRet (tLst (tCons (tOp (rI (fun _ j => 0 < j) fun i j => .int (i % j)) (tVar 0) (tC (.int 2147483423))) (tCons (tVar 1) (tCons (tC (.int 0)) tNil))))) tNext { nx := fun _ H' => Q .non H', rt := Q } [some (.int i), some (.int d)] H := fun d => by
    refine ⟨_, rfl, _, _, rfl, rfl, (show (0 : Int) < 2147483423 by decide), _, rfl, by simp only [List.length_cons, List.length_nil]; omega, fun l hl => ?_⟩
    exact q l _ (Same.upd hl) hl ⟨_, _, _, upd_same⟩
  by_cases h1 : i < 0
  · refine ⟨_, rfl, _, _, rfl, rfl, _, rfl, ?_⟩
    refine iteT' (decide_eq_true h1) (iteT ⟨_, rfl, _, rfl, fin _⟩)
  · refine ⟨_, rfl, _, _, rfl, rfl, _, rfl, ?_⟩
    refine iteF' (decide_eq_false h1) ⟨_, rfl, _, _, rfl, rfl, ⟨by decide, by decide, by decide⟩, _, _, rfl, rfl, _, rfl, ?_⟩
    by_cases h2 : (10 : Int) ^ (18 : Int).toNat ≤ i
    · exact iteT' (decide_eq_true h2) ⟨_, rfl, _, rfl, fin _⟩
    · exact iteF' (decide_eq_false h2) (fin _)
/-! draw -/
def spDraw : Sp := fun vs H Q _ => ∃ (l : Addr) (m : Nat), vs = [.ref l, .int (m : Nat)] ∧ PoolAt H l ∧ 1 ≤ m ∧ m ≤ 1000 ∧ ∀ (r : Nat) H', r < m → PoolAt H' l → PSame l H H' → Q (.int (r : Nat)) H'
theorem psame_upd {l : Addr} {H H1 : Hp} {o : HO} (h : PSame l H H1) : PSame l H (upd H1 l o) := fun b u e n => by rw [upd_ne n]; exact h b u e n
theorem ok_l_draw (E : Hd K mg) : Cal P w0 K mg base 1 "_law_draw" spDraw := by
  refine cal_mk E.f_l_draw c_l_draw (fun _ _ _ _ _ _ us hl => match us, hl with | [_, _], _ => rfl) (fun vs H Q E ⟨l, m, e, _⟩ => by rw [e]; rfl) ?_
  intro f cdv A outer s0 H vs Q E' hr h
  obtain ⟨l, m, rfl, ⟨a, d, n, hl⟩, hm1, hm2, q⟩ := h
  refine ⟨_, pss_cons (ps_asg (pe_op op_add (pe_ix ix_list (pv 0) pe_int (fun _ _ => rfl)) pe_int) (pg_sub (pv 0) pe_int set_list))
    (pss_cons (ps_par (i := 2) (j := 3) rfl c_l_draw.nd rfl rfl (by decide) rfl rfl (pa_cons (pe_ix ix_list (pv 0) pe_int (fun _ _ => rfl)) (pa_cons (pe_op op_add (pe_op op_mul pe_int (pe_ix ix_list (pv 0) pe_int (fun _ _ => rfl))) pe_int) pa_nil)) rfl)
    (pss_cons (ps_asg (pe_op op_mod (pe_op op_add (pe_op op_mul (pv 2) (pe_op op_add (pe_op op_mod (pv 2) pe_int) pe_int)) (pv 3)) pe_int) (pg_sub (pv 0) pe_int set_list))
    (pss_cons (ps_if (pt_cmpR op_gt (pe_ix ix_list (pv 0) pe_int (fun _ _ => rfl)) pe_int (nomark _))
      (pss_cons (ps_asg (pe_b call_divmod E.b_divmod (pa_cons (pe_ix ix_list (pv 0) pe_int (fun _ _ => rfl)) (pa_cons (pv 1) pa_nil))) (pg_tup rfl (pgs_cons (pg_sub (pv 0) pe_int set_list) (pgs_cons (pg_name (i := 4) c_l_draw.nd rfl (Or.inl rfl)) pgs_nil))))
        (pss_one (ps_ret (pv 4)))) pss_nil)
    (pss_one (ps_ret (pe_op op_mod (pe_op op_fdiv (pe_ix ix_list (pv 0) pe_int (fun _ _ => rfl)) pe_int) (pv 1))))))), ?_⟩
  refine ⟨_, rfl, l, _, _, _, rfl, rfl, SqL.of hl, atI_nat (j := 2) (v := .int n) rfl, _, _, rfl, rfl, ?_⟩
  refine ⟨_, rfl, l, _, _, 2, rfl, rfl, hl, rfl, ?_⟩
  refine ⟨_, rfl, l, [.int a, .int d, .int (n + 1)], _, _, rfl, rfl, SqL.of upd_same, atI_nat (j := 0) (v := .int a) rfl, _, rfl, l, [.int a, .int d, .int (n + 1)], _, _, rfl, rfl, SqL.of upd_same, atI_nat (j := 2) (v := .int (n + 1)) rfl, _, _, rfl, rfl, .inl ⟨by decide, by decide⟩, _, _, rfl, rfl, _, _, rfl, ?_⟩
  refine ⟨_, rfl, _, rfl, _, _, rfl, rfl, (show (0 : Int) < 43013 by decide), _, _, rfl, rfl, _, _, rfl, rfl, .inr ?_, _, rfl, _, _, rfl, rfl, _, _, rfl, rfl, (show (0 : Int) < 2147483423 by decide), ?_⟩
  · have h1 := Int.emod_nonneg a (by decide : (43013 : Int) ≠ 0)
    have h2 := Int.emod_lt_of_pos a (by decide : (0 : Int) < 43013)
    exact ⟨by omega, by omega⟩
  refine ⟨_, rfl, l, [.int a, .int d, .int (n + 1)], _, 0, rfl, rfl, upd_same, rfl, ?_⟩
  refine ⟨_, rfl, l, [.int ((a * (a % 43013 + 26003) + (60029 * (n + 1) + 19)) % 2147483423), .int d, .int (n + 1)], _, _, rfl, rfl, SqL.of upd_same, atI_nat (j := 1) (v := .int d) rfl, _, _, rfl, rfl, _, rfl, ?_⟩
  have P3 : ∀ o, PSame l H (upd (upd (upd H l (.lst ([.int a, .int d, .int n].set 2 (.int (n + 1))))) l (.lst ([.int a, .int d, .int (n + 1)].set 0 (.int ((a * (a % 43013 + 26003) + (60029 * (n + 1) + 19)) % 2147483423))))) l o) := fun o => psame_upd (psame_upd (psame_upd (PSame.refl l H)))
  have P2 : PSame l H (upd (upd H l (.lst ([.int a, .int d, .int n].set 2 (.int (n + 1))))) l (.lst ([.int a, .int d, .int (n + 1)].set 0 (.int ((a * (a % 43013 + 26003) + (60029 * (n + 1) + 19)) % 2147483423))))) := psame_upd (psame_upd (PSame.refl l H))
  by_cases hd : 0 < d
  · refine iteT' (decide_eq_true hd) ?_
    refine ⟨_, rfl, l, [.int ((a * (a % 43013 + 26003) + (60029 * (n + 1) + 19)) % 2147483423), .int d, .int (n + 1)], _, _, rfl, rfl, SqL.of upd_same, atI_nat (j := 1) (v := .int d) rfl, _, rfl, _, _, rfl, ⟨by omega, by omega⟩, fun T hT => ?_⟩
    have hTl : l ≠ T := ne_of_none upd_same hT
    refine ⟨T, _, rfl, SqT.of upd_same, rfl, _, _, rfl, ⟨_, rfl, l, [.int ((a * (a % 43013 + 26003) + (60029 * (n + 1) + 19)) % 2147483423), .int d, .int (n + 1)], _, 1, rfl, rfl, by rw [upd_ne hTl]; exact upd_same, rfl, _, _, rfl, rfl, ?_⟩⟩
    obtain ⟨r, hr'⟩ := nat_of (Int.emod_nonneg d (show (m : Int) ≠ 0 by omega))
    have hlt := Int.emod_lt_of_pos d (show (0 : Int) < (m : Int) by omega)
    rw [hr'] at hlt ⊢
    refine ⟨_, rfl, q r _ (by omega) ⟨_, _, _, upd_same⟩ (psame_upd fun b u e nb => ?_)⟩
    have := P2 b u e nb
    rw [upd_ne (ne_of_none this hT)]
    exact this
  · refine iteF' (decide_eq_false hd) ?_
    refine ⟨_, rfl, l, [.int ((a * (a % 43013 + 26003) + (60029 * (n + 1) + 19)) % 2147483423), .int d, .int (n + 1)], _, _, rfl, rfl, SqL.of upd_same, atI_nat (j := 0) (v := .int ((a * (a % 43013 + 26003) + (60029 * (n + 1) + 19)) % 2147483423)) rfl, _, _, rfl, rfl, ⟨by decide, by decide⟩, _, rfl, _, _, rfl, rfl, (by omega), ?_⟩
    obtain ⟨r, hr'⟩ := nat_of (Int.emod_nonneg (((a * (a % 43013 + 26003) + (60029 * (n + 1) + 19)) % 2147483423) / 32) (show (m : Int) ≠ 0 by omega))
    have hlt := Int.emod_lt_of_pos (((a * (a % 43013 + 26003) + (60029 * (n + 1) + 19)) % 2147483423) / 32) (show (0 : Int) < (m : Int) by omega)
    rw [hr'] at hlt
    have q2 := q r _ (by omega) ⟨_, _, _, upd_same⟩ P2
    rw [← hr'] at q2
    exact q2
/-! size -/
def spSize : Sp := fun vs H Q _ => ∃ l : Addr, vs = [.ref l] ∧ PoolAt H l ∧ ∀ (s : Nat) H', 1 ≤ s → s ≤ 100 → PoolAt H' l → PSame l H H' → Q (.int (s : Nat)) H'
theorem ok_l_size (E : Hd K mg) : Cal P w0 K mg base 2 "_law_size" spSize := by
  refine cal_mk E.f_l_size c_l_size (fun _ _ _ _ _ _ us hl => match us, hl with | [_], _ => rfl) (fun vs H Q E ⟨l, e, _⟩ => by rw [e]; rfl) ?_
  intro f cdv A outer s0 H vs Q E' hr h
  obtain ⟨l, rfl, hp, q⟩ := h
  have CD : Cal P w0 K mg base 1 "_law_draw" spDraw := ok_l_draw E
  refine ⟨_, pss_one (ps_ret (pe_ix ix_list (pe_lst (pa_cons pe_int (pa_cons pe_int (pa_cons pe_int (pa_cons pe_int (pa_cons pe_int (pa_cons pe_int (pa_cons pe_int pa_nil)))))))) (pe_f CD hr (pa_cons (pv 0) (pa_cons pe_int pa_nil))) (fun _ _ => rfl))), ?_⟩
  have hsl := sizeLine_eq
  refine ⟨by simp only [List.length_cons, List.length_nil]; omega, fun L hL => ?_⟩
  have hLl : L ≠ l := hp.ne hL
  refine ⟨_, rfl, l, 7, rfl, hp.same (Same.upd hL), by decide, by decide, fun r H1 hr1 hp1 ps1 => ?_⟩
  obtain ⟨v, hv1, hv2⟩ := pick (xs := [1, 2, 3, 4, 5, 8, 100].map fun i : Nat => V.int (i : Nat)) (r := r) hr1
  obtain ⟨s, hs, rfl⟩ := List.mem_map.mp hv2
  have : 1 ≤ s ∧ s ≤ 100 := by
    have all : ∀ i ∈ ([1, 2, 3, 4, 5, 8, 100] : List Nat), 1 ≤ i ∧ i ≤ 100 := by decide
    exact all s hs
  exact ⟨L, _, _, _, rfl, rfl, SqL.of (ps1 _ _ upd_same hLl), atI_nat (j := r) hv1, q s H1 this.1 this.2 hp1 (PSame.trans (PSame.of (Same.upd hL)) ps1)⟩
/-! all_blocks -/
def spAllB : Sp := fun vs H Q _ => ∃ n wd s : Nat, vs = [.int (n : Nat), .int (wd : Nat), .int (s : Nat)] ∧ 1 ≤ s ∧ s ≤ 100 ∧ wd ≤ 100 ∧ Q (.int ((wd * nbOf s n : Nat))) H
theorem ok_l_all_blocks (E : Hd K mg) : Cal P w0 K mg base 1 "_law_all_blocks" spAllB := by
  refine cal_mk E.f_l_all_blocks c_l_all_blocks (fun _ _ _ _ _ _ us hl => match us, hl with | [_, _, _], _ => rfl) (fun vs H Q E ⟨n, wd, s, e, _⟩ => by rw [e]; rfl) ?_
  intro f cdv A outer s0 H vs Q E' hr h
  obtain ⟨n, wd, s, rfl, h1, h2, h3, q⟩ := h
  refine ⟨_, pss_one (ps_ret (pe_op op_mul (pv 1) (pe_op op_fdiv (pe_op op_sub (pe_op op_add (pv 0) (pv 2)) pe_int) (pv 2)))), ?_⟩
  refine ⟨_, rfl, _, rfl, _, rfl, _, _, rfl, rfl, _, _, rfl, rfl, _, rfl, _, _, rfl, rfl, ⟨by omega, by omega⟩, _, _, rfl, rfl, .inl ⟨by omega, by omega⟩, ?_⟩
  have e1 : (n : Int) + (s : Int) - 1 = ((n + s - 1 : Nat) : Int) := by omega
  have e2 : (wd : Int) * (((n : Int) + (s : Int) - 1) / (s : Int)) = ((wd * nbOf s n : Nat) : Int) := by
    rw [e1, ← Int.natCast_ediv, ← Int.natCast_mul]
    rfl
  rw [← e2] at q
  exact q
/-! worth -/
def spWorth : Sp := fun vs H Q _ => ∃ (l : Addr) (k : Str), vs = [.ref l, .str k] ∧ PoolAt H l ∧ KindOk k ∧ ∀ (v : V) H', ValOk k v → PoolAt H' l → PSame l H H' → Q v H'
def worthTexts : List Str := ["", "a", "b", "ab", "Rome", "), [a,b", "\"", "\\", "none", " "]
theorem worth_ok : ∀ z ∈ worthTexts, TxtOk z := by unfold TxtOk; decide +kernel
theorem ok_l_worth (E : Hd K mg) : Cal P w0 K mg base 2 "_law_worth" spWorth := by
  refine cal_mk E.f_l_worth c_l_worth (fun _ _ _ _ _ _ us hl => match us, hl with | [_, _], _ => rfl) (fun vs H Q E ⟨l, k, e, _⟩ => by rw [e]; rfl) ?_
  intro f cdv A outer s0 H vs Q E' hr h
  obtain ⟨l, k, rfl, hp, hk, q⟩ := h
  have CD : Cal P w0 K mg base 1 "_law_draw" spDraw := ok_l_draw E
  have hsl := sizeLine_eq
  refine ⟨_, pss_cons (ps_if (pt_cmpR op_eq (pe_f CD hr (pa_cons (pv 0) (pa_cons pe_int pa_nil))) pe_int (nomark _)) (pss_one (ps_ret pe_non)) pss_nil)
    (pss_cons (ps_if (pt_cmpR op_eq (pv 1) pe_str (nomark _)) (pss_one (ps_ret (pe_ix ix_list (pe_lst (pa_cons pe_int (pa_cons pe_int (pa_cons pe_int (pa_cons (pe_un un_neg pe_int) (pa_cons pe_int (pa_cons pe_int (pa_cons (pe_un un_neg (pe_op op_pow pe_int pe_int)) (pa_cons (pe_op op_pow pe_int pe_int) pa_nil))))))))) (pe_f CD hr (pa_cons (pv 0) (pa_cons pe_int pa_nil))) (fun _ _ => rfl)))) pss_nil)
    (pss_cons (ps_if (pt_cmpR op_eq (pv 1) pe_str (nomark _)) (pss_one (ps_ret (pe_ix ix_list (pe_lst (pa_cons pe_str (pa_cons pe_str (pa_cons pe_str (pa_cons pe_str (pa_cons pe_str (pa_cons pe_str (pa_cons pe_str (pa_cons pe_str (pa_cons pe_str (pa_cons pe_str pa_nil))))))))))) (pe_f CD hr (pa_cons (pv 0) (pa_cons pe_int pa_nil))) (fun _ _ => rfl)))) pss_nil)
    (pss_one (ps_ret (pe_cmpR op_eq (pe_f CD hr (pa_cons (pv 0) (pa_cons pe_int pa_nil))) pe_int (nomark _)))))), ?_⟩
  refine ⟨_, rfl, l, 5, rfl, hp, by decide, by decide, fun r H1 hr1 hp1 ps1 => ⟨rfl, _, rfl, ?_⟩⟩
  cases hd : decide (V.int (r : Nat) = V.int 0) with
  | true => exact iteT (q .non H1 (.inl rfl) hp1 ps1)
  | false =>
    refine iteF ⟨_, rfl, rfl, _, rfl, ?_⟩
    rcases hk with rfl | rfl | rfl
    · refine iteT' (by decide +kernel) ?_
      refine ⟨_, rfl, _, _, rfl, rfl, ⟨by decide, by decide, by decide⟩, _, rfl, _, _, rfl, rfl, ⟨by decide, by decide, by decide⟩, by simp only [List.length_cons, List.length_nil]; omega, fun L hL => ?_⟩
      refine ⟨_, rfl, l, 8, rfl, hp1.same (Same.upd hL), by decide, by decide, fun r2 H2 hr2 hp2 ps2 => ?_⟩
      obtain ⟨v, hv1, hv2⟩ := pick (xs := [0, 1, 2, -1, 3, 7, -(10 : Int) ^ (12 : Int).toNat, (10 : Int) ^ (13 : Int).toNat].map V.int) (r := r2) hr2
      obtain ⟨i, _, rfl⟩ := List.mem_map.mp hv2
      exact ⟨L, _, _, _, rfl, rfl, SqL.of (ps2 _ _ upd_same (hp1.ne hL)), atI_nat (j := r2) hv1, q _ H2 (.inr (.inl ⟨rfl, i, rfl⟩)) hp2 (ps1.trans (PSame.trans (PSame.of (Same.upd hL)) ps2))⟩
    · refine iteF' (by decide +kernel) ⟨_, rfl, rfl, _, rfl, iteT' (by decide +kernel) ?_⟩
      refine ⟨by simp only [List.length_cons, List.length_nil]; omega, fun L hL => ?_⟩
      refine ⟨_, rfl, l, 10, rfl, hp1.same (Same.upd hL), by decide, by decide, fun r2 H2 hr2 hp2 ps2 => ?_⟩
      obtain ⟨v, hv1, hv2⟩ := pick (xs := worthTexts.map V.str) (r := r2) hr2
      obtain ⟨z, hz, rfl⟩ := List.mem_map.mp hv2
      exact ⟨L, _, _, _, rfl, rfl, SqL.of (ps2 _ _ upd_same (hp1.ne hL)), atI_nat (j := r2) hv1, q _ H2 (.inr (.inr (.inl ⟨rfl, z, rfl, worth_ok z hz⟩))) hp2 (ps1.trans (PSame.trans (PSame.of (Same.upd hL)) ps2))⟩
    · refine iteF' (by decide +kernel) ⟨_, rfl, rfl, _, rfl, iteF' (by decide +kernel) ?_⟩
      refine ⟨_, rfl, l, 2, rfl, hp1, by decide, by decide, fun r2 H2 hr2 hp2 ps2 => ⟨rfl, ?_⟩⟩
      exact q _ H2 (.inr (.inr (.inr ⟨rfl, _, rfl⟩))) hp2 (ps1.trans ps2)
end
end K7
/-! The law's makers: calls, heads. -/
namespace K7
open PySem PySem.Spec PyProof.Rows L2
theorem PSame.none {l a : Addr} {H H' : Hp} (e : PSame l H H') (p : PoolAt H' l) (h : H' a = none) : H a = none := by
  cases e1 : H a with
  | none => rfl
  | some o => rw [e a o e1 (p.ne h)] at h; cases h
/-! ### names -/
def ownW : List Str := ["scan", "where", "pick", "add", "there", "up", "all", "int", "count", "none", "value", "rows"]
def nmA (b k : Nat) : Str := ownW.getD ((b + 5 * k) % 12) ""
def timesOf (k : Nat) : Nat := ([1, 1, 2, 8] : List Nat).getD (k % 4) 1
def nmB (b k : Nat) : Str := ⟨(List.replicate (timesOf k) (97 + (b + 5 * k) % 26)).toArray⟩
theorem nmA_ok : ∀ b < 12, ∀ m < 5, (∀ z ∈ (List.range m).map (nmA b), NameOk z) ∧ ((List.range m).map (nmA b)).Nodup := by unfold NameOk; decide +kernel
theorem nmB_ok : ∀ b < 12, ∀ m < 5, (∀ z ∈ (List.range m).map (nmB b), NameOk z) ∧ ((List.range m).map (nmB b)).Nodup := by unfold NameOk; decide +kernel
theorem letter_at : ∀ j < 26, (("abcdefghijklmnopqrstuvwxyz" : Str)).cps.toList[j]? = some (97 + j) := by decide +kernel
theorem foldl_push (c : Nat) : ∀ (n : Nat) (l : List Nat), (List.replicate n (#[c] : Array Nat)).foldl (· ++ ·) l.toArray = (l ++ List.replicate n c).toArray
  | 0, l => by simp
  | n + 1, l => by
    rw [List.replicate_succ, List.foldl_cons]
    have : l.toArray ++ #[c] = (l ++ [c]).toArray := by simp
    rw [this, foldl_push c n (l ++ [c]), List.replicate_succ, List.append_assoc]
    rfl
theorem repS_sign (c n : Nat) : repS ⟨#[c]⟩ n = ⟨(List.replicate n c).toArray⟩ := by
  unfold repS
  have := foldl_push c n []
  rw [List.nil_append] at this
  exact congrArg Str.mk this
theorem times_le (k : Nat) : 1 ≤ timesOf k ∧ timesOf k ≤ 8 := by
  have all : ∀ i < 4, 1 ≤ ([1, 1, 2, 8] : List Nat).getD i 1 ∧ ([1, 1, 2, 8] : List Nat).getD i 1 ≤ 8 := by decide
  exact all (k % 4) (Nat.mod_lt _ (by decide))
theorem getD_at {α : Type} {l : List α} {i : Nat} {d : α} (h : i < l.length) : l[i]? = some (l.getD i d) := by
  rw [List.getD_eq_getElem?_getD, List.getElem?_eq_getElem h]
  rfl
section
variable {P : Program} {w0 : World} {K : PySem.W.Frag} {mg : Str → Option Value} {base : Heap}
/-! calls -/
def spCalls : Sp := fun vs H Q _ => ∃ (l : Addr) (m : Nat), vs = [.ref l, .int (m : Nat)] ∧ PoolAt H l ∧ m ≤ 4 ∧
  ∀ (D : Addr) (zs : List Str) H', zs.length = m → (∀ z ∈ zs, NameOk z) → zs.Nodup → H D = none → H' D = some (.lst (zs.map V.str)) → PoolAt H' l → PSame l H H' → Q (.ref D) H'
theorem ok_l_calls (E : Hd K mg) : Cal P w0 K mg base 2 "_law_calls" spCalls := by
  refine cal_mk E.f_l_calls c_l_calls (fun _ _ _ _ _ _ us hl => match us, hl with | [_, _], _ => rfl) (fun vs H Q E ⟨l, m, e, _⟩ => by rw [e]; rfl) ?_
  intro f cdv A outer s0 H vs Q E' hr h
  obtain ⟨l, m, rfl, hp, hm, q⟩ := h
  have CD : Cal P w0 K mg base 1 "_law_draw" spDraw := ok_l_draw E
  have hsl := sizeLine_eq
  refine ⟨_, pss_cons (ps_set (i := 2) c_l_calls.nd rfl (Or.inr rfl) (pe_lst (pa_cons pe_str (pa_cons pe_str (pa_cons pe_str (pa_cons pe_str (pa_cons pe_str (pa_cons pe_str (pa_cons pe_str (pa_cons pe_str (pa_cons pe_str (pa_cons pe_str (pa_cons pe_str (pa_cons pe_str pa_nil))))))))))))))
    (pss_cons (ps_set (i := 3) c_l_calls.nd rfl (Or.inr rfl) (pe_f CD hr (pa_cons (pv 0) (pa_cons pe_int pa_nil))))
    (pss_cons (ps_if (pt_cmpR op_eq (pe_f CD hr (pa_cons (pv 0) (pa_cons pe_int pa_nil))) pe_int (nomark _))
      (pss_one (ps_ret (pe_lc (own := [("_law_k", 4)]) (g := gName 4) (tt := tYes) (te := tOp (rIxL K) (tVar 2) (tOp (rI (fun _ j => 0 < j) fun i j => .int (i % j)) (tOp (rI0 fun i j => .int (i + j)) (tVar 3) (tOp (rI CMul fun i j => .int (i * j)) (tC (.int 5)) (tVar 4))) (tC (.int 12))))
        rfl c_l_calls.nd (pi_range1 rfl E.b_range (pa_cons (pv 1) pa_nil)) (blkOk_by (N := n_l_calls) (sc := defScope s_l_calls) (by decide +kernel))
        (fun _ _ _ _ _ => pg_name (i := 4) c_l_calls.nd rfl (Or.inl rfl)) (fun _ _ _ _ _ => pts_nil)
        (fun _ _ _ _ _ => pe_ix ix_list (pv 2) (pe_op op_mod (pe_op op_add (pv 3) (pe_op op_mul pe_int (pv 4))) pe_int) (fun _ _ => rfl))))) pss_nil)
    (pss_cons (ps_set (i := 5) c_l_calls.nd rfl (Or.inr rfl) pe_str)
    (pss_one (ps_ret (pe_lc (own := [("_law_k", 4)]) (g := gName 4) (tt := tYes) (te := tOp rMulS (tOp rIxS (tVar 5) (tOp (rI (fun _ j => 0 < j) fun i j => .int (i % j)) (tOp (rI0 fun i j => .int (i + j)) (tVar 3) (tOp (rI CMul fun i j => .int (i * j)) (tC (.int 5)) (tVar 4))) (tC (.int 26))))
          (tOp (rIxL K) (tLst (tCons (tC (.int 1)) (tCons (tC (.int 1)) (tCons (tC (.int 2)) (tCons (tC (.int 8)) tNil))))) (tOp (rI (fun _ j => 0 < j) fun i j => .int (i % j)) (tVar 4) (tC (.int 4)))))
        rfl c_l_calls.nd (pi_range1 rfl E.b_range (pa_cons (pv 1) pa_nil)) (blkOk_by (N := n_l_calls) (sc := defScope s_l_calls) (by decide +kernel))
        (fun _ _ _ _ _ => pg_name (i := 4) c_l_calls.nd rfl (Or.inl rfl)) (fun _ _ _ _ _ => pts_nil)
        (fun _ _ _ _ _ => pe_op op_mulS (pe_ix ix_str (pv 5) (pe_op op_mod (pe_op op_add (pv 3) (pe_op op_mul pe_int (pv 4))) pe_int) (fun _ _ => rfl))
          (pe_ix ix_list (pe_lst (pa_cons pe_int (pa_cons pe_int (pa_cons pe_int (pa_cons pe_int pa_nil))))) (pe_op op_mod (pv 4) pe_int) (fun _ _ => rfl))))))))), ?_⟩
  refine ⟨by simp only [List.length_cons, List.length_nil]; omega, fun L hL => ?_⟩
  have hLl : L ≠ l := hp.ne hL
  refine ⟨_, rfl, l, 12, rfl, hp.same (Same.upd hL), by decide, by decide, fun b H1 hb hp1 ps1 => ?_⟩
  refine ⟨_, rfl, l, 3, rfl, hp1, by decide, by decide, fun r H2 hr2 hp2 ps2 => ⟨rfl, _, rfl, ?_⟩⟩
  have hL2 : H2 L = some (.lst (ownW.map V.str)) := ps2 _ _ (ps1 _ _ upd_same hLl) hLl
  have ps02 : PSame l H H2 := ((PSame.of (Same.upd hL)).trans ps1).trans ps2
  have z5 : ∀ i : Nat, ((b : Nat) : Int) + 5 * ((0 : Int) + (i : Nat)) = ((b + 5 * i : Nat) : Int) := fun i => by push_cast; omega
  cases hd : decide (V.int (r : Nat) = V.int 0) with
  | true =>
    refine iteT ?_
    refine ⟨_, rfl, _, rfl, by omega, by omega, fun D hD => ?_⟩
    refine lc_it walk_range (fun i H3 => Same H2 H3 ∧ H3 D = some (.lst (((List.range i).map (nmA b)).map V.str))) ⟨Same.upd hD, upd_same⟩ (fun _ _ _ _ => trivial) ?_ ?_
    · rintro i x H3 H4 hi ⟨s3, h3⟩ ⟨rfl, rfl⟩
      refine ⟨rfl, yesT ⟨_, rfl, _, rfl, _, rfl, _, _, rfl, rfl, .inl ⟨by decide, by decide⟩, _, _, rfl, rfl, _, _, rfl, rfl, (show (0 : Int) < 12 by decide), ?_⟩⟩
      have hlt : (b + 5 * i) % 12 < ownW.length := Nat.mod_lt _ (by decide)
      refine ⟨L, _, _, .str (nmA b i), rfl, rfl, SqL.of (s3 _ _ hL2), ?_, _, h3, ?_, same_new hD s3 _, ?_⟩
      · rw [z5 i]
        exact atI_nat (j := (b + 5 * i) % 12) (by rw [List.getElem?_map, getD_at (l := ownW) (i := (b + 5 * i) % 12) (d := ("" : Str)) hlt]; rfl)
      · have : i < m := hi
        rw [List.length_map, List.length_map, List.length_range]
        omega
      · rw [upd_same, List.range_succ, List.map_append, List.map_append]
        rfl
    · rintro H3 ⟨s3, h3⟩
      obtain ⟨k1, k2⟩ := nmA_ok b hb m (by omega)
      exact q D ((List.range m).map (nmA b)) H3 (by rw [List.length_map, List.length_range]) k1 k2 (ps02.none hp2 hD) h3 (hp2.same s3) (ps02.trans (PSame.of s3))
  | false =>
    refine iteF ⟨_, rfl, _, rfl, by omega, by omega, fun D hD => ?_⟩
    refine lc_it walk_range (fun i H3 => Same H2 H3 ∧ H3 D = some (.lst (((List.range i).map (nmB b)).map V.str))) ⟨Same.upd hD, upd_same⟩ (fun _ _ _ _ => trivial) ?_ ?_
    · rintro i x H3 H4 hi ⟨s3, h3⟩ ⟨rfl, rfl⟩
      refine ⟨rfl, yesT ⟨_, rfl, _, rfl, _, rfl, _, _, rfl, rfl, .inl ⟨by decide, by decide⟩, _, _, rfl, rfl, _, _, rfl, rfl, (show (0 : Int) < 26 by decide), ?_⟩⟩
      refine ⟨_, _, 97 + (b + 5 * i) % 26, rfl, rfl, by decide +kernel, ?_, ?_⟩
      · rw [z5 i]
        exact atI_nat (j := (b + 5 * i) % 26) (letter_at _ (Nat.mod_lt _ (by decide)))
      refine ⟨by simp only [List.length_cons, List.length_nil]; omega, fun M hM => ⟨_, rfl, _, _, rfl, rfl, (show (0 : Int) < 4 by decide), M, [1, 1, 2, 8].map fun j : Nat => V.int (j : Nat), _, .int (timesOf i : Nat), rfl, rfl, SqL.of upd_same, ?_, ?_⟩⟩
      · have zi : ((0 : Int) + ((i : Nat) : Int)) % 4 = ((i % 4 : Nat) : Int) := by rw [Int.zero_add]; rfl
        rw [zi]
        exact atI_nat (j := i % 4) (by rw [List.getElem?_map, getD_at (l := ([1, 1, 2, 8] : List Nat)) (i := i % 4) (d := 1) (show i % 4 < ([1, 1, 2, 8] : List Nat).length from Nat.mod_lt _ (by decide))]; rfl)
      have ht := times_le i
      have hMD : D ≠ M := ne_of_none h3 hM
      refine ⟨_, timesOf i, rfl, rfl, ht.1, by omega, by show 1 ≤ 1; decide, by show 1 ≤ 1000; decide, _, by rw [upd_ne hMD]; exact h3, ?_, ?_, ?_⟩
      · have : i < m := hi
        rw [List.length_map, List.length_map, List.length_range]
        omega
      · exact same_new hD (s3.trans (Same.upd hM)) _
      · rw [upd_same, repS_sign, List.range_succ, List.map_append, List.map_append]
        rfl
    · rintro H3 ⟨s3, h3⟩
      obtain ⟨k1, k2⟩ := nmB_ok b hb m (by omega)
      exact q D ((List.range m).map (nmB b)) H3 (by rw [List.length_map, List.length_range]) k1 k2 (ps02.none hp2 hD) h3 (hp2.same s3) (ps02.trans (PSame.of s3))
/-! heads -/
def spHeads : Sp := fun vs H Q _ => ∃ (l D : Addr) (zs : List Str), vs = [.ref l, .ref D] ∧ PoolAt H l ∧ D ≠ l ∧ H D = some (.lst (zs.map V.str)) ∧ 1 ≤ zs.length ∧ zs.length ≤ 4 ∧ (∀ z ∈ zs, NameOk z) ∧ zs.Nodup ∧
  ∀ (t : Addr) (sch : Sch) H', SchAt H' t sch → SchOk sch → sch.length = zs.length → PoolAt H' l → PSame l H H' → Q (.ref t) H'
def kindW : List Str := ["int", "text", "bool", "int", "text"]
theorem kindW_ok : ∀ z ∈ kindW, KindOk z := by
  intro z hz
  have : z = "int" ∨ z = "text" ∨ z = "bool" ∨ z = "int" ∨ z = "text" := by simpa [kindW] using hz
  rcases this with h | h | h | h | h
  · exact .inl h
  · exact .inr (.inl h)
  · exact .inr (.inr h)
  · exact .inl h
  · exact .inr (.inl h)
theorem ok_l_heads (E : Hd K mg) : Cal P w0 K mg base 2 "_law_heads" spHeads := by
  refine cal_mk E.f_l_heads c_l_heads (fun _ _ _ _ _ _ us hl => match us, hl with | [_, _], _ => rfl) (fun vs H Q E ⟨l, D, zs, e, _⟩ => by rw [e]; rfl) ?_
  intro f cdv A outer s0 H vs Q E' hr h
  obtain ⟨l, C, zs, rfl, hp, hCl, hC, hz1, hz2, hzn, hzd, q⟩ := h
  have CD : Cal P w0 K mg base 1 "_law_draw" spDraw := ok_l_draw E
  have hsl := sizeLine_eq
  refine ⟨_, pss_cons (ps_set (i := 2) c_l_heads.nd rfl (Or.inr rfl) (pe_op op_cat (pe_lst (pa_cons pe_str pa_nil)) (pe_lc (own := [("_law_call", 3)]) (g := gName 3) (tt := tYes)
      (te := tOp (rIxL K) (tLst (tCons (tC (.str "int")) (tCons (tC (.str "text")) (tCons (tC (.str "bool")) (tCons (tC (.str "int")) (tCons (tC (.str "text")) tNil)))))) (tCall spDraw [] E0 (tCons (tVar 0) (tCons (tC (.int 5)) tNil))))
      rfl c_l_heads.nd (pi_list (pe_slice sl_list (pv 1) (po_some pe_int) po_none)) (blkOk_by (N := n_l_heads) (sc := defScope s_l_heads) (by decide +kernel))
      (fun _ _ _ _ _ => pg_name (i := 3) c_l_heads.nd rfl (Or.inl rfl)) (fun _ _ _ _ _ => pts_nil)
      (fun _ _ _ _ _ => pe_ix ix_list (pe_lst (pa_cons pe_str (pa_cons pe_str (pa_cons pe_str (pa_cons pe_str (pa_cons pe_str pa_nil)))))) (pe_f (j := 1) CD hr (pa_cons (pv 0) (pa_cons pe_int pa_nil))) (fun _ _ => rfl)))))
    (pss_one (ps_ret (pe_ty call_tuple_of E.b_tuple (pa_cons (pe_lc (own := [("_law_k", 4)]) (g := gName 4) (tt := tYes) (te := tTup (tCons (tOp (rIxL K) (tVar 1) (tVar 4)) (tCons (tOp (rIxL K) (tVar 2) (tVar 4)) tNil)))
      rfl c_l_heads.nd (pi_range1 rfl E.b_range (pa_cons (pe_b call_len_seq E.b_len (pa_cons (pv 1) pa_nil)) pa_nil)) (blkOk_by (N := n_l_heads) (sc := defScope s_l_heads) (by decide +kernel))
      (fun _ _ _ _ _ => pg_name (i := 4) c_l_heads.nd rfl (Or.inl rfl)) (fun _ _ _ _ _ => pts_nil)
      (fun _ _ _ _ _ => pe_tup (pa_cons (pe_ix ix_list (pv 1) (pv 4) (fun _ _ => rfl)) (pa_cons (pe_ix ix_list (pv 2) (pv 4) (fun _ _ => rfl)) pa_nil)))) pa_nil)))), ?_⟩
  refine ⟨by simp only [List.length_cons, List.length_nil]; omega, fun L hL => ?_⟩
  have sL : Same H (upd H L (.lst [.str "int"])) := Same.upd hL
  refine ⟨_, rfl, _, rfl, C, _, rfl, SqL.of (sL _ _ hC), fun S hS => ⟨S, rfl, ⟨_, SqL.of upd_same⟩, fun D hD => ?_⟩⟩
  let H0 := upd (upd H L (.lst [.str "int"])) S (.lst (cutV (zs.map V.str) (some 1) none))
  have sH0 : Same H H0 := sL.trans (Same.upd hS)
  have hp0 : PoolAt H0 l := hp.same sH0
  have hS0 : H0 S = some (.lst (cutV (zs.map V.str) (some 1) none)) := upd_same
  have hSl : S ≠ l := (hp.same sL).ne hS
  have hDl : D ≠ l := hp0.ne hD
  have cl : (cutV (zs.map V.str) (some 1) none).length = zs.length - 1 := by
    unfold cutV
    rw [List.length_take, List.length_drop, List.length_map]
    have e1 : HT.sIx zs.length 0 (some (1 : Int)) = min 1 zs.length := HT.sIx_nat zs.length 0 1
    have e2 : HT.sIx zs.length zs.length none = zs.length := rfl
    rw [e1, e2]
    omega
  refine lc_it (walk_list (K := K) (a := S) (xs := cutV (zs.map V.str) (some 1) none)) (fun i H1 => PSame l H0 H1 ∧ PoolAt H1 l ∧ ∃ ks : List Str, ks.length = i ∧ (∀ k ∈ ks, KindOk k) ∧ H1 D = some (.lst (ks.map V.str)))
    ⟨PSame.of (Same.upd hD), hp0.same (Same.upd hD), [], rfl, (fun k hk => by cases hk), upd_same⟩ (fun i H1 _ ⟨s1, _⟩ => SqL.of (s1 _ _ hS0 hSl)) ?_ ?_
  · rintro i x H1 H2 hi ⟨s1, p1, ks, hk1, hk2, h1⟩ ⟨rfl, hx⟩
    rw [cl] at hi
    refine ⟨rfl, yesT ⟨by simp only [List.length_cons, List.length_nil]; omega, fun M hM => ⟨_, rfl, l, 5, rfl, p1.same (Same.upd hM), by decide, by decide, fun r H3 hr3 p3 s3 => ?_⟩⟩⟩
    have hMl : M ≠ l := p1.ne hM
    obtain ⟨v, hv1, hv2⟩ := pick (xs := kindW.map V.str) (r := r) hr3
    obtain ⟨z, hz, rfl⟩ := List.mem_map.mp hv2
    have hD3 : H3 D = some (.lst (ks.map V.str)) := s3 _ _ (by rw [upd_ne (ne_of_none h1 hM)]; exact h1) hDl
    refine ⟨M, _, _, _, rfl, rfl, SqL.of (s3 _ _ upd_same hMl), atI_nat (j := r) hv1, _, hD3, by rw [List.length_map]; omega, fun b o e n => ?_, ?_, ks ++ [z], by rw [List.length_append, hk1]; rfl, fun k hk => ?_, ?_⟩
    · rw [upd_ne (ne_of_none e hD)]
      exact ((s1.trans (PSame.of (Same.upd hM))).trans s3) b o e n
    · obtain ⟨a, d, n, e⟩ := p3
      exact ⟨a, d, n, by rw [upd_ne (Ne.symm hDl)]; exact e⟩
    · rcases List.mem_append.mp hk with k1 | k1
      · exact hk2 k k1
      · rw [List.mem_singleton.mp k1]; exact kindW_ok z hz
    · rw [upd_same, List.map_append]; rfl
  rintro H1 ⟨s1, p1, ks, hk1, hk2, h1⟩
  rw [cl] at hk1
  have hLl : L ≠ l := hp.ne hL
  have hSL : L ≠ S := ne_of_none upd_same hS
  have hL1 : H1 L = some (.lst [.str "int"]) := s1 _ _ (by show upd _ S _ L = _; rw [upd_ne hSL, upd_same]) hLl
  refine ⟨L, D, _, _, rfl, rfl, hL1, h1, by rw [List.length_map]; simp only [List.length_cons, List.length_nil]; omega, fun G hG => ?_⟩
  have ks0 : ((.str "int" : V) :: ks.map V.str) = (("int" : Str) :: ks).map V.str := rfl
  have s01 : PSame l H H1 := (PSame.of sH0).trans s1
  let H2 := upd H1 G (.lst ([.str "int"] ++ ks.map V.str))
  have s12 : Same H1 H2 := Same.upd hG
  have hG2 : H2 G = some (.lst ((("int" : Str) :: ks).map V.str)) := upd_same
  have hC2 : H2 C = some (.lst (zs.map V.str)) := s12 _ _ (s01 _ _ hC hCl)
  let sch : Sch := zs.zip (("int" : Str) :: ks)
  have hlen : sch.length = zs.length := by
    show (zs.zip _).length = _
    rw [List.length_zip, List.length_cons]
    omega
  have ok : SchOk sch := by
    refine ⟨?_, by omega, fun c hc => ?_, fun c hc => ?_, ?_⟩
    · intro z
      rw [z] at hlen
      simp only [List.length_nil] at hlen
      omega
    · exact hzn _ (List.of_mem_zip (a := c.1) (b := c.2) hc).1
    · have := (List.of_mem_zip (a := c.1) (b := c.2) hc).2
      rcases List.mem_cons.mp this with k1 | k1
      · exact .inl k1
      · exact hk2 _ k1
    · show (List.map Prod.fst (zs.zip (("int" : Str) :: ks))).Nodup
      rw [List.map_fst_zip (by rw [List.length_cons]; omega)]
      exact hzd
  refine ⟨_, rfl, C, _, rfl, .inl (SqL.of hC2), _, rfl, ?_, ?_, fun F hF => ?_⟩
  · rw [List.length_map]; omega
  · rw [List.length_map]; omega
  rw [List.length_map]
  refine lc_it walk_range (fun i H3 => Same H2 H3 ∧ ∃ ps : List Addr, ps.length = i ∧ H3 F = some (.lst (ps.map V.ref)) ∧ ∀ (j : Nat) (a : Addr) (c : Str × Str), ps[j]? = some a → sch[j]? = some c → H3 a = some (.tup [.str c.1, .str c.2]))
    ⟨Same.upd hF, [], rfl, upd_same, fun j a c h => by simp at h⟩ (fun _ _ _ _ => trivial) ?_ ?_
  · rintro i x H3 H4 hi ⟨s3, ps, hps, h3, hall⟩ ⟨rfl, rfl⟩
    have hi' : i < zs.length := hi
    have hi2 : i < (("int" : Str) :: ks).length := by rw [List.length_cons]; omega
    have zi : ((0 : Int) + ((i : Nat) : Int)) = ((i : Nat) : Int) := Int.zero_add _
    refine ⟨rfl, yesT ⟨_, rfl, _, rfl, C, _, _, .str zs[i], rfl, rfl, SqL.of (s3 _ _ hC2), by rw [zi]; exact atI_nat (j := i) (by rw [List.getElem?_map, List.getElem?_eq_getElem hi']; rfl),
      _, rfl, _, rfl, G, _, _, .str (("int" : Str) :: ks)[i], rfl, rfl, SqL.of (s3 _ _ hG2), by rw [zi]; exact atI_nat (j := i) (by rw [List.getElem?_map, List.getElem?_eq_getElem hi2]; rfl), by simp only [List.length_cons, List.length_nil]; omega, fun T hT => ?_⟩⟩
    have hTF : F ≠ T := ne_of_none h3 hT
    refine ⟨_, by rw [upd_ne hTF]; exact h3, by rw [List.length_map]; omega, same_new hF (s3.trans (Same.upd hT)) _, ps ++ [T], by rw [List.length_append, hps]; rfl, by rw [upd_same, List.map_append]; rfl, fun j a c ha hc => ?_⟩
    by_cases hj : j < ps.length
    · rw [List.getElem?_append_left hj] at ha
      have k1 := hall j a c ha hc
      rw [upd_ne (fun z => by rw [z, h3] at k1; cases k1), upd_ne (ne_of_none k1 hT)]
      exact k1
    · rw [List.getElem?_append_right (by omega)] at ha
      have hj0 : j - ps.length = 0 := by
        by_cases h0 : j - ps.length = 0
        · exact h0
        · rw [List.getElem?_eq_none (by simp only [List.length_cons, List.length_nil]; omega)] at ha; cases ha
      have hji : j = i := by omega
      subst hji
      rw [hj0] at ha
      cases ha
      have hc2 : sch[j]? = some (zs[j], (("int" : Str) :: ks)[j]) := by
        show (zs.zip _)[j]? = _
        rw [List.getElem?_zip_eq_some]
        exact ⟨List.getElem?_eq_getElem hi', List.getElem?_eq_getElem hi2⟩
      rw [hc2] at hc
      cases hc
      rw [upd_ne (Ne.symm hTF), upd_same]
  · rintro H3 ⟨s3, ps, hps, h3, hall⟩
    refine ⟨F, _, rfl, .inl ⟨SqL.of h3, fun t ht => ?_⟩⟩
    have s4 := (s12.trans s3).trans (Same.upd (o := .tup (ps.map V.ref)) ht)
    refine q t sch _ ⟨ps, upd_same, by rw [hlen]; exact hps, fun j a c ha hc => ?_⟩ ok hlen (p1.same s4) (s01.trans (PSame.of s4))
    rw [upd_ne (ne_of_none (hall j a c ha hc) ht)]
    exact hall j a c ha hc
end
end K7
/-! The law's spots and puts. -/
namespace K7
open PySem PySem.Spec PyProof.Rows L2
/-- pairs of numbers, each a tuple -/
def TupsAt (H : Hp) : List Addr → List (Nat × Nat) → Prop
  | [], [] => True
  | a :: as, q :: qs => H a = some (.tup [.int (q.1 : Nat), .int (q.2 : Nat)]) ∧ TupsAt H as qs
  | _, _ => False
def KeepTup (H H' : Hp) : Prop := ∀ a xs, H a = some (.tup xs) → H' a = some (.tup xs)
theorem TupsAt.keep {H H' : Hp} (e : KeepTup H H') : ∀ {as : List Addr} {qs : List (Nat × Nat)}, TupsAt H as qs → TupsAt H' as qs
  | [], [], _ => trivial
  | a :: as, q :: qs, h => ⟨e _ _ h.1, TupsAt.keep e h.2⟩
  | [], _ :: _, h => h.elim
  | _ :: _, [], h => h.elim
theorem TupsAt.len {H : Hp} : ∀ {as : List Addr} {qs : List (Nat × Nat)}, TupsAt H as qs → as.length = qs.length
  | [], [], _ => rfl
  | a :: as, q :: qs, h => congrArg (· + 1) (TupsAt.len h.2)
  | [], _ :: _, h => h.elim
  | _ :: _, [], h => h.elim
theorem TupsAt.app {H : Hp} : ∀ {as bs : List Addr} {qs rs : List (Nat × Nat)}, TupsAt H as qs → TupsAt H bs rs → TupsAt H (as ++ bs) (qs ++ rs)
  | [], _, [], _, _, g => g
  | a :: as, _, q :: qs, _, h, g => ⟨h.1, TupsAt.app h.2 g⟩
  | [], _, _ :: _, _, h, _ => h.elim
  | _ :: _, _, [], _, h, _ => h.elim
theorem TupsAt.at {H : Hp} : ∀ {as : List Addr} {qs : List (Nat × Nat)} {i : Nat} {a : Addr}, TupsAt H as qs → as[i]? = some a → ∃ q, qs[i]? = some q ∧ H a = some (.tup [.int (q.1 : Nat), .int (q.2 : Nat)])
  | [], [], i, a, _, e => by simp at e
  | b :: as, q :: qs, 0, a, h, e => by
    cases e
    exact ⟨q, rfl, h.1⟩
  | b :: as, q :: qs, i + 1, a, h, e => TupsAt.at (as := as) (qs := qs) (i := i) h.2 (by simpa using e)
  | [], _ :: _, _, _, h, _ => h.elim
  | _ :: _, [], _, _, h, _ => h.elim
theorem KeepTup.refl (H : Hp) : KeepTup H H := fun _ _ e => e
theorem KeepTup.trans {H H1 H2 : Hp} (a : KeepTup H H1) (b : KeepTup H1 H2) : KeepTup H H2 := fun x o e => b x o (a x o e)
theorem Same.kt {H H' : Hp} (e : Same H H') : KeepTup H H' := fun a xs h => e _ _ h
theorem PSame.kt {l : Addr} {H H' : Hp} (e : PSame l H H') (p : PoolAt H l) : KeepTup H H' := fun a xs h => e _ _ h (p.ne_tup h)
theorem Frm.kt {ρ ρ' : Rls} {H H' : Hp} (f : Frm ρ H ρ' H') (d : RDom ρ H) : KeepTup H H' := fun a xs h => (f.fr _ _ h (d.no_tup h)).1
theorem kt_upd {H : Hp} {x : Addr} {xs : List V} {o : HO} (h : H x = some (.lst xs)) : KeepTup H (upd H x o) := fun a ys e => by rw [upd_ne (fun z => by rw [z, h] at e; cases e)]; exact e
def dat (q : Nat × Nat) : PyData := .tuple [.int (q.1 : Nat), .int (q.2 : Nat)]
theorem TupsAt.dp {K : PySem.W.Frag} {H : Hp} : ∀ {as : List Addr} {qs : List (Nat × Nat)}, TupsAt H as qs → DpAll K H (as.map V.ref) (qs.map dat)
  | [], [], _ => .nil
  | a :: as, q :: qs, h => .cons (.tup (SqT.of h.1) (.cons (.int _) (.cons (.int _) .nil))) (TupsAt.dp h.2)
  | [], _ :: _, h => h.elim
  | _ :: _, [], h => h.elim
theorem eqv_dat (p q : Nat × Nat) : PyData.eqv (dat p) (dat q) = decide (p = q) := by
  have h : PyData.eqv (dat p) (dat q) = (((p.1 : Nat) : Int) == ((q.1 : Nat) : Int) && (((p.2 : Nat) : Int) == ((q.2 : Nat) : Int) && true)) := rfl
  rw [h, Bool.and_true]
  obtain ⟨a, b⟩ := p
  obtain ⟨c, d⟩ := q
  by_cases e1 : a = c
  · by_cases e2 : b = d
    · subst e1; subst e2; simp
    · have h2 : ((b : Nat) : Int) ≠ ((d : Nat) : Int) := fun z => e2 (by omega)
      have h3 : ¬ ((a, b) : Nat × Nat) = (c, d) := fun z => e2 (Prod.mk.inj z).2
      rw [decide_eq_false h3, beq_eq_false_iff_ne.mpr h2, Bool.and_false]
  · have h2 : ((a : Nat) : Int) ≠ ((c : Nat) : Int) := fun z => e1 (by omega)
    have h3 : ¬ ((a, b) : Nat × Nat) = (c, d) := fun z => e1 (Prod.mk.inj z).1
    rw [decide_eq_false h3, beq_eq_false_iff_ne.mpr h2, Bool.false_and]
theorem any_dat (q : Nat × Nat) : ∀ bs : List (Nat × Nat), ((bs.map dat).any fun z => PyData.eqv z (dat q)) = decide (q ∈ bs)
  | [] => by simp
  | b :: bs => by
    rw [List.map_cons, List.any_cons, any_dat q bs, eqv_dat]
    by_cases h : b = q
    · subst h; simp
    · have h' : ¬ q = b := fun z => h z.symm
      simp [h, h']
theorem lay_dats : ∀ bs : List (Nat × Nat), PyData.canLayAll0 (bs.map dat) = true
  | [] => rfl
  | b :: bs => by
    show (PyData.canLay0 (dat b) && PyData.canLayAll0 (bs.map dat)) = true
    rw [lay_dats bs]; rfl
theorem depth_dats : ∀ bs : List (Nat × Nat), PyData.depthAll (bs.map dat) ≤ 1
  | [] => by show 0 ≤ 1; decide
  | b :: bs => by
    show max (PyData.depth (dat b)) (PyData.depthAll (bs.map dat)) ≤ 1
    have h1 := depth_dats bs
    have h2 : PyData.depth (dat b) = 1 := rfl
    omega
theorem shaped_dat (q : Nat × Nat) : SeqAt.shaped (dat q) = true := rfl
theorem shaped_dats (bs : List (Nat × Nat)) : SeqAt.shaped (.list (bs.map dat)) = true := by
  unfold SeqAt.shaped
  have h1 : PyData.canLay0 (.list (bs.map dat)) = true := lay_dats bs
  have h2 : PyData.depth (.list (bs.map dat)) ≤ 64 := by
    show PyData.depthAll (bs.map dat) + 1 ≤ 64
    have := depth_dats bs
    omega
  rw [h1, decide_eq_true h2]; rfl
theorem units65 {k : Nat} {A : Around} (r : Room k A) : A.units + 65 < cLine := by have := r.un; omega
/-- the block of a spot -/
def blkOf (s : Nat) (q : Nat × Nat) : Nat × Nat := (q.1 / s, q.2)
/-! ### writes and the sheets -/
theorem Own.sh {w w' : Wd} {p b x : Addr} {c j : Nat} {q : Sht} (h : Own w p c j w' b) (e : w.sh x = some q) : ∃ q', w'.sh x = some q' ∧ q'.opn = q.opn ∧ q'.tot = q.tot := by
  obtain ⟨q2, k, e1, e2, h⟩ := h
  rcases h with ⟨_, rfl, _⟩ | ⟨_, _, rfl⟩
  · exact ⟨q, e, rfl, rfl⟩
  · by_cases z : x = p
    · subst z
      rw [e1] at e
      cases e
      exact ⟨_, setA_same, rfl, rfl⟩
    · exact ⟨q, by show setA w.sh p _ x = _; rw [setA_ne z]; exact e, rfl, rfl⟩
theorem Puts.sh {p x : Addr} {w w' : Wd} {qs : List (Nat × Nat)} (h : Puts p w qs w') : ∀ {q : Sht}, w.sh x = some q → ∃ q', w'.sh x = some q' ∧ q'.opn = q.opn ∧ q'.tot = q.tot := by
  induction h with
  | nil w => intro q e; exact ⟨q, e, rfl, rfl⟩
  | cons o t ih =>
    intro q e
    obtain ⟨q1, a1, a2, a3⟩ := Own.sh o e
    obtain ⟨q2, b1, b2, b3⟩ := ih a1
    exact ⟨q2, b1, b2.trans a2, b3.trans a3⟩
theorem Puts.snoc {p : Addr} {w w1 w2 : Wd} {qs : List (Nat × Nat)} {j c : Nat} {b : Addr} (h : Puts p w qs w1) (o : Own w1 p c j w2 b) : Puts p w (qs ++ [(j, c)]) w2 := h.app (.cons o (.nil _))
section
variable {K : PySem.W.Frag} {t : Addr} {wide s : Nat} {H H' : Hp} {ρ : Rls} {w : Wd} {l : Addr}
theorem RDom.ps (d : RDom ρ H) (e : PSame l H H') (p : PoolAt H' l) : RDom ρ H' := fun a r h => by
  by_cases z : a = l
  · obtain ⟨x, y, n, h1⟩ := p
    exact ⟨_, by rw [z]; exact h1, mu_lst⟩
  · obtain ⟨o, h1, h2⟩ := d a r h
    exact ⟨o, e a o h1 z, h2⟩
theorem WAt.ps (W : WAt K t wide s H ρ w) (e : PSame l H H') (p : PoolAt H' l) (r : ρ l = none) : WAt K t wide s H' ρ w :=
  W.keep (W.dom.ps e p) fun a u h ⟨r', h1, h2⟩ => e a u h fun z => by rw [z, r] at h1; cases h1
theorem SchAt.kt {sch : Sch} (h : SchAt H t sch) (e : KeepTup H H') : SchAt H' t sch := by
  obtain ⟨ps, h1, h2, h3⟩ := h
  exact ⟨ps, e _ _ h1, h2, fun i q c a b => e _ _ (h3 i q c a b)⟩
theorem PoolAt.frm {ρ' : Rls} (p : PoolAt H l) (f : Frm ρ H ρ' H') (r : ρ l = none) : PoolAt H' l := let ⟨a, d, n, e⟩ := p; ⟨a, d, n, (f.fr _ _ e r).1⟩
end
/-- what has no role stands, the pool may be drawn from -/
structure FrmL (l : Addr) (ρ : Rls) (H : Hp) (ρ' : Rls) (H' : Hp) : Prop where
  up : ∀ a r, ρ a = some r → ρ' a = some r
  fr : ∀ a o, H a = some o → a ≠ l → ρ a = none → H' a = some o ∧ ρ' a = none
  nl : ρ l = none → ρ' l = none
theorem FrmL.refl (l : Addr) (ρ : Rls) (H : Hp) : FrmL l ρ H ρ H := ⟨fun _ _ h => h, fun _ _ h _ n => ⟨h, n⟩, fun h => h⟩
theorem FrmL.trans {l : Addr} {ρ ρ1 ρ2 : Rls} {H H1 H2 : Hp} (a : FrmL l ρ H ρ1 H1) (b : FrmL l ρ1 H1 ρ2 H2) : FrmL l ρ H ρ2 H2 :=
  ⟨fun x r h => b.up x r (a.up x r h), fun x o h m n => let ⟨h1, n1⟩ := a.fr x o h m n; b.fr x o h1 m n1, fun h => b.nl (a.nl h)⟩
theorem FrmL.of {l : Addr} {ρ ρ' : Rls} {H H' : Hp} (f : Frm ρ H ρ' H') (p : PoolAt H l) : FrmL l ρ H ρ' H' := ⟨f.up, fun a o h _ n => f.fr a o h n, fun h => let ⟨_, _, _, e⟩ := p; (f.fr _ _ e h).2⟩
theorem FrmL.ps {l : Addr} {ρ : Rls} {H H' : Hp} (e : PSame l H H') : FrmL l ρ H ρ H' := ⟨fun _ _ h => h, fun a o h m n => ⟨e a o h m, n⟩, fun h => h⟩
theorem FrmL.kt {l : Addr} {ρ ρ' : Rls} {H H' : Hp} (f : FrmL l ρ H ρ' H') (d : RDom ρ H) (p : PoolAt H l) : KeepTup H H' := fun a xs h => (f.fr _ _ h (p.ne_tup h) (d.no_tup h)).1
section
variable {P : Program} {w0 : World} {K : PySem.W.Frag} {mg : Str → Option Value} {base : Heap} {t : Addr} {s : Nat}
/-! spots -/
def spSpots : Sp := fun vs H Q _ => ∃ (l t : Addr) (xs : List V) (n s : Nat), vs = [.ref l, .ref t, .int (n : Nat), .int (s : Nat)] ∧ PoolAt H l ∧ H t = some (.tup xs) ∧ 1 ≤ xs.length ∧ xs.length ≤ 1000 ∧ 1 ≤ n ∧ n ≤ 1000 ∧ 1 ≤ s ∧ s ≤ 100 ∧
  ∀ (L S B : Addr) (as cs : List Addr) (ps bs : List (Nat × Nat)) H', PSame l H H' → PoolAt H' l → H' L = some (.lst [.ref S, .ref B]) → L ≠ l → H S = none → H B = none → S ≠ B → S ≠ l → B ≠ l → H' S = some (.lst (as.map V.ref)) → H' B = some (.lst (cs.map V.ref)) → TupsAt H' as ps → TupsAt H' cs bs →
    ps.length ≤ 12 → (∀ q ∈ ps, q.1 < n ∧ q.2 < xs.length) → bs.Nodup → (∀ x, x ∈ bs ↔ x ∈ ps.map (blkOf s)) → Q (.ref L) H'
theorem ok_l_spots (E : Hd K mg) : Cal P w0 K mg base 2 "_law_spots" spSpots := by
  refine cal_mk E.f_l_spots c_l_spots (fun _ _ _ _ _ _ us hl => match us, hl with | [_, _, _, _], _ => rfl) (fun vs H Q E ⟨l, t, xs, n, s, e, _⟩ => by rw [e]; rfl) ?_
  intro f cdv A outer s0 H vs Q E' hr h
  obtain ⟨l, t, xs, n, s, rfl, hp, ht, hx1, hx2, hn1, hn2, hs1, hs2, q⟩ := h
  have CD : Cal P w0 K mg base 1 "_law_draw" spDraw := ok_l_draw E
  have hsl := sizeLine_eq
  refine ⟨_, pss_cons (ps_par (i := 4) (j := 5) rfl c_l_spots.nd rfl rfl (by decide) rfl rfl (pa_cons (pe_lst pa_nil) (pa_cons (pe_lst pa_nil) pa_nil)) rfl)
    (pss_cons (ps_for PassesOwn.never rfl (pi_range1 rfl E.b_range (pa_cons (pe_op op_add pe_int (pe_f CD hr (pa_cons (pv 0) (pa_cons pe_int pa_nil)))) pa_nil)) (pg_name (i := 6) c_l_spots.nd rfl (Or.inl rfl))
      (pss_cons (ps_expr (pe_bm PySem.F.plainAttrs_list PySem.F.slot_list_append PySem.F.type_list_append mt_append (pv 4) (pa_cons (pe_tup (pa_cons (pe_f CD hr (pa_cons (pv 0) (pa_cons (pv 2) pa_nil))) (pa_cons (pe_f CD hr (pa_cons (pv 0) (pa_cons (pe_b call_len_seq E.b_len (pa_cons (pv 1) pa_nil)) pa_nil))) pa_nil))) pa_nil)))
      (pss_cons (ps_set (i := 7) c_l_spots.nd rfl (Or.inl rfl) (pe_tup (pa_cons (pe_op op_fdiv (pe_ix ix_tup (pe_ix ix_list (pv 4) (pe_un un_neg pe_int) (fun _ _ => rfl)) pe_int (fun _ _ => rfl)) (pv 3)) (pa_cons (pe_ix ix_tup (pe_ix ix_list (pv 4) (pe_un un_neg pe_int) (fun _ _ => rfl)) pe_int (fun _ _ => rfl)) pa_nil))))
      (pss_one (ps_if (pt_cmpR (op_notInD (units65 hr)) (pv 7) (pv 5) rfl) (pss_one (ps_expr (pe_bm PySem.F.plainAttrs_list PySem.F.slot_list_append PySem.F.type_list_append mt_append (pv 5) (pa_cons (pv 7) pa_nil)))) pss_nil)))))
    (pss_one (ps_ret (pe_lst (pa_cons (pv 4) (pa_cons (pv 5) pa_nil)))))), ?_⟩
  refine ⟨Nat.zero_le _, fun S hS => ⟨Nat.zero_le _, fun B hB => ⟨_, _, rfl, ?_⟩⟩⟩
  have hSB : S ≠ B := ne_of_none upd_same hB
  have hB0 : H B = none := by rw [upd_ne (Ne.symm hSB)] at hB; exact hB
  have hSl : S ≠ l := hp.ne hS
  have hBl : B ≠ l := hp.ne hB0
  have sSB : Same H (upd (upd H S (.lst [])) B (.lst [])) := (Same.upd hS).trans (Same.upd hB)
  refine ⟨_, rfl, l, 12, rfl, hp.same sSB, by decide, by decide, fun r H1 hr1 hp1 ps1 => ⟨_, _, rfl, rfl, _, rfl, by omega, by omega, ?_⟩⟩
  have hr12 : ((1 : Int) + (r : Nat)).toNat = r + 1 := by omega
  rw [hr12]
  have s01 : PSame l H H1 := (PSame.of sSB).trans ps1
  have hS1 : H1 S = some (.lst (([] : List Addr).map V.ref)) := ps1 _ _ (by rw [upd_ne hSB, upd_same]; rfl) hSl
  have hB1 : H1 B = some (.lst (([] : List Addr).map V.ref)) := ps1 _ _ upd_same hBl
  refine for_it walk_range (fun i σ H2 => PSame l H H2 ∧ PoolAt H2 l ∧ (∃ v6 v7 : Option V, σ = [some (.ref l), some (.ref t), some (.int (n : Nat)), some (.int (s : Nat)), some (.ref S), some (.ref B), v6, v7]) ∧
      ∃ (as cs : List Addr) (ps bs : List (Nat × Nat)), H2 S = some (.lst (as.map V.ref)) ∧ H2 B = some (.lst (cs.map V.ref)) ∧ TupsAt H2 as ps ∧ TupsAt H2 cs bs ∧ ps.length = i ∧ bs.length ≤ i ∧ (∀ q ∈ ps, q.1 < n ∧ q.2 < xs.length) ∧ bs.Nodup ∧ (∀ x, x ∈ bs ↔ x ∈ ps.map (blkOf s)))
    ⟨s01, hp1, ⟨none, none, rfl⟩, [], [], [], [], hS1, hB1, trivial, trivial, rfl, Nat.le_refl _, (fun q hq => by cases hq), List.nodup_nil, fun x => by simp⟩ (fun _ _ _ _ _ => trivial) ?_ ?_
  · rintro i x σ H2 H3 hi ⟨s2, p2, ⟨v6, v7, rfl⟩, as, cs, ps, bs, hS2, hB2, ta, tc, hl1, hl2, hq, hnd, hm⟩ ⟨rfl, rfl⟩
    refine ⟨_, rfl, .inl ⟨rfl, _, SqL.of hS2⟩, ?_⟩
    refine ⟨_, rfl, _, rfl, l, n, rfl, p2, hn1, hn2, fun a H4 ha p4 s4 => ?_⟩
    have ht4 : H4 t = some (.tup xs) := s4 _ _ (s2 _ _ ht (hp.ne_tup ht)) (hp.ne_tup ht)
    refine ⟨_, rfl, _, rfl, t, xs, rfl, .inr (SqT.of ht4), l, xs.length, rfl, p4, hx1, hx2, fun b H5 hb p5 s5 => ⟨by simp only [List.length_cons, List.length_nil]; omega, fun T hT => ?_⟩⟩
    have s25 : PSame l H3 H5 := s4.trans s5
    have hS5 : H5 S = some (.lst (as.map V.ref)) := s25 _ _ hS2 hSl
    have hTS : S ≠ T := ne_of_none hS5 hT
    refine ⟨S, _, _, rfl, rfl, by rw [upd_ne hTS]; exact hS5, by rw [List.length_map, ta.len, hl1]; have : i < r + 1 := hi; omega, ?_⟩
    let H6 := upd (upd H5 T (.tup [.int (a : Nat), .int (b : Nat)])) S (.lst (as.map V.ref ++ [.ref T]))
    have hS6 : H6 S = some (.lst (as.map V.ref ++ [.ref T])) := upd_same
    have hT6 : H6 T = some (.tup [.int (a : Nat), .int (b : Nat)]) := by show upd _ S _ T = _; rw [upd_ne (Ne.symm hTS), upd_same]
    have k56 : KeepTup H3 H6 := ((s25.kt p2).trans (Same.kt (Same.upd hT))).trans (kt_upd (xs := as.map V.ref) (by rw [upd_ne hTS]; exact hS5))
    refine ⟨_, rfl, _, rfl, S, _, _, .ref T, rfl, rfl, SqL.of hS6, atI_last _ _, T, _, _, .int (a : Nat), rfl, rfl, SqT.of hT6, rfl, _, rfl, _, _, rfl, rfl, ⟨by omega, by omega⟩, ?_⟩
    refine ⟨_, rfl, _, rfl, S, _, _, .ref T, rfl, rfl, SqL.of hS6, atI_last _ _, T, _, _, .int (b : Nat), rfl, rfl, SqT.of hT6, rfl, by simp only [List.length_cons, List.length_nil]; omega, fun U hU => ?_⟩
    have hB5 : H5 B = some (.lst (cs.map V.ref)) := s25 _ _ hB2 hBl
    have hTB : B ≠ T := ne_of_none hB5 hT
    have hB6 : H6 B = some (.lst (cs.map V.ref)) := by show upd _ S _ B = _; rw [upd_ne (Ne.symm hSB), upd_ne hTB]; exact hB5
    let H7 := upd H6 U (.tup [.int (a / s : Nat), .int (b : Nat)])
    have s67 : Same H6 H7 := Same.upd hU
    have hU7 : H7 U = some (.tup [.int (a / s : Nat), .int (b : Nat)]) := upd_same
    have hU7' : Dp K H7 (.ref U) (dat (blkOf s (a, b))) := .tup (SqT.of hU7) (.cons (.int _) (.cons (.int _) .nil))
    have hB7 := s67 _ _ hB6
    have tc7 := (tc.keep k56).keep (Same.kt s67)
    have ta7 := (ta.keep k56).keep (Same.kt s67)
    have PS7 : PSame l H H7 := fun x o e nx => by
      have e5 := s25 _ _ (s2 _ _ e nx) nx
      refine s67 _ _ ?_
      show upd _ S _ x = _
      rw [upd_ne (ne_of_none e hS), upd_ne (ne_of_none e5 hT)]
      exact e5
    have p7 : PoolAt H7 l := by
      obtain ⟨z1, z2, z3, e⟩ := p5
      refine ⟨z1, z2, z3, s67 _ _ ?_⟩
      show upd _ S _ l = _
      rw [upd_ne (Ne.symm hSl), upd_ne (ne_of_none e hT)]
      exact e
    have taN : TupsAt H7 (as ++ [T]) (ps ++ [(a, b)]) := ta7.app ⟨s67 _ _ hT6, trivial⟩
    have hS7 : H7 S = some (.lst ((as ++ [T]).map V.ref)) := by rw [List.map_append]; exact s67 _ _ hS6
    have hqN : ∀ q ∈ ps ++ [(a, b)], q.1 < n ∧ q.2 < xs.length := fun q hq' => by
      rcases List.mem_append.mp hq' with h | h
      · exact hq q h
      · rw [List.mem_singleton.mp h]; exact ⟨ha, hb⟩
    have hlN : (ps ++ [(a, b)]).length = i + 1 := by rw [List.length_append, hl1]; rfl
    have hi' : i < r + 1 := hi
    refine ⟨_, rfl, _, rfl, _, _, hU7', .lst (SqL.of hB7) tc7.dp, shaped_dat _, shaped_dats _, _, rfl, ?_⟩
    rw [any_dat]
    by_cases hin : blkOf s (a, b) ∈ bs
    · refine iteF' (by rw [decide_eq_true hin]; rfl) ⟨PS7, p7, ⟨_, _, rfl⟩, as ++ [T], cs, ps ++ [(a, b)], bs, hS7, hB7, taN, tc7, hlN, by omega, hqN, hnd, fun x => ?_⟩
      rw [List.map_append, List.mem_append, hm x]
      refine ⟨.inl, fun h => ?_⟩
      rcases h with h | h
      · exact h
      · rw [List.map_cons, List.map_nil, List.mem_singleton] at h
        rw [h]; exact (hm _).mp hin
    · refine iteT' (by rw [decide_eq_false hin]; rfl) ?_
      refine ⟨_, rfl, .inl ⟨rfl, _, SqL.of hB7⟩, _, rfl, B, _, _, rfl, rfl, hB7, by rw [List.length_map, tc7.len]; omega, ?_⟩
      have kB := kt_upd (o := .lst (cs.map V.ref ++ [.ref U])) hB7
      refine ⟨fun x o e nx => by rw [upd_ne (ne_of_none e hB0)]; exact PS7 x o e nx, ?_, ⟨_, _, rfl⟩, as ++ [T], cs ++ [U], ps ++ [(a, b)], bs ++ [blkOf s (a, b)], ?_, ?_, taN.keep kB, (tc7.keep kB).app ⟨kB _ _ hU7, trivial⟩, hlN, ?_, hqN, ?_, fun x => ?_⟩
      · obtain ⟨z1, z2, z3, e⟩ := p7
        exact ⟨z1, z2, z3, by rw [upd_ne (Ne.symm hBl)]; exact e⟩
      · rw [upd_ne hSB]; exact hS7
      · rw [upd_same, List.map_append]; rfl
      · rw [List.length_append, List.length_singleton]; omega
      · rw [List.nodup_append]
        refine ⟨hnd, List.nodup_cons.mpr ⟨by simp, List.nodup_nil⟩, fun y hy z hz e => ?_⟩
        rw [List.mem_singleton.mp hz] at e
        exact hin (e ▸ hy)
      · rw [List.map_append, List.mem_append, List.mem_append, hm x]
        rfl
  · rintro σ H2 ⟨s2, p2, ⟨v6, v7, rfl⟩, as, cs, ps, bs, hS2, hB2, ta, tc, hl1, hl2, hq, hnd, hm⟩
    refine ⟨_, rfl, _, rfl, by simp only [List.length_cons, List.length_nil]; omega, fun L hL => ?_⟩
    have sL : Same H2 (upd H2 L (.lst [.ref S, .ref B])) := Same.upd hL
    exact q L S B as cs ps bs _ (s2.trans (PSame.of sL)) (p2.same sL) upd_same (p2.ne hL) hS hB0 hSB hSl hBl (sL _ _ hS2) (sL _ _ hB2) (ta.keep (Same.kt sL)) (tc.keep (Same.kt sL)) (by omega) hq hnd hm
/-! put_all -/
def spPutAll (K : PySem.W.Frag) (t : Addr) (s : Nat) (sch : Sch) : Sp := fun vs H Q _ => ∃ (l p S : Addr) (as : List Addr) (ps : List (Nat × Nat)) (ρ : Rls) (w : Wd) (q : Sht), vs = [.ref l, .ref p, .ref t, .ref S] ∧ WAt K t sch.length s H ρ w ∧ ρ l = none ∧ PoolAt H l ∧ w.sh p = some q ∧ q.opn = true ∧
  H S = some (.lst (as.map V.ref)) ∧ S ≠ l ∧ ρ S = none ∧ TupsAt H as ps ∧ (∀ x ∈ ps, x.1 < q.tot ∧ x.2 < sch.length) ∧ SchAt H t sch ∧ SchOk sch ∧ 1 ≤ s ∧ s ≤ 100 ∧
  ∀ w' ρ' H', Puts p w (ps.map (blkOf s)) w' → WAt K t sch.length s H' ρ' w' → PoolAt H' l → FrmL l ρ H ρ' H' → Q .non H'
theorem ok_l_put_all (E : Hd K mg) {sch : Sch} : Cal P w0 K mg base 5 "_law_put_all" (spPutAll K t s sch) := by
  refine cal_mk E.f_l_put_all c_l_put_all (fun _ _ _ _ _ _ us hl => match us, hl with | [_, _, _, _], _ => rfl) (fun vs H Q E ⟨l, p, S, as, ps, ρ, w, q, e, _⟩ => by rw [e]; rfl) ?_
  intro f cdv A outer s0 H vs Q E' hr h
  obtain ⟨l, p, S, as, ps, ρ, w, q, rfl, W, hρl, hp, hq, ho, hS, hSl, hρS, ta, hin, hs, ok, hs1, hs2, qq⟩ := h
  have MP : Met P w0 K mg base 4 (cS K) "put" (spPut K t s sch) := ok_put E
  have CW : Cal P w0 K mg base 2 "_law_worth" spWorth := ok_l_worth E
  refine ⟨_, pss_one (ps_for PassesOwn.never rfl (pi_list (pv 3)) (pg_tup rfl (pgs_cons (pg_name (i := 4) c_l_put_all.nd rfl (Or.inl rfl)) (pgs_cons (pg_name (i := 5) c_l_put_all.nd rfl (Or.inl rfl)) pgs_nil)))
    (pss_one (ps_expr (pe_m MP hr (pv 1) (pa_cons (pv 4) (pa_cons (pe_ix ix_tup (pe_ix ix_tup (pv 2) (pv 5) (fun _ _ => rfl)) pe_int (fun _ _ => rfl)) (pa_cons (pe_f CW hr (pa_cons (pv 0) (pa_cons (pe_ix ix_tup (pe_ix ix_tup (pv 2) (pv 5) (fun _ _ => rfl)) pe_int (fun _ _ => rfl)) pa_nil))) pa_nil))))))), ?_⟩
  refine ⟨_, rfl, S, rfl, ⟨_, SqL.of hS⟩, ?_⟩
  refine for_it (walk_list (K := K) (a := S) (xs := as.map V.ref)) (fun i σ H1 => (∃ v4 v5 : Option V, σ = [some (.ref l), some (.ref p), some (.ref t), some (.ref S), v4, v5]) ∧ ∃ (ρ1 : Rls) (w1 : Wd), WAt K t sch.length s H1 ρ1 w1 ∧ FrmL l ρ H ρ1 H1 ∧ PoolAt H1 l ∧ Puts p w ((ps.take i).map (blkOf s)) w1)
    ⟨⟨none, none, rfl⟩, ρ, w, W, FrmL.refl _ _ _, hp, .nil _⟩ (fun i σ H1 _ ⟨_, ρ1, w1, W1, F1, _⟩ => SqL.of (F1.fr _ _ hS hSl hρS).1) ?_ ?_
  · rintro i x σ H1 H2 hi ⟨⟨v4, v5, rfl⟩, ρ1, w1, W1, F1, p1, pu⟩ ⟨rfl, hx⟩
    rw [List.length_map] at hi
    have ha : as[i]? = some as[i] := List.getElem?_eq_getElem hi
    rw [List.getElem?_map, ha] at hx
    cases hx
    have ta1 := ta.keep (F1.kt W.dom hp)
    obtain ⟨y, hy, hya⟩ := ta1.at ha
    obtain ⟨hy1, hy2⟩ := hin y (List.mem_of_getElem? hy)
    obtain ⟨q1, e1, e2, e3⟩ := pu.sh hq
    obtain ⟨_, dx1, _, _, hpo, _⟩ := W1.sh p q1 e1
    have hs3 := hs.kt (F1.kt W.dom hp)
    obtain ⟨cs, hc1, hc2, hc3⟩ := id hs3
    obtain ⟨c, hc⟩ : ∃ c, cs[y.2]? = some c := ⟨cs[y.2], List.getElem?_eq_getElem (by omega)⟩
    obtain ⟨nk, hnk⟩ : ∃ nk, sch[y.2]? = some nk := ⟨sch[y.2], List.getElem?_eq_getElem hy2⟩
    have hcc := hc3 _ _ _ hc hnk
    have hcx : (cs.map V.ref)[y.2]? = some (.ref c) := by rw [List.getElem?_map, hc]; rfl
    refine ⟨as[i], _, rfl, SqT.of hya, rfl, _, _, rfl, _, _, rfl, rfl, ?_⟩
    refine ⟨_, rfl, p, dx1, _, rfl, hpo, sf_meth _ (by decide), _, rfl, _, rfl, _, rfl, t, _, _, _, rfl, rfl, SqT.of hc1, atI_nat hcx, c, _, _, .str nk.1, rfl, rfl, SqT.of hcc, rfl, ?_⟩
    refine ⟨_, rfl, _, rfl, _, rfl, t, _, _, _, rfl, rfl, SqT.of hc1, atI_nat hcx, c, _, _, .str nk.2, rfl, rfl, SqT.of hcc, rfl, ?_⟩
    refine ⟨l, nk.2, rfl, p1, ok.kd nk (List.mem_of_getElem? hnk), fun v H3 hv p3 s3 => ?_⟩
    have rl1 := F1.nl hρl
    have W3 := W1.ps s3 p3 rl1
    have F3 : FrmL l ρ1 H2 ρ1 H3 := FrmL.ps s3
    refine ⟨p, ρ1, w1, q1, y.1, y.2, nk, v, rfl, W3, e1, by rw [e2]; exact ho, by rw [e3]; exact hy1, hs3.ps p1 s3, ok, hnk, hv, hs1, hs2, fun w' b ρ' H4 OWN W4 F4 => ?_⟩
    refine ⟨⟨_, _, rfl⟩, ρ', w', W4, (F1.trans F3).trans (FrmL.of F4 p3), p3.frm F4 rl1, ?_⟩
    · rw [List.take_succ, hy, List.map_append]
      exact pu.snoc OWN
  · rintro σ H1 ⟨⟨v4, v5, rfl⟩, ρ1, w1, W1, F1, p1, pu⟩
    rw [List.length_map, ta.len, List.take_length] at pu
    exact qq w1 ρ1 H1 pu W1 p1 F1
end
end K7
/-! The plain law: two open sheets, what is copied, what is shared. -/
namespace K7
open PySem PySem.Spec PyProof.Rows L2
theorem sub_len {α : Type} [DecidableEq α] : ∀ {l m : List α}, l.Nodup → (∀ x ∈ l, x ∈ m) → l.length ≤ m.length
  | [], _, _, _ => Nat.zero_le _
  | a :: l, m, hn, h => by
    have ha : a ∈ m := h a (List.mem_cons_self ..)
    have h1 := List.length_erase_of_mem ha
    have h2 : l.length ≤ (m.erase a).length := sub_len (List.nodup_cons.mp hn).2 fun x hx => (List.mem_erase_of_ne (show x ≠ a from fun z => (List.nodup_cons.mp hn).1 (by rw [← z]; exact hx))).mpr (h x (List.mem_cons_of_mem _ hx))
    have h3 := List.length_pos_of_mem ha
    show l.length + 1 ≤ m.length
    omega
theorem same_len {α : Type} [DecidableEq α] {l m : List α} (hl : l.Nodup) (hm : m.Nodup) (h : ∀ x, x ∈ l ↔ x ∈ m) : l.length = m.length :=
  Nat.le_antisymm (sub_len hl fun x hx => (h x).mp hx) (sub_len hm fun x hx => (h x).mpr hx)
theorem cnt_one {w : Wd} {A : Addr} {hs : List Addr} (nd : hs.Nodup) (h : ∀ x ∈ hs, w.isOpen x = true → x = A) : w.cnt hs ≤ 1 := by
  unfold Wd.cnt
  refine sub_len (m := [A]) (List.Pairwise.filter _ nd) fun x hx => ?_
  obtain ⟨h1, h2⟩ := List.mem_filter.mp hx
  exact List.mem_singleton.mpr (h x h1 h2)
theorem cnt_two {w : Wd} {A B : Addr} {hs : List Addr} (ne : A ≠ B) (hA : A ∈ hs) (hB : B ∈ hs) (oA : w.isOpen A = true) (oB : w.isOpen B = true) : 1 < w.cnt hs := by
  unfold Wd.cnt
  have : ([A, B] : List Addr).Nodup := List.nodup_cons.mpr ⟨by simp [ne], List.nodup_cons.mpr ⟨by simp, List.nodup_nil⟩⟩
  have := sub_len (m := hs.filter fun x => w.isOpen x) this fun x hx => by
    rcases List.mem_cons.mp hx with e | hx
    · rw [e]; exact List.mem_filter.mpr ⟨hA, oA⟩
    · rw [List.mem_singleton.mp hx]; exact List.mem_filter.mpr ⟨hB, oB⟩
  exact this
/-- writes to the only open sheet change nothing -/
theorem own_alone {wide s : Nat} {w w' : Wd} {A b : Addr} {c j : Nat} (ok : WOk wide s w) (al : ∀ x, w.isOpen x = true → x = A) (h : Own w A c j w' b) : w' = w := by
  obtain ⟨q, k, e1, e2, h⟩ := h
  rcases h with ⟨_, e, _⟩ | ⟨h1, _⟩
  · exact e
  · have := cnt_one (ok.nd _ _ e2) fun x _ o => al x o
    omega
theorem puts_alone {wide s : Nat} {A : Addr} {qs : List (Nat × Nat)} {w w' : Wd} (h : Puts A w qs w') : WOk wide s w → (∀ x, w.isOpen x = true → x = A) → w' = w := by
  induction h with
  | nil w => intro _ _; rfl
  | cons o t ih =>
    intro ok al
    have e := own_alone ok al o
    subst e
    exact ih ok al
/-- two open sheets A and B: what A copied, what B copied -/
structure St2 (wide s n : Nat) (w : Wd) (A B : Addr) (CA CB : List (Nat × Nat)) : Prop where
  ne : A ≠ B
  ok : WOk wide s w
  shA : ∃ gA, w.sh A = some ⟨true, CA.length, n, gA⟩
  shB : ∃ gB, w.sh B = some ⟨true, CB.length, n, gB⟩
  pos : ∀ qA qB, w.sh A = some qA → w.sh B = some qB → ∀ c j, c < wide → j < nbOf s n → ∃ kA kB, w.bl (qA.g c j) = some kA ∧ w.bl (qB.g c j) = some kB ∧ A ∈ kA.hs ∧ B ∈ kB.hs ∧
    (((j, c) ∈ CA ∨ (j, c) ∈ CB) → B ∉ kA.hs ∧ A ∉ kB.hs) ∧ (¬ ((j, c) ∈ CA ∨ (j, c) ∈ CB) → qA.g c j = qB.g c j)
  oth : ∀ x, w.isOpen x = true → x = A ∨ x = B
  nd : (CA ++ CB).Nodup
  rng : ∀ x ∈ CA ++ CB, x.1 < nbOf s n ∧ x.2 < wide
theorem St2.symm {wide s n : Nat} {w : Wd} {A B : Addr} {CA CB : List (Nat × Nat)} (S : St2 wide s n w A B CA CB) : St2 wide s n w B A CB CA := by
  refine ⟨S.ne.symm, S.ok, S.shB, S.shA, fun qB qA hB hA c j hc hj => ?_, fun x o => (S.oth x o).symm, ?_, fun x hx => S.rng x (by rw [List.mem_append] at hx ⊢; exact hx.symm)⟩
  · obtain ⟨kA, kB, e1, e2, e3, e4, e5, e6⟩ := S.pos qA qB hA hB c j hc hj
    exact ⟨kB, kA, e2, e1, e4, e3, fun h => (e5 h.symm).symm, fun h => (e6 fun z => h z.symm).symm⟩
  · have := S.nd
    rw [List.nodup_append] at this ⊢
    exact ⟨this.2.1, this.1, fun a ha b hb e => this.2.2 b hb a ha e.symm⟩
def addTo (C D : List (Nat × Nat)) (q : Nat × Nat) : List (Nat × Nat) := if q ∈ C ∨ q ∈ D then D else D ++ [q]
def addAll (C D : List (Nat × Nat)) (qs : List (Nat × Nat)) : List (Nat × Nat) := qs.foldl (addTo C) D
theorem addTo_mem {C D : List (Nat × Nat)} {q x : Nat × Nat} : x ∈ addTo C D q ↔ x ∈ D ∨ (x = q ∧ q ∉ C) := by
  unfold addTo
  by_cases h : q ∈ C ∨ q ∈ D
  · rw [if_pos h]
    refine ⟨.inl, fun z => ?_⟩
    rcases z with z | ⟨z, z2⟩
    · exact z
    · rw [z]
      exact h.resolve_left z2
  · rw [if_neg h, List.mem_append, List.mem_singleton]
    exact ⟨fun z => z.imp_right fun e => ⟨e, fun k => h (.inl k)⟩, fun z => z.imp_right And.left⟩
theorem addAll_mem {C : List (Nat × Nat)} {x : Nat × Nat} : ∀ {qs D : List (Nat × Nat)}, x ∈ addAll C D qs ↔ x ∈ D ∨ (x ∈ qs ∧ x ∉ C)
  | [], D => by simp [addAll]
  | q :: qs, D => by
    have e : addAll C D (q :: qs) = addAll C (addTo C D q) qs := rfl
    rw [e, addAll_mem, addTo_mem, List.mem_cons]
    constructor
    · rintro ((h | ⟨h, h2⟩) | ⟨h, h2⟩)
      · exact .inl h
      · exact .inr ⟨.inl h, h ▸ h2⟩
      · exact .inr ⟨.inr h, h2⟩
    · rintro (h | ⟨h | h, h2⟩)
      · exact .inl (.inl h)
      · exact .inl (.inr ⟨h, h ▸ h2⟩)
      · exact .inr ⟨h, h2⟩
/-- a write to B -/
theorem St2.own {wide s n : Nat} {w w' : Wd} {A B b' : Addr} {CA CB : List (Nat × Nat)} {c j : Nat} (S : St2 wide s n w A B CA CB) (hc : c < wide) (hj : j < nbOf s n) (h : Own w B c j w' b') : St2 wide s n w' A B CA (addTo CA CB (j, c)) := by
  have hok := Own.ok S.ok h fun q e => by
    obtain ⟨gB, e2⟩ := S.shB
    rw [e2] at e; cases e
    exact ⟨hc, hj⟩
  obtain ⟨qB, k, e1, e2, h⟩ := h
  obtain ⟨gA, hA⟩ := S.shA
  obtain ⟨gB, hB⟩ := S.shB
  have hqB := hB
  rw [e1] at hqB
  cases hqB
  have oA : w.isOpen A = true := by rw [open_of hA]
  have oB : w.isOpen B = true := by rw [open_of hB]
  obtain ⟨kA, kB, f1, f2, f3, f4, f5, f6⟩ := S.pos _ _ hA hB c j hc hj
  rw [e2] at f2
  cases f2
  by_cases hin : (j, c) ∈ CA ∨ (j, c) ∈ CB
  · -- copied already
    have hno := f5 hin
    have hle : w.cnt k.hs ≤ 1 := cnt_one (A := B) (S.ok.nd _ _ e2) fun x hx o => (S.oth x o).resolve_left fun z => hno.2 (z ▸ hx)
    rcases h with ⟨_, rfl, _⟩ | ⟨h1, _⟩
    · have : addTo CA CB (j, c) = CB := by unfold addTo; rw [if_pos hin]
      rw [this]
      exact S
    · omega
  · have hg := f6 hin
    have hAk : A ∈ k.hs := by
      have hg' : gA c j = gB c j := hg
      have e2' : w.bl (gB c j) = some k := e2
      have f1' : w.bl (gA c j) = some kA := f1
      rw [hg', e2'] at f1'
      cases f1'
      exact f3
    have hgt := cnt_two S.ne hAk f4 oA oB
    rcases h with ⟨h1, _⟩ | ⟨_, hn, rfl⟩
    · omega
    have hadd : addTo CA CB (j, c) = CB ++ [(j, c)] := by unfold addTo; rw [if_neg hin]
    rw [hadd]
    have shA' : setA w.sh B (⟨true, CB.length + 1, n, setG gB c j b'⟩ : Sht) A = some ⟨true, CA.length, n, gA⟩ := by rw [setA_ne S.ne]; exact hA
    have nB : (gB c j) ≠ b' := fun z => by have e2' : w.bl (gB c j) = some k := e2; rw [z, hn] at e2'; cases e2'
    refine ⟨S.ne, hok, ⟨gA, shA'⟩, ⟨setG gB c j b', ?_⟩, fun qA' qB' hA' hB' c' j' hc' hj' => ?_, fun x o => ?_, ?_, fun x hx => ?_⟩
    · show setA w.sh B _ B = _
      rw [setA_same, List.length_append]
      rfl
    · have hA2 := shA'.symm.trans hA'
      cases hA2
      have hB2 : setA w.sh B (⟨true, CB.length + 1, n, setG gB c j b'⟩ : Sht) B = some qB' := hB'
      rw [setA_same] at hB2
      cases hB2
      by_cases hcj : c' = c ∧ j' = j
      · obtain ⟨rfl, rfl⟩ := hcj
        have hg' : gA c' j' = gB c' j' := hg
        refine ⟨{ k with hs := k.hs.erase B }, ⟨k.n, [B], c', j'⟩, ?_, ?_, (List.mem_erase_of_ne S.ne).mpr hAk, List.mem_singleton.mpr rfl, fun _ => ⟨?_, ?_⟩, fun z => absurd (.inr (List.mem_append_right _ (List.mem_singleton.mpr rfl))) z⟩
        · show setA (setA w.bl (gB c' j') _) b' _ (gA c' j') = _
          rw [hg', setA_ne nB, setA_same]
        · show setA (setA w.bl (gB c' j') _) b' _ (setG gB c' j' b' c' j') = _
          rw [setG_same, setA_same]
        · exact fun z => ((S.ok.nd _ _ e2).mem_erase_iff.mp z).1 rfl
        · exact fun z => S.ne (List.mem_singleton.mp z)
      · obtain ⟨kA2, kB2, u1, u2, u3, u4, u5, u6⟩ := S.pos _ _ hA hB c' j' hc' hj'
        have u1' : w.bl (gA c' j') = some kA2 := u1
        have u2' : w.bl (gB c' j') = some kB2 := u2
        obtain ⟨hs1, v1, _⟩ := S.ok.gr A _ hA c' j' hc' hj'
        obtain ⟨hs2, v2, _⟩ := S.ok.gr B _ hB c' j' hc' hj'
        obtain ⟨hs3, v3, _⟩ := S.ok.gr B _ hB c j hc hj
        have v1' : w.bl (gA c' j') = _ := v1
        have v2' : w.bl (gB c' j') = _ := v2
        have v3' : w.bl (gB c j) = _ := v3
        have nA1 : gA c' j' ≠ gB c j := fun z => by
          rw [z, v3'] at v1'
          have e4 := Option.some.inj v1'
          injection e4 with _ _ i1 i2
          exact hcj ⟨i1.symm, i2.symm⟩
        have nB1 : gB c' j' ≠ gB c j := fun z => by
          rw [z, v3'] at v2'
          have e4 := Option.some.inj v2'
          injection e4 with _ _ i1 i2
          exact hcj ⟨i1.symm, i2.symm⟩
        have nA2 : gA c' j' ≠ b' := fun z => by rw [z, hn] at u1'; cases u1'
        have nB2 : gB c' j' ≠ b' := fun z => by rw [z, hn] at u2'; cases u2'
        have hcj' : ¬ (j', c') = (j, c) := fun z => hcj ⟨(Prod.mk.inj z).2, (Prod.mk.inj z).1⟩
        have mm : (j', c') ∈ CB ++ [(j, c)] ↔ (j', c') ∈ CB := by
          rw [List.mem_append, List.mem_singleton]
          exact ⟨fun z => z.resolve_right hcj', .inl⟩
        refine ⟨kA2, kB2, ?_, ?_, u3, u4, fun z => u5 (by rw [mm] at z; exact z), fun z => ?_⟩
        · show setA (setA w.bl (gB c j) _) b' _ (gA c' j') = _
          rw [setA_ne nA2, setA_ne nA1]; exact u1'
        · show setA (setA w.bl (gB c j) _) b' _ (setG gB c j b' c' j') = _
          rw [setG_ne hcj, setA_ne nB2, setA_ne nB1]; exact u2'
        · show gA c' j' = setG gB c j b' c' j'
          rw [setG_ne hcj]
          exact u6 (by rw [mm] at z; exact z)
    · refine S.oth x ?_
      have o' : (match setA w.sh B (⟨true, CB.length + 1, n, setG gB c j b'⟩ : Sht) x with | some q => q.opn | none => false) = true := o
      by_cases z : x = B
      · rw [z]; exact oB
      · rw [setA_ne z] at o'
        exact o'
    · rw [← List.append_assoc, List.nodup_append]
      refine ⟨S.nd, List.nodup_cons.mpr ⟨by simp, List.nodup_nil⟩, fun a ha b hb e => ?_⟩
      rw [List.mem_singleton.mp hb] at e
      rw [e, List.mem_append] at ha
      exact hin ha
    · rw [← List.append_assoc, List.mem_append, List.mem_singleton] at hx
      rcases hx with hx | hx
      · exact S.rng x hx
      · rw [hx]; exact ⟨hj, hc⟩
theorem St2.puts {wide s n : Nat} {A B : Addr} {CA : List (Nat × Nat)} {qs : List (Nat × Nat)} {w w' : Wd} (h : Puts B w qs w') : ∀ {CB : List (Nat × Nat)}, St2 wide s n w A B CA CB → (∀ x ∈ qs, x.1 < nbOf s n ∧ x.2 < wide) → St2 wide s n w' A B CA (addAll CA CB qs) := by
  induction h with
  | nil w => intro CB S _; exact S
  | cons o t ih =>
    intro CB S hr
    have h1 := hr _ (List.mem_cons_self ..)
    exact ih (S.own h1.2 h1.1 o) fun x hx => hr x (List.mem_cons_of_mem _ hx)
/-! ### the sum over blocks -/
def allP (wide nb : Nat) : List (Nat × Nat) := (List.range wide).flatMap fun c => (List.range nb).map fun j => (j, c)
theorem allP_mem {wide nb : Nat} {x : Nat × Nat} : x ∈ allP wide nb ↔ x.1 < nb ∧ x.2 < wide := by
  unfold allP
  rw [List.mem_flatMap]
  constructor
  · rintro ⟨c, hc, h⟩
    obtain ⟨j, hj, rfl⟩ := List.mem_map.mp h
    exact ⟨List.mem_range.mp hj, List.mem_range.mp hc⟩
  · rintro ⟨h1, h2⟩
    exact ⟨x.2, List.mem_range.mpr h2, List.mem_map.mpr ⟨x.1, List.mem_range.mpr h1, rfl⟩⟩
theorem allP_succ (wide nb : Nat) : allP (wide + 1) nb = allP wide nb ++ (List.range nb).map fun j => (j, wide) := by
  unfold allP
  rw [List.range_succ, List.flatMap_append]
  simp
theorem allP_len (nb : Nat) : ∀ wide, (allP wide nb).length = wide * nb
  | 0 => by simp [allP]
  | wide + 1 => by rw [allP_succ, List.length_append, allP_len nb wide, List.length_map, List.length_range, Nat.add_mul, Nat.one_mul]
theorem nodup_map_inj {α β : Type} {f : α → β} (hf : ∀ a b, f a = f b → a = b) : ∀ {l : List α}, l.Nodup → (l.map f).Nodup
  | [], _ => List.nodup_nil
  | a :: l, h => by
    rw [List.map_cons, List.nodup_cons]
    refine ⟨fun z => ?_, nodup_map_inj hf (List.nodup_cons.mp h).2⟩
    obtain ⟨b, hb, e⟩ := List.mem_map.mp z
    exact (List.nodup_cons.mp h).1 (hf _ _ e ▸ hb)
theorem allP_nodup (nb : Nat) : ∀ wide, (allP wide nb).Nodup
  | 0 => by simp [allP]
  | wide + 1 => by
    rw [allP_succ, List.nodup_append]
    refine ⟨allP_nodup nb wide, nodup_map_inj (fun a b e => (Prod.mk.inj e).1) List.nodup_range, fun a ha b hb e => ?_⟩
    obtain ⟨j, _, rfl⟩ := List.mem_map.mp hb
    have := (allP_mem.mp ha).2
    rw [e] at this
    omega
theorem sum_oneIf {α : Type} (f : α → Bool) : ∀ l : List α, (l.map fun x => oneIf (f x)).sum = (((l.filter f).length : Nat) : Int)
  | [] => rfl
  | x :: l => by
    rw [List.map_cons, List.sum_cons, sum_oneIf f l, List.filter_cons]
    cases h : f x
    · simp [oneIf]
    · simp only [oneIf, if_true, List.length_cons]
      push_cast
      omega
theorem shAll_map (w : Wd) (s : Nat) (q : Sht) (x : Addr) : ∀ wide, shAll w s q x wide = (allP wide (nbOf s q.tot)).map fun p => oneIf (w.holds (q.g p.2 p.1) x)
  | 0 => rfl
  | wide + 1 => by
    rw [shAll_succ, allP_succ, List.map_append, shAll_map w s q x wide, List.map_map]
    rfl
theorem filter_compl {α : Type} (f : α → Bool) : ∀ l : List α, (l.filter f).length + (l.filter fun x => !f x).length = l.length
  | [] => rfl
  | x :: l => by
    have := filter_compl f l
    rw [List.filter_cons, List.filter_cons]
    cases h : f x <;> simp <;> omega
/-- how many blocks A and B both hold -/
theorem St2.shared {wide s n : Nat} {w : Wd} {A B : Addr} {CA CB : List (Nat × Nat)} {qA : Sht} (S : St2 wide s n w A B CA CB) (hA : w.sh A = some qA) : CA.length + CB.length ≤ wide * nbOf s n ∧ (shAll w s qA B wide).sum = ((wide * nbOf s n - CA.length - CB.length : Nat) : Int) := by
  obtain ⟨gA, hA'⟩ := S.shA
  rw [hA] at hA'
  cases hA'
  obtain ⟨gB, hB⟩ := S.shB
  have key : ∀ p ∈ allP wide (nbOf s n), w.holds (gA p.2 p.1) B = !decide (p ∈ CA ++ CB) := fun p hp => by
    obtain ⟨h1, h2⟩ := allP_mem.mp hp
    obtain ⟨kA, kB, e1, e2, e3, e4, e5, e6⟩ := S.pos _ _ hA hB p.2 p.1 h2 h1
    have e1' : w.bl (gA p.2 p.1) = some kA := e1
    have e2' : w.bl (gB p.2 p.1) = some kB := e2
    unfold Wd.holds
    rw [e1']
    show decide (B ∈ kA.hs) = _
    by_cases hin : p ∈ CA ∨ p ∈ CB
    · rw [decide_eq_false (e5 hin).1, decide_eq_true (List.mem_append.mpr hin)]; rfl
    · have hg : gA p.2 p.1 = gB p.2 p.1 := e6 hin
      rw [hg, e2'] at e1'
      cases e1'
      rw [decide_eq_true e4, decide_eq_false (fun z => hin (List.mem_append.mp z))]; rfl
  have hlen : ((allP wide (nbOf s n)).filter fun p => decide (p ∈ CA ++ CB)).length = (CA ++ CB).length := by
    refine same_len (List.Pairwise.filter _ (allP_nodup _ _)) S.nd fun x => ?_
    rw [List.mem_filter]
    exact ⟨fun z => of_decide_eq_true z.2, fun z => ⟨allP_mem.mpr (S.rng x z), decide_eq_true z⟩⟩
  have hc := filter_compl (fun p => decide (p ∈ CA ++ CB)) (allP wide (nbOf s n))
  rw [hlen, allP_len, List.length_append] at hc
  refine ⟨by omega, ?_⟩
  rw [shAll_map]
  have : ((allP wide (nbOf s n)).map fun p => oneIf (w.holds (gA p.2 p.1) B)) = (allP wide (nbOf s n)).map fun p => oneIf (!decide (p ∈ CA ++ CB)) := List.map_congr_left fun p hp => by rw [key p hp]
  show ((allP wide (nbOf s n)).map fun p => oneIf (w.holds (gA p.2 p.1) B)).sum = _
  rw [this, sum_oneIf (fun p => !decide (p ∈ CA ++ CB))]
  omega
/-- a sheet holds its own blocks -/
theorem shared_self {wide s : Nat} {w : Wd} {A : Addr} {q : Sht} (ok : WOk wide s w) (hA : w.sh A = some q) : (shAll w s q A wide).sum = ((wide * nbOf s q.tot : Nat) : Int) := by
  rw [shAll_map]
  have : ((allP wide (nbOf s q.tot)).map fun p => oneIf (w.holds (q.g p.2 p.1) A)) = (allP wide (nbOf s q.tot)).map fun p => oneIf true := List.map_congr_left fun p hp => by
    obtain ⟨h1, h2⟩ := allP_mem.mp hp
    obtain ⟨hs, e1, e2⟩ := ok.gr A q hA p.2 p.1 h2 h1
    unfold Wd.holds
    rw [e1]
    show oneIf (decide (A ∈ hs)) = _
    rw [decide_eq_true e2]
  rw [this, sum_oneIf (fun _ => true), List.filter_eq_self.mpr fun _ _ => rfl, allP_len]
/-- a new twin of the only open sheet -/
theorem St2.twin {wide s n : Nat} {w : Wd} {A B : Addr} {g gA : Nat → Nat → Addr} (ok : WOk wide s ((w.blank B g).hold wide s B ⟨true, 0, 0, g⟩ ⟨true, 0, n, gA⟩)) (ok0 : WOk wide s w) (hA : w.sh A = some ⟨true, 0, n, gA⟩) (al : ∀ x, w.isOpen x = true → x = A) (hB : w.sh B = none) :
    St2 wide s n ((w.blank B g).hold wide s B ⟨true, 0, 0, g⟩ ⟨true, 0, n, gA⟩) A B [] [] := by
  have ne : A ≠ B := fun z => by rw [z, hB] at hA; cases hA
  have shA : ((w.blank B g).hold wide s B ⟨true, 0, 0, g⟩ ⟨true, 0, n, gA⟩).sh A = some ⟨true, 0, n, gA⟩ := by
    show setA (setA w.sh B _) B _ A = _
    rw [setA_ne ne, setA_ne ne]; exact hA
  have shB : ((w.blank B g).hold wide s B ⟨true, 0, 0, g⟩ ⟨true, 0, n, gA⟩).sh B = some ⟨true, 0, n, gA⟩ := by
    show setA (setA w.sh B _) B _ B = _
    rw [setA_same]
  refine ⟨ne, ok, ⟨gA, shA⟩, ⟨gA, shB⟩, fun qA qB h1 h2 c j hc hj => ?_, fun x o => ?_, List.nodup_nil, fun x hx => by cases hx⟩
  · have h1' := shA.symm.trans h1
    cases h1'
    have h2' := shB.symm.trans h2
    cases h2'
    obtain ⟨hs, e1, e2⟩ := ok0.gr A _ hA c j hc hj
    have e1' : w.bl (gA c j) = some ⟨cellsAt s n j, hs, c, j⟩ := e1
    have e3 : ((w.blank B g).hold wide s B ⟨true, 0, 0, g⟩ ⟨true, 0, n, gA⟩).bl (gA c j) = some ⟨cellsAt s n j, hs ++ [B], c, j⟩ := by
      show (w.bl (gA c j)).map _ = _
      rw [e1']
      show some (holdBl _ _ _ _ _ _) = _
      rw [holdBl_eq, if_pos ⟨rfl, hc, hj⟩]
    exact ⟨_, _, e3, e3, List.mem_append_left _ e2, List.mem_append_right _ (List.mem_singleton.mpr rfl), fun z => (by rcases z with z | z <;> cases z), fun _ => rfl⟩
  · by_cases z : x = B
    · exact .inr z
    · refine .inl (al x ?_)
      have o' : (match setA (setA w.sh B (⟨true, 0, 0, g⟩ : Sht)) B (⟨true, 0, n, gA⟩ : Sht) x with | some q => q.opn | none => false) = true := o
      rw [setA_ne z, setA_ne z] at o'
      exact o'
end K7
/-! The law's first half: two open sheets. -/
namespace K7
open PySem PySem.Spec PyProof.Rows L2
theorem dpI {K : PySem.W.Frag} {H : Hp} : ∀ ns : List Int, DpAll K H (ns.map V.int) (ns.map PyData.int)
  | [] => .nil
  | n :: ns => .cons (.int n) (dpI ns)
theorem layI : ∀ ns : List Int, PyData.canLayAll0 (ns.map PyData.int) = true
  | [] => rfl
  | n :: ns => by
    show (PyData.canLay0 (.int n) && PyData.canLayAll0 (ns.map PyData.int)) = true
    rw [layI ns]; rfl
theorem depthI : ∀ ns : List Int, PyData.depthAll (ns.map PyData.int) = 0
  | [] => rfl
  | n :: ns => by
    show max (PyData.depth (.int n)) (PyData.depthAll (ns.map PyData.int)) = 0
    rw [depthI ns]; rfl
theorem shI (ns : List Int) : SeqAt.shaped (.list (ns.map PyData.int)) = true := by
  unfold SeqAt.shaped
  have h1 : PyData.canLay0 (.list (ns.map PyData.int)) = true := layI ns
  have h2 : PyData.depth (.list (ns.map PyData.int)) ≤ 64 := by
    show PyData.depthAll (ns.map PyData.int) + 1 ≤ 64
    rw [depthI ns]; decide
  rw [h1, decide_eq_true h2]; rfl
theorem eqvI : ∀ ns : List Int, PyData.eqvAll (ns.map PyData.int) (ns.map PyData.int) = true
  | [] => rfl
  | n :: ns => by
    show (((n == n) : Bool) && PyData.eqvAll (ns.map PyData.int) (ns.map PyData.int)) = true
    rw [eqvI ns, beq_self_eq_true]; rfl
theorem eqvL (ns : List Int) : PyData.eqv (.list (ns.map PyData.int)) (.list (ns.map PyData.int)) = true := eqvI ns
/-- the two lists are the same numbers -/
theorem neD_same {K : PySem.W.Frag} {H : Hp} {a b : Addr} {ns : List Int} {Q : VK} (ha : H a = some (.lst (ns.map V.int))) (hb : H b = some (.lst (ns.map V.int))) (q : Q (.bl false) H) : rNeD K (.ref a) (.ref b) H Q :=
  ⟨_, _, .lst (SqL.of ha) (dpI ns), .lst (SqL.of hb) (dpI ns), shI ns, shI ns, by rw [eqvL]; exact q⟩
theorem eqD_same {K : PySem.W.Frag} {H : Hp} {a b : Addr} {ns : List Int} {Q : VK} (ha : H a = some (.lst (ns.map V.int))) (hb : H b = some (.lst (ns.map V.int))) (q : Q (.bl true) H) : rEqD K (.ref a) (.ref b) H Q :=
  ⟨_, _, .lst (SqL.of ha) (dpI ns), .lst (SqL.of hb) (dpI ns), shI ns, shI ns, by rw [eqvL]; exact q⟩
theorem box_open {ρ : Rls} {wide s n : Nat} {A x : Addr} {g : Nat → Nat → Addr} (h : (boxW ρ wide s n A g).isOpen x = true) : x = A := by
  have h' : (match setA (fun _ => none) A (⟨true, 0, n, g⟩ : Sht) x with | some q => q.opn | none => false) = true := h
  by_cases z : x = A
  · exact z
  · rw [setA_ne z] at h'; cases h'
theorem box_few {ρ : Rls} {wide s n : Nat} {A : Addr} {g : Nat → Nat → Addr} (b : Addr) (k : Blk) (h : (boxW ρ wide s n A g).bl b = some k) : k.hs.length < 1000 := by
  obtain ⟨c, j, _, _, _, rfl⟩ := boxW_bl h
  show 1 < 1000
  decide
theorem Same.roles {H : Hp} : RDom (fun _ => none) H := fun a r h => by cases h
def spTwo (K : PySem.W.Frag) : Sp := fun vs H Q _ => ∃ (l t a : Addr) (sch : Sch) (rs : List Addr) (s : Nat), vs = [.ref l, .ref t, .ref a, .int (s : Nat)] ∧ PoolAt H l ∧ SchAt H t sch ∧ SchOk sch ∧ H a = some (.tup (rs.map V.ref)) ∧ RowsAt K H a sch rs ∧ 1 ≤ rs.length ∧ 1 ≤ s ∧ s ≤ 100 ∧
  ∀ H', PSame l H H' → PoolAt H' l → Q (.bl true) H'
section
variable {P : Program} {w0 : World} {K : PySem.W.Frag} {mg : Str → Option Value} {base : Heap}
theorem ok_l_two (E : Hd K mg) : Cal P w0 K mg base 11 "_law_two_right" (spTwo K) := by
  refine cal_mk E.f_l_two_right c_l_two_right (fun _ _ _ _ _ _ us hl => match us, hl with | [_, _, _, _], _ => rfl) (fun vs H Q E ⟨l, t, a, sch, rs, s, e, _⟩ => by rw [e]; rfl) ?_
  intro f cdv Ar outer s0 H vs Q E' hr h
  obtain ⟨l, t, a, sch, rs, s, rfl, hp, hs, ok, ha, hR, hn1, hs1, hs2, qq⟩ := h
  have MF : Mak P w0 K mg base 6 "Frame" (cF K) (spFrame K) [] := mk_frame E
  have MS : MakK P w0 K mg base 4 "Sheet" (cS K) (spSheet K) := mk_sheet E
  have MT : Met P w0 K mg base 10 (cS K) "twin" (spTwin K t s sch) := ok_twin E
  have MH : Met P w0 K mg base 2 (cS K) "shared" (spShared K t sch.length s) := ok_shared E
  have PC : Prp P w0 K mg base 1 (cS K) "copies" (spCopies K t sch.length s) := ok_copies E
  have CA : Cal P w0 K mg base 1 "_law_all_blocks" spAllB := ok_l_all_blocks E
  have CS : Cal P w0 K mg base 2 "_law_spots" spSpots := ok_l_spots E
  have CP : Cal P w0 K mg base 5 "_law_put_all" (spPutAll K t s sch) := ok_l_put_all E
  have hsl := sizeLine_eq
  have hn2 : rs.length ≤ 1000 := hR.2.1
  have hw : sch.length ≤ 12 := ok.few
  have hne : sch ≠ [] := ok.ne
  have hw1 : 1 ≤ sch.length := Nat.one_le_iff_ne_zero.mpr fun z => hne (List.length_eq_zero_iff.mp z)
  refine ⟨_, pss_cons (ps_set (i := 4) c_l_two_right.nd rfl (Or.inl rfl) (pe_newK MS hr (pe_new MF hr (pa_cons (pv 1) (pa_cons (pv 2) pa_nil))) (pv 3)))
    (pss_cons (ps_par (i := 5) (j := 6) rfl c_l_two_right.nd rfl rfl (by decide) rfl rfl (pa_cons (pe_m0 MT hr (pv 4)) (pa_cons (pe_f CA hr (pa_cons (pe_b call_len_seq E.b_len (pa_cons (pv 2) pa_nil)) (pa_cons (pe_b call_len_seq E.b_len (pa_cons (pv 1) pa_nil)) (pa_cons (pv 3) pa_nil)))) pa_nil)) rfl)
    (pss_cons (ps_if (pt_cmpR (op_neD hr.units) (pe_lst (pa_cons (pe_m MH hr (pv 4) (pa_cons (pv 5) pa_nil)) (pa_cons (pe_m MH hr (pv 4) (pa_cons (pv 4) pa_nil)) pa_nil))) (pe_lst (pa_cons (pv 6) (pa_cons (pv 6) pa_nil))) (nomark _)) pss_never pss_nil)
    (pss_cons (ps_asg (pe_f CS hr (pa_cons (pv 0) (pa_cons (pv 1) (pa_cons (pe_b call_len_seq E.b_len (pa_cons (pv 2) pa_nil)) (pa_cons (pv 3) pa_nil))))) (pg_unl rfl (pgs_cons (pg_name (i := 7) c_l_two_right.nd rfl (Or.inl rfl)) (pgs_cons (pg_name (i := 8) c_l_two_right.nd rfl (Or.inr rfl)) pgs_nil))))
    (pss_cons (ps_for PassesOwn.never rfl (pi_range1 rfl E.b_range (pa_cons pe_int pa_nil)) (pg_name (i := 9) c_l_two_right.nd rfl (Or.inl rfl))
      (pss_cons (ps_expr (pe_f CP hr (pa_cons (pv 0) (pa_cons (pv 5) (pa_cons (pv 1) (pa_cons (pv 7) pa_nil))))))
      (pss_cons (ps_set (i := 10) c_l_two_right.nd rfl (Or.inl rfl) (pe_op op_sub (pv 6) (pe_b call_len_seq E.b_len (pa_cons (pv 8) pa_nil))))
      (pss_one (ps_if (pt_cmpR (op_neD hr.units) (pe_lst (pa_cons (pe_p PC hr (pv 5)) (pa_cons (pe_p PC hr (pv 4)) (pa_cons (pe_m MH hr (pv 4) (pa_cons (pv 5) pa_nil)) (pa_cons (pe_m MH hr (pv 5) (pa_cons (pv 4) pa_nil)) pa_nil)))))
        (pe_lst (pa_cons (pe_b call_len_seq E.b_len (pa_cons (pv 8) pa_nil)) (pa_cons pe_int (pa_cons (pv 10) (pa_cons (pv 10) pa_nil))))) (nomark _)) pss_never pss_nil)))))
    (pss_cons (ps_asg (pe_f CS hr (pa_cons (pv 0) (pa_cons (pv 1) (pa_cons (pe_b call_len_seq E.b_len (pa_cons (pv 2) pa_nil)) (pa_cons (pv 3) pa_nil))))) (pg_unl rfl (pgs_cons (pg_name (i := 11) c_l_two_right.nd rfl (Or.inl rfl)) (pgs_cons (pg_name (i := 12) c_l_two_right.nd rfl (Or.inl rfl)) pgs_nil))))
    (pss_cons (ps_setLc (i := 13) (own := [("_law_one", 14)]) (g := gName 14) (tt := tTest (tOp (rNotInD K) (tVar 14) (tVar 8))) (te := tVar 14) rfl c_l_two_right.nd rfl rfl rfl (pi_list (pv 12)) (blkOk_by (N := n_l_two_right) (sc := defScope s_l_two_right) (by decide +kernel))
      (fun _ _ _ _ _ => pg_name (i := 14) c_l_two_right.nd rfl (Or.inl rfl)) (fun _ _ _ _ _ => pts_one (pt_cmpR (op_notInD (units65 hr)) (pv 14) (pv 8) rfl)) (fun _ _ _ _ _ => pv 14))
    (pss_cons (ps_expr (pe_f CP hr (pa_cons (pv 0) (pa_cons (pv 4) (pa_cons (pv 1) (pa_cons (pe_op op_cat (pv 11) (pv 7)) pa_nil))))))
    (pss_one (ps_ret (pe_cmpR (op_eqD hr.units) (pe_lst (pa_cons (pe_p PC hr (pv 4)) (pa_cons (pe_m MH hr (pv 4) (pa_cons (pv 5) pa_nil)) pa_nil)))
      (pe_lst (pa_cons (pe_b call_len_seq E.b_len (pa_cons (pv 13) pa_nil)) (pa_cons (pe_op op_sub (pe_op op_sub (pv 6) (pe_b call_len_seq E.b_len (pa_cons (pv 8) pa_nil))) (pe_b call_len_seq E.b_len (pa_cons (pv 13) pa_nil))) pa_nil))) (nomark _))))))))))), ?_⟩
  -- the box
  refine ⟨_, rfl, _, rfl, fun fr dxf hfr hdf hnf => ?_⟩
  have e0 : Same H (upd (upd H dxf (.own fr)) fr (.ins (cF K) dxf [])) := fun b o e => by rw [upd_ne (ne_of_none e hfr), upd_ne (ne_of_none e hdf)]; exact e
  refine ⟨fr, dxf, t, a, sch, rs, rfl, upd_same, hs.same e0, ok, hR.same e0, fun H1 hf1 sm1 => ⟨rfl, ?_⟩⟩
  have s1 : Same H H1 := fun b o e => sm1 b o (e0 _ _ e) (ne_of_none e hfr)
  refine ⟨_, rfl, rfl, rfl, fun A dxa hA hdA hnA => ?_⟩
  have e2 : Same H1 (upd (upd H1 dxa (.own A)) A (.ins (cS K) dxa [])) := fun b o e => by rw [upd_ne (ne_of_none e hA), upd_ne (ne_of_none e hdA)]; exact e
  have hF1 : FrAt K H1 fr t a sch rs := ⟨hf1, hs.same s1, hR.same s1⟩
  refine ⟨A, dxa, fr, t, a, sch, rs, s, fun _ => none, rfl, upd_same, (by obtain ⟨⟨_, h⟩, _⟩ := hF1; exact ne_of_none h hA), hF1.same e2, ok, hs1, hs2, Same.roles, rfl, fun gA H2 ρ2 N => ⟨rfl, ?_⟩⟩
  have hA0 : H A = none := by
    cases e : H A with
    | none => rfl
    | some o => rw [s1 _ _ e] at hA; cases hA
  have W2 := N.box hs1
  have F2 : FrmL l (fun _ => none) H ρ2 H2 := FrmL.of (N.frm (s1.trans e2) hA0) hp
  have p2 : PoolAt H2 l := hp.frm (N.frm (s1.trans e2) hA0) rfl
  have kt : ∀ {ρ' : Rls} {H' : Hp}, FrmL l (fun _ => none) H ρ' H' → KeepTup H H' := fun F => F.kt Same.roles hp
  have shA2 : (boxW ρ2 sch.length s rs.length A gA).sh A = some ⟨true, 0, rs.length, gA⟩ := by show setA (fun _ => none) A _ A = _; rw [setA_same]
  obtain ⟨_, dxA, _, _, hAo, _⟩ := W2.sh A _ shA2
  -- the twin
  refine ⟨_, rfl, A, dxA, _, rfl, hAo, sf_meth _ (by decide), A, ρ2, _, _, rfl, W2, shA2, rfl, hs.kt (kt F2), ok, hs1, hs2, hn2, box_few, fun B gB ρ3 H3 hB W3 F3 => ?_⟩
  have S3 := St2.twin (n := rs.length) W3.ok W2.ok shA2 (fun x o => box_open o) hB
  have FL3 := F2.trans (FrmL.of F3 p2)
  have p3 : PoolAt H3 l := p2.frm F3 (F2.nl rfl)
  generalize ((boxW ρ2 sch.length s rs.length A gA).blank B gB).hold sch.length s B ⟨true, 0, 0, gB⟩ ⟨true, 0, rs.length, gA⟩ = w3 at *
  have ht0 : ∃ xs, xs.length = sch.length ∧ H t = some (.tup xs) := by
    obtain ⟨ps, h1, h2, _⟩ := hs
    exact ⟨ps.map V.ref, by rw [List.length_map]; exact h2, h1⟩
  obtain ⟨xt, hxl, hxt⟩ := ht0
  refine ⟨_, rfl, a, _, rfl, .inr (SqT.of (kt FL3 _ _ ha)), _, rfl, t, _, rfl, .inr (SqT.of (kt FL3 _ _ hxt)), _, rfl, rs.length, sch.length, s, ?_, hs1, hs2, by omega, _, _, rfl, ?_⟩
  · rw [List.length_map, hxl]; rfl
  -- what they share
  obtain ⟨g3A, sA3⟩ := S3.shA
  obtain ⟨g3B, sB3⟩ := S3.shB
  obtain ⟨_, dxA3, _, _, hAo3, _⟩ := W3.sh A _ sA3
  refine ⟨_, rfl, A, dxA3, _, rfl, hAo3, sf_meth _ (by decide), _, rfl, A, B, ρ3, w3, _, _, rfl, W3, sA3, sB3, rfl, rfl, hw, hn2, hs1, fun H4 s4 => ?_⟩
  refine ⟨_, rfl, A, dxA3, _, rfl, s4 _ _ hAo3, sf_meth _ (by decide), _, rfl, A, A, ρ3, w3, _, _, rfl, W3.same s4, sA3, sA3, rfl, rfl, hw, hn2, hs1, fun H5 s5 => ⟨by simp only [List.length_cons, List.length_nil]; omega, fun x1 hx1 => ⟨_, rfl, _, rfl, by simp only [List.length_cons, List.length_nil]; omega, fun x2 hx2 => ?_⟩⟩⟩
  have hx12 : x1 ≠ x2 := ne_of_none upd_same hx2
  have e31 := (S3.shared sA3).2
  have e32 := shared_self W3.ok sA3
  refine neD_same (ns := [((sch.length * nbOf s rs.length : Nat) : Int), ((sch.length * nbOf s rs.length : Nat) : Int)]) (by rw [upd_ne hx12, upd_same, e31, e32]; rfl) upd_same ⟨_, rfl, iteF ?_⟩
  have s37 : Same H3 (upd (upd H5 x1 (.lst [.int (shAll w3 s ⟨true, 0, rs.length, g3A⟩ B sch.length).sum, .int (shAll w3 s ⟨true, 0, rs.length, g3A⟩ A sch.length).sum])) x2 (.lst [.int ((sch.length * nbOf s rs.length : Nat) : Int), .int ((sch.length * nbOf s rs.length : Nat) : Int)])) := ((s4.trans s5).trans (Same.upd hx1)).trans (Same.upd hx2)
  have W7 := W3.same s37
  have FL7 := FL3.trans (FrmL.of (Frm.same s37) p3)
  have p7 := p3.same s37
  -- the spots
  have spot : ∀ {ρ' : Rls} {H' : Hp}, FrmL l (fun _ => none) H ρ' H' → PoolAt H' l → True := fun _ _ => trivial
  refine ⟨_, rfl, _, rfl, _, rfl, a, _, rfl, .inr (SqT.of (kt FL7 _ _ ha)), _, rfl, l, t, xt, rs.length, s, by rw [List.length_map]; rfl, p7, kt FL7 _ _ hxt, by omega, by omega, hn1, hn2, hs1, hs2, fun L S Bk as cs ps bs H8 ps8 p8 hL8 hLl hS0 hB0 hSB hSl hBl hS8 hB8 ta tc hpl hpr hbn hbm => ?_⟩
  have r7 := FL7.nl rfl
  have W8 := W7.ps ps8 p8 r7
  have FL8 := FL7.trans (FrmL.ps (ρ := ρ3) ps8)
  have rS : ρ3 S = none := W7.dom.no_new hS0
  have rB : ρ3 Bk = none := W7.dom.no_new hB0
  have rng : ∀ x ∈ ps.map (blkOf s), x.1 < nbOf s rs.length ∧ x.2 < sch.length := fun x hx => by
    obtain ⟨y, hy, rfl⟩ := List.mem_map.mp hx
    obtain ⟨h1, h2⟩ := hpr y hy
    exact ⟨lt_nb (by omega) h1, by rw [← hxl]; exact h2⟩
  refine ⟨L, _, rfl, SqL.of hL8, rfl, _, _, rfl, _, _, rfl, rfl, ?_⟩
  refine ⟨_, rfl, by decide, by decide, ?_⟩
  refine for_it (n := 2) walk_range (fun i σ H9 => (∃ v9 v10 : Option V, σ = [some (.ref l), some (.ref t), some (.ref a), some (.int (s : Nat)), some (.ref A), some (.ref B), some (.int ((sch.length * nbOf s rs.length : Nat) : Int)), some (.ref S), some (.ref Bk), v9, v10, none, none, none, none]) ∧
      ∃ (ρ9 : Rls) (w9 : Wd) (CB : List (Nat × Nat)), WAt K t sch.length s H9 ρ9 w9 ∧ FrmL l ρ3 H8 ρ9 H9 ∧ PoolAt H9 l ∧ St2 sch.length s rs.length w9 A B [] CB ∧ (∀ x ∈ CB, x ∈ bs) ∧ (0 < i → ∀ x ∈ bs, x ∈ CB))
    ⟨⟨none, none, rfl⟩, ρ3, w3, [], W8, FrmL.refl _ _ _, p8, S3, (fun x hx => by cases hx), fun z => absurd z (Nat.lt_irrefl 0)⟩ (fun _ _ _ _ _ => trivial) ?_ ?_
  · rintro i x σ H9 H10 hi ⟨⟨v9, v10, rfl⟩, ρ9, w9, CB, W9, F9, p9, S9, hC1, hC2⟩ ⟨rfl, rfl⟩
    obtain ⟨gA9, sA9⟩ := S9.shA
    obtain ⟨gB9, sB9⟩ := S9.shB
    have FL9 := FL8.trans F9
    have hS9 := (F9.fr _ _ hS8 hSl rS)
    refine ⟨_, rfl, _, rfl, _, rfl, _, rfl, l, B, S, as, ps, ρ9, w9, _, rfl, W9, FL9.nl rfl, p9, sB9, rfl, hS9.1, hSl, hS9.2, (ta.keep (F9.kt W8.dom p8)), fun y hy => ⟨(hpr y hy).1, by rw [← hxl]; exact (hpr y hy).2⟩, hs.kt (kt FL9), ok, hs1, hs2, fun w10 ρ10 H10 pu W10 p10 F10 => ?_⟩
    have S10 := St2.puts pu S9 rng
    have hm10 : ∀ x, x ∈ addAll [] CB (ps.map (blkOf s)) ↔ x ∈ bs := fun x => by
      rw [addAll_mem, hbm x]
      refine ⟨fun z => z.elim (fun z => (hbm x).mp (hC1 x z)) And.left, fun z => .inr ⟨z, fun k => by cases k⟩⟩
    have hlen10 : (addAll [] CB (ps.map (blkOf s))).length = bs.length := same_len (by have := S10.nd; rw [List.nil_append] at this; exact this) hbn hm10
    generalize addAll [] CB (ps.map (blkOf s)) = CB2 at *
    obtain ⟨gA10, sA10⟩ := S10.shA
    obtain ⟨gB10, sB10⟩ := S10.shB
    obtain ⟨hle, e101⟩ := S10.shared sA10
    have e102 := (S10.symm.shared sB10).2
    have F810 := F9.trans F10
    have hB10 := (F810.fr _ _ hB8 hBl rB).1
    rw [List.length_nil, Nat.zero_add, hlen10] at hle
    refine ⟨_, rfl, _, rfl, Bk, _, rfl, .inl (SqL.of hB10), _, _, rfl, rfl, ?_⟩
    obtain ⟨_, dxA10, _, _, hAo10, _⟩ := W10.sh A _ sA10
    obtain ⟨_, dxB10, _, _, hBo10, _⟩ := W10.sh B _ sB10
    refine ⟨_, rfl, B, dxB10, _, rfl, hBo10, B, ρ10, w10, _, rfl, W10, sB10, ?_⟩
    refine ⟨_, rfl, A, dxA10, _, rfl, hAo10, A, ρ10, w10, _, rfl, W10, sA10, ?_⟩
    refine ⟨_, rfl, A, dxA10, _, rfl, hAo10, sf_meth _ (by decide), _, rfl, A, B, ρ10, w10, _, _, rfl, W10, sA10, sB10, rfl, rfl, hw, hn2, hs1, fun H11 s11 => ?_⟩
    refine ⟨_, rfl, B, dxB10, _, rfl, s11 _ _ hBo10, sf_meth _ (by decide), _, rfl, B, A, ρ10, w10, _, _, rfl, W10.same s11, sB10, sA10, rfl, rfl, hw, hn2, hs1, fun H12 s12 => ⟨by simp only [List.length_cons, List.length_nil]; omega, fun y1 hy1 => ?_⟩⟩
    have s12' := (s11.trans s12).trans (Same.upd (o := .lst [.int ((CB2.length : Nat) : Int), .int (((([] : List (Nat × Nat)).length : Nat)) : Int), .int (shAll w10 s ⟨true, ([] : List (Nat × Nat)).length, rs.length, gA10⟩ B sch.length).sum, .int (shAll w10 s ⟨true, CB2.length, rs.length, gB10⟩ A sch.length).sum]) hy1)
    refine ⟨_, rfl, Bk, _, rfl, .inl (SqL.of (s12' _ _ hB10)), _, rfl, _, rfl, by simp only [List.length_cons, List.length_nil]; omega, fun y2 hy2 => ?_⟩
    have hy12 : y1 ≠ y2 := ne_of_none upd_same hy2
    have lo : ((sch.length * nbOf s rs.length : Nat) : Int) - (((cs.map V.ref).length : Nat) : Int) = ((sch.length * nbOf s rs.length - bs.length : Nat) : Int) := by
      rw [List.length_map, tc.len]; omega
    refine neD_same (ns := [((bs.length : Nat) : Int), 0, ((sch.length * nbOf s rs.length - bs.length : Nat) : Int), ((sch.length * nbOf s rs.length - bs.length : Nat) : Int)]) ?_ ?_ ⟨_, rfl, iteF ?_⟩
    · rw [upd_ne hy12, upd_same, e101, e102, hlen10]
      simp only [List.length_nil, Nat.sub_zero]
      rfl
    · rw [upd_same]
      show some (HO.lst [V.int (((cs.map V.ref).length : Nat) : Int), V.int 0, V.int (((sch.length * nbOf s rs.length : Nat) : Int) - (((cs.map V.ref).length : Nat) : Int)), V.int (((sch.length * nbOf s rs.length : Nat) : Int) - (((cs.map V.ref).length : Nat) : Int))]) = _
      rw [lo, List.length_map, tc.len]
      rfl
    · have s13 := s12'.trans (Same.upd (o := .lst [.int (((cs.map V.ref).length : Nat) : Int), .int 0, .int (((sch.length * nbOf s rs.length : Nat) : Int) - (((cs.map V.ref).length : Nat) : Int)), .int (((sch.length * nbOf s rs.length : Nat) : Int) - (((cs.map V.ref).length : Nat) : Int))]) hy2)
      exact ⟨⟨_, _, rfl⟩, ρ10, w10, CB2, W10.same s13, F810.trans (FrmL.of (Frm.same s13) p10), p10.same s13, S10, fun x hx => (hm10 x).mp hx, fun _ x hx => (hm10 x).mpr hx⟩
  · rintro σ H9 ⟨⟨v9, v10, rfl⟩, ρ9, w9, CB, W9, F9, p9, S9, hC1, hC2⟩
    have hC : ∀ x, x ∈ CB ↔ x ∈ bs := fun x => ⟨hC1 x, hC2 (by decide) x⟩
    have FL9 := FL8.trans F9
    refine ⟨_, rfl, _, rfl, _, rfl, a, _, rfl, .inr (SqT.of (kt FL9 _ _ ha)), _, rfl, l, t, xt, rs.length, s, by rw [List.length_map]; rfl, p9, kt FL9 _ _ hxt, by omega, by omega, hn1, hn2, hs1, hs2, fun L2 S2 Bk2 as2 cs2 ps2 bs2 H10 ps10 p10 hL10 hL2l hS20 hB20 hSB2 hS2l hB2l hS10 hB10 ta2 tc2 hpl2 hpr2 hbn2 hbm2 => ?_⟩
    have r9 := FL9.nl rfl
    have W10 := W9.ps ps10 p10 r9
    have F910 : FrmL l ρ9 H9 ρ9 H10 := FrmL.ps ps10
    have F810 := F9.trans F910
    refine ⟨L2, _, rfl, SqL.of hL10, rfl, _, _, rfl, _, _, rfl, rfl, ?_⟩
    have rng2 : ∀ x ∈ ps2.map (blkOf s), x.1 < nbOf s rs.length ∧ x.2 < sch.length := fun x hx => by
      obtain ⟨y, hy, rfl⟩ := List.mem_map.mp hx
      obtain ⟨h1, h2⟩ := hpr2 y hy
      exact ⟨lt_nb (by omega) h1, by rw [← hxl]; exact h2⟩
    have hbs := F810.fr _ _ hB8 hBl rB
    have tc10 := tc.keep (F810.kt W8.dom p8)
    -- fresh
    refine ⟨_, rfl, Bk2, rfl, ⟨_, SqL.of hB10⟩, fun D hD => ?_⟩
    refine lc_it (walk_list (K := K) (a := Bk2) (xs := cs2.map V.ref)) (fun i H11 => Same H10 H11 ∧ ∃ fs : List V, H11 D = some (.lst fs) ∧ fs.length = ((bs2.take i).filter fun x => !decide (x ∈ bs)).length) ⟨Same.upd hD, [], upd_same, rfl⟩ (fun i H11 _ ⟨s11, _⟩ => SqL.of (s11 _ _ hB10)) ?_ ?_
    · rintro i x H11 H12 hi ⟨s11, fs, hfs, hfl⟩ ⟨rfl, hx⟩
      rw [List.length_map] at hi
      have hci : cs2[i]? = some cs2[i] := List.getElem?_eq_getElem hi
      rw [List.getElem?_map, hci] at hx
      cases hx
      obtain ⟨y, hy, hya⟩ := tc2.at hci
      have hb11 := s11 _ _ hbs.1
      have tc11 := tc10.keep (Same.kt s11)
      have htk : ((bs2.take (i + 1)).filter fun x => !decide (x ∈ bs)) = ((bs2.take i).filter fun x => !decide (x ∈ bs)) ++ ([y].filter fun x => !decide (x ∈ bs)) := by rw [List.take_succ, hy, List.filter_append]; rfl
      refine ⟨rfl, _, rfl, _, rfl, dat y, _, .tup (SqT.of (s11 _ _ hya)) (.cons (.int _) (.cons (.int _) .nil)), .lst (SqL.of hb11) tc11.dp, shaped_dat _, shaped_dats _, _, rfl, ?_⟩
      rw [any_dat]
      have hfew : fs.length ≤ 12 := by
        rw [hfl]
        refine Nat.le_trans (List.length_filter_le _ _) (Nat.le_trans (List.length_take_le _ _) ?_)
        have : cs2.length ≤ 12 := by
          rw [tc2.len]
          refine Nat.le_trans (sub_len (m := ps2.map (blkOf s)) hbn2 fun x hx => (hbm2 x).mp hx) ?_
          rw [List.length_map]; exact hpl2
        omega
      by_cases hyb : y ∈ bs
      · refine iteF' (by rw [decide_eq_true hyb]; rfl) ⟨s11, fs, hfs, ?_⟩
        rw [htk, hfl, List.length_append, List.filter_cons, if_neg (by rw [decide_eq_true hyb]; exact Bool.false_ne_true)]
        rfl
      · refine iteT' (by rw [decide_eq_false hyb]; rfl) ⟨_, rfl, fs, hfs, by omega, same_new hD s11 _, _, upd_same, ?_⟩
        rw [htk, List.length_append, List.length_append, hfl, List.filter_cons, if_pos (by rw [decide_eq_false hyb]; rfl)]
        rfl
    rintro H11 ⟨s11, fs, hfs, hfl⟩
    rw [List.length_map, tc2.len, List.take_length] at hfl
    -- the puts to the box
    have hS11 := s11 _ _ (F810.fr _ _ hS8 hSl rS).1
    have hS211 := s11 _ _ hS10
    have p11 := p10.same s11
    have W11 := W10.same s11
    have F811 := F810.trans (FrmL.of (Frm.same s11) p10)
    have ta11 := (ta.keep (F810.kt W8.dom p8)).keep (Same.kt s11)
    have ta211 := ta2.keep (Same.kt s11)
    have hl1 : as.length ≤ 12 := by rw [ta.len]; exact hpl
    have hl2 : as2.length ≤ 12 := by rw [ta2.len]; exact hpl2
    refine ⟨_, rfl, _, rfl, _, rfl, _, rfl, _, rfl, S2, S, _, _, rfl, rfl, hS211, hS11, by rw [List.length_map, List.length_map]; omega, fun G hG => ?_⟩
    have sG : Same H11 (upd H11 G (.lst (as2.map V.ref ++ as.map V.ref))) := Same.upd hG
    have W12 := W11.same sG
    have FL12 := (FL8.trans F811).trans (FrmL.of (Frm.same sG) p11)
    have rG : ρ9 G = none := W11.dom.no_new hG
    have S9' := S9.symm
    obtain ⟨gA9, sA9⟩ := S9.shA
    refine ⟨l, A, G, as2 ++ as, ps2 ++ ps, ρ9, w9, _, rfl, W12, r9, p11.same sG, sA9, rfl, by rw [upd_same, List.map_append], p11.ne hG, rG, (ta211.app ta11).keep (Same.kt sG), fun y hy => ?_, hs.kt (kt FL12), ok, hs1, hs2, fun w13 ρ13 H13 pu W13 p13 F13 => ?_⟩
    · rcases List.mem_append.mp hy with h | h
      · exact ⟨(hpr2 y h).1, by rw [← hxl]; exact (hpr2 y h).2⟩
      · exact ⟨(hpr y h).1, by rw [← hxl]; exact (hpr y h).2⟩
    have S13' := St2.puts pu S9' fun x hx => by
      rw [List.map_append, List.mem_append] at hx
      exact hx.elim (rng2 x) (rng x)
    have hm13 : ∀ x, x ∈ addAll CB [] ((ps2 ++ ps).map (blkOf s)) ↔ x ∈ bs2.filter fun x => !decide (x ∈ bs) := fun x => by
      rw [addAll_mem, List.mem_filter, hC x, List.map_append, List.mem_append, ← hbm x, ← hbm2 x]
      constructor
      · rintro (z | ⟨z | z, z2⟩)
        · cases z
        · exact ⟨z, by rw [decide_eq_false z2]; rfl⟩
        · exact absurd z z2
      · rintro ⟨z1, z2⟩
        have : ¬ x ∈ bs := fun k => by rw [decide_eq_true k] at z2; cases z2
        exact .inr ⟨.inl z1, this⟩
    have nd13 : (addAll CB [] ((ps2 ++ ps).map (blkOf s))).Nodup := (List.nodup_append.mp S13'.nd).2.1
    have hlen13 : (addAll CB [] ((ps2 ++ ps).map (blkOf s))).length = fs.length := by rw [hfl]; exact same_len nd13 (List.Pairwise.filter _ hbn2) hm13
    have hlenB : CB.length = bs.length := same_len (by have := S9.nd; rw [List.nil_append] at this; exact this) hbn hC
    have S13 := S13'.symm
    generalize addAll CB [] ((ps2 ++ ps).map (blkOf s)) = CA2 at *
    obtain ⟨gA13, sA13⟩ := S13.shA
    obtain ⟨gB13, sB13⟩ := S13.shB
    obtain ⟨_, dxA13, _, _, hAo13, _⟩ := W13.sh A _ sA13
    obtain ⟨hle13, e13⟩ := S13.shared sA13
    refine ⟨_, rfl, A, dxA13, _, rfl, hAo13, A, ρ13, w13, _, rfl, W13, sA13, ?_⟩
    refine ⟨_, rfl, A, dxA13, _, rfl, hAo13, sf_meth _ (by decide), _, rfl, A, B, ρ13, w13, _, _, rfl, W13, sA13, sB13, rfl, rfl, hw, hn2, hs1, fun H14 s14 => ⟨by simp only [List.length_cons, List.length_nil]; omega, fun y1 hy1 => ?_⟩⟩
    have F1113 := (FrmL.of (Frm.same sG) p11).trans F13
    have hDl : D ≠ l := p10.ne hD
    have rD : ρ9 D = none := W10.dom.no_new hD
    have hD14 := s14 _ _ (F1113.fr _ _ hfs hDl rD).1
    have hB14 := s14 _ _ ((F811.trans F1113).fr _ _ hB8 hBl rB).1
    have hD15 : (upd H14 y1 (.lst [.int ((CA2.length : Nat) : Int), .int (shAll w13 s ⟨true, CA2.length, rs.length, gA13⟩ B sch.length).sum])) D = some (.lst fs) := by rw [upd_ne (ne_of_none hD14 hy1)]; exact hD14
    have hB15 : (upd H14 y1 (.lst [.int ((CA2.length : Nat) : Int), .int (shAll w13 s ⟨true, CA2.length, rs.length, gA13⟩ B sch.length).sum])) Bk = some (.lst (cs.map V.ref)) := by rw [upd_ne (ne_of_none hB14 hy1)]; exact hB14
    refine ⟨_, rfl, D, _, rfl, .inl (SqL.of hD15), _, rfl, _, rfl, Bk, _, rfl, .inl (SqL.of hB15), _, _, rfl, rfl, _, rfl, D, _, rfl, .inl (SqL.of hD15), _, _, rfl, rfl, by simp only [List.length_cons, List.length_nil]; omega, fun y2 hy2 => ?_⟩
    have hy12 : y1 ≠ y2 := ne_of_none upd_same hy2
    have lo : ((sch.length * nbOf s rs.length : Nat) : Int) - (((cs.map V.ref).length : Nat) : Int) - ((fs.length : Nat) : Int) = ((sch.length * nbOf s rs.length - CA2.length - CB.length : Nat) : Int) := by
      have hle13' : CA2.length + CB.length ≤ sch.length * nbOf s rs.length := hle13
      rw [List.length_map, tc.len]
      omega
    refine eqD_same (ns := [((fs.length : Nat) : Int), ((sch.length * nbOf s rs.length - CA2.length - CB.length : Nat) : Int)]) ?_ ?_ ?_
    · rw [upd_ne hy12, upd_same, e13, hlen13]
      rfl
    · rw [upd_same]
      show some (HO.lst [V.int ((fs.length : Nat) : Int), V.int ((((sch.length * nbOf s rs.length : Nat) : Int) - (((cs.map V.ref).length : Nat) : Int)) - ((fs.length : Nat) : Int))]) = _
      rw [lo]
      rfl
    · have s15 := (s14.trans (Same.upd (o := .lst [.int ((CA2.length : Nat) : Int), .int (shAll w13 s ⟨true, CA2.length, rs.length, gA13⟩ B sch.length).sum]) hy1)).trans (Same.upd (o := .lst [.int ((fs.length : Nat) : Int), .int (((sch.length * nbOf s rs.length : Nat) : Int) - (((cs.map V.ref).length : Nat) : Int) - ((fs.length : Nat) : Int))]) hy2)
      have FE := ((FL8.trans F811).trans F1113).trans (FrmL.of (Frm.same s15) p13)
      exact qq _ (fun b o e n => (FE.fr b o e n rfl).1) (p13.same s15)
end
end K7
/-! The law's second half: closed sheets hold blocks, but do not count. -/
namespace K7
open PySem PySem.Spec PyProof.Rows L2
/-! ### as they are thought of -/
abbrev Wd.twin (w : Wd) (wide s : Nat) (x : Addr) (g : Nat → Nat → Addr) (q : Sht) : Wd := (w.blank x g).hold wide s x ⟨true, 0, 0, g⟩ q
theorem twin_new {w : Wd} {wide s : Nat} {x : Addr} {g : Nat → Nat → Addr} {q : Sht} : (w.twin wide s x g q).sh x = some ⟨true, 0, q.tot, q.g⟩ := by
  show setA (setA w.sh x _) x _ x = _
  rw [setA_same]
theorem twin_old {w : Wd} {wide s : Nat} {x y : Addr} {g : Nat → Nat → Addr} {q : Sht} (h : y ≠ x) : (w.twin wide s x g q).sh y = w.sh y := by
  show setA (setA w.sh x _) x _ y = _
  rw [setA_ne h, setA_ne h]
theorem twin_few {w : Wd} {wide s m : Nat} {x : Addr} {g : Nat → Nat → Addr} {q : Sht} (h : ∀ b k, w.bl b = some k → k.hs.length < m) (b : Addr) (k : Blk) (e : (w.twin wide s x g q).bl b = some k) : k.hs.length < m + 1 := by
  have e' : (w.bl b).map (holdBl wide (nbOf s q.tot) q.g x b) = some k := e
  cases e0 : w.bl b with
  | none => rw [e0] at e'; cases e'
  | some k0 =>
    rw [e0] at e'
    cases e'
    have := h b k0 e0
    rw [holdBl_eq]
    show (ite _ _ _ : List Addr).length < m + 1
    split
    · rw [List.length_append, List.length_singleton]; omega
    · omega
theorem own_few {w w' : Wd} {p b' : Addr} {c j m : Nat} (h : Own w p c j w' b') (hm : 2 ≤ m) (f : ∀ b k, w.bl b = some k → k.hs.length < m) (b : Addr) (k : Blk) (e : w'.bl b = some k) : k.hs.length < m := by
  obtain ⟨q, k0, e1, e2, h⟩ := h
  rcases h with ⟨_, rfl, _⟩ | ⟨_, _, rfl⟩
  · exact f b k e
  · have e' : setA (setA w.bl (q.g c j) { k0 with hs := k0.hs.erase p }) b' ⟨k0.n, [p], c, j⟩ b = some k := e
    by_cases h1 : b = b'
    · rw [h1, setA_same] at e'
      cases e'
      show 1 < m
      omega
    · rw [setA_ne h1] at e'
      by_cases h2 : b = q.g c j
      · rw [h2, setA_same] at e'
        cases e'
        have h3 : (k0.hs.erase p).length ≤ k0.hs.length := List.length_erase_le ..
        have h4 := f _ _ e2
        show (k0.hs.erase p).length < m
        omega
      · rw [setA_ne h2] at e'
        exact f b k e'
theorem isOpen_iff {w : Wd} {x : Addr} (h : w.isOpen x = true) : ∃ q, w.sh x = some q ∧ q.opn = true := by
  unfold Wd.isOpen at h
  cases e : w.sh x with
  | none => rw [e] at h; cases h
  | some q => rw [e] at h; exact ⟨q, rfl, h⟩
theorem box_sh {ρ : Rls} {wide s n : Nat} {A x : Addr} {g : Nat → Nat → Addr} (h : x ≠ A) : (boxW ρ wide s n A g).sh x = none := by
  show setA (fun _ => none) A _ x = none
  rw [setA_ne h]
/-! ### the walk -/
section
variable {K : PySem.W.Frag}
def rLenSq (K : PySem.W.Frag) : List V → Hp → VK → Prop := fun xs H Q => ∃ p ys, xs = [.ref p] ∧ (SqL K H p ys ∨ SqT K H p ys) ∧ Q (.int ys.length) H
theorem call_lenK {X : Cx} : CallR X (.builtin "len") (rLenSq X.K) := call_len_seq
/-- [(spot, place) for place in range(len(heads))] -/
theorem row_lc {l a A : V} {v3 v5 v6 v7 v9 : Option V} {i wide : Nat} {xt : List V} {th : Addr} {H : Hp} {Q : VK} (ht : H th = some (.tup xt)) (hx : xt.length = wide) (hw : wide ≤ 12)
    (q : ∀ (D : Addr) (as : List Addr) H', Same H H' → H D = none → H' D = some (.lst (as.map V.ref)) → TupsAt H' as ((List.range wide).map fun c => (i, c)) → Q (.ref D) H') :
    tLc (iRng1 (tCons (tCB (rLenSq K) (tCons (tVar 1) tNil)) tNil)) (gName 9) tYes (tTup (tCons (tVar 8) (tCons (tVar 9) tNil))) [9] [some l, some (.ref th), some a, v3, some A, v5, v6, v7, some (.int (0 + (i : Nat))), v9] H Q := by
  have hsl := sizeLine_eq
  refine ⟨_, rfl, th, _, rfl, .inr (SqT.of ht), _, rfl, by omega, by omega, fun D hD => ?_⟩
  have hn : ((xt.length : Nat) : Int).toNat = wide := by omega
  rw [hn]
  refine lc_it walk_range (fun j H1 => Same H H1 ∧ ∃ as : List Addr, H1 D = some (.lst (as.map V.ref)) ∧ TupsAt H1 as ((List.range j).map fun c => (i, c))) ⟨Same.upd hD, [], upd_same, trivial⟩ (fun _ _ _ _ => trivial) ?_ ?_
  · rintro j x H1 H2 hj ⟨s1, as, h1, ta⟩ ⟨rfl, rfl⟩
    refine ⟨rfl, yesT ⟨_, rfl, _, rfl, by simp only [List.length_cons, List.length_nil]; omega, fun T hT => ?_⟩⟩
    have hTD : D ≠ T := ne_of_none h1 hT
    have sT : Same H2 (upd H2 T (.tup [.int (0 + (i : Nat)), .int (0 + (j : Nat))])) := Same.upd hT
    have h1' := sT _ _ h1
    have kt := kt_upd (o := .lst (as.map V.ref ++ [.ref T])) h1'
    refine ⟨_, h1', ?_, same_new hD (s1.trans sT) _, as ++ [T], by rw [upd_same, List.map_append]; rfl, ?_⟩
    · rw [List.length_map, ta.len, List.length_map, List.length_range]
      omega
    · rw [List.range_succ, List.map_append]
      refine (ta.keep ((Same.kt sT).trans kt)).app ⟨?_, trivial⟩
      have : (upd H2 T (.tup [.int (0 + (i : Nat)), .int (0 + (j : Nat))])) T = some (.tup [.int (i : Nat), .int (j : Nat)]) := by rw [upd_same, Int.zero_add, Int.zero_add]
      exact kt _ _ this
  · rintro H1 ⟨s1, as, h1, ta⟩
    exact q D as H1 s1 hD h1 ta
end
theorem blk_row {s i wide : Nat} : ((List.range wide).map fun c => (i, c)).map (blkOf s) = (List.range wide).map fun c => (i / s, c) := by
  rw [List.map_map]; rfl
section
variable {P : Program} {w0 : World} {K : PySem.W.Frag} {mg : Str → Option Value} {base : Heap}
theorem ok_l_closed (E : Hd K mg) : Cal P w0 K mg base 11 "_law_closed_right" (spTwo K) := by
  refine cal_mk E.f_l_closed_right c_l_closed_right (fun _ _ _ _ _ _ us hl => match us, hl with | [_, _, _, _], _ => rfl) (fun vs H Q E ⟨l, t, a, sch, rs, s, e, _⟩ => by rw [e]; rfl) ?_
  intro f cdv Ar outer s0 H vs Q E' hr h
  obtain ⟨l, t, a, sch, rs, s, rfl, hp, hs, ok, ha, hR, hn1, hs1, hs2, qq⟩ := h
  have MF : Mak P w0 K mg base 6 "Frame" (cF K) (spFrame K) [] := mk_frame E
  have MS : MakK P w0 K mg base 4 "Sheet" (cS K) (spSheet K) := mk_sheet E
  have MT : Met P w0 K mg base 10 (cS K) "twin" (spTwin K t s sch) := ok_twin E
  have MH : Met P w0 K mg base 2 (cS K) "shared" (spShared K t sch.length s) := ok_shared E
  have MP : Met P w0 K mg base 4 (cS K) "put" (spPut K t s sch) := ok_put E
  have MC : Met P w0 K mg base 2 (cS K) "close" (spClose K t sch.length s) := ok_close E
  have PC : Prp P w0 K mg base 1 (cS K) "copies" (spCopies K t sch.length s) := ok_copies E
  have CA : Cal P w0 K mg base 1 "_law_all_blocks" spAllB := ok_l_all_blocks E
  have CP : Cal P w0 K mg base 5 "_law_put_all" (spPutAll K t s sch) := ok_l_put_all E
  have hsl := sizeLine_eq
  have hn2 : rs.length ≤ 1000 := hR.2.1
  have hw : sch.length ≤ 12 := ok.few
  have hne : sch ≠ [] := ok.ne
  have hw1 : 1 ≤ sch.length := Nat.one_le_iff_ne_zero.mpr fun z => hne (List.length_eq_zero_iff.mp z)
  have ROW : ∀ i (hi : n_l_closed_right[8]? = some i), True := fun _ _ => trivial
  refine ⟨_, pss_cons (ps_par (i := 4) (j := 5) rfl c_l_closed_right.nd rfl rfl (by decide) rfl rfl (pa_cons (pe_newK MS hr (pe_new MF hr (pa_cons (pv 1) (pa_cons (pv 2) pa_nil))) (pv 3)) (pa_cons (pe_f CA hr (pa_cons (pe_b call_len_seq E.b_len (pa_cons (pv 2) pa_nil)) (pa_cons (pe_b call_len_seq E.b_len (pa_cons (pv 1) pa_nil)) (pa_cons (pv 3) pa_nil)))) pa_nil)) rfl)
    (pss_cons (ps_par (i := 6) (j := 7) rfl c_l_closed_right.nd rfl rfl (by decide) rfl rfl (pa_cons (pe_m0 MT hr (pv 4)) (pa_cons (pe_m0 MT hr (pv 4)) pa_nil)) rfl)
    (pss_cons (ps_expr (pe_m MP hr (pv 7) (pa_cons pe_int (pa_cons (pe_ix ix_tup (pe_ix ix_tup (pv 1) pe_int (fun _ _ => rfl)) pe_int (fun _ _ => rfl)) (pa_cons pe_non pa_nil)))))
    (pss_cons (ps_expr (pe_m0 MC hr (pv 6)))
    (pss_cons (ps_expr (pe_m0 MC hr (pv 7)))
    (pss_cons (ps_for PassesOwn.never rfl (pi_range1 rfl E.b_range (pa_cons (pe_b call_len_seq E.b_len (pa_cons (pv 2) pa_nil)) pa_nil)) (pg_name (i := 8) c_l_closed_right.nd rfl (Or.inr rfl))
      (pss_one (ps_expr (pe_f CP hr (pa_cons (pv 0) (pa_cons (pv 4) (pa_cons (pv 1) (pa_cons (pe_lc (own := [("_law_place", 9)]) (g := gName 9) (tt := tYes) (te := tTup (tCons (tVar 8) (tCons (tVar 9) tNil))) rfl c_l_closed_right.nd (pi_range1 rfl E.b_range (pa_cons (pe_b call_lenK E.b_len (pa_cons (pv 1) pa_nil)) pa_nil))
        (blkOk_by (N := n_l_closed_right) (sc := defScope s_l_closed_right) (by decide +kernel)) (fun _ _ _ _ _ => pg_name (i := 9) c_l_closed_right.nd rfl (Or.inl rfl)) (fun _ _ _ _ _ => pts_nil) (fun _ _ _ _ _ => pe_tup (pa_cons (pv 8) (pa_cons (pv 9) pa_nil)))) pa_nil))))))))
    (pss_cons (ps_if (PW.pt (pw_or (pt_cmpR op_ne (pe_p PC hr (pv 4)) pe_int (nomark _)) (pw_or1 (pt_cmpR op_ne (pe_p PC hr (pv 7)) pe_int (nomark _))))) pss_never pss_nil)
    (pss_cons (ps_set (i := 6) c_l_closed_right.nd rfl (Or.inl rfl) (pe_m0 MT hr (pv 4)))
    (pss_cons (ps_for PassesOwn.never rfl (pi_range1 rfl E.b_range (pa_cons (pe_b call_len_seq E.b_len (pa_cons (pv 2) pa_nil)) pa_nil)) (pg_name (i := 8) c_l_closed_right.nd rfl (Or.inr rfl))
      (pss_one (ps_expr (pe_f CP hr (pa_cons (pv 0) (pa_cons (pv 6) (pa_cons (pv 1) (pa_cons (pe_lc (own := [("_law_place", 9)]) (g := gName 9) (tt := tYes) (te := tTup (tCons (tVar 8) (tCons (tVar 9) tNil))) rfl c_l_closed_right.nd (pi_range1 rfl E.b_range (pa_cons (pe_b call_lenK E.b_len (pa_cons (pv 1) pa_nil)) pa_nil))
        (blkOk_by (N := n_l_closed_right) (sc := defScope s_l_closed_right) (by decide +kernel)) (fun _ _ _ _ _ => pg_name (i := 9) c_l_closed_right.nd rfl (Or.inl rfl)) (fun _ _ _ _ _ => pts_nil) (fun _ _ _ _ _ => pe_tup (pa_cons (pv 8) (pa_cons (pv 9) pa_nil)))) pa_nil))))))))
    (pss_one (ps_ret (pe_cmpR (op_eqD hr.units) (pe_lst (pa_cons (pe_p PC hr (pv 6)) (pa_cons (pe_m MH hr (pv 4) (pa_cons (pv 6) pa_nil)) (pa_cons (pe_p PC hr (pv 4)) pa_nil)))) (pe_lst (pa_cons (pv 5) (pa_cons pe_int (pa_cons pe_int pa_nil)))) (nomark _)))))))))))), ?_⟩
  -- the box
  refine ⟨_, rfl, _, rfl, fun fr dxf hfr hdf hnf => ?_⟩
  have e0 : Same H (upd (upd H dxf (.own fr)) fr (.ins (cF K) dxf [])) := fun b o e => by rw [upd_ne (ne_of_none e hfr), upd_ne (ne_of_none e hdf)]; exact e
  refine ⟨fr, dxf, t, a, sch, rs, rfl, upd_same, hs.same e0, ok, hR.same e0, fun H1 hf1 sm1 => ⟨rfl, ?_⟩⟩
  have s1 : Same H H1 := fun b o e => sm1 b o (e0 _ _ e) (ne_of_none e hfr)
  refine ⟨_, rfl, rfl, rfl, fun A dxa hA hdA hnA => ?_⟩
  have e2 : Same H1 (upd (upd H1 dxa (.own A)) A (.ins (cS K) dxa [])) := fun b o e => by rw [upd_ne (ne_of_none e hA), upd_ne (ne_of_none e hdA)]; exact e
  have hF1 : FrAt K H1 fr t a sch rs := ⟨hf1, hs.same s1, hR.same s1⟩
  refine ⟨A, dxa, fr, t, a, sch, rs, s, fun _ => none, rfl, upd_same, (by obtain ⟨⟨_, h⟩, _⟩ := hF1; exact ne_of_none h hA), hF1.same e2, ok, hs1, hs2, Same.roles, rfl, fun gA H2 ρ2 N => ⟨rfl, ?_⟩⟩
  have hA0 : H A = none := by
    cases e : H A with
    | none => rfl
    | some o => rw [s1 _ _ e] at hA; cases hA
  have W2 := N.box hs1
  have F2 : FrmL l (fun _ => none) H ρ2 H2 := FrmL.of (N.frm (s1.trans e2) hA0) hp
  have p2 : PoolAt H2 l := hp.frm (N.frm (s1.trans e2) hA0) rfl
  have kt : ∀ {ρ' : Rls} {H' : Hp}, FrmL l (fun _ => none) H ρ' H' → KeepTup H H' := fun F => F.kt Same.roles hp
  have shA2 : (boxW ρ2 sch.length s rs.length A gA).sh A = some ⟨true, 0, rs.length, gA⟩ := by show setA (fun _ => none) A _ A = _; rw [setA_same]
  have few2 : ∀ b k, (boxW ρ2 sch.length s rs.length A gA).bl b = some k → k.hs.length < 2 := fun b k h => by
    obtain ⟨c, j, _, _, _, rfl⟩ := boxW_bl h
    exact Nat.lt_succ_self 1
  have oth2 : ∀ x, x ≠ A → (boxW ρ2 sch.length s rs.length A gA).sh x = none := fun x h => box_sh h
  generalize boxW ρ2 sch.length s rs.length A gA = w2 at *
  obtain ⟨_, dxA, _, _, hAo, _⟩ := W2.sh A _ shA2
  have ht0 : ∃ xs, xs.length = sch.length ∧ H t = some (.tup xs) := by
    obtain ⟨ps, h1, h2, _⟩ := hs
    exact ⟨ps.map V.ref, by rw [List.length_map]; exact h2, h1⟩
  obtain ⟨xt, hxl, hxt⟩ := ht0
  refine ⟨_, rfl, a, _, rfl, .inr (SqT.of (kt F2 _ _ ha)), _, rfl, t, _, rfl, .inr (SqT.of (kt F2 _ _ hxt)), _, rfl, rs.length, sch.length, s, ?_, hs1, hs2, by omega, _, _, rfl, ?_⟩
  · rw [List.length_map, hxl]; rfl
  -- two twins
  refine ⟨_, rfl, A, dxA, _, rfl, hAo, sf_meth _ (by decide), A, ρ2, w2, _, rfl, W2, shA2, rfl, hs.kt (kt F2), ok, hs1, hs2, hn2, (fun b k h => Nat.lt_trans (few2 b k h) (by decide)), fun B gB ρ3 H3 hB W3 F3 => ?_⟩
  have hAB : A ≠ B := fun z => by rw [z, hB] at shA2; cases shA2
  have W3 : WAt K t sch.length s H3 ρ3 (w2.twin sch.length s B gB ⟨true, 0, rs.length, gA⟩) := W3
  have shA3 : (w2.twin sch.length s B gB ⟨true, 0, rs.length, gA⟩).sh A = some ⟨true, 0, rs.length, gA⟩ := by rw [twin_old hAB]; exact shA2
  have shB3 : (w2.twin sch.length s B gB ⟨true, 0, rs.length, gA⟩).sh B = some ⟨true, 0, rs.length, gA⟩ := twin_new
  have few3 := twin_few (wide := sch.length) (s := s) (x := B) (g := gB) (q := ⟨true, 0, rs.length, gA⟩) few2
  have oth3 : ∀ x, x ≠ A → x ≠ B → (w2.twin sch.length s B gB ⟨true, 0, rs.length, gA⟩).sh x = none := fun x h1 h2 => by rw [twin_old h2]; exact oth2 x h1
  have FL3 := F2.trans (FrmL.of F3 p2)
  have p3 : PoolAt H3 l := p2.frm F3 (F2.nl rfl)
  generalize w2.twin sch.length s B gB ⟨true, 0, rs.length, gA⟩ = w3 at *
  obtain ⟨_, dxA3, _, _, hAo3, _⟩ := W3.sh A _ shA3
  refine ⟨_, rfl, A, dxA3, _, rfl, hAo3, sf_meth _ (by decide), A, ρ3, w3, _, rfl, W3, shA3, rfl, hs.kt (kt FL3), ok, hs1, hs2, hn2, (fun b k h => Nat.lt_trans (few3 b k h) (by decide)), fun C gC ρ4 H4 hC W4 F4 => ⟨_, _, rfl, ?_⟩⟩
  have hAC : A ≠ C := fun z => by rw [z, hC] at shA3; cases shA3
  have hBC : B ≠ C := fun z => by rw [z, hC] at shB3; cases shB3
  have W4 : WAt K t sch.length s H4 ρ4 (w3.twin sch.length s C gC ⟨true, 0, rs.length, gA⟩) := W4
  have shA4 : (w3.twin sch.length s C gC ⟨true, 0, rs.length, gA⟩).sh A = some ⟨true, 0, rs.length, gA⟩ := by rw [twin_old hAC]; exact shA3
  have shB4 : (w3.twin sch.length s C gC ⟨true, 0, rs.length, gA⟩).sh B = some ⟨true, 0, rs.length, gA⟩ := by rw [twin_old hBC]; exact shB3
  have shC4 : (w3.twin sch.length s C gC ⟨true, 0, rs.length, gA⟩).sh C = some ⟨true, 0, rs.length, gA⟩ := twin_new
  have few4 := twin_few (wide := sch.length) (s := s) (x := C) (g := gC) (q := ⟨true, 0, rs.length, gA⟩) few3
  have oth4 : ∀ x, x ≠ A → x ≠ B → x ≠ C → (w3.twin sch.length s C gC ⟨true, 0, rs.length, gA⟩).sh x = none := fun x h1 h2 h3 => by rw [twin_old h3]; exact oth3 x h1 h2
  have FL4 := FL3.trans (FrmL.of F4 p3)
  have p4 : PoolAt H4 l := p3.frm F4 (FL3.nl rfl)
  generalize w3.twin sch.length s C gC ⟨true, 0, rs.length, gA⟩ = w4 at *
  -- the third is written to
  obtain ⟨_, dxC4, _, _, hCo4, _⟩ := W4.sh C _ shC4
  have hs4 := hs.kt (kt FL4)
  obtain ⟨cs, hc1, hc2, hc3⟩ := id hs4
  obtain ⟨c0, hc0⟩ : ∃ c, cs[0]? = some c := ⟨cs[0]'(by omega), List.getElem?_eq_getElem (by omega)⟩
  obtain ⟨nk, hnk⟩ : ∃ nk, sch[0]? = some nk := ⟨sch[0]'(by omega), List.getElem?_eq_getElem (by omega)⟩
  have hcx : (cs.map V.ref)[0]? = some (.ref c0) := by rw [List.getElem?_map, hc0]; rfl
  refine ⟨_, rfl, C, dxC4, _, rfl, hCo4, sf_meth _ (by decide), _, rfl, t, _, _, _, rfl, rfl, SqT.of hc1, at_of (j := 0) (v := .ref c0) rfl hcx, c0, _, _, .str nk.1, rfl, rfl, SqT.of (hc3 _ _ _ hc0 hnk), rfl, ?_⟩
  refine ⟨C, ρ4, w4, _, 0, 0, nk, .non, rfl, W4, shC4, rfl, hn1, hs4, ok, hnk, .inl rfl, hs1, hs2, fun w5 b5 ρ5 H5 OWN W5 F5 => ?_⟩
  rw [Nat.zero_div] at OWN
  have h0n : 0 < nbOf s rs.length := by have := lt_nb (s := s) (n := rs.length) (i := 0) (by omega) hn1; rw [Nat.zero_div] at this; exact this
  have FL5 := FL4.trans (FrmL.of F5 p4)
  have p5 : PoolAt H5 l := p4.frm F5 (FL4.nl rfl)
  have few5 := own_few OWN (by decide) few4
  obtain ⟨gC5, shC5, shA5, shB5, oth5⟩ : ∃ gC5, w5.sh C = some ⟨true, 1, rs.length, gC5⟩ ∧ w5.sh A = some ⟨true, 0, rs.length, gA⟩ ∧ w5.sh B = some ⟨true, 0, rs.length, gA⟩ ∧ ∀ x, x ≠ A → x ≠ B → x ≠ C → w5.sh x = none := by
    obtain ⟨q, k, e1, e2, h⟩ := OWN
    rw [shC4] at e1
    cases e1
    obtain ⟨hsA, v1, v2⟩ := W4.ok.gr A _ shA4 0 0 (by omega) h0n
    obtain ⟨hsC, u1, u2⟩ := W4.ok.gr C _ shC4 0 0 (by omega) h0n
    have v1' : w4.bl (gA 0 0) = _ := v1
    have u1' : w4.bl (gA 0 0) = _ := u1
    have e2' : w4.bl (gA 0 0) = some k := e2
    rw [v1'] at e2'
    cases e2'
    rw [v1'] at u1'
    cases u1'
    have hgt : 1 < w4.cnt hsA := cnt_two hAC v2 u2 (by rw [open_of shA4]) (by rw [open_of shC4])
    rcases h with ⟨h1, _⟩ | ⟨_, hn, rfl⟩
    · have h1' : w4.cnt hsA ≤ 1 := h1
      omega
    · refine ⟨_, setA_same, ?_, ?_, fun x h1 h2 h3 => ?_⟩
      · show setA w4.sh C _ A = _; rw [setA_ne hAC]; exact shA4
      · show setA w4.sh C _ B = _; rw [setA_ne hBC]; exact shB4
      · show setA w4.sh C _ x = _; rw [setA_ne h3]; exact oth4 x h1 h2 h3
  -- the two are closed
  obtain ⟨_, dxB5, _, _, hBo5, _⟩ := W5.sh B _ shB5
  refine ⟨_, rfl, B, dxB5, _, rfl, hBo5, sf_meth _ (by decide), B, ρ5, w5, _, rfl, W5, shB5, rfl, fun H6 W6 F6 => ?_⟩
  have shC6 : (w5.shut B ⟨true, 0, rs.length, gA⟩).sh C = some ⟨true, 1, rs.length, gC5⟩ := by show setA w5.sh B _ C = _; rw [setA_ne (Ne.symm hBC)]; exact shC5
  have FL6 := FL5.trans (FrmL.of F6 p5)
  have p6 : PoolAt H6 l := p5.frm F6 (FL5.nl rfl)
  obtain ⟨_, dxC6, _, _, hCo6, _⟩ := W6.sh C _ shC6
  refine ⟨_, rfl, C, dxC6, _, rfl, hCo6, sf_meth _ (by decide), C, ρ5, _, _, rfl, W6, shC6, rfl, fun H7 W7 F7 => ?_⟩
  have FL7 := FL6.trans (FrmL.of F7 p6)
  have p7 : PoolAt H7 l := p6.frm F7 (FL6.nl rfl)
  have shA7 : ((w5.shut B ⟨true, 0, rs.length, gA⟩).shut C ⟨true, 1, rs.length, gC5⟩).sh A = some ⟨true, 0, rs.length, gA⟩ := by
    show setA (setA w5.sh B _) C _ A = _
    rw [setA_ne hAC, setA_ne hAB]; exact shA5
  have shC7 : ((w5.shut B ⟨true, 0, rs.length, gA⟩).shut C ⟨true, 1, rs.length, gC5⟩).sh C = some ⟨false, 1, rs.length, gC5⟩ := by
    show setA (setA w5.sh B _) C _ C = _
    rw [setA_same]
  have al7 : ∀ x, ((w5.shut B ⟨true, 0, rs.length, gA⟩).shut C ⟨true, 1, rs.length, gC5⟩).isOpen x = true → x = A := fun x o => by
    obtain ⟨q, e, eo⟩ := isOpen_iff o
    have e' : setA (setA w5.sh B ⟨false, 0, rs.length, gA⟩) C ⟨false, 1, rs.length, gC5⟩ x = some q := e
    by_cases hxC : x = C
    · rw [hxC, setA_same] at e'
      cases e'
      cases eo
    · rw [setA_ne hxC] at e'
      by_cases hxB : x = B
      · rw [hxB, setA_same] at e'
        cases e'
        cases eo
      · rw [setA_ne hxB] at e'
        by_cases hxA : x = A
        · exact hxA
        · rw [oth5 x hxA hxB hxC] at e'
          cases e'
  have few7 : ∀ b k, ((w5.shut B ⟨true, 0, rs.length, gA⟩).shut C ⟨true, 1, rs.length, gC5⟩).bl b = some k → k.hs.length < 4 := few5
  generalize (w5.shut B ⟨true, 0, rs.length, gA⟩).shut C ⟨true, 1, rs.length, gC5⟩ = w7 at *
  -- writes to the box
  refine ⟨_, rfl, a, _, rfl, .inr (SqT.of (kt FL7 _ _ ha)), _, rfl, by omega, by rw [List.length_map]; omega, ?_⟩
  have hnl : (((rs.map V.ref).length : Nat) : Int).toNat = rs.length := by rw [List.length_map]; omega
  rw [hnl]
  refine for_it walk_range (fun i σ H9 => (∃ v8 v9 : Option V, σ = [some (.ref l), some (.ref t), some (.ref a), some (.int (s : Nat)), some (.ref A), some (.int ((sch.length * nbOf s rs.length : Nat) : Int)), some (.ref B), some (.ref C), v8, v9]) ∧
      ∃ ρ9 : Rls, WAt K t sch.length s H9 ρ9 w7 ∧ FrmL l (fun _ => none) H ρ9 H9 ∧ PoolAt H9 l)
    ⟨⟨none, none, rfl⟩, ρ5, W7, FL7, p7⟩ (fun _ _ _ _ _ => trivial) ?_ ?_
  · rintro i x σ H9 H10 hi ⟨⟨v8, v9, rfl⟩, ρ9, W9, FL9, p9⟩ ⟨rfl, rfl⟩
    refine ⟨_, rfl, _, rfl, _, rfl, ?_⟩
    refine row_lc (i := i) (kt FL9 _ _ hxt) hxl hw fun D as H11 s11 hD hD11 ta => ?_
    have r9 := FL9.nl rfl
    refine ⟨l, A, D, as, _, ρ9, w7, _, rfl, W9.same s11, r9, p9.same s11, shA7, rfl, hD11, p9.ne hD, W9.dom.no_new hD, ta, fun y hy => ?_, (hs.kt (kt FL9)).same s11, ok, hs1, hs2, fun w12 ρ12 H12 pu W12 p12 F12 => ?_⟩
    · obtain ⟨c, hc, rfl⟩ := List.mem_map.mp hy
      exact ⟨hi, List.mem_range.mp hc⟩
    have := puts_alone pu W9.ok al7
    subst this
    exact ⟨⟨_, _, rfl⟩, ρ12, W12, (FL9.trans (FrmL.of (Frm.same s11) p9)).trans F12, p12⟩
  rintro σ H9 ⟨⟨v8, v9, rfl⟩, ρ9, W9, FL9, p9⟩
  -- the counts
  obtain ⟨_, dxA9, _, _, hAo9, _⟩ := W9.sh A _ shA7
  obtain ⟨_, dxC9, _, _, hCo9, _⟩ := W9.sh C _ shC7
  refine ⟨_, rfl, A, dxA9, _, rfl, hAo9, A, ρ9, w7, _, rfl, W9, shA7, rfl, _, rfl, iteF' (by show (!decide (V.int 0 = V.int 0)) = false; decide) ?_⟩
  refine ⟨_, rfl, C, dxC9, _, rfl, hCo9, C, ρ9, w7, _, rfl, W9, shC7, rfl, _, rfl, iteF' (by show (!decide (V.int 1 = V.int 1)) = false; decide) ?_⟩
  -- a new twin of the box
  refine ⟨_, rfl, A, dxA9, _, rfl, hAo9, sf_meth _ (by decide), A, ρ9, w7, _, rfl, W9, shA7, rfl, hs.kt (kt FL9), ok, hs1, hs2, hn2, (fun b k h => Nat.lt_trans (few7 b k h) (by decide)), fun D gD ρ10 H10 hD W10 F10 => ?_⟩
  have W10 : WAt K t sch.length s H10 ρ10 (w7.twin sch.length s D gD ⟨true, 0, rs.length, gA⟩) := W10
  have S10 : St2 sch.length s rs.length (w7.twin sch.length s D gD ⟨true, 0, rs.length, gA⟩) A D [] [] := St2.twin (n := rs.length) W10.ok W9.ok shA7 al7 hD
  have FL10 := FL9.trans (FrmL.of F10 p9)
  have p10 : PoolAt H10 l := p9.frm F10 (FL9.nl rfl)
  generalize w7.twin sch.length s D gD ⟨true, 0, rs.length, gA⟩ = w10 at *
  refine ⟨_, rfl, a, _, rfl, .inr (SqT.of (kt FL10 _ _ ha)), _, rfl, by omega, by rw [List.length_map]; omega, ?_⟩
  rw [hnl]
  refine for_it walk_range (fun i σ H11 => (∃ v8 v9 : Option V, σ = [some (.ref l), some (.ref t), some (.ref a), some (.int (s : Nat)), some (.ref A), some (.int ((sch.length * nbOf s rs.length : Nat) : Int)), some (.ref D), some (.ref C), v8, v9]) ∧
      ∃ (ρ11 : Rls) (w11 : Wd) (CD : List (Nat × Nat)), WAt K t sch.length s H11 ρ11 w11 ∧ FrmL l (fun _ => none) H ρ11 H11 ∧ PoolAt H11 l ∧ St2 sch.length s rs.length w11 A D [] CD ∧ ∀ i' c, i' < i → c < sch.length → (i' / s, c) ∈ CD)
    ⟨⟨_, _, rfl⟩, ρ10, w10, [], W10, FL10, p10, S10, fun i' c h _ => absurd h (Nat.not_lt_zero i')⟩ (fun _ _ _ _ _ => trivial) ?_ ?_
  · rintro i x σ H11 H12 hi ⟨⟨v8, v9, rfl⟩, ρ11, w11, CD, W11, FL11, p11, S11, hall⟩ ⟨rfl, rfl⟩
    refine ⟨_, rfl, _, rfl, _, rfl, ?_⟩
    refine row_lc (i := i) (kt FL11 _ _ hxt) hxl hw fun G as H13 s13 hG hG13 ta => ?_
    have r11 := FL11.nl rfl
    obtain ⟨g11, sD11⟩ := S11.shB
    refine ⟨l, D, G, as, _, ρ11, w11, _, rfl, W11.same s13, r11, p11.same s13, sD11, rfl, hG13, p11.ne hG, W11.dom.no_new hG, ta, fun y hy => ?_, (hs.kt (kt FL11)).same s13, ok, hs1, hs2, fun w14 ρ14 H14 pu W14 p14 F14 => ?_⟩
    · obtain ⟨c, hc, rfl⟩ := List.mem_map.mp hy
      exact ⟨hi, List.mem_range.mp hc⟩
    rw [blk_row] at pu
    have S14 := St2.puts pu S11 fun y hy => by
      obtain ⟨c, hc, rfl⟩ := List.mem_map.mp hy
      exact ⟨lt_nb (by omega) hi, List.mem_range.mp hc⟩
    refine ⟨⟨_, _, rfl⟩, ρ14, w14, _, W14, (FL11.trans (FrmL.of (Frm.same s13) p11)).trans F14, p14, S14, fun i' c h1 h2 => ?_⟩
    rw [addAll_mem]
    by_cases hii : i' < i
    · exact .inl (hall i' c hii h2)
    · have : i' = i := by omega
      subst this
      exact .inr ⟨List.mem_map.mpr ⟨c, List.mem_range.mpr h2, rfl⟩, by simp⟩
  · rintro σ H11 ⟨⟨v8, v9, rfl⟩, ρ11, w11, CD, W11, FL11, p11, S11, hall⟩
    have hlen : CD.length = sch.length * nbOf s rs.length := by
      rw [← allP_len]
      have hnd : CD.Nodup := by have := S11.nd; rw [List.nil_append] at this; exact this
      refine same_len hnd (allP_nodup _ _) fun x => ⟨fun hx => allP_mem.mpr (S11.rng x (List.mem_append_right _ hx)), fun hx => ?_⟩
      obtain ⟨h1, h2⟩ := allP_mem.mp hx
      have := hall (x.1 * s) x.2 (of_lt_nb (by omega) h1) h2
      rw [Nat.mul_div_cancel _ (by omega)] at this
      exact this
    obtain ⟨gA11, sA11⟩ := S11.shA
    obtain ⟨gD11, sD11⟩ := S11.shB
    obtain ⟨_, dxA11, _, _, hAo11, _⟩ := W11.sh A _ sA11
    obtain ⟨_, dxD11, _, _, hDo11, _⟩ := W11.sh D _ sD11
    have e11 := (S11.shared sA11).2
    refine ⟨_, rfl, D, dxD11, _, rfl, hDo11, D, ρ11, w11, _, rfl, W11, sD11, ?_⟩
    refine ⟨_, rfl, A, dxA11, _, rfl, hAo11, sf_meth _ (by decide), _, rfl, A, D, ρ11, w11, _, _, rfl, W11, sA11, sD11, rfl, rfl, hw, hn2, hs1, fun H12 s12 => ?_⟩
    refine ⟨_, rfl, A, dxA11, _, rfl, s12 _ _ hAo11, A, ρ11, w11, _, rfl, W11.same s12, sA11, by simp only [List.length_cons, List.length_nil]; omega, fun y1 hy1 => ?_⟩
    refine ⟨_, rfl, by simp only [List.length_cons, List.length_nil]; omega, fun y2 hy2 => ?_⟩
    have hy12 : y1 ≠ y2 := ne_of_none upd_same hy2
    refine eqD_same (ns := [((sch.length * nbOf s rs.length : Nat) : Int), 0, 0]) ?_ upd_same ?_
    · rw [upd_ne hy12, upd_same, e11, hlen, List.length_nil, Nat.sub_zero, Nat.sub_self]
      rfl
    · have s13 := (s12.trans (Same.upd hy1)).trans (Same.upd (o := .lst [.int ((sch.length * nbOf s rs.length : Nat) : Int), .int 0, .int 0]) hy2)
      have FE := FL11.trans (FrmL.of (Frm.same s13) p11)
      exact qq _ (fun b o e n => (FE.fr b o e n rfl).1) (p11.same s13)
end
end K7
/-! The law. -/
namespace K7
open PySem PySem.Spec PyProof.Rows L2
section
variable {P : Program} {w0 : World} {K : PySem.W.Frag} {mg : Str → Option Value} {base : Heap}
def rTupOf (K : PySem.W.Frag) : List V → Hp → VK → Prop := fun xs H Q => ∃ p ys, xs = [.ref p] ∧ ((SqL K H p ys ∧ ∀ l, H l = none → Q (.ref l) (upd H l (.tup ys))) ∨ (SqT K H p ys ∧ Q (.ref p) H))
theorem call_tupK {X : Cx} : CallR X (.type "tuple") (rTupOf X.K) := call_tuple_of
def spRight : Sp := fun vs H Q _ => ∃ l : Addr, vs = [.ref l] ∧ PoolAt H l ∧ ∀ H', PSame l H H' → PoolAt H' l → Q (.bl true) H'
theorem RowsAt.psl {H H' : Hp} {a l : Addr} {sch : Sch} {rs : List Addr} (hR : RowsAt K H a sch rs) (ha : H a = some (.tup (rs.map V.ref))) (p : PoolAt H l) (e : PSame l H H') : RowsAt K H' a sch rs := by
  obtain ⟨h1, h2, h3⟩ := hR
  exact ⟨SqT.of (e _ _ ha (p.ne_tup ha)), h2, fun r hr => let ⟨vs, e1, e2⟩ := h3 r hr; ⟨vs, e _ _ e1 (p.ne_tup e1), e2⟩⟩
theorem ok_l_right (E : Hd K mg) : Cal P w0 K mg base 12 "_law_right" spRight := by
  refine cal_mk E.f_l_right c_l_right (fun _ _ _ _ _ _ us hl => match us, hl with | [_], _ => rfl) (fun vs H Q E ⟨l, e, _⟩ => by rw [e]; rfl) ?_
  intro f cdv Ar outer s0 H vs Q E' hr h
  obtain ⟨l, rfl, hp, qq⟩ := h
  have CD : Cal P w0 K mg base 1 "_law_draw" spDraw := ok_l_draw E
  have CC : Cal P w0 K mg base 2 "_law_calls" spCalls := ok_l_calls E
  have CH : Cal P w0 K mg base 2 "_law_heads" spHeads := ok_l_heads E
  have CZ : Cal P w0 K mg base 2 "_law_size" spSize := ok_l_size E
  have CW : Cal P w0 K mg base 2 "_law_worth" spWorth := ok_l_worth E
  have C2 : Cal P w0 K mg base 11 "_law_two_right" (spTwo K) := ok_l_two E
  have C3 : Cal P w0 K mg base 11 "_law_closed_right" (spTwo K) := ok_l_closed E
  have hsl := sizeLine_eq
  refine ⟨_, pss_cons (ps_for PassesOwn.never rfl (pi_range1 rfl E.b_range (pa_cons pe_int pa_nil)) (pg_name (i := 1) c_l_right.nd rfl (Or.inl rfl))
      (pss_cons (ps_set (i := 2) c_l_right.nd rfl (Or.inr rfl) (pe_f CH hr (pa_cons (pv 0) (pa_cons (pe_f CC hr (pa_cons (pv 0) (pa_cons (pe_op op_add pe_int (pe_f CD hr (pa_cons (pv 0) (pa_cons pe_int pa_nil)))) pa_nil))) pa_nil))))
      (pss_cons (ps_par (i := 3) (j := 4) rfl c_l_right.nd rfl rfl (by decide) rfl rfl (pa_cons (pe_f CZ hr (pa_cons (pv 0) pa_nil)) (pa_cons (pe_op op_add pe_int (pe_f CD hr (pa_cons (pv 0) (pa_cons pe_int pa_nil)))) pa_nil)) rfl)
      (pss_cons (ps_set (i := 5) c_l_right.nd rfl (Or.inl rfl) (pe_ty call_tupK E.b_tuple (pa_cons (pe_lc (own := [("_law_k", 8)]) (g := gName 8) (tt := tYes)
          (te := tCB (rTupOf K) (tCons (tLc (iTup K (tVar 2)) (gTup K 2 (gCons (gName 6) (gCons (gName 7) gNil))) tYes (tCall spWorth [] E0 (tCons (tVar 0) (tCons (tVar 7) tNil))) [6, 7]) tNil))
          rfl c_l_right.nd (pi_range1 rfl E.b_range (pa_cons (pv 4) pa_nil)) (blkOk_by (N := n_l_right) (sc := defScope s_l_right) (by decide +kernel))
          (fun _ _ _ _ _ => pg_name (i := 8) c_l_right.nd rfl (Or.inl rfl)) (fun _ _ _ _ _ => pts_nil)
          (fun _ _ _ _ _ => pe_ty call_tupK E.b_tuple (pa_cons (pe_lc (own := [("_law_call", 6), ("_law_kind_here", 7)]) (g := gTup K 2 (gCons (gName 6) (gCons (gName 7) gNil))) (tt := tYes) (te := tCall spWorth [] E0 (tCons (tVar 0) (tCons (tVar 7) tNil)))
            rfl c_l_right.nd (pi_tup (pv 2)) (blkOk_by (by kernel_rfl)) (fun _ _ _ _ _ => pg_tup rfl (pgs_cons (pg_name (i := 6) c_l_right.nd rfl (Or.inl rfl)) (pgs_cons (pg_name (i := 7) c_l_right.nd rfl (Or.inl rfl)) pgs_nil))) (fun _ _ _ _ _ => pts_nil)
            (fun _ _ _ _ _ => pe_f (j := 11) CW hr (pa_cons (pv 0) (pa_cons (pv 7) pa_nil)))) pa_nil))) pa_nil)))
      (pss_one (ps_if (PW.pt (pw_or (pt_not (pt_val (pe_f C2 hr (pa_cons (pv 0) (pa_cons (pv 2) (pa_cons (pv 5) (pa_cons (pv 3) pa_nil))))))) (pw_or1 (pt_not (pt_val (pe_f C3 hr (pa_cons (pv 0) (pa_cons (pv 2) (pa_cons (pv 5) (pa_cons (pv 3) pa_nil)))))))))) pss_never pss_nil))))))
    (pss_one (ps_ret pe_bl)), ?_⟩
  refine ⟨_, rfl, by decide, by decide, ?_⟩
  refine for_it (n := 4) walk_range (fun i σ H1 => (∃ v1 v2 v3 v4 v5 : Option V, σ = [some (.ref l), v1, v2, v3, v4, v5, none, none, none]) ∧ PSame l H H1 ∧ PoolAt H1 l)
    ⟨⟨none, none, none, none, none, rfl⟩, PSame.refl _ _, hp⟩ (fun _ _ _ _ _ => trivial) ?_ ?_
  · rintro i x σ H1 H2 hi ⟨⟨v1, v2, v3, v4, v5, rfl⟩, s1, p1⟩ ⟨rfl, rfl⟩
    -- heads
    refine ⟨_, rfl, _, rfl, _, rfl, l, 4, rfl, p1, by decide, by decide, fun r H3 hr3 p3 s3 => ⟨_, _, rfl, rfl, ?_⟩⟩
    have e1 : (1 : Int) + (r : Nat) = ((r + 1 : Nat) : Int) := by push_cast; omega
    refine ⟨l, r + 1, (by show ([V.ref l, V.int ((1 : Int) + (r : Nat))] : List V) = _; rw [e1]), p3, by omega, fun D zs H4 hz1 hz2 hz3 hD3 hD4 p4 s4 => ?_⟩
    refine ⟨l, D, zs, rfl, p4, p3.ne hD3, hD4, by omega, by omega, hz2, hz3, fun t sch H5 hs5 ok hsl5 p5 s5 => ?_⟩
    -- size, many
    refine ⟨_, rfl, l, rfl, p5, fun s H6 hs1 hs2 p6 s6 => ?_⟩
    refine ⟨_, rfl, l, 16, rfl, p6, by decide, by decide, fun r2 H7 hr7 p7 s7 => ⟨_, _, rfl, rfl, _, _, rfl, ?_⟩⟩
    have s57 := s6.trans s7
    have hs7 := hs5.ps p5 s57
    have s27 : PSame l H2 H7 := ((s3.trans s4).trans s5).trans s57
    obtain ⟨ps, ht7, hlen, hps⟩ := id hs7
    -- lines
    refine ⟨_, rfl, _, rfl, by omega, by omega, fun G hG => ?_⟩
    have e2 : ((1 : Int) + (r2 : Nat)).toNat = r2 + 1 := by omega
    rw [e2]
    have hGl : G ≠ l := p7.ne hG
    refine lc_it walk_range (fun j H8 => PSame l H7 H8 ∧ PoolAt H8 l ∧ ∃ rs : List Addr, rs.length = j ∧ H8 G = some (.lst (rs.map V.ref)) ∧ ∀ r ∈ rs, ∃ vs, H8 r = some (.tup vs) ∧ RowOk sch vs)
      ⟨PSame.of (Same.upd hG), p7.same (Same.upd hG), [], rfl, upd_same, fun r hr => by cases hr⟩ (fun _ _ _ _ => trivial) ?_ ?_
    · rintro j x H8 H9 hj ⟨s8, p8, rs, hrl, hG8, hrs⟩ ⟨rfl, rfl⟩
      have ht9 : H9 t = some (.tup (ps.map V.ref)) := s8 _ _ ht7 (p7.ne_tup ht7)
      refine ⟨rfl, yesT ⟨_, rfl, t, rfl, ⟨_, SqT.of ht9⟩, fun F hF => ?_⟩⟩
      have hFl : F ≠ l := p8.ne hF
      refine lc_it (walk_tup (K := K) (a := t) (xs := ps.map V.ref)) (fun k H10 => PSame l H9 H10 ∧ PoolAt H10 l ∧ ∃ vs : List V, H10 F = some (.lst vs) ∧ vs.length = k ∧ ∀ (m : Nat) (v : V) (q : Str × Str), vs[m]? = some v → sch[m]? = some q → ValOk q.2 v)
        ⟨PSame.of (Same.upd hF), p8.same (Same.upd hF), [], upd_same, rfl, fun m v q h => by simp at h⟩ (fun k H10 _ ⟨s10, _⟩ => SqT.of (s10 _ _ ht9 (p8.ne_tup ht9))) ?_ ?_
      · rintro k y H10 H11 hk ⟨s10, p10, vs, hF10, hvl, hvs⟩ ⟨rfl, hy⟩
        rw [List.length_map] at hk
        have hk2 : k < sch.length := by omega
        obtain ⟨c, hc⟩ : ∃ c, ps[k]? = some c := ⟨ps[k], List.getElem?_eq_getElem hk⟩
        obtain ⟨nk, hnk⟩ : ∃ nk, sch[k]? = some nk := ⟨sch[k], List.getElem?_eq_getElem hk2⟩
        rw [List.getElem?_map, hc] at hy
        cases hy
        have hc7 := hps _ _ _ hc hnk
        have hc11 := s10 _ _ (s8 _ _ hc7 (p7.ne_tup hc7)) (p8.ne_tup (s8 _ _ hc7 (p7.ne_tup hc7)))
        refine ⟨c, _, rfl, SqT.of hc11, rfl, _, _, rfl, _, _, rfl, rfl, rfl, yesT ⟨_, rfl, _, rfl, l, nk.2, rfl, p10, ok.kd nk (List.mem_of_getElem? hnk), fun v H12 hv p12 s12 => ?_⟩⟩
        have hF12 := s12 _ _ hF10 hFl
        refine ⟨_, hF12, ?_, fun b o e n => ?_, ?_, vs ++ [v], upd_same, by rw [List.length_append, hvl]; rfl, fun m u q hm hq => ?_⟩
        · have := ok.few; omega
        · rw [upd_ne (ne_of_none e hF)]
          exact (s10.trans s12) b o e n
        · obtain ⟨z1, z2, z3, e⟩ := p12
          exact ⟨z1, z2, z3, by rw [upd_ne (Ne.symm hFl)]; exact e⟩
        · by_cases hmv : m < vs.length
          · rw [List.getElem?_append_left hmv] at hm
            exact hvs m u q hm hq
          · rw [List.getElem?_append_right (by omega)] at hm
            have hm0 : m - vs.length = 0 := by
              by_cases h0 : m - vs.length = 0
              · exact h0
              · rw [List.getElem?_eq_none (by simp only [List.length_cons, List.length_nil]; omega)] at hm; cases hm
            have hmk : m = k := by omega
            subst hmk
            rw [hm0] at hm
            cases hm
            rw [hnk] at hq
            cases hq
            exact hv
      · rintro H10 ⟨s10, p10, vs, hF10, hvl, hvs⟩
        rw [List.length_map, hlen] at hvl
        refine ⟨F, vs, rfl, .inl ⟨SqL.of hF10, fun T hT => ?_⟩⟩
        have sT : Same H10 (upd H10 T (.tup vs)) := Same.upd hT
        have hG10 := s10 _ _ hG8 hGl
        refine ⟨_, sT _ _ hG10, by rw [List.length_map, hrl]; have : j < r2 + 1 := hj; omega, fun b o e n => ?_, ?_, rs ++ [T], by rw [List.length_append, hrl]; rfl, by rw [upd_same, List.map_append]; rfl, fun r hr => ?_⟩
        · rw [upd_ne (ne_of_none e hG)]
          exact sT _ _ ((s8.trans s10) b o e n)
        · obtain ⟨z1, z2, z3, e⟩ := p10.same sT
          exact ⟨z1, z2, z3, by rw [upd_ne (Ne.symm hGl)]; exact e⟩
        · have hG11 := sT _ _ hG10
          rcases List.mem_append.mp hr with h | h
          · obtain ⟨us, e1, e2⟩ := hrs r h
            have e3 := sT _ _ (s10 _ _ e1 (p8.ne_tup e1))
            exact ⟨us, kt_upd hG11 _ _ e3, e2⟩
          · rw [List.mem_singleton.mp h]
            exact ⟨vs, kt_upd hG11 _ _ upd_same, hvl, hvs⟩
    rintro H8 ⟨s8, p8, rs, hrl, hG8, hrs⟩
    refine ⟨G, _, rfl, .inl ⟨SqL.of hG8, fun a ha => ?_⟩⟩
    have sa : Same H8 (upd H8 a (.tup (rs.map V.ref))) := Same.upd ha
    have hs9 := (hs7.ps p7 s8).same sa
    have hR9 : RowsAt K (upd H8 a (.tup (rs.map V.ref))) a sch rs := ⟨SqT.of upd_same, by omega, fun r hr => let ⟨vs, e1, e2⟩ := hrs r hr; ⟨vs, sa _ _ e1, e2⟩⟩
    have s29 := (s27.trans s8).trans (PSame.of (l := l) sa)
    refine ⟨_, rfl, _, rfl, _, rfl, _, rfl, l, t, a, sch, rs, s, rfl, p8.same sa, hs9, ok, upd_same, hR9, by omega, hs1, hs2, fun H10 s10 p10 => ⟨true, rfl, iteF ?_⟩⟩
    refine ⟨_, rfl, _, rfl, _, rfl, _, rfl, l, t, a, sch, rs, s, rfl, p10, hs9.ps (p8.same sa) s10, ok, s10 _ _ upd_same ((p8.same sa).ne_tup upd_same), hR9.psl upd_same (p8.same sa) s10, by omega, hs1, hs2, fun H11 s11 p11 => ⟨true, rfl, iteF ?_⟩⟩
    exact ⟨⟨_, _, _, _, _, rfl⟩, ((s1.trans s29).trans s10).trans s11, p11⟩
  · rintro σ H1 ⟨⟨v1, v2, v3, v4, v5, rfl⟩, s1, p1⟩
    exact qq H1 s1 p1
/-! law -/
def spLaw (K : PySem.W.Frag) : Sp := fun vs H Q _ => ∃ (a : Addr) (ns : List Int), vs = [.ref a] ∧ SqL K H a (ns.map V.int) ∧ ns.length < 2 ^ 40 ∧ ∀ H', Q (.bl true) H'
theorem law_body (E : Hd K mg) : Body P w0 K mg base 13 "law" s_law n_law (spLaw K) := by
  intro f cdv Ar outer s0 H vs Q E' hr h
  obtain ⟨a, ns, rfl, ha, hfew, qq⟩ := h
  have CC : Cal P w0 K mg base 1 "_law_cell" (spLCell K) := ok_l_cell E
  have CP : Cal P w0 K mg base 1 "_law_pool" spLPool := ok_l_pool E
  have CR : Cal P w0 K mg base 12 "_law_right" spRight := ok_l_right E
  have hsl := sizeLine_eq
  refine ⟨_, pss_one (ps_ret (pe_b (cr_all rfl) E.b_all (pa_cons (pe_lc (own := [("_law_k", 1)]) (g := gName 1) (tt := tYes)
    (te := tCall spRight [] E0 (tCons (tCall spLPool [] E0 (tCons (tCall (spLCell K) [] E0 (tCons (tVar 0) (tCons (tVar 1) tNil))) tNil)) tNil))
    rfl c_law.nd (pi_range1 rfl E.b_range (pa_cons (pe_b (call_max2 rfl) E.b_max (pa_cons pe_int (pa_cons (pe_b (call_min2 rfl) E.b_min (pa_cons (pe_b call_len_seq E.b_len (pa_cons (pv 0) pa_nil)) (pa_cons pe_int pa_nil))) pa_nil))) pa_nil))
    (blkOk_by (N := n_law) (sc := defScope s_law) (by decide +kernel)) (fun _ _ _ _ _ => pg_name (i := 1) c_law.nd rfl (Or.inl rfl)) (fun _ _ _ _ _ => pts_nil)
    (fun _ _ _ _ _ => pe_f (j := 13) CR hr (pa_cons (pe_f (j := 13) CP hr (pa_cons (pe_f (j := 13) CC hr (pa_cons (pv 0) (pa_cons (pv 1) pa_nil))) pa_nil)) pa_nil))) pa_nil))), ?_⟩
  refine ⟨_, rfl, a, _, rfl, .inl ha, _, _, rfl, _, _, rfl, _, rfl, ?_, ?_, ?_⟩
  · split <;> split <;> omega
  · split <;> split <;> omega
  generalize hN : (if (if (5 : Int) < (((ns.map V.int).length : Nat) : Int) then (5 : Int) else (((ns.map V.int).length : Nat) : Int)) > 2 then (if (5 : Int) < (((ns.map V.int).length : Nat) : Int) then (5 : Int) else (((ns.map V.int).length : Nat) : Int)) else 2) = N
  have hN5 : N.toNat ≤ 5 := by
    rw [← hN]
    split <;> split <;> omega
  intro D hD
  refine lc_it walk_range (fun i H1 => Same H H1 ∧ H1 D = some (.lst ((List.replicate i true).map V.bl))) ⟨Same.upd hD, upd_same⟩ (fun _ _ _ _ => trivial) ?_ ?_
  · rintro i x H1 H2 hi ⟨s1, h1⟩ ⟨rfl, rfl⟩
    refine ⟨rfl, yesT ⟨_, rfl, _, rfl, a, ns, i, (by show ([V.ref a, V.int ((0 : Int) + (i : Nat))] : List V) = _; rw [Int.zero_add]), SqL.same ha s1, by omega, fun r H3 s3 => ⟨r, rfl, fun l H4 s4 hl3 p4 => ?_⟩⟩⟩
    refine ⟨l, rfl, p4, fun H5 s5 p5 => ?_⟩
    have hlD : ∀ {b : Addr} {o : HO}, H2 b = some o → b ≠ l := fun e => ne_of_none (s3 _ _ e) hl3
    have s25 : Same H2 H5 := fun b o e => s5 _ _ (s4 _ _ (s3 _ _ e)) (hlD e)
    have h5 := s25 _ _ h1
    refine ⟨_, h5, by rw [List.length_map, List.length_replicate]; omega, same_new hD (s1.trans s25) _, ?_⟩
    rw [upd_same]
    exact congrArg (fun z => some (HO.lst z)) (rep_app i)
  · rintro H1 ⟨s1, h1⟩
    refine ⟨D, _, rfl, SqL.of h1, ?_⟩
    rw [all_true]
    exact qq H1
end
end K7
set_option maxHeartbeats 0
/-! The head: what the top has left. -/
namespace K7
open PySem PySem.Spec PyProof.Rows L2
/-- the getter of a property -/
def gAd (C f : Str) (K : PySem.W.Frag) : Addr := match PySem.W.recIn K (He.ma K (He.ga K C) f) "property" with
  | some (.ref g :: _) => g
  | _ => 0
/-- one def: where it stands, its name, its qualified name, its statement, its defaults -/
structure Df where
  adr : PySem.W.Frag → Addr
  name : Str
  qual : Str
  st : Stmt
  dfl : List He.Dv
  kwd : List (Str × He.Dv)
def Df.dvs (K : PySem.W.Frag) (d : Df) : List V := d.dfl.map (He.Dv.v K)
def Df.kws (K : PySem.W.Frag) (d : Df) : List (Str × V) := d.kwd.map fun q => (q.1, q.2.v K)
def Df.see (K : PySem.W.Frag) (d : Df) : He.FnW := match K.lookup (d.adr K) with
  | some ⟨_, _, .func fd, _⟩ => some (fd.name, fd.qualname, fd.params, fd.body, fd.scope, fd.globals, fd.closure, fd.builtins)
  | _ => none
def Df.val (d : Df) : He.FnW := some (d.name, d.qual, defArgs d.st, .stmts (defBody d.st), defScope d.st, mainGlobals, [], builtinsNs)
def Df.ok (K : PySem.W.Frag) (d : Df) : Bool := match K.lookup (d.adr K) with
  | some ⟨_, _, .func fd, _⟩ => PySem.W.keepIn K (.ref (d.adr K)) && (PySem.W.codeIn K fd.code d.qual && (He.dflB K fd.defaults (d.dvs K) && He.kwdB K fd.kwdefaults (d.kws K)))
  | _ => false
abbrev Df.Fn (K : PySem.W.Frag) (d : Df) (fd : FuncData) : Prop := FunD K d.name d.qual (defArgs d.st) (defBody d.st) (defScope d.st) (d.dvs K) (d.kws K) (d.adr K) fd
theorem Df.fn_of {K : PySem.W.Frag} {d : Df} (e : d.see K = d.val) (c : d.ok K = true) : ∃ fd, d.Fn K fd := by
  unfold Df.see at e
  unfold Df.ok at c
  cases q : K.lookup (d.adr K) with
  | none => rw [q] at c; cases c
  | some o =>
    obtain ⟨oc, od, dt, sl⟩ := o
    rw [q] at c e
    cases dt with
    | func fd =>
      obtain ⟨n1, n2, n3, n4, n5, n6, n7, n8, n9, n10, n11, n12, n13, n14, n15⟩ := fd
      dsimp only at c e
      unfold Df.val at e
      simp only [Option.some.injEq, Prod.mk.injEq] at e
      obtain ⟨h1, h2, h3, h4, h5, h6, h7, h8⟩ := e
      subst h1 h2 h3 h4 h5 h6 h7 h8
      obtain ⟨kp, c2⟩ := He.ba c
      obtain ⟨k1, c3⟩ := He.ba c2
      obtain ⟨k2, k3⟩ := He.ba c3
      exact ⟨_, ⟨oc, od, n8, n9, n10, n11, n12, n13, n14, sl, rfl, q, k1, He.dflB_ok k2, He.kwdB_ok k3⟩, kp⟩
    | _ => cases c
/-! what else is looked at -/
def isSS (a : Option (Option Value)) (v : Value) : Bool := decide (a = some (some v))
theorem isSS_ok {a : Option (Option Value)} {v : Value} (h : isSS a v = true) : a = some (some v) := of_decide_eq_true h
def propB (C f : Str) (K : PySem.W.Frag) : Bool :=
  isSS (PySem.W.findIn K (.ref (He.ga K C)) f) (.ref (He.ma K (He.ga K C) f)) && (isSS (PySem.W.specialIn K (.ref (He.ma K (He.ga K C) f)) "__get__") (.builtin "property.__get__") &&
    (decide (PySem.W.takesIn K (.ref (He.ma K (He.ga K C) f)) = some true) && (match PySem.W.recIn K (He.ma K (He.ga K C) f) "property" with
      | some (.ref _ :: _) => true
      | _ => false)))
theorem propB_ok {C f : Str} {K : PySem.W.Frag} (h : propB C f K = true) : PropOf K (He.ga K C) f (He.ma K (He.ga K C) f) (gAd C f K) := by
  obtain ⟨h1, h⟩ := He.ba h
  obtain ⟨h2, h⟩ := He.ba h
  obtain ⟨h3, h4⟩ := He.ba h
  refine ⟨isSS_ok h1, isSS_ok h2, of_decide_eq_true h3, ?_⟩
  unfold gAd
  split at h4
  · rename_i g rest q
    rw [q]
    exact ⟨rest, rfl⟩
  · cases h4
def insB (C : Str) (K : PySem.W.Frag) : Bool :=
  isSS (PySem.W.findIn K (.ref (He.ga K C)) "__class__") (.builtin "object.__class__") && (isSS (PySem.W.specialIn K (.builtin "object.__class__") "__get__") (.builtin "getset_descriptor.__get__") &&
    (decide (PySem.W.takesIn K (.builtin "object.__class__") = some true) && (decide (PySem.W.mroIn K (He.ga K C) (.type "object") = some true) && decide (PySem.W.kitOne K (.ref (He.ga K C)) (.ref (He.ga K C)) = some true))))
theorem insB_ok {C : Str} {K : PySem.W.Frag} (c : Cls K (He.ga K C)) (h : insB C K = true) : C8.InsC K (He.ga K C) := by
  obtain ⟨h1, h⟩ := He.ba h
  obtain ⟨h2, h⟩ := He.ba h
  obtain ⟨h3, h⟩ := He.ba h
  obtain ⟨h4, h5⟩ := He.ba h
  exact ⟨c, isSS_ok h1, isSS_ok h2, of_decide_eq_true h3, of_decide_eq_true h4, of_decide_eq_true h5⟩
def mostB (K : PySem.W.Frag) : Bool := PySem.W.readsIn K (He.ga K "Sheet") (.type "type") && (isSS (PySem.W.specialIn K (.ref (He.ga K "Sheet")) "__getattribute__") (.builtin "type.__getattribute__") &&
  (match PySem.W.findCls K (.ref (He.ga K "Sheet")) (.type "type") "MOST_BLOCK" with
    | some (.val (.int j _)) => decide (j = 100)
    | _ => false))
theorem mostB_ok {K : PySem.W.Frag} (h : mostB K = true) : ClX.CRead K (He.ga K "Sheet") (.type "type") ∧ ∃ u, ClX.CVal K (He.ga K "Sheet") (.type "type") "MOST_BLOCK" (.int 100) u := by
  obtain ⟨h1, h⟩ := He.ba h
  obtain ⟨h2, h3⟩ := He.ba h
  refine ⟨⟨h1, isSS_ok h2⟩, ?_⟩
  split at h3
  · rename_i j t q
    have e : j = 100 := of_decide_eq_true h3
    subst e
    exact ⟨_, q, ⟨t, rfl⟩⟩
  · cases h3
/-- the empty tuple that is Frame's default -/
def nilB (K : PySem.W.Frag) : Bool := match K.lookup (He.dflAt ("Frame", some "__init__") 0 K) with
  | some ⟨.type c, _, .seq its _, _⟩ => decide (c = "tuple") && its.isEmpty
  | _ => false
theorem nilB_ok {K : PySem.W.Frag} (h : nilB K = true) (H : Hp) : SqT K H (He.dflAt ("Frame", some "__init__") 0 K) [] := by
  unfold nilB at h
  split at h
  · rename_i c d its n sl q
    obtain ⟨h1, h2⟩ := He.ba h
    have e : c = "tuple" := of_decide_eq_true h1
    subst e
    have e2 : its = #[] := Array.isEmpty_iff.mp h2
    subst e2
    exact .inr ⟨_, #[], n, q, rfl, rfl, Nat.zero_le _, .nil⟩
  · cases h
def lenB (K : PySem.W.Frag) : Bool := isSS (PySem.W.findIn K (.ref (He.ga K "Frame")) "__len__") (.ref (He.ma K (He.ga K "Frame") "__len__")) && PySem.W.isFn K (.ref (He.ma K (He.ga K "Frame") "__len__"))
def eqB (K : PySem.W.Frag) : Bool := isSS (PySem.W.findIn K (.ref (He.ga K "Sheet")) "__eq__") (.builtin "object.__eq__")
def ex (K : PySem.W.Frag) : Bool := propB "Frame" "schema" K && (propB "Frame" "names" K && (propB "Sheet" "copies" K && (insB "Frame" K && (insB "Sheet" K && (mostB K && (nilB K && (lenB K && (eqB K &&
  (He.tupB K "KINDS" [.str "int", .str "text", .str "bool"] && (He.Fa.glo "KINDS").ok K)))))))))

def d_is_integer : Df := ⟨fun K => He.ga K "is_integer", "is_integer", "is_integer", s_is_integer, [], []⟩
def d_is_name : Df := ⟨fun K => He.ga K "is_name", "is_name", "is_name", s_is_name, [], []⟩
def d_is_kind : Df := ⟨fun K => He.ga K "is_kind", "is_kind", "is_kind", s_is_kind, [], []⟩
def d_is_value : Df := ⟨fun K => He.ga K "is_value", "is_value", "is_value", s_is_value, [], []⟩
def d_is_column : Df := ⟨fun K => He.ga K "is_column", "is_column", "is_column", s_is_column, [], []⟩
def d_fault_in_schema : Df := ⟨fun K => He.ga K "fault_in_schema", "fault_in_schema", "fault_in_schema", s_fault_in_schema, [], []⟩
def d_check_schema : Df := ⟨fun K => He.ga K "check_schema", "check_schema", "check_schema", s_check_schema, [], []⟩
def d_fault_in_row : Df := ⟨fun K => He.ga K "fault_in_row", "fault_in_row", "fault_in_row", s_fault_in_row, [], []⟩
def d_is_row : Df := ⟨fun K => He.ga K "is_row", "is_row", "is_row", s_is_row, [], []⟩
def d_check_rows : Df := ⟨fun K => He.ga K "check_rows", "check_rows", "check_rows", s_check_rows, [], []⟩
def d_Frame_init : Df := ⟨fun K => He.ma K (He.ga K "Frame") "__init__", "__init__", "Frame.__init__", s_Frame_init, [.adr (He.dflAt ("Frame", some "__init__") 0)], []⟩
def d_Frame_schema : Df := ⟨gAd "Frame" "schema", "schema", "Frame.schema", s_Frame_schema, [], []⟩
def d_Frame_names : Df := ⟨gAd "Frame" "names", "names", "Frame.names", s_Frame_names, [], []⟩
def d_Frame_column : Df := ⟨fun K => He.ma K (He.ga K "Frame") "column", "column", "Frame.column", s_Frame_column, [], []⟩
def d_Frame_len : Df := ⟨fun K => He.ma K (He.ga K "Frame") "__len__", "__len__", "Frame.__len__", s_Frame_len, [], []⟩
def d_Block_init : Df := ⟨fun K => He.ma K (He.ga K "Block") "__init__", "__init__", "Block.__init__", s_Block_init, [], []⟩
def d_cut_blocks : Df := ⟨fun K => He.ga K "cut_blocks", "cut_blocks", "cut_blocks", s_cut_blocks, [], []⟩
def d_blank_frame : Df := ⟨fun K => He.ga K "blank_frame", "blank_frame", "blank_frame", s_blank_frame, [], []⟩
def d_Sheet_init : Df := ⟨fun K => He.ma K (He.ga K "Sheet") "__init__", "__init__", "Sheet.__init__", s_Sheet_init, [], [("block", .int 4)]⟩
def d_Sheet_copies : Df := ⟨gAd "Sheet" "copies", "copies", "Sheet.copies", s_Sheet_copies, [], []⟩
def d_Sheet_check_open : Df := ⟨fun K => He.ma K (He.ga K "Sheet") "check_open", "check_open", "Sheet.check_open", s_Sheet_check_open, [], []⟩
def d_Sheet_place_of : Df := ⟨fun K => He.ma K (He.ga K "Sheet") "place_of", "place_of", "Sheet.place_of", s_Sheet_place_of, [], []⟩
def d_Sheet_own_block : Df := ⟨fun K => He.ma K (He.ga K "Sheet") "own_block", "own_block", "Sheet.own_block", s_Sheet_own_block, [], []⟩
def d_Sheet_put : Df := ⟨fun K => He.ma K (He.ga K "Sheet") "put", "put", "Sheet.put", s_Sheet_put, [], []⟩
def d_Sheet_blank : Df := ⟨fun K => He.ma K (He.ga K "Sheet") "blank", "blank", "Sheet.blank", s_Sheet_blank, [], []⟩
def d_Sheet_hold : Df := ⟨fun K => He.ma K (He.ga K "Sheet") "hold", "hold", "Sheet.hold", s_Sheet_hold, [], []⟩
def d_Sheet_twin : Df := ⟨fun K => He.ma K (He.ga K "Sheet") "twin", "twin", "Sheet.twin", s_Sheet_twin, [], []⟩
def d_Sheet_close : Df := ⟨fun K => He.ma K (He.ga K "Sheet") "close", "close", "Sheet.close", s_Sheet_close, [], []⟩
def d_Sheet_shared : Df := ⟨fun K => He.ma K (He.ga K "Sheet") "shared", "shared", "Sheet.shared", s_Sheet_shared, [], []⟩
def d_l_cell : Df := ⟨fun K => He.ga K "_law_cell", "_law_cell", "_law_cell", s_l_cell, [], []⟩
def d_l_pool : Df := ⟨fun K => He.ga K "_law_pool", "_law_pool", "_law_pool", s_l_pool, [], []⟩
def d_l_draw : Df := ⟨fun K => He.ga K "_law_draw", "_law_draw", "_law_draw", s_l_draw, [], []⟩
def d_l_calls : Df := ⟨fun K => He.ga K "_law_calls", "_law_calls", "_law_calls", s_l_calls, [], []⟩
def d_l_worth : Df := ⟨fun K => He.ga K "_law_worth", "_law_worth", "_law_worth", s_l_worth, [], []⟩
def d_l_heads : Df := ⟨fun K => He.ga K "_law_heads", "_law_heads", "_law_heads", s_l_heads, [], []⟩
def d_l_size : Df := ⟨fun K => He.ga K "_law_size", "_law_size", "_law_size", s_l_size, [], []⟩
def d_l_all_blocks : Df := ⟨fun K => He.ga K "_law_all_blocks", "_law_all_blocks", "_law_all_blocks", s_l_all_blocks, [], []⟩
def d_l_spots : Df := ⟨fun K => He.ga K "_law_spots", "_law_spots", "_law_spots", s_l_spots, [], []⟩
def d_l_put_all : Df := ⟨fun K => He.ga K "_law_put_all", "_law_put_all", "_law_put_all", s_l_put_all, [], []⟩
def d_l_two_right : Df := ⟨fun K => He.ga K "_law_two_right", "_law_two_right", "_law_two_right", s_l_two_right, [], []⟩
def d_l_closed_right : Df := ⟨fun K => He.ga K "_law_closed_right", "_law_closed_right", "_law_closed_right", s_l_closed_right, [], []⟩
def d_l_right : Df := ⟨fun K => He.ga K "_law_right", "_law_right", "_law_right", s_l_right, [], []⟩
def d_law : Df := ⟨fun K => He.ga K "law", "law", "law", s_law, [], []⟩
def fn : List Df := [d_is_integer, d_is_name, d_is_kind, d_is_value, d_is_column, d_fault_in_schema, d_check_schema, d_fault_in_row, d_is_row, d_check_rows, d_Frame_init, d_Frame_schema, d_Frame_names, d_Frame_column, d_Frame_len, d_Block_init, d_cut_blocks, d_blank_frame, d_Sheet_init, d_Sheet_copies, d_Sheet_check_open, d_Sheet_place_of, d_Sheet_own_block, d_Sheet_put, d_Sheet_blank, d_Sheet_hold, d_Sheet_twin, d_Sheet_close, d_Sheet_shared, d_l_cell, d_l_pool, d_l_draw, d_l_calls, d_l_worth, d_l_heads, d_l_size, d_l_all_blocks, d_l_spots, d_l_put_all, d_l_two_right, d_l_closed_right, d_l_right, d_law]
def fa : List He.Fa := [.glo "is_integer", .glo "is_name", .glo "is_kind", .glo "is_value", .glo "is_column", .glo "fault_in_schema", .glo "check_schema", .glo "fault_in_row", .glo "is_row", .glo "check_rows", .glo "cut_blocks", .glo "blank_frame", .glo "_law_cell", .glo "_law_pool", .glo "_law_draw", .glo "_law_calls", .glo "_law_worth", .glo "_law_heads", .glo "_law_size", .glo "_law_all_blocks", .glo "_law_spots", .glo "_law_put_all", .glo "_law_two_right", .glo "_law_closed_right", .glo "_law_right", .glo "law", .glo "Frame", .glo "Block", .glo "Sheet", .free "isinstance", .free "int", .free "bool", .free "str", .free "tuple", .free "len", .free "all", .free "enumerate", .free "list", .free "range", .free "sum"] ++ [.free "abs", .free "divmod", .free "min", .free "max", .int "MOST_LETTERS" 8, .str "LETTERS" "abcdefghijklmnopqrstuvwxyz", .cls "Frame", .cls "Block", .cls "Sheet", .noat "Frame" "heads", .noat "Frame" "lines", .noat "Block" "cells", .noat "Block" "sheets", .noat "Sheet" "heads", .noat "Sheet" "block_size", .noat "Sheet" "total", .noat "Sheet" "made", .noat "Sheet" "opened", .noat "Sheet" "parts", .meth "Frame" "column", .meth "Sheet" "check_open", .meth "Sheet" "place_of", .meth "Sheet" "own_block", .meth "Sheet" "put", .meth "Sheet" "blank", .meth "Sheet" "hold", .meth "Sheet" "twin", .meth "Sheet" "close", .meth "Sheet" "shared", .mkr "Frame", .mkr "Block", .mkr "Sheet"]
def loose : List PySem.Str := (["_wall", "FrameError", "InvalidSchema", "InvalidRows", "InvalidValue", "InvalidNumber", "InvalidText", "NotAFrame", "NotASheet", "FindError", "UnknownColumn", "Closed", "KINDS", "LETTERS", "DIGITS", "MOST_LETTERS", "is_integer", "is_name", "is_kind", "is_value", "is_column", "fault_in_schema", "is_schema", "check_schema", "fault_in_row", "is_row", "check_rows", "check_number", "quoted", "unquoted"] : List PySem.Str) ++ (["is_decimal", "value_text", "value_of_word", "head_text", "row_text", "frame_text", "cells_of", "row_of_line", "frame_of_text", "cell_text", "Frame", "Block", "cut_blocks", "blank_frame", "Sheet", "_law_cell", "_law_pool", "_law_draw", "_law_calls", "_law_worth", "_law_heads", "_law_size", "_law_all_blocks", "_law_spots", "_law_put_all", "_law_two_right", "_law_closed_right", "_law_right"] : List PySem.Str)
/-! the Hook -/
/-- what is looked at from an object on: a module's names, a class's, a def's code and defaults, a property's getter -/
def growE (g : Addr → Option Obj) (a : Addr) : List Addr := match g a with
  | some ⟨_, _, .func fd, _⟩ => He.refV fd.code ++ (He.refV fd.defaults ++ He.refV fd.kwdefaults)
  | some ⟨_, _, .cls cd, _⟩ => [cd.ns]
  | some ⟨_, _, .dict es _, _⟩ => es.toList.flatMap fun e => He.refV e.val
  | some ⟨_, _, .seq its _, _⟩ => its.toList.flatMap He.refV
  | some ⟨.type t, _, .fields vs, _⟩ => (match decide (t = "property") with
    | true => vs.toList.flatMap He.refV
    | false => [])
  | _ => []
def frcL {α : Type} : List Addr → (List Addr → α) → α
  | [], k => k []
  | a :: r, k => HandSHeadRun.frNat a fun a => frcL r fun r => k (a :: r)
theorem frcL_eq {α : Type} : ∀ (l : List Addr) (k : List Addr → α), frcL l k = k l
  | [], _ => rfl
  | a :: r, k => by
    show HandSHeadRun.frNat a (fun a => frcL r fun r => k (a :: r)) = k (a :: r)
    rw [HandSHeadRun.frNat_eq, frcL_eq r]
def layC {α : Type} (g : Addr → Option Obj) : Nat → List Addr → List Addr → (List Addr → α) → α
  | 0, fr, acc, k => k (acc ++ fr)
  | n + 1, fr, acc, k => frcL (fr.flatMap (growE g)) fun fr' => layC g n fr' (acc ++ fr) k
theorem layC_ex {α : Type} (g : Addr → Option Obj) : ∀ (n : Nat) (fr acc : List Addr) (k : List Addr → α), ∃ l, layC g n fr acc k = k l
  | 0, fr, acc, _ => ⟨acc ++ fr, rfl⟩
  | n + 1, fr, acc, k => by
    obtain ⟨l, e⟩ := layC_ex g n (fr.flatMap (growE g)) (acc ++ fr) k
    exact ⟨l, (frcL_eq _ _).trans e⟩
def frcK {α : Type} (g : Addr → Option Obj) : List Addr → (PySem.W.Frag → α) → α
  | [], k => k []
  | a :: r, k => match g a with
    | none => frcK g r k
    | some ⟨c, d, dt, sl⟩ => frcK g r fun K => k ((a, ⟨c, d, dt, sl⟩) :: K)
theorem frcK_eq {α : Type} (g : Addr → Option Obj) : ∀ (l : List Addr) (k : PySem.W.Frag → α), frcK g l k = k (He.frG g l)
  | [], _ => rfl
  | a :: r, k => by
    unfold frcK He.frG
    rw [List.filterMap_cons]
    cases q : g a with
    | none => exact frcK_eq g r k
    | some o =>
      obtain ⟨c, d, dt, sl⟩ := o
      exact frcK_eq g r fun K => k ((a, ⟨c, d, dt, sl⟩) :: K)
def seeK (K : PySem.W.Frag) : Bool × List He.FnW := ((fa.all fun f => f.ok K) && ((fn.all fun d => d.ok K) && ex K), fn.map fun d => d.see K)
def valK : Bool × List He.FnW := (true, fn.map Df.val)
def obsK (g : Addr → Option Obj) : Bool × List He.FnW := layC g 5 [mainGlobals] [cStatics] fun l => frcK g l seeK
theorem obsK_ex (g : Addr → Option Obj) : ∃ l, obsK g = seeK (He.frG g l) := by
  obtain ⟨l, e⟩ := layC_ex g 5 [mainGlobals] [cStatics] fun l => frcK g l seeK
  exact ⟨l, e.trans (frcK_eq g l seeK)⟩
def hk : PySem.W.Hook where
  α := Bool × List He.FnW
  obs := fun s => obsK s.heap.get?
  val := fun _ => valK
  says := fun _ h => ∃ K : PySem.W.Frag, K.In h ∧ seeK K = valK
  of := fun _ s e => by
    obtain ⟨l, q⟩ := obsK_ex s.heap.get?
    exact ⟨_, He.frG_in, q.symm.trans e⟩
  keeps := fun _ _ _ ⟨K, hK, c⟩ k => ⟨K, PySem.W.Frag.In.keeps hK k, c⟩
def ob (s : PySem.W.SharedT) : Bool × List He.FnW := obsK (HandSHeadRun.getT s)
theorem ob_eq (s : PySem.W.SharedT) : ob s = hk.obs s.abs := by
  have e : HandSHeadRun.getT s = s.abs.heap.get? := funext (HandSHeadRun.getT_eq s)
  unfold ob
  rw [e]
  rfl
abbrev R : PySem.W.OpenRow := PySem.W.OpenLaw.row PySem.Challenge.rw_labelframes_k71_whole_copies_are_least
theorem run (w : World) : HandSHeadRun.RunEq R (PySem.W.view R.prog [63]) hk ob 12000 loose w := by
  intro os
  kernel_rfl
theorem says_fact {K : PySem.W.Frag} (c : seeK K = valK) (i : Nat) {f : He.Fa} (h : fa[i]? = some f := by rfl) : f.ok K = true := by
  have c1 := (He.ba (show ((fa.all fun f => f.ok K) && ((fn.all fun d => d.ok K) && ex K)) = true from congrArg (fun z : Bool × List He.FnW => z.1) c)).1
  exact List.all_eq_true.mp c1 f (List.mem_of_getElem? h)
theorem says_ex {K : PySem.W.Frag} (c : seeK K = valK) : ex K = true :=
  (He.ba (He.ba (show ((fa.all fun f => f.ok K) && ((fn.all fun d => d.ok K) && ex K)) = true from congrArg (fun z : Bool × List He.FnW => z.1) c)).2).2
theorem says_fn {K : PySem.W.Frag} (c : seeK K = valK) (i : Nat) {d : Df} (h : fn[i]? = some d := by rfl) : ∃ fd, d.Fn K fd := by
  have c2 := (He.ba (He.ba (show ((fa.all fun f => f.ok K) && ((fn.all fun d => d.ok K) && ex K)) = true from congrArg (fun z : Bool × List He.FnW => z.1) c)).2).1
  have e : fn.map (fun d => d.see K) = fn.map Df.val := congrArg (fun z : Bool × List He.FnW => z.2) c
  have e2 : (fn.map fun d => d.see K)[i]? = (fn.map Df.val)[i]? := by rw [e]
  rw [List.getElem?_map, List.getElem?_map, h] at e2
  exact Df.fn_of (Option.some.inj e2) (List.all_eq_true.mp c2 d (List.mem_of_getElem? h))
end K7
set_option maxHeartbeats 4000000
/-! Hd, out of what the head has left. -/
namespace K7
open PySem PySem.Spec PyProof.Rows L2
theorem hd_of {K : PySem.W.Frag} {h : Heap} {mg : Str → Option Value} (X : K.In h) (G : h.Ns mainGlobals mg) (c : seeK K = valK) : Hd K mg := by
  obtain ⟨x1, e⟩ := He.ba (says_ex c)
  obtain ⟨x2, e⟩ := He.ba e
  obtain ⟨x3, e⟩ := He.ba e
  obtain ⟨x4, e⟩ := He.ba e
  obtain ⟨x5, e⟩ := He.ba e
  obtain ⟨x6, e⟩ := He.ba e
  obtain ⟨x7, e⟩ := He.ba e
  obtain ⟨x8, e⟩ := He.ba e
  obtain ⟨x9, e⟩ := He.ba e
  obtain ⟨x10, x11⟩ := He.ba e
  obtain ⟨l1, l2⟩ := He.ba x8
  obtain ⟨fd0, F0⟩ := says_fn c 0 (d := d_is_integer) rfl
  obtain ⟨fd1, F1⟩ := says_fn c 1 (d := d_is_name) rfl
  obtain ⟨fd2, F2⟩ := says_fn c 2 (d := d_is_kind) rfl
  obtain ⟨fd3, F3⟩ := says_fn c 3 (d := d_is_value) rfl
  obtain ⟨fd4, F4⟩ := says_fn c 4 (d := d_is_column) rfl
  obtain ⟨fd5, F5⟩ := says_fn c 5 (d := d_fault_in_schema) rfl
  obtain ⟨fd6, F6⟩ := says_fn c 6 (d := d_check_schema) rfl
  obtain ⟨fd7, F7⟩ := says_fn c 7 (d := d_fault_in_row) rfl
  obtain ⟨fd8, F8⟩ := says_fn c 8 (d := d_is_row) rfl
  obtain ⟨fd9, F9⟩ := says_fn c 9 (d := d_check_rows) rfl
  obtain ⟨fd10, F10⟩ := says_fn c 10 (d := d_Frame_init) rfl
  obtain ⟨fd11, F11⟩ := says_fn c 11 (d := d_Frame_schema) rfl
  obtain ⟨fd12, F12⟩ := says_fn c 12 (d := d_Frame_names) rfl
  obtain ⟨fd13, F13⟩ := says_fn c 13 (d := d_Frame_column) rfl
  obtain ⟨fd14, F14⟩ := says_fn c 14 (d := d_Frame_len) rfl
  obtain ⟨fd15, F15⟩ := says_fn c 15 (d := d_Block_init) rfl
  obtain ⟨fd16, F16⟩ := says_fn c 16 (d := d_cut_blocks) rfl
  obtain ⟨fd17, F17⟩ := says_fn c 17 (d := d_blank_frame) rfl
  obtain ⟨fd18, F18⟩ := says_fn c 18 (d := d_Sheet_init) rfl
  obtain ⟨fd19, F19⟩ := says_fn c 19 (d := d_Sheet_copies) rfl
  obtain ⟨fd20, F20⟩ := says_fn c 20 (d := d_Sheet_check_open) rfl
  obtain ⟨fd21, F21⟩ := says_fn c 21 (d := d_Sheet_place_of) rfl
  obtain ⟨fd22, F22⟩ := says_fn c 22 (d := d_Sheet_own_block) rfl
  obtain ⟨fd23, F23⟩ := says_fn c 23 (d := d_Sheet_put) rfl
  obtain ⟨fd24, F24⟩ := says_fn c 24 (d := d_Sheet_blank) rfl
  obtain ⟨fd25, F25⟩ := says_fn c 25 (d := d_Sheet_hold) rfl
  obtain ⟨fd26, F26⟩ := says_fn c 26 (d := d_Sheet_twin) rfl
  obtain ⟨fd27, F27⟩ := says_fn c 27 (d := d_Sheet_close) rfl
  obtain ⟨fd28, F28⟩ := says_fn c 28 (d := d_Sheet_shared) rfl
  obtain ⟨fd29, F29⟩ := says_fn c 29 (d := d_l_cell) rfl
  obtain ⟨fd30, F30⟩ := says_fn c 30 (d := d_l_pool) rfl
  obtain ⟨fd31, F31⟩ := says_fn c 31 (d := d_l_draw) rfl
  obtain ⟨fd32, F32⟩ := says_fn c 32 (d := d_l_calls) rfl
  obtain ⟨fd33, F33⟩ := says_fn c 33 (d := d_l_worth) rfl
  obtain ⟨fd34, F34⟩ := says_fn c 34 (d := d_l_heads) rfl
  obtain ⟨fd35, F35⟩ := says_fn c 35 (d := d_l_size) rfl
  obtain ⟨fd36, F36⟩ := says_fn c 36 (d := d_l_all_blocks) rfl
  obtain ⟨fd37, F37⟩ := says_fn c 37 (d := d_l_spots) rfl
  obtain ⟨fd38, F38⟩ := says_fn c 38 (d := d_l_put_all) rfl
  obtain ⟨fd39, F39⟩ := says_fn c 39 (d := d_l_two_right) rfl
  obtain ⟨fd40, F40⟩ := says_fn c 40 (d := d_l_closed_right) rfl
  obtain ⟨fd41, F41⟩ := says_fn c 41 (d := d_l_right) rfl
  obtain ⟨fd42, F42⟩ := says_fn c 42 (d := d_law) rfl
  exact {
    f_is_integer := ⟨_, fd0, F0, He.glo_ok X G (says_fact c 0 (f := .glo "is_integer") rfl)⟩
    f_is_name := ⟨_, fd1, F1, He.glo_ok X G (says_fact c 1 (f := .glo "is_name") rfl)⟩
    f_is_kind := ⟨_, fd2, F2, He.glo_ok X G (says_fact c 2 (f := .glo "is_kind") rfl)⟩
    f_is_value := ⟨_, fd3, F3, He.glo_ok X G (says_fact c 3 (f := .glo "is_value") rfl)⟩
    f_is_column := ⟨_, fd4, F4, He.glo_ok X G (says_fact c 4 (f := .glo "is_column") rfl)⟩
    f_fault_in_schema := ⟨_, fd5, F5, He.glo_ok X G (says_fact c 5 (f := .glo "fault_in_schema") rfl)⟩
    f_check_schema := ⟨_, fd6, F6, He.glo_ok X G (says_fact c 6 (f := .glo "check_schema") rfl)⟩
    f_fault_in_row := ⟨_, fd7, F7, He.glo_ok X G (says_fact c 7 (f := .glo "fault_in_row") rfl)⟩
    f_is_row := ⟨_, fd8, F8, He.glo_ok X G (says_fact c 8 (f := .glo "is_row") rfl)⟩
    f_check_rows := ⟨_, fd9, F9, He.glo_ok X G (says_fact c 9 (f := .glo "check_rows") rfl)⟩
    f_Frame_init := ⟨_, fd10, F10, He.mkr_ok (says_fact c 69 (f := .mkr "Frame") rfl)⟩
    f_Frame_schema := ⟨_, _, fd11, F11, propB_ok x1⟩
    f_Frame_names := ⟨_, _, fd12, F12, propB_ok x2⟩
    f_Frame_column := ⟨_, fd13, F13, He.meth_ok (says_fact c 59 (f := .meth "Frame" "column") rfl)⟩
    f_Frame_len := ⟨_, fd14, F14, isSS_ok l1, l2⟩
    f_Block_init := ⟨_, fd15, F15, He.mkr_ok (says_fact c 70 (f := .mkr "Block") rfl)⟩
    f_cut_blocks := ⟨_, fd16, F16, He.glo_ok X G (says_fact c 10 (f := .glo "cut_blocks") rfl)⟩
    f_blank_frame := ⟨_, fd17, F17, He.glo_ok X G (says_fact c 11 (f := .glo "blank_frame") rfl)⟩
    f_Sheet_init := ⟨_, fd18, F18, He.mkr_ok (says_fact c 71 (f := .mkr "Sheet") rfl)⟩
    f_Sheet_copies := ⟨_, _, fd19, F19, propB_ok x3⟩
    f_Sheet_check_open := ⟨_, fd20, F20, He.meth_ok (says_fact c 60 (f := .meth "Sheet" "check_open") rfl)⟩
    f_Sheet_place_of := ⟨_, fd21, F21, He.meth_ok (says_fact c 61 (f := .meth "Sheet" "place_of") rfl)⟩
    f_Sheet_own_block := ⟨_, fd22, F22, He.meth_ok (says_fact c 62 (f := .meth "Sheet" "own_block") rfl)⟩
    f_Sheet_put := ⟨_, fd23, F23, He.meth_ok (says_fact c 63 (f := .meth "Sheet" "put") rfl)⟩
    f_Sheet_blank := ⟨_, fd24, F24, He.meth_ok (says_fact c 64 (f := .meth "Sheet" "blank") rfl)⟩
    f_Sheet_hold := ⟨_, fd25, F25, He.meth_ok (says_fact c 65 (f := .meth "Sheet" "hold") rfl)⟩
    f_Sheet_twin := ⟨_, fd26, F26, He.meth_ok (says_fact c 66 (f := .meth "Sheet" "twin") rfl)⟩
    f_Sheet_close := ⟨_, fd27, F27, He.meth_ok (says_fact c 67 (f := .meth "Sheet" "close") rfl)⟩
    f_Sheet_shared := ⟨_, fd28, F28, He.meth_ok (says_fact c 68 (f := .meth "Sheet" "shared") rfl)⟩
    f_l_cell := ⟨_, fd29, F29, He.glo_ok X G (says_fact c 12 (f := .glo "_law_cell") rfl)⟩
    f_l_pool := ⟨_, fd30, F30, He.glo_ok X G (says_fact c 13 (f := .glo "_law_pool") rfl)⟩
    f_l_draw := ⟨_, fd31, F31, He.glo_ok X G (says_fact c 14 (f := .glo "_law_draw") rfl)⟩
    f_l_calls := ⟨_, fd32, F32, He.glo_ok X G (says_fact c 15 (f := .glo "_law_calls") rfl)⟩
    f_l_worth := ⟨_, fd33, F33, He.glo_ok X G (says_fact c 16 (f := .glo "_law_worth") rfl)⟩
    f_l_heads := ⟨_, fd34, F34, He.glo_ok X G (says_fact c 17 (f := .glo "_law_heads") rfl)⟩
    f_l_size := ⟨_, fd35, F35, He.glo_ok X G (says_fact c 18 (f := .glo "_law_size") rfl)⟩
    f_l_all_blocks := ⟨_, fd36, F36, He.glo_ok X G (says_fact c 19 (f := .glo "_law_all_blocks") rfl)⟩
    f_l_spots := ⟨_, fd37, F37, He.glo_ok X G (says_fact c 20 (f := .glo "_law_spots") rfl)⟩
    f_l_put_all := ⟨_, fd38, F38, He.glo_ok X G (says_fact c 21 (f := .glo "_law_put_all") rfl)⟩
    f_l_two_right := ⟨_, fd39, F39, He.glo_ok X G (says_fact c 22 (f := .glo "_law_two_right") rfl)⟩
    f_l_closed_right := ⟨_, fd40, F40, He.glo_ok X G (says_fact c 23 (f := .glo "_law_closed_right") rfl)⟩
    f_l_right := ⟨_, fd41, F41, He.glo_ok X G (says_fact c 24 (f := .glo "_law_right") rfl)⟩
    f_law := ⟨_, fd42, F42, He.glo_ok X G (says_fact c 25 (f := .glo "law") rfl)⟩
    g_Frame := He.glo_ok X G (says_fact c 26 (f := .glo "Frame") rfl)
    cl_Frame := He.cls_ok (says_fact c 46 (f := .cls "Frame") rfl)
    g_Block := He.glo_ok X G (says_fact c 27 (f := .glo "Block") rfl)
    cl_Block := He.cls_ok (says_fact c 47 (f := .cls "Block") rfl)
    g_Sheet := He.glo_ok X G (says_fact c 28 (f := .glo "Sheet") rfl)
    cl_Sheet := He.cls_ok (says_fact c 48 (f := .cls "Sheet") rfl)
    no_Frame_heads := He.noat_ok (says_fact c 49 (f := .noat "Frame" "heads") rfl)
    no_Frame_lines := He.noat_ok (says_fact c 50 (f := .noat "Frame" "lines") rfl)
    no_Block_cells := He.noat_ok (says_fact c 51 (f := .noat "Block" "cells") rfl)
    no_Block_sheets := He.noat_ok (says_fact c 52 (f := .noat "Block" "sheets") rfl)
    no_Sheet_heads := He.noat_ok (says_fact c 53 (f := .noat "Sheet" "heads") rfl)
    no_Sheet_block_size := He.noat_ok (says_fact c 54 (f := .noat "Sheet" "block_size") rfl)
    no_Sheet_total := He.noat_ok (says_fact c 55 (f := .noat "Sheet" "total") rfl)
    no_Sheet_made := He.noat_ok (says_fact c 56 (f := .noat "Sheet" "made") rfl)
    no_Sheet_opened := He.noat_ok (says_fact c 57 (f := .noat "Sheet" "opened") rfl)
    no_Sheet_parts := He.noat_ok (says_fact c 58 (f := .noat "Sheet" "parts") rfl)
    b_isinstance := He.free_ok X G (says_fact c 29 (f := .free "isinstance") rfl)
    b_int := He.free_ok X G (says_fact c 30 (f := .free "int") rfl)
    b_bool := He.free_ok X G (says_fact c 31 (f := .free "bool") rfl)
    b_str := He.free_ok X G (says_fact c 32 (f := .free "str") rfl)
    b_tuple := He.free_ok X G (says_fact c 33 (f := .free "tuple") rfl)
    b_len := He.free_ok X G (says_fact c 34 (f := .free "len") rfl)
    b_all := He.free_ok X G (says_fact c 35 (f := .free "all") rfl)
    b_enumerate := He.free_ok X G (says_fact c 36 (f := .free "enumerate") rfl)
    b_list := He.free_ok X G (says_fact c 37 (f := .free "list") rfl)
    b_range := He.free_ok X G (says_fact c 38 (f := .free "range") rfl)
    b_sum := He.free_ok X G (says_fact c 39 (f := .free "sum") rfl)
    b_abs := He.free_ok X G (says_fact c 40 (f := .free "abs") rfl)
    b_divmod := He.free_ok X G (says_fact c 41 (f := .free "divmod") rfl)
    b_min := He.free_ok X G (says_fact c 42 (f := .free "min") rfl)
    b_max := He.free_ok X G (says_fact c 43 (f := .free "max") rfl)
    most_letters := He.int_ok X G (says_fact c 44 (f := .int "MOST_LETTERS" 8) rfl)
    letters := He.str_ok X G (says_fact c 45 (f := .str "LETTERS" "abcdefghijklmnopqrstuvwxyz") rfl)
    kinds := ⟨_, He.glo_ok X G (x := "KINDS") x11, fun H => He.tupB_ok x10 H⟩
    ins_Frame := insB_ok (He.cls_ok (says_fact c 46 (f := .cls "Frame") rfl)) x4
    ins_Sheet := insB_ok (He.cls_ok (says_fact c 48 (f := .cls "Sheet") rfl)) x5
    eq_Sheet := ⟨(insB_ok (He.cls_ok (says_fact c 48 (f := .cls "Sheet") rfl)) x5).hm, isSS_ok x9⟩
    most := mostB_ok x6
    nil_ := fun H => nilB_ok x7 H }
end K7
set_option maxHeartbeats 0
namespace K7
open PySem PySem.Spec PyProof.Rows L2
theorem law_len {K : PySem.W.Frag} : LenOk (spLaw K) p_law := fun vs H Q E ⟨a, ns, e, _⟩ => by rw [e]; rfl
theorem facts {P : Program} {w : World} {K : PySem.W.Frag} {h : Heap} {mg : Str → Option Value} {f : Addr} (X : K.In h) (G : h.Ns mainGlobals mg) (hfa : mg ("law" : Str) = some (.ref f)) (c : seeK K = valK) :
    ∃ fd : FuncData, (∀ (s : Shared) (v : Value), BindsTo s fd ⟨[v], []⟩ [("_law_script", v)]) ∧ ∀ base : Heap, K.In base → base.Ns mainGlobals mg → FnOk P w K mg base CX0 14 f fd ["_law_script"] (spLaw K) := by
  have E := hd_of X G c
  obtain ⟨g, fd, F, hm⟩ := E.f_law
  have e := hfa.symm.trans hm
  cases e
  have b := FunD.bindsA (ps := p_law) F fun _ _ _ _ _ _ us hl => match us, hl with | [_], _ => rfl
  exact ⟨fd, fun s v => b s [v] rfl, fun base _ _ => fn_mk F c_law law_len (law_body E)⟩
end K7
open PySem PySem.W PySem.Calls PyProof.Rows
theorem PySem.Challenge.cw_labelframes_k71_whole_copies_are_least_holds : PySem.Challenge.rw_labelframes_k71_whole_copies_are_least.Holds := by
  w_on; o_law
  refine HandSHeadRun.head_any (r := OpenLaw.row PySem.Challenge.rw_labelframes_k71_whole_copies_are_least) (q := view (OpenLaw.row PySem.Challenge.rw_labelframes_k71_whole_copies_are_least).prog [63]) (H := K7.hk) (ob := K7.ob) (M := 12000) (loose := K7.loose) (d := HandSHeadRun.topDef (OpenLaw.row PySem.Challenge.rw_labelframes_k71_whole_copies_are_least).prog 63) (kwd := []) K7.ob_eq
    (by kernel_rfl) (fun s => by kernel_rfl) K7.run (by kernel_rfl) (by kernel_rfl) (by kernel_rfl) (by rfl) (by first | assumption | decide +kernel) (by decide +kernel) ⟨rfl, rfl, rfl, rfl, rfl, by decide +kernel⟩ ?hw ?hc
  case hw => w_witness2
  case hc =>
    refine L2.walk_ofE (l := PySem.Challenge.rw_labelframes_k71_whole_copies_are_least) (n := 63) (k := 14) (x := "_law_script") (CX := L2.CX0) rfl (by decide) (by kernel_rfl) ⟨rfl, by decide, by decide⟩ ?F (fun _ _ _ _ z => z)
    intro w mg fa h Y G hmg0
    obtain ⟨K, KX, c⟩ := Y
    have hmg : mg ("law" : PySem.Str) = some (.ref fa) := by
      have e : (HandSHeadRun.topDef (OpenLaw.row PySem.Challenge.rw_labelframes_k71_whole_copies_are_least).prog 63).name = ("law" : PySem.Str) := by kernel_rfl
      rw [← e]
      exact hmg0
    obtain ⟨fd, hb, hF⟩ := K7.facts (P := (PySem.Challenge.rw_labelframes_k71_whole_copies_are_least).prog) (w := w) KX G hmg c
    exact ⟨K, fd, K7.spLaw K, KX, hb, fun H a ns hl _ hS => ⟨a, ns, rfl, hS, Nat.lt_of_le_of_lt hl (by decide), fun _ => rfl⟩, hF⟩

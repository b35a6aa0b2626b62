import PyProof.Rows.All
import Wide.All
import OpenK.AllK
import Wide.FinOn
import HandS.ForMost
import HandS.Defaults
import HandS.Codes
import HandS.IsInst
import HandS.SortKw
import HandS.Style
import HandS.Zip
import HandS.Conv
import HandS.Walk
import HandS.SortInts
import HandS.Evl
import HandS.WideBits
import HandS.TupAny
import HandS.Head2
import HandS.HeadEnd
import HandS.HeadHook4
import KE.GoesEnum
import KE.GoesMore
import PySem.Challenge.RW_owncontraries_k39_whole_rows_beside_and
set_option Elab.async false
set_option linter.all false
set_option maxRecDepth 100000
set_option maxHeartbeats 4000000
set_option autoImplicit false
/-! ## the text by places, what the top leaves -/
namespace OcW
open PySem PySem.Spec PyProof.Rows L2 Evl
open C8 (Cal Met Mak pe_c pe_mk pe_mt InsC call_isC)
def top (i : Nat) : Stmt := PySem.Challenge.pw_owncontraries_k39_whole_rows_beside_and.main.body.getD i (.Pass ⟨0, 0, 0, 0⟩)
def defs1 : List (Str × Nat) := [("is_integer", 15), ("is_count", 16), ("is_list", 17), ("is_places", 18), ("want_places", 19), ("want_at_most", 20), ("left_of", 24), ("with_word", 25), ("plain_basis", 26), ("told_room", 29)]
def defs2 : List (Str × Nat) := [("room_by", 31), ("room_of", 32), ("want_room", 33), ("want_word", 34), ("weight_of", 37), ("spots_of", 38), ("word_by", 39), ("contrary_basis", 41), ("contrary", 42), ("power_of_two", 45)]
def defs3 : List (Str × Nat) := [("is_row", 46), ("want_row", 47), ("times_row", 48), ("entries", 49), ("entry_sums", 50), ("changed_of", 51), ("changed", 52), ("walked", 55), ("words_row", 56), ("row_of", 57)]
def defs4 : List (Str × Nat) := [("row", 58), ("want_alike", 60), ("below", 61), ("common_basis", 62), ("led_word", 63), ("is_sequence", 64), ("sum_room", 65), ("common_room", 66), ("beside", 67), ("exchanged", 68)]
def defs5 : List (Str × Nat) := [("_law_pot", 70), ("_law_draw", 71), ("_law_weight", 72), ("_law_words", 73), ("_law_sequence", 74), ("_law_times", 75), ("_law_right", 76), ("law", 77)]
def defs : List (Str × Nat) := defs1 ++ defs2 ++ defs3 ++ defs4 ++ defs5
def frees : List Str := ["isinstance", "int", "bool", "list", "tuple", "len", "min", "max", "sorted", "enumerate", "range", "sum", "zip", "all", "abs", "divmod"]
def halves : List Int := [0, 1, 1, 2, 1, 2, 2, 3, 1, 2, 2, 3, 2, 3, 3, 4]
/-- a def of the module's top -/
def FnP (K : PySem.W.Frag) (mg : Str → Option Value) (x : Str) (i : Nat) : Prop := mg x = some (.ref (He.ga K x)) ∧ ∃ fd, FunD K x x (defArgs (top i)) (defBody (top i)) (defScope (top i)) [] [] (He.ga K x) fd
/-- the j-th statement of the class at the i-th place -/
def FnM (K : PySem.W.Frag) (c m q : Str) (i j : Nat) : Prop := ∃ fd, FunD K m q (defArgs (inClass (top i) j)) (defBody (inClass (top i) j)) (defScope (inClass (top i) j)) [] [] (He.ma K (He.ga K c) m) fd
/-- what an own class gives -/
structure ClsT (K : PySem.W.Frag) (mg : Str → Option Value) (c : Str) : Prop where
  at_ : mg c = some (.ref (He.ga K c))
  cl : Cls K (He.ga K c)
  maker : Mk K (He.ga K c) (He.ma K (He.ga K c) "__init__")
  ins : InsC K (He.ga K c)
  kp : PySem.W.keepIn K (.ref (He.ga K c)) = true
structure Top (K : PySem.W.Frag) (mg : Str → Option Value) : Prop where
  fn : ∀ (i : Nat) (q : Str × Nat), defs[i]? = some q → FnP K mg q.1 q.2
  fr : ∀ (i : Nat) (x : Str), frees[i]? = some x → mg x = none
  told : ClsT K mg "Told"
  room : ClsT K mg "Room"
  iniT : FnM K "Told" "__init__" "Told.__init__" 28 0
  iniR : FnM K "Room" "__init__" "Room.__init__" 30 0
  hasR : FnM K "Room" "has" "Room.has" 30 4
  hasM : Meth K (He.ga K "Room") "has" (He.ma K (He.ga K "Room") "has")
  nTp : NoAttr K (He.ga K "Told") "told_places"
  nTb : NoAttr K (He.ga K "Told") "told_basis"
  nRp : NoAttr K (He.ga K "Room") "own_places"
  nRb : NoAttr K (He.ga K "Room") "own_basis"
  intTold : PySem.W.kitOne K (.type "int") (.ref (He.ga K "Told")) = some false
  ci : ∀ (x : Str) (i : Int), (x, i) ∈ [(("MOST_PLACES_basics" : Str), (24 : Int)), ("MOST_WORDS", 48), ("MOST_PLACES_tables", 24), ("LISTED", 8)] → ∃ t, mg x = some (.int i t)
  hv : mg "HALVES" = some (.ref (He.ga K "HALVES"))
  ht : ∀ H : Hp, SqT K H (He.ga K "HALVES") (halves.map V.int)
section
variable {P : Program} {w : World} {K : PySem.W.Frag} {mg : Str → Option Value} {base : Heap}
/-- THE RULE for a def of the top -/
theorem cal_of {x : Str} {i : Nat} {N ps : List Str} {k : Nat} {sp : Sp} (F : FnP K mg x i) (S : FnScope N ps (defScope (top i)))
    (hb : ∀ (kV doc pm : Value) (an : Option Addr) (cdv ct : Value) (us : List Value), us.length = ps.length → bindArgs (PySem.W.fnOf x x (defArgs (top i)) (defBody (top i)) (defScope (top i)) .none kV doc pm an cdv ct) ⟨us, []⟩ = pure (ps.zip us))
    (len : ∀ vs H Q E, sp vs H Q E → vs.length = ps.length)
    (hbody : ∀ (cdv : Value) (A : Around) (outer : List Env) (s : Shared) (H : Hp) (vs : List V) (Q : VK) (E : XK), Room k (A.deeper (envOfC x (defScope (top i)) s.heap.objs.size (He.ga K x) cdv)) → sp vs H Q E →
      ∃ t, PSs (cxOf CX0 P w K mg base N x (defScope (top i)) (He.ga K x) cdv A outer s H E).nox (defBody (top i)) t ∧ t { nx := fun _ H' => Q .non H', rt := Q } (start N vs) H) : Cal P w K mg base (k + 1) x sp [] := by
  obtain ⟨hm, fd, F⟩ := F
  refine ⟨_, fd, ps, [], F.ok S len fun cdv A outer s H vs Q E hr h => ?_, hm, F.kp, F.bindsN hb, .nil⟩
  obtain ⟨t, h1, h2⟩ := hbody cdv A outer s H vs Q E hr h
  exact ⟨t, h1.nox, h2⟩
/-- the rule for a class's __init__ -/
theorem mak_of {c q : Str} {i j : Nat} {N ps : List Str} {k : Nat} {sp : Sp} (C : ClsT K mg c) (F : FnM K c "__init__" q i j) (S : FnScope N ps (defScope (inClass (top i) j)))
    (hb : ∀ (kV doc pm : Value) (an : Option Addr) (cdv ct : Value) (us : List Value), us.length = ps.length → bindArgs (PySem.W.fnOf "__init__" q (defArgs (inClass (top i) j)) (defBody (inClass (top i) j)) (defScope (inClass (top i) j)) .none kV doc pm an cdv ct) ⟨us, []⟩ = pure (ps.zip us))
    (len : ∀ vs H Q E, sp vs H Q E → vs.length = ps.length)
    (hbody : ∀ (cdv : Value) (A : Around) (outer : List Env) (s : Shared) (H : Hp) (vs : List V) (Q : VK) (E : XK), Room k (A.deeper (envOfC q (defScope (inClass (top i) j)) s.heap.objs.size (He.ma K (He.ga K c) "__init__") cdv)) → sp vs H Q E →
      ∃ t, PSs (cxOf CX0 P w K mg base N q (defScope (inClass (top i) j)) (He.ma K (He.ga K c) "__init__") cdv A outer s H E).nox (defBody (inClass (top i) j)) t ∧ t { nx := fun _ H' => Q .non H', rt := Q } (start N vs) H) : Mak P w K mg base (k + 1) c (He.ga K c) sp [] := by
  obtain ⟨fd, F⟩ := F
  refine ⟨_, fd, ps, [], C.maker, F.ok S len fun cdv A outer s H vs Q E hr h => ?_, C.at_, F.bindsN hb, .nil⟩
  obtain ⟨t, h1, h2⟩ := hbody cdv A outer s H vs Q E hr h
  exact ⟨t, h1.nox, h2⟩
/-- the rule for a method -/
theorem met_of {c m q : Str} {i j : Nat} {N ps : List Str} {k : Nat} {sp : Sp} (C : ClsT K mg c) (F : FnM K c m q i j) (hM : Meth K (He.ga K c) m (He.ma K (He.ga K c) m)) (S : FnScope N ps (defScope (inClass (top i) j)))
    (hb : ∀ (kV doc pm : Value) (an : Option Addr) (cdv ct : Value) (us : List Value), us.length = ps.length → bindArgs (PySem.W.fnOf m q (defArgs (inClass (top i) j)) (defBody (inClass (top i) j)) (defScope (inClass (top i) j)) .none kV doc pm an cdv ct) ⟨us, []⟩ = pure (ps.zip us))
    (len : ∀ vs H Q E, sp vs H Q E → vs.length = ps.length)
    (hbody : ∀ (cdv : Value) (A : Around) (outer : List Env) (s : Shared) (H : Hp) (vs : List V) (Q : VK) (E : XK), Room k (A.deeper (envOfC q (defScope (inClass (top i) j)) s.heap.objs.size (He.ma K (He.ga K c) m) cdv)) → sp vs H Q E →
      ∃ t, PSs (cxOf CX0 P w K mg base N q (defScope (inClass (top i) j)) (He.ma K (He.ga K c) m) cdv A outer s H E).nox (defBody (inClass (top i) j)) t ∧ t { nx := fun _ H' => Q .non H', rt := Q } (start N vs) H) : Met P w K mg base (k + 1) (He.ga K c) m sp [] := by
  obtain ⟨fd, F⟩ := F
  refine ⟨_, fd, ps, [], C.cl, hM, F.ok S len fun cdv A outer s H vs Q E hr h => ?_, F.bindsN hb, .nil⟩
  obtain ⟨t, h1, h2⟩ := hbody cdv A outer s H vs Q E hr h
  exact ⟨t, h1.nox, h2⟩
end
/-! ## numbers that are not negative -/
abbrev nV (n : Nat) : V := .int (n : Int)
def rN (C : Nat → Nat → Prop) (g : Nat → Nat → Nat) : R2 := fun x y H Q => ∃ a b : Nat, x = nV a ∧ y = nV b ∧ C a b ∧ Q (nV (g a b)) H
def rN0 (g : Nat → Nat → Nat) : R2 := fun x y H Q => ∃ a b : Nat, x = nV a ∧ y = nV b ∧ Q (nV (g a b)) H
def rNB (g : Nat → Nat → Bool) : R2 := fun x y H Q => ∃ a b : Nat, x = nV a ∧ y = nV b ∧ Q (.bl (g a b)) H
section
variable {X : Cx} {f : Value → Value → Sem Value}
theorem OpR.weak {r r' : R2} (h : OpR X f r) (k : ∀ x y H Q, r' x y H Q → r x y H Q) : OpR X f r' := fun pins s σ H x y v u Q I rx ry q => h pins s σ H x y v u Q I rx ry (k x y H Q q)
theorem opN_of {C : Nat → Nat → Prop} {C' : Int → Int → Prop} {g : Nat → Nat → Nat} {g' : Int → Int → V} (h : OpR X f (rI C' g')) (hc : ∀ a b : Nat, C a b → C' (a : Int) (b : Int)) (e : ∀ a b : Nat, C a b → g' (a : Int) (b : Int) = nV (g a b)) : OpR X f (rN C g) :=
  OpR.weak h fun x y H Q ⟨a, b, h1, h2, c, q⟩ => ⟨(a : Int), (b : Int), h1, h2, hc a b c, by rw [e a b c]; exact q⟩
theorem opN0_of {g : Nat → Nat → Nat} {g' : Int → Int → V} (h : OpR X f (rI0 g')) (e : ∀ a b : Nat, g' (a : Int) (b : Int) = nV (g a b)) : OpR X f (rN0 g) :=
  OpR.weak h fun x y H Q ⟨a, b, h1, h2, q⟩ => ⟨(a : Int), (b : Int), h1, h2, by rw [e a b]; exact q⟩
theorem opNB_of {g : Nat → Nat → Bool} {g' : Int → Int → V} (h : OpR X f (rI0 g')) (e : ∀ a b : Nat, g' (a : Int) (b : Int) = .bl (g a b)) : OpR X f (rNB g) :=
  OpR.weak h fun x y H Q ⟨a, b, h1, h2, q⟩ => ⟨(a : Int), (b : Int), h1, h2, by rw [e a b]; exact q⟩
theorem n_add : OpR X (binaryOp .Add) (rN0 fun a b => a + b) := opN0_of op_add fun a b => congrArg V.int (Int.natCast_add a b).symm
theorem n_mul : OpR X (binaryOp .Mult) (rN (fun a _ => a < 2 ^ 60) fun a b => a * b) := OpR.weak op_mul fun x y H Q ⟨a, b, h1, h2, c, q⟩ => ⟨(a : Int), (b : Int), h1, h2, .inl ⟨by omega, by omega⟩, by
  have e : (a : Int) * (b : Int) = ((a * b : Nat) : Int) := (Int.natCast_mul a b).symm
  show Q (V.int ((a : Int) * (b : Int))) H
  rw [e]
  exact q⟩
theorem n_sub : OpR X (binaryOp .Sub) (rN (fun a b => b ≤ a) fun a b => a - b) := OpR.weak op_sub fun x y H Q ⟨a, b, h1, h2, c, q⟩ => ⟨(a : Int), (b : Int), h1, h2, by
  have e : (a : Int) - (b : Int) = ((a - b : Nat) : Int) := (Int.ofNat_sub c).symm
  show Q (V.int ((a : Int) - (b : Int))) H
  rw [e]
  exact q⟩
theorem n_xor : OpR X (binaryOp .BitXor) (rN0 fun a b => a ^^^ b) := opN0_of op_xor fun a b => by rw [Bits.bitXor_pp (Int.natCast_nonneg a) (Int.natCast_nonneg b)] <;> rfl
theorem n_and : OpR X (binaryOp .BitAnd) (rN0 fun a b => a &&& b) := opN0_of op_and fun a b => by rw [PyProof.Rows.bitAnd_pp (Int.natCast_nonneg a) (Int.natCast_nonneg b)] <;> rfl
theorem n_shl : OpR X (binaryOp .LShift) (rN (fun a b => a < 2 ^ 60 ∧ b ≤ 1000) fun a b => a * 2 ^ b) := opN_of op_shl (fun a b c => ⟨Int.natCast_nonneg b, by have := c.2; omega, by have := c.1; omega⟩) fun a b _ => by
  show V.int ((a : Int) * 2 ^ (b : Int).toNat) = V.int ((a * 2 ^ b : Nat) : Int)
  rw [Int.toNat_natCast, Int.natCast_mul, Int.natCast_pow] <;> rfl
theorem n_shr : OpR X (binaryOp .RShift) (rN0 fun a b => a / 2 ^ b) := OpR.weak op_shr fun x y H Q ⟨a, b, h1, h2, q⟩ => ⟨(a : Int), (b : Int), h1, h2, Int.natCast_nonneg b, by
  have e : (a : Int) / 2 ^ (b : Int).toNat = ((a / 2 ^ b : Nat) : Int) := by
    rw [Int.toNat_natCast, Int.natCast_ediv, Int.natCast_pow] <;> rfl
  show Q (V.int ((a : Int) / 2 ^ (b : Int).toNat)) H
  rw [e]
  exact q⟩
theorem n_lt : OpR X (compareOp .Lt) (rNB fun a b => decide (a < b)) := opNB_of op_lt fun a b => by simp
theorem n_le : OpR X (compareOp .LtE) (rNB fun a b => decide (a ≤ b)) := opNB_of op_le fun a b => by simp
theorem n_gt : OpR X (compareOp .Gt) (rNB fun a b => decide (b < a)) := opNB_of op_gt fun a b => by simp
theorem n_ge : OpR X (compareOp .GtE) (rNB fun a b => decide (b ≤ a)) := opNB_of op_ge fun a b => by simp
theorem nV_inj {a b : Nat} : nV a = nV b ↔ a = b := ⟨fun h => by have := V.int.inj h; omega, fun h => by rw [h]⟩
theorem n_eq : OpR X (compareOp .Eq) (rNB fun a b => decide (a = b)) := OpR.weak op_eq fun x y H Q ⟨a, b, h1, h2, q⟩ => by
  subst h1 h2
  exact ⟨rfl, by rw [decide_eq_decide.mpr nV_inj]; exact q⟩
theorem n_ne : OpR X (compareOp .NotEq) (rNB fun a b => !decide (a = b)) := OpR.weak op_ne fun x y H Q ⟨a, b, h1, h2, q⟩ => by
  subst h1 h2
  exact ⟨rfl, by rw [decide_eq_decide.mpr nV_inj]; exact q⟩
theorem pe_nat (n : Nat) {i : Int} {j pos} (h : i = (n : Int) := by rfl) : PE X (.Constant (.int i) j pos) (tC (nV n)) := by
  subst h
  exact pe_int
/-- min, max of two -/
theorem n_min (hc : X.calm = true) : CallR X (.builtin "min") (fun xs H Q => ∃ a b : Nat, xs = [nV a, nV b] ∧ Q (nV (min a b)) H) := fun pins s σ H xs us Q I r ⟨a, b, h1, q⟩ => call_min2 hc pins s σ H xs us Q I r ⟨(a : Int), (b : Int), h1, by
  have e : (if (b : Int) < (a : Int) then (b : Int) else (a : Int)) = ((min a b : Nat) : Int) := by
    by_cases c : b < a
    · rw [if_pos (by omega), Nat.min_eq_right (by omega)]
    · rw [if_neg (by omega), Nat.min_eq_left (by omega)]
  rw [e]
  exact q⟩
theorem n_len : CallR X (.builtin "len") (fun xs H Q => ∃ p ys, xs = [.ref p] ∧ (SqL X.K H p ys ∨ SqT X.K H p ys) ∧ Q (nV ys.length) H) := call_len_seq
end
/-! ## comprehensions -/
theorem fm_at {α β : Type} (f : α → Option β) : ∀ B : List α, (List.range B.length).filterMap (fun i => B[i]?.bind f) = B.filterMap f
  | [] => rfl
  | b :: r => by
    rw [List.length_cons, List.range_succ_eq_map, List.filterMap_cons, List.filterMap_map, List.filterMap_cons]
    have e : (List.range r.length).filterMap ((fun i => (b :: r)[i]?.bind f) ∘ Nat.succ) = r.filterMap f := fm_at f r
    rw [e] <;> rfl
theorem fm_map {α β : Type} (f : α → β) (B : List α) : (List.range B.length).filterMap (fun i => B[i]?.map f) = B.map f := by
  have h := fm_at (fun a => some (f a)) B
  rw [show B.filterMap (fun a => some (f a)) = B.map f from congrFun (List.filterMap_eq_map (f := f)) B] at h
  rw [← h]
  refine congrArg (fun g => List.filterMap g (List.range B.length)) (funext fun i => ?_)
  cases B[i]? <;> rfl
theorem lc_go {J : It} {n : Nat} {G : Hp → Prop} {Y : Nat → Hp → V → Hp → Prop} (wk : Walk J n G Y) {g : TG} {tt : TT} {te : TE} {vs : List Nat} {σ : L2.St} {H1 : Hp} {Qd : Hp → Prop} {D : Addr} (hD : H1 D = none) (hG : ∀ H, Ex H1 H → G H) (hn : n ≤ 100000) (sel : Nat → Option V)
    (hs : ∀ (i : Nat) (x : V) (H H' : Hp) (K1 : V → Hp → Prop) (K0 : Hp → Prop), i < n → Ex H1 H → Y i H x H' → (∀ y H4, Ex H H4 → sel i = some y → K1 y H4) → (∀ H3, Ex H H3 → sel i = none → K0 H3) →
      g x (wipe σ vs) H' fun σ2 H2 => wipe σ2 vs = wipe σ vs ∧ tt σ2 H2 fun b H3 => if b = true then te σ2 H3 K1 else K0 H3)
    (hd : ∀ H, Ex H1 H → H D = some (.lst ((List.range n).filterMap sel)) → Qd H) :
    ∃ W : Nat → Nat → Hp → Prop, (∃ m, W 0 m (upd H1 D (.lst []))) ∧ ∀ i m H, W i m H →
      (J.stop i H ∧ Qd H) ∨ (J.go i H ∧ ∃ Nx : Hp → Prop, (∀ H', Nx H' → ∃ m', m' < m ∧ W (i + 1) m' H') ∧ ∀ x H', J.yld i H x H' → g x (wipe σ vs) H' fun σ2 H2 => wipe σ2 vs = wipe σ vs ∧ tt σ2 H2 fun b H3 =>
        if b = true then te σ2 H3 fun y H4 => ∃ acc, H4 D = some (.lst acc) ∧ acc.length < sizeLine ∧ Nx (upd H4 D (.lst (acc ++ [y]))) else Nx H3) := by
  have len : ∀ i, i < n → ((List.range i).filterMap sel).length < sizeLine := fun i hi => by
    have h := List.length_filterMap_le sel (List.range i)
    rw [List.length_range] at h
    exact Nat.lt_of_lt_of_le (show _ < 100000 by omega) (by decide)
  refine lc_it wk (fun i H => Ex H1 H ∧ H D = some (.lst ((List.range i).filterMap sel))) ⟨Ex.new hD, upd_same⟩ (fun i H _ p => hG H p.1) (fun i x H H' hi p y => ?_) (fun H p => hd H p.1 p.2)
  refine hs i x H H' _ _ hi p.1 y (fun y H4 e4 es => ⟨_, e4 D _ p.2, len i hi, (p.1.trans e4).mut hD, ?_⟩) (fun H3 e3 es => ⟨p.1.trans e3, ?_⟩)
  · rw [List.range_succ, List.filterMap_append, List.filterMap_cons, es]
    exact upd_same
  · rw [List.range_succ, List.filterMap_append, List.filterMap_cons, es]
    show H3 D = some (.lst (_ ++ []))
    rw [List.append_nil]
    exact e3 D _ p.2
theorem walk_rangeN {n : Nat} : Walk (Itr 0 n) n (fun _ => True) (YFn fun i => nV i) := walk_range.mono (fun _ h => h) fun i H x H' _ _ y => ⟨y.1, y.2.trans (congrArg V.int (Int.zero_add _))⟩
theorem tyes {σ : L2.St} {H : Hp} {A B : Hp → Prop} (a : A H) : tYes σ H fun b H3 => if b = true then A H3 else B H3 := iteT (A := A H) (B := B H) a
/-! ## tests whose answer is known -/
theorem bl_t {c : Prop} [Decidable c] (h : c) {Q : VK} {H : Hp} (q : Q (.bl true) H) : Q (.bl (decide c)) H := by
  rw [decide_eq_true h]
  exact q
theorem bl_f {c : Prop} [Decidable c] (h : ¬ c) {Q : VK} {H : Hp} (q : Q (.bl false) H) : Q (.bl (decide c)) H := by
  rw [decide_eq_false h]
  exact q
theorem tst_t {c : Prop} [Decidable c] {A B : Prop} (h : c) (a : A) : ∃ k, V.bl (decide c) = .bl k ∧ if k = true then A else B := ⟨true, by rw [decide_eq_true h], iteT a⟩
theorem tst_f {c : Prop} [Decidable c] {A B : Prop} (h : ¬ c) (b : B) : ∃ k, V.bl (decide c) = .bl k ∧ if k = true then A else B := ⟨false, by rw [decide_eq_false h], iteF b⟩
theorem tst_c {c : Prop} [Decidable c] {A B : Prop} (a : c → A) (b : ¬ c → B) : ∃ k, V.bl (decide c) = .bl k ∧ if k = true then A else B := by
  by_cases h : c
  · exact tst_t h (a h)
  · exact tst_f h (b h)
theorem tst_nt {c : Prop} [Decidable c] {A B : Prop} (h : ¬ c) (a : A) : ∃ k, V.bl (!decide c) = .bl k ∧ if k = true then A else B := ⟨true, by rw [decide_eq_false h]; rfl, iteT a⟩
theorem tst_nf {c : Prop} [Decidable c] {A B : Prop} (h : c) (b : B) : ∃ k, V.bl (!decide c) = .bl k ∧ if k = true then A else B := ⟨false, by rw [decide_eq_true h]; rfl, iteF b⟩
theorem tst_nc {c : Prop} [Decidable c] {A B : Prop} (a : ¬ c → A) (b : c → B) : ∃ k, V.bl (!decide c) = .bl k ∧ if k = true then A else B := by
  by_cases h : c
  · exact tst_nf h (b h)
  · exact tst_nt h (a h)
/-! ## lists and tuples of such numbers -/
abbrev TupN (K : PySem.W.Frag) (H : Hp) (t : Addr) (B : List Nat) : Prop := SqT K H t (B.map nV)
abbrev LstN (K : PySem.W.Frag) (H : Hp) (l : Addr) (B : List Nat) : Prop := SqL K H l (B.map nV)
abbrev LstI (K : PySem.W.Frag) (H : Hp) (l : Addr) (R : List Int) : Prop := SqL K H l (R.map V.int)
theorem map_at {α : Type} {f : α → V} {l : List α} {i : Nat} {x : V} (h : (l.map f)[i]? = some x) : ∃ a, l[i]? = some a ∧ x = f a := by
  rw [List.getElem?_map] at h
  cases e : l[i]? with
  | none => rw [e] at h; cases h
  | some a => rw [e] at h; exact ⟨a, rfl, (Option.some.inj h).symm⟩
theorem lt_of_at {α : Type} {l : List α} {i : Nat} {a : α} (h : l[i]? = some a) : i < l.length := (List.getElem?_eq_some_iff.mp h).1
theorem take_at {α : Type} {l : List α} {i : Nat} {a : α} (h : l[i]? = some a) : l.take (i + 1) = l.take i ++ [a] := by
  rw [List.take_add_one, h] <;> rfl
end OcW

set_option Elab.async false
set_option linter.all false
set_option maxRecDepth 100000
set_option maxHeartbeats 0
set_option autoImplicit false
/-! ## the head's run -/
namespace OcH
open PySem PySem.Spec PyProof.Rows L2
open OcW (top defs frees halves)
def dg (q : Str × Nat) : He.DefD := ⟨(q.1, none), q.1, q.1, defArgs (top q.2), defBody (top q.2), defScope (top q.2), [], []⟩
def dm (c m q : Str) (i j : Nat) : He.DefD := ⟨(c, some m), m, q, defArgs (inClass (top i) j), defBody (inClass (top i) j), defScope (inClass (top i) j), [], []⟩
def fm : List He.DefD := [dm "Told" "__init__" "Told.__init__" 28 0, dm "Room" "__init__" "Room.__init__" 30 0, dm "Room" "has" "Room.has" 30 4]
def fn : List He.DefD := fm ++ defs.map dg
def cnums : List (Str × Int) := [(("MOST_PLACES_basics" : Str), (24 : Int)), ("MOST_WORDS", 48), ("MOST_PLACES_tables", 24), ("LISTED", 8)]
def fb : List He.Fa := [.glo "Told", .glo "Room", .cls "Told", .cls "Room", .mkr "Told", .mkr "Room", .meth "Room" "has", .noat "Told" "told_places", .noat "Told" "told_basis", .noat "Room" "own_places", .noat "Room" "own_basis", .keep "Told", .keep "Room", .glo "HALVES"]
def fa : List He.Fa := fb ++ (defs.map (fun q => .glo q.1) ++ (frees.map .free ++ cnums.map fun q => .int q.1 q.2))
def insB (K : PySem.W.Frag) (x : Str) : Bool := He.eqO (PySem.W.findIn K (.ref (He.ga K x)) "__class__") (some (some (.builtin "object.__class__"))) &&
  (He.eqO (PySem.W.specialIn K (.builtin "object.__class__") "__get__") (some (some (.builtin "getset_descriptor.__get__"))) &&
  (decide (PySem.W.takesIn K (.builtin "object.__class__") = some true) &&
  (decide (PySem.W.mroIn K (He.ga K x) (.type "object") = some true) && decide (PySem.W.kitOne K (.ref (He.ga K x)) (.ref (He.ga K x)) = some true))))
def ex (K : PySem.W.Frag) : Bool := He.tupB K "HALVES" (halves.map He.Dv.int) && (insB K "Told" && (insB K "Room" && decide (PySem.W.kitOne K (.type "int") (.ref (He.ga K "Told")) = some false)))
abbrev R : PySem.W.OpenRow := PySem.W.OpenLaw.row PySem.Challenge.rw_owncontraries_k39_whole_rows_beside_and
abbrev hk : PySem.W.Hook := He.hookX 5 fa fn [] [] ex
def ob (s : PySem.W.SharedT) : He.AlX := He.obsX 5 fa fn [] [] ex (HandSHeadRun.getT s)
theorem ob_eq (s : PySem.W.SharedT) : ob s = hk.obs s.abs := He.obsX_eq (HandSHeadRun.getT_eq s)
def loose1 : List PySem.Str := ["WordError", "StateError", "LimitError", "InvalidPlaces", "InvalidRoom", "InvalidRow", "InvalidWord", "InvalidSequence", "InvalidWords", "UnlikePlaces", "NotWhole", "TooMany"]
def loose2 : List PySem.Str := ["MOST_PLACES_basics", "is_integer", "is_count", "is_list", "is_places", "want_places", "want_at_most", "MOST_WORDS", "MOST_DIMENSION", "left_of", "with_word", "plain_basis"]
def loose3 : List PySem.Str := ["all_words", "Told", "told_room", "Room", "room_by", "room_of", "want_room", "want_word", "HALVES", "weight_of", "spots_of", "word_by"]
def loose4 : List PySem.Str := ["contrary_basis", "contrary", "MOST_PLACES_tables", "power_of_two", "is_row", "want_row", "times_row", "entries", "entry_sums", "changed_of", "changed", "LISTED"]
def loose5 : List PySem.Str := ["walked", "words_row", "row_of", "row", "want_alike", "below", "common_basis", "led_word", "is_sequence", "sum_room", "common_room", "beside"]
def loose6 : List PySem.Str := ["exchanged", "_law_pot", "_law_draw", "_law_weight", "_law_words", "_law_sequence", "_law_times", "_law_right"]
def loose : List PySem.Str := loose1 ++ loose2 ++ loose3 ++ loose4 ++ loose5 ++ loose6
theorem run (w : World) : HandSHeadRun.RunEq R (PySem.W.view R.prog [77]) hk ob 6000 loose w := by
  intro os
  kernel_rfl
theorem ins_ok {K : PySem.W.Frag} {x : Str} (cl : Cls K (He.ga K x)) (h : insB K x = true) : C8.InsC K (He.ga K x) := by
  obtain ⟨h1, h⟩ := He.ba h
  obtain ⟨h2, h⟩ := He.ba h
  obtain ⟨h3, h⟩ := He.ba h
  obtain ⟨h4, h5⟩ := He.ba h
  exact ⟨cl, He.eqO_ok h1, He.eqO_ok h2, of_decide_eq_true h3, of_decide_eq_true h4, of_decide_eq_true h5⟩
theorem in_fn {q : Str × Nat} (h : q ∈ defs) : dg q ∈ fn := List.mem_append_right _ (List.mem_map_of_mem h)
theorem in_glo {q : Str × Nat} (h : q ∈ defs) : He.Fa.glo q.1 ∈ fa := List.mem_append_right _ (List.mem_append_left _ (List.mem_map_of_mem (f := fun q : Str × Nat => He.Fa.glo q.1) h))
theorem in_free {x : Str} (h : x ∈ frees) : He.Fa.free x ∈ fa := List.mem_append_right _ (List.mem_append_right _ (List.mem_append_left _ (List.mem_map_of_mem h)))
theorem in_int {x : Str} {i : Int} (h : (x, i) ∈ cnums) : He.Fa.int x i ∈ fa := List.mem_append_right _ (List.mem_append_right _ (List.mem_append_right _ (List.mem_map_of_mem (f := fun q : Str × Int => He.Fa.int q.1 q.2) h)))
theorem top_of {w : World} {K : PySem.W.Frag} {h : Heap} {mg : Str → Option Value} (X : K.In h) (G : h.Ns mainGlobals mg) (c : He.SaysX fa fn [] [] ex w h K) : OcW.Top K mg := by
  have d := c.t.d
  obtain ⟨x1, x2⟩ := He.ba c.more
  obtain ⟨x2, x3⟩ := He.ba x2
  obtain ⟨x3, x4⟩ := He.ba x3
  have clT := He.cls_ok (d.fact 2 (f := .cls "Told") rfl)
  have clR := He.cls_ok (d.fact 3 (f := .cls "Room") rfl)
  exact {
    fn := fun i q h => ⟨He.glo_ok X G (d.facts (in_glo (List.mem_of_getElem? h))), d.defs (in_fn (List.mem_of_getElem? h))⟩
    fr := fun i x h => He.free_ok X G (d.facts (in_free (List.mem_of_getElem? h)))
    told := ⟨He.glo_ok X G (d.fact 0 (f := .glo "Told") rfl), clT, He.mkr_ok (d.fact 4 (f := .mkr "Told") rfl), ins_ok clT x2, He.keep_ok (d.fact 11 (f := .keep "Told") rfl)⟩
    room := ⟨He.glo_ok X G (d.fact 1 (f := .glo "Room") rfl), clR, He.mkr_ok (d.fact 5 (f := .mkr "Room") rfl), ins_ok clR x3, He.keep_ok (d.fact 12 (f := .keep "Room") rfl)⟩
    iniT := d.def_ 0 (d := dm "Told" "__init__" "Told.__init__" 28 0) rfl
    iniR := d.def_ 1 (d := dm "Room" "__init__" "Room.__init__" 30 0) rfl
    hasR := d.def_ 2 (d := dm "Room" "has" "Room.has" 30 4) rfl
    hasM := He.meth_ok (d.fact 6 (f := .meth "Room" "has") rfl)
    nTp := He.noat_ok (d.fact 7 (f := .noat "Told" "told_places") rfl)
    nTb := He.noat_ok (d.fact 8 (f := .noat "Told" "told_basis") rfl)
    nRp := He.noat_ok (d.fact 9 (f := .noat "Room" "own_places") rfl)
    nRb := He.noat_ok (d.fact 10 (f := .noat "Room" "own_basis") rfl)
    intTold := of_decide_eq_true x4
    ci := fun x i h => He.int_ok X G (d.facts (in_int h))
    hv := He.glo_ok X G (d.fact 13 (f := .glo "HALVES") rfl)
    ht := fun H => He.tupB_ok x1 H }
end OcH

namespace Oc
/-! ### sums up to a number -/
def sm : Nat → (Nat → Int) → Int
  | 0, _ => 0
  | m + 1, g => sm m g + g m
theorem sm_congr : ∀ {m : Nat} {g h : Nat → Int}, (∀ i, i < m → g i = h i) → sm m g = sm m h
  | 0, _, _, _ => rfl
  | m + 1, g, h, e => by
    show sm m g + g m = sm m h + h m
    rw [sm_congr fun i hi => e i (Nat.lt_succ_of_lt hi), e m (Nat.lt_succ_self m)]
theorem sm_add (g h : Nat → Int) : ∀ m : Nat, sm m (fun i => g i + h i) = sm m g + sm m h
  | 0 => rfl
  | m + 1 => by
    show sm m (fun i => g i + h i) + (g m + h m) = (sm m g + g m) + (sm m h + h m)
    rw [sm_add g h m]
    omega
theorem sm_mul (c : Int) (g : Nat → Int) : ∀ m : Nat, sm m (fun i => c * g i) = c * sm m g
  | 0 => (Int.mul_zero c).symm
  | m + 1 => by
    show sm m (fun i => c * g i) + c * g m = c * (sm m g + g m)
    rw [sm_mul c g m, Int.mul_add]
theorem sm_mulr (c : Int) (g : Nat → Int) (m : Nat) : sm m (fun i => g i * c) = sm m g * c := by
  rw [Int.mul_comm, ← sm_mul]
  exact sm_congr fun i _ => Int.mul_comm _ _
theorem sm_zero : ∀ m : Nat, sm m (fun _ => 0) = 0
  | 0 => rfl
  | m + 1 => by
    show sm m (fun _ => 0) + 0 = 0
    rw [sm_zero m]
    rfl
theorem sm_app (a : Nat) (g : Nat → Int) : ∀ b : Nat, sm (a + b) g = sm a g + sm b (fun i => g (a + i))
  | 0 => (Int.add_zero _).symm
  | b + 1 => by
    show sm (a + b) g + g (a + b) = sm a g + (sm b (fun i => g (a + i)) + g (a + b))
    rw [sm_app a g b]
    omega
theorem sm_swap (a : Nat) (g : Nat → Nat → Int) : ∀ b : Nat, sm a (fun i => sm b (fun j => g i j)) = sm b (fun j => sm a (fun i => g i j))
  | 0 => sm_zero a
  | b + 1 => by
    show sm a (fun i => sm b (fun j => g i j) + g i b) = sm b (fun j => sm a (fun i => g i j)) + sm a (fun i => g i b)
    rw [sm_add, sm_swap a g b]
theorem sm_le : ∀ {m : Nat} {g h : Nat → Int}, (∀ i, i < m → g i ≤ h i) → sm m g ≤ sm m h
  | 0, _, _, _ => Int.le_refl 0
  | m + 1, g, h, e => by
    have a := sm_le fun i hi => e i (Nat.lt_succ_of_lt hi)
    have b := e m (Nat.lt_succ_self m)
    show sm m g + g m ≤ sm m h + h m
    omega
theorem sm_nonneg {m : Nat} {g : Nat → Int} (e : ∀ i, i < m → 0 ≤ g i) : 0 ≤ sm m g := by
  have h := sm_le (g := fun _ => 0) e
  rw [sm_zero] at h
  exact h
/-- one number of many -/
theorem sm_one {m k : Nat} (g : Nat → Int) (hk : k < m) : sm m (fun i => if i = k then g i else 0) = g k := by
  induction m with
  | zero => exact absurd hk (Nat.not_lt_zero _)
  | succ m ih =>
    show sm m (fun i => if i = k then g i else 0) + (if m = k then g m else 0) = g k
    by_cases e : m = k
    · rw [if_pos e, sm_congr (h := fun _ => 0) fun i hi => if_neg (by omega), sm_zero, e]
      omega
    · rw [if_neg e, ih (by omega)]
      omega
theorem sm_pos {m k : Nat} {g : Nat → Int} (e : ∀ i, i < m → 0 ≤ g i) (hk : k < m) : g k ≤ sm m g := by
  have h := sm_le (m := m) (g := fun i => if i = k then g i else 0) (h := g) fun i hi => by
    show (if i = k then g i else 0) ≤ g i
    by_cases c : i = k
    · rw [if_pos c]
      exact Int.le_refl _
    · rw [if_neg c]
      exact e i hi
  rw [sm_one g hk] at h
  exact h

/-! ### bits -/
theorem xor_pow_lt {n v : Nat} (h : v < 2 ^ n) : v ^^^ 2 ^ n = 2 ^ n + v := by
  have e := Nat.two_pow_add_eq_or_of_lt h 1
  rw [Nat.mul_one] at e
  rw [e]
  refine Nat.eq_of_testBit_eq fun i => ?_
  rw [Nat.testBit_xor, Nat.testBit_or, Nat.testBit_two_pow]
  by_cases c : n = i
  · have hv : v.testBit i = false := Nat.testBit_lt_two_pow (by rw [← c]; exact h)
    rw [hv, decide_eq_true c]
    rfl
  · rw [decide_eq_false c, Bool.xor_false, Bool.false_or]
theorem xor_lt {n v w : Nat} (h : v < 2 ^ n) (k : w < 2 ^ n) : v ^^^ w < 2 ^ n := Nat.xor_lt_two_pow h k
theorem xor_self2 (v w : Nat) : (v ^^^ w) ^^^ w = v := by rw [Nat.xor_assoc, Nat.xor_self, Nat.xor_zero]
theorem xor_right_comm (a b c : Nat) : (a ^^^ b) ^^^ c = (a ^^^ c) ^^^ b := by rw [Nat.xor_assoc, Nat.xor_comm b c, ← Nat.xor_assoc]
theorem sm_double (n : Nat) (g : Nat → Int) : sm (2 ^ (n + 1)) g = sm (2 ^ n) g + sm (2 ^ n) (fun v => g (v ^^^ 2 ^ n)) := by
  rw [show 2 ^ (n + 1) = 2 ^ n + 2 ^ n by rw [Nat.pow_succ]; omega, sm_app]
  congr 1
  exact sm_congr fun i hi => by rw [xor_pow_lt hi]

/-! ### sums over all sums of words -/
def sb : List Nat → (Nat → Int) → Int
  | [], g => g 0
  | b :: r, g => sb r g + sb r (fun v => g (v ^^^ b))
theorem sb_congr : ∀ {B : List Nat} {g h : Nat → Int}, (∀ v, g v = h v) → sb B g = sb B h := fun {B g h} e => by rw [show g = h from funext e]
theorem sb_nil : ∀ B : List Nat, sb B (fun _ => 0) = 0
  | [] => rfl
  | b :: r => by
    show sb r (fun _ => 0) + sb r (fun _ => 0) = 0
    rw [sb_nil r]
    rfl
theorem sb_add : ∀ (B : List Nat) (g h : Nat → Int), sb B (fun v => g v + h v) = sb B g + sb B h
  | [], _, _ => rfl
  | b :: r, g, h => by
    show sb r (fun v => g v + h v) + sb r (fun v => g (v ^^^ b) + h (v ^^^ b)) = (sb r g + sb r _) + (sb r h + sb r _)
    rw [sb_add r, sb_add r (fun v => g (v ^^^ b)) (fun v => h (v ^^^ b))]
    omega
theorem sb_mul (c : Int) : ∀ (B : List Nat) (g : Nat → Int), sb B (fun v => c * g v) = c * sb B g
  | [], _ => rfl
  | b :: r, g => by
    show sb r (fun v => c * g v) + sb r (fun v => c * g (v ^^^ b)) = c * (sb r g + sb r _)
    rw [sb_mul c r, sb_mul c r (fun v => g (v ^^^ b)), Int.mul_add]
theorem sb_sm : ∀ (B : List Nat) (m : Nat) (g : Nat → Nat → Int), sb B (fun v => sm m (fun j => g v j)) = sm m (fun j => sb B (fun v => g v j))
  | B, 0, g => by
    exact sb_nil B
  | B, m + 1, g => by
    show sb B (fun v => sm m (fun j => g v j) + g v m) = sm m (fun j => sb B (fun v => g v j)) + sb B (fun v => g v m)
    rw [sb_add, sb_sm B m]
theorem sb_perm {A B : List Nat} (p : A.Perm B) : ∀ g : Nat → Int, sb A g = sb B g := by
  induction p with
  | nil => intro g; rfl
  | cons x _ ih =>
    intro g
    show sb _ g + sb _ _ = sb _ g + sb _ _
    rw [ih g, ih]
  | swap x y l =>
    intro g
    show (sb l g + sb l (fun v => g (v ^^^ x))) + (sb l (fun v => g (v ^^^ y)) + sb l (fun v => g (v ^^^ x ^^^ y))) = (sb l g + sb l (fun v => g (v ^^^ y))) + (sb l (fun v => g (v ^^^ x)) + sb l (fun v => g (v ^^^ y ^^^ x)))
    rw [show (fun v => g (v ^^^ x ^^^ y)) = (fun v => g (v ^^^ y ^^^ x)) from funext fun v => by rw [xor_right_comm]]
    omega
  | trans _ _ a b =>
    intro g
    rw [a g, b g]
theorem sb_map (f : Nat → Nat) (f0 : f 0 = 0) (fx : ∀ a b, f (a ^^^ b) = f a ^^^ f b) : ∀ (B : List Nat) (g : Nat → Int), sb B (fun v => g (f v)) = sb (B.map f) g
  | [], g => by
    show g (f 0) = g 0
    rw [f0]
  | b :: r, g => by
    show sb r (fun v => g (f v)) + sb r (fun v => g (f (v ^^^ b))) = sb (r.map f) g + sb (r.map f) (fun v => g (v ^^^ f b))
    rw [sb_map f f0 fx r g, ← sb_map f f0 fx r (fun v => g (v ^^^ f b))]
    congr 1
    exact sb_congr fun v => by rw [fx]
/-- the words 2 ^ (n - 1), .., 1 -/
def pw : Nat → List Nat
  | 0 => []
  | n + 1 => 2 ^ n :: pw n
theorem sm_sb : ∀ (n : Nat) (g : Nat → Int), sm (2 ^ n) g = sb (pw n) g
  | 0, g => by
    show (0 : Int) + g 0 = g 0
    omega
  | n + 1, g => by
    rw [sm_double, sm_sb n, sm_sb n]
    rfl

/-! ### spans -/
def sp : List Nat → Nat → Bool
  | [], v => v == 0
  | b :: r, v => sp r v || sp r (v ^^^ b)
theorem sp_nil {v : Nat} : sp [] v = true ↔ v = 0 := by
  show (v == 0) = true ↔ v = 0
  exact beq_iff_eq
theorem sp_cons {b v : Nat} {r : List Nat} : sp (b :: r) v = true ↔ sp r v = true ∨ sp r (v ^^^ b) = true := by
  show (sp r v || sp r (v ^^^ b)) = true ↔ _
  rw [Bool.or_eq_true]
theorem sp_zero : ∀ B : List Nat, sp B 0 = true
  | [] => rfl
  | _ :: r => sp_cons.mpr (.inl (sp_zero r))
theorem sp_xor : ∀ {B : List Nat} {u v : Nat}, sp B u = true → sp B v = true → sp B (u ^^^ v) = true
  | [], u, v, h, k => by
    rw [sp_nil.mp h, sp_nil.mp k]
    rfl
  | b :: r, u, v, h, k => by
    rcases sp_cons.mp h with h | h
    · rcases sp_cons.mp k with k | k
      · exact sp_cons.mpr (.inl (sp_xor h k))
      · refine sp_cons.mpr (.inr ?_)
        rw [Nat.xor_assoc]
        exact sp_xor h k
    · rcases sp_cons.mp k with k | k
      · refine sp_cons.mpr (.inr ?_)
        rw [xor_right_comm]
        exact sp_xor h k
      · refine sp_cons.mpr (.inl ?_)
        have e := sp_xor h k
        rw [show u ^^^ b ^^^ (v ^^^ b) = u ^^^ v by rw [Nat.xor_assoc, Nat.xor_comm v b, ← Nat.xor_assoc b b v, Nat.xor_self, Nat.zero_xor]] at e
        exact e
theorem sp_mem : ∀ {B : List Nat} {b : Nat}, b ∈ B → sp B b = true
  | c :: r, b, h => by
    rcases List.mem_cons.mp h with rfl | h
    · refine sp_cons.mpr (.inr ?_)
      rw [Nat.xor_self]
      exact sp_zero r
    · exact sp_cons.mpr (.inl (sp_mem h))
theorem sp_closed {S : Nat → Prop} (s0 : S 0) (sx : ∀ u v, S u → S v → S (u ^^^ v)) : ∀ {B : List Nat} {v : Nat}, (∀ b, b ∈ B → S b) → sp B v = true → S v
  | [], v, _, h => by
    rw [sp_nil.mp h]
    exact s0
  | b :: r, v, hB, h => by
    have hr : ∀ c, c ∈ r → S c := fun c hc => hB c (List.mem_cons_of_mem _ hc)
    rcases sp_cons.mp h with h | h
    · exact sp_closed s0 sx hr h
    · have e := sx _ _ (sp_closed s0 sx hr h) (hB b List.mem_cons_self)
      rw [xor_self2] at e
      exact e
theorem sp_le {A B : List Nat} {v : Nat} (h : ∀ a, a ∈ A → sp B a = true) (k : sp A v = true) : sp B v = true :=
  sp_closed (S := fun v => sp B v = true) (sp_zero B) (fun _ _ => sp_xor) h k
theorem sp_eq {A B : List Nat} (h : ∀ a, a ∈ A → sp B a = true) (k : ∀ b, b ∈ B → sp A b = true) (v : Nat) : sp A v = sp B v := by
  have e : sp A v = true ↔ sp B v = true := ⟨sp_le h, sp_le k⟩
  cases a : sp A v with
  | true => exact (e.mp a).symm
  | false =>
    cases b : sp B v with
    | false => rfl
    | true => rw [e.mpr b] at a; cases a
/-- words of so many places -/
def Lt (n : Nat) (B : List Nat) : Prop := ∀ b, b ∈ B → b < 2 ^ n
theorem sp_lt {n v : Nat} {B : List Nat} (h : Lt n B) (k : sp B v = true) : v < 2 ^ n :=
  sp_closed (S := fun v => v < 2 ^ n) (Nat.two_pow_pos n) (fun _ _ => xor_lt) h k
theorem sp_pw : ∀ {n v : Nat}, v < 2 ^ n → sp (pw n) v = true
  | 0, v, h => sp_nil.mpr (by omega)
  | n + 1, v, h => by
    by_cases c : v < 2 ^ n
    · exact sp_cons.mpr (.inl (sp_pw c))
    · refine sp_cons.mpr (.inr (sp_pw ?_))
      have e : v = 2 ^ n + (v - 2 ^ n) := by omega
      have l : v - 2 ^ n < 2 ^ n := by rw [Nat.pow_succ] at h; omega
      rw [e, ← xor_pow_lt l, xor_self2]
      exact l
theorem sb_shift : ∀ {B : List Nat} {c : Nat}, sp B c = true → ∀ g : Nat → Int, sb B (fun v => g (v ^^^ c)) = sb B g
  | [], c, h, g => by
    rw [sp_nil.mp h]
    rfl
  | b :: r, c, h, g => by
    show sb r (fun v => g (v ^^^ c)) + sb r (fun v => g (v ^^^ b ^^^ c)) = sb r g + sb r (fun v => g (v ^^^ b))
    rcases sp_cons.mp h with h | h
    · rw [sb_shift h g, show (fun v => g (v ^^^ b ^^^ c)) = (fun v => (fun u => g (u ^^^ b)) (v ^^^ c)) from funext fun v => by dsimp only; rw [xor_right_comm], sb_shift h (fun u => g (u ^^^ b))]
    · rw [show (fun v => g (v ^^^ b ^^^ c)) = (fun v => g (v ^^^ (c ^^^ b))) from funext fun v => by rw [Nat.xor_assoc, Nat.xor_comm b c], sb_shift h g,
        show (fun v => g (v ^^^ c)) = (fun v => (fun u => g (u ^^^ b)) (v ^^^ (c ^^^ b))) from funext fun v => by dsimp only; rw [← Nat.xor_assoc, xor_self2], sb_shift h (fun u => g (u ^^^ b))]
      omega
theorem sm_shift {n c : Nat} (h : c < 2 ^ n) (g : Nat → Int) : sm (2 ^ n) (fun v => g (v ^^^ c)) = sm (2 ^ n) g := by
  rw [sm_sb, sm_sb]
  exact sb_shift (sp_pw h) g

/-! ### plain bases -/
def Rr (a b : Nat) : Prop := a.testBit b.log2 = false ∧ b.testBit a.log2 = false
theorem Rr.symm {a b : Nat} (h : Rr a b) : Rr b a := ⟨h.2, h.1⟩
structure Plain (B : List Nat) : Prop where
  nz : ∀ b, b ∈ B → b ≠ 0
  rr : B.Pairwise Rr
theorem Plain.nil : Plain [] := ⟨(fun _ h => nomatch h), List.Pairwise.nil⟩
theorem Plain.tail {b : Nat} {r : List Nat} (h : Plain (b :: r)) : Plain r := ⟨fun c hc => h.nz c (List.mem_cons_of_mem _ hc), (List.pairwise_cons.mp h.rr).2⟩
theorem Plain.head {b : Nat} {r : List Nat} (h : Plain (b :: r)) : ∀ c, c ∈ r → Rr b c := (List.pairwise_cons.mp h.rr).1
theorem Plain.perm {A B : List Nat} (p : A.Perm B) (h : Plain A) : Plain B :=
  ⟨fun b hb => h.nz b (p.mem_iff.mpr hb), (p.pairwise_iff (fun h => Rr.symm h)).mp h.rr⟩
/-- off at the highest place of b: in the span of the others -/
theorem sp_off {t : Nat} {B : List Nat} {v : Nat} (h : ∀ b, b ∈ B → b.testBit t = false) (k : sp B v = true) : v.testBit t = false :=
  sp_closed (S := fun v => v.testBit t = false) (Nat.zero_testBit t) (fun u v a b => by rw [Nat.testBit_xor, a, b]; rfl) h k
theorem Plain.excl {b v : Nat} {r : List Nat} (h : Plain (b :: r)) (h1 : sp r v = true) (h2 : sp r (v ^^^ b) = true) : False := by
  have o : ∀ c, c ∈ r → c.testBit b.log2 = false := fun c hc => (h.head c hc).2
  have a1 := sp_off o h1
  have a2 := sp_off o h2
  rw [Nat.testBit_xor, a1, Nat.testBit_log2 (h.nz b List.mem_cons_self)] at a2
  cases a2
/-- all sums, each once -/
theorem sb_sp {n : Nat} : ∀ {B : List Nat}, Plain B → Lt n B → ∀ f : Nat → Int, sm (2 ^ n) (fun v => if sp B v = true then f v else 0) = sb B f
  | [], _, _, f => by
    show _ = f 0
    rw [← sm_one (m := 2 ^ n) (k := 0) f (Nat.two_pow_pos n)]
    refine sm_congr fun v _ => ?_
    by_cases c : v = 0
    · rw [if_pos c, if_pos (sp_nil.mpr c)]
    · rw [if_neg c, if_neg fun h => c (sp_nil.mp h)]
  | b :: r, hp, hl, f => by
    have hb : b < 2 ^ n := hl b List.mem_cons_self
    have hr : Lt n r := fun c hc => hl c (List.mem_cons_of_mem _ hc)
    have e : sm (2 ^ n) (fun v => if sp (b :: r) v = true then f v else 0) = sm (2 ^ n) (fun v => (if sp r v = true then f v else 0) + (if sp r (v ^^^ b) = true then f v else 0)) := by
      refine sm_congr fun v _ => ?_
      by_cases c1 : sp r v = true
      · have c2 : ¬ sp r (v ^^^ b) = true := fun c2 => hp.excl c1 c2
        rw [if_pos (sp_cons.mpr (.inl c1)), if_pos c1, if_neg c2, Int.add_zero]
      · by_cases c2 : sp r (v ^^^ b) = true
        · rw [if_pos (sp_cons.mpr (.inr c2)), if_neg c1, if_pos c2, Int.zero_add]
        · rw [if_neg c1, if_neg c2, if_neg fun h => (sp_cons.mp h).elim c1 c2]
          rfl
    rw [e, sm_add, sb_sp hp.tail hr f]
    show _ = sb r f + sb r (fun v => f (v ^^^ b))
    rw [← sb_sp hp.tail hr (fun v => f (v ^^^ b)), ← sm_shift hb (fun v => if sp r (v ^^^ b) = true then f v else 0)]
    congr 1
    exact sm_congr fun v _ => by rw [xor_self2]
end Oc

namespace Oc
/-! ### least and highest -/
theorem lt_of_bit {x y t : Nat} (hx : x.testBit t = false) (hy : y.testBit t = true) (h : ∀ j, t < j → x.testBit j = y.testBit j) : x < y := by
  have e : x / 2 ^ (t + 1) = y / 2 ^ (t + 1) := Nat.eq_of_testBit_eq fun i => by
    rw [← Nat.testBit_add, ← Nat.testBit_add]
    exact h _ (by omega)
  have hx1 : x / 2 ^ t % 2 = 0 := by
    have q : x.testBit t = decide (x / 2 ^ t % 2 = 1) := Nat.testBit_eq_decide_div_mod_eq
    rw [hx] at q
    have := of_decide_eq_false q.symm
    omega
  have hy1 : y / 2 ^ t % 2 = 1 := by
    have q : y.testBit t = decide (y / 2 ^ t % 2 = 1) := Nat.testBit_eq_decide_div_mod_eq
    rw [hy] at q
    exact of_decide_eq_true q.symm
  rw [Nat.pow_succ, ← Nat.div_div_eq_div_mul, ← Nat.div_div_eq_div_mul] at e
  have l : x / 2 ^ t < y / 2 ^ t := by omega
  exact Nat.lt_of_not_le fun k => absurd (Nat.div_le_div_right (c := 2 ^ t) k) (by omega)
theorem bit_gt_log {b j : Nat} (h : b.log2 < j) : b.testBit j = false := by
  by_cases c : b = 0
  · rw [c, Nat.zero_testBit]
  · exact Nat.testBit_lt_two_pow ((Nat.log2_lt c).mp h)
theorem min_xor {b w : Nat} (h : b ≠ 0) : min w (w ^^^ b) = if w.testBit b.log2 = true then w ^^^ b else w := by
  have hb := Nat.testBit_log2 h
  by_cases c : w.testBit b.log2 = true
  · rw [if_pos c]
    have l : w ^^^ b < w := lt_of_bit (t := b.log2) (by rw [Nat.testBit_xor, c, hb]; rfl) c fun j hj => by rw [Nat.testBit_xor, bit_gt_log hj, Bool.xor_false]
    exact Nat.min_eq_right (Nat.le_of_lt l)
  · rw [if_neg c]
    have c' : w.testBit b.log2 = false := by
      cases q : w.testBit b.log2 with
      | false => rfl
      | true => exact absurd q c
    have l : w < w ^^^ b := lt_of_bit (t := b.log2) c' (by rw [Nat.testBit_xor, c', hb]; rfl) fun j hj => by rw [Nat.testBit_xor, bit_gt_log hj, Bool.xor_false]
    exact Nat.min_eq_left (Nat.le_of_lt l)
theorem log2_xor {a b : Nat} (ha : a ≠ 0) (h : b.log2 < a.log2) : (a ^^^ b).log2 = a.log2 ∧ a ^^^ b ≠ 0 := by
  have hb : (a ^^^ b).testBit a.log2 = true := by rw [Nat.testBit_xor, Nat.testBit_log2 ha, bit_gt_log h]; rfl
  have h0 : a ^^^ b ≠ 0 := fun e => by
    rw [e, Nat.zero_testBit] at hb
    cases hb
  refine ⟨(Nat.log2_eq_iff h0).mpr ⟨Nat.ge_two_pow_of_testBit hb, ?_⟩, h0⟩
  refine Nat.lt_pow_two_of_testBit _ fun i hi => ?_
  rw [Nat.testBit_xor, bit_gt_log (show a.log2 < i by omega), bit_gt_log (show b.log2 < i by omega)]
  rfl

/-! ### what is left -/
def leftOf (B : List Nat) (w : Nat) : Nat := B.foldl (fun w b => min w (w ^^^ b)) w
theorem left_span : ∀ (B : List Nat) (w : Nat), sp B (w ^^^ leftOf B w) = true
  | [], w => by
    show sp [] (w ^^^ w) = true
    rw [Nat.xor_self]
    rfl
  | b :: r, w => by
    show sp (b :: r) (w ^^^ leftOf r (min w (w ^^^ b))) = true
    have h := left_span r (min w (w ^^^ b))
    rcases Nat.le_total w (w ^^^ b) with c | c
    · rw [Nat.min_eq_left c] at h ⊢
      exact sp_cons.mpr (.inl h)
    · rw [Nat.min_eq_right c] at h ⊢
      refine sp_cons.mpr (.inr ?_)
      rw [xor_right_comm]
      exact h
theorem left_lt {n : Nat} : ∀ {B : List Nat} {w : Nat}, Lt n B → w < 2 ^ n → leftOf B w < 2 ^ n
  | [], _, _, h => h
  | b :: r, w, hB, h => by
    refine left_lt (B := r) (w := min w (w ^^^ b)) (fun c hc => hB c (List.mem_cons_of_mem _ hc)) ?_
    exact Nat.lt_of_le_of_lt (Nat.min_le_left _ _) h
/-- a place that is off in all words stays as it is -/
theorem left_keep {t : Nat} : ∀ {B : List Nat} {w : Nat}, (∀ b, b ∈ B → b.testBit t = false) → (leftOf B w).testBit t = w.testBit t
  | [], _, _ => rfl
  | b :: r, w, h => by
    show (leftOf r (min w (w ^^^ b))).testBit t = _
    rw [left_keep fun c hc => h c (List.mem_cons_of_mem _ hc)]
    rcases Nat.le_total w (w ^^^ b) with c | c
    · rw [Nat.min_eq_left c]
    · rw [Nat.min_eq_right c, Nat.testBit_xor, h b List.mem_cons_self, Bool.xor_false]
theorem left_off : ∀ {B : List Nat} {w : Nat}, Plain B → ∀ b, b ∈ B → (leftOf B w).testBit b.log2 = false
  | c :: r, w, h, b, hb => by
    show (leftOf r (min w (w ^^^ c))).testBit b.log2 = false
    rcases List.mem_cons.mp hb with rfl | hb
    · rw [left_keep fun d hd => (h.head d hd).2, min_xor (h.nz b List.mem_cons_self)]
      by_cases q : w.testBit b.log2 = true
      · rw [if_pos q, Nat.testBit_xor, q, Nat.testBit_log2 (h.nz b List.mem_cons_self)]
        rfl
      · rw [if_neg q]
        cases z : w.testBit b.log2 with
        | false => rfl
        | true => exact absurd z q
    · exact left_off h.tail b hb
/-- a sum of the words that is off at all highest places is 0 -/
theorem sp_zero_of : ∀ {B : List Nat} {v : Nat}, Plain B → sp B v = true → (∀ b, b ∈ B → v.testBit b.log2 = false) → v = 0
  | [], _, _, h, _ => sp_nil.mp h
  | b :: r, v, hp, h, o => by
    rcases sp_cons.mp h with h | h
    · exact sp_zero_of hp.tail h fun c hc => o c (List.mem_cons_of_mem _ hc)
    · have e := sp_off (t := b.log2) (fun c hc => (hp.head c hc).2) h
      rw [Nat.testBit_xor, o b List.mem_cons_self, Nat.testBit_log2 (hp.nz b List.mem_cons_self)] at e
      cases e
theorem left_zero {B : List Nat} (h : Plain B) (w : Nat) : leftOf B w = 0 ↔ sp B w = true := by
  have s := left_span B w
  refine ⟨fun e => ?_, fun k => ?_⟩
  · rw [e, Nat.xor_zero] at s
    exact s
  · refine sp_zero_of h ?_ (left_off h)
    have q := sp_xor k s
    rw [← Nat.xor_assoc, Nat.xor_self, Nat.zero_xor] at q
    exact q

/-! ### a further word -/
def redOf (l : Nat) (B : List Nat) : List Nat := B.map (fun o => min o (o ^^^ l))
theorem red_log {l o : Nat} (ho : o ≠ 0) (hl : l ≠ 0) (k : l.testBit o.log2 = false) : (min o (o ^^^ l)).log2 = o.log2 ∧ min o (o ^^^ l) ≠ 0 ∧ (min o (o ^^^ l)).testBit l.log2 = false := by
  rw [min_xor hl]
  by_cases c : o.testBit l.log2 = true
  · rw [if_pos c]
    have le : ¬ o.log2 < l.log2 := fun q => by
      rw [bit_gt_log q] at c
      cases c
    have ne : l.log2 ≠ o.log2 := fun q => by
      rw [← q, Nat.testBit_log2 hl] at k
      cases k
    obtain ⟨h1, h2⟩ := log2_xor ho (b := l) (by omega)
    refine ⟨h1, h2, ?_⟩
    rw [Nat.testBit_xor, c, Nat.testBit_log2 hl]
    rfl
  · rw [if_neg c]
    refine ⟨rfl, ho, ?_⟩
    cases z : o.testBit l.log2 with
    | false => rfl
    | true => exact absurd z c
theorem red_bit {l o t : Nat} (k : l.testBit t = false) : (min o (o ^^^ l)).testBit t = o.testBit t := by
  rcases Nat.le_total o (o ^^^ l) with c | c
  · rw [Nat.min_eq_left c]
  · rw [Nat.min_eq_right c, Nat.testBit_xor, k, Bool.xor_false]
theorem with_plain {B : List Nat} {l : Nat} (h : Plain B) (hl : l ≠ 0) (o : ∀ b, b ∈ B → l.testBit b.log2 = false) : Plain (redOf l B ++ [l]) := by
  refine ⟨fun b hb => ?_, ?_⟩
  · rcases List.mem_append.mp hb with hb | hb
    · obtain ⟨c, hc, rfl⟩ := List.mem_map.mp hb
      exact (red_log (h.nz c hc) hl (o c hc)).2.1
    · rw [List.mem_singleton.mp hb]
      exact hl
  · refine List.pairwise_append.mpr ⟨?_, List.pairwise_singleton _ _, fun a ha b hb => ?_⟩
    · unfold redOf
      rw [List.pairwise_map]
      refine h.rr.imp_of_mem fun {a b} ha hb r => ?_
      unfold Rr
      rw [(red_log (h.nz a ha) hl (o a ha)).1, (red_log (h.nz b hb) hl (o b hb)).1, red_bit (o b hb), red_bit (o a ha)]
      exact r
    · obtain ⟨c, hc, rfl⟩ := List.mem_map.mp ha
      rw [List.mem_singleton.mp hb]
      obtain ⟨h1, _, h3⟩ := red_log (h.nz c hc) hl (o c hc)
      refine ⟨h3, ?_⟩
      rw [h1]
      exact o c hc
theorem red_span {B : List Nat} (l : Nat) {S : List Nat} (hB : ∀ b, b ∈ B → sp S b = true) (hl : sp S l = true) : ∀ b, b ∈ redOf l B ++ [l] → sp S b = true := fun b hb => by
  rcases List.mem_append.mp hb with hb | hb
  · obtain ⟨c, hc, rfl⟩ := List.mem_map.mp hb
    rcases Nat.le_total c (c ^^^ l) with q | q
    · rw [Nat.min_eq_left q]
      exact hB c hc
    · rw [Nat.min_eq_right q]
      exact sp_xor (hB c hc) hl
  · rw [List.mem_singleton.mp hb]
    exact hl
theorem with_span {B : List Nat} {w : Nat} (v : Nat) : sp (redOf (leftOf B w) B ++ [leftOf B w]) v = sp (w :: B) v := by
  have s := left_span B w
  have up : ∀ u, sp B u = true → sp (w :: B) u = true := fun u hu => sp_cons.mpr (.inl hu)
  have wl : sp (w :: B) (leftOf B w) = true := by
    have q := sp_xor (sp_mem (B := w :: B) List.mem_cons_self) (up _ s)
    rw [← Nat.xor_assoc, Nat.xor_self, Nat.zero_xor] at q
    exact q
  have hl : sp (redOf (leftOf B w) B ++ [leftOf B w]) (leftOf B w) = true := sp_mem (List.mem_append_right _ List.mem_cons_self)
  have hB : ∀ b, b ∈ B → sp (redOf (leftOf B w) B ++ [leftOf B w]) b = true := fun b hb => by
    have m : min b (b ^^^ leftOf B w) ∈ redOf (leftOf B w) B ++ [leftOf B w] := List.mem_append_left _ (List.mem_map.mpr ⟨b, hb, rfl⟩)
    have q := sp_mem m
    rcases Nat.le_total b (b ^^^ leftOf B w) with c | c
    · rw [Nat.min_eq_left c] at q
      exact q
    · rw [Nat.min_eq_right c] at q
      have z := sp_xor q hl
      rw [xor_self2] at z
      exact z
  refine sp_eq (red_span _ (fun b hb => up b (sp_mem hb)) wl) (fun b hb => ?_) v
  rcases List.mem_cons.mp hb with rfl | hb
  · have q := sp_xor (sp_le hB s) hl
    rw [xor_self2] at q
    exact q
  · exact hB b hb
/-- what the def with_word gives -/
structure IsWith (B : List Nat) (w : Nat) (B' : List Nat) : Prop where
  plain : Plain B'
  span : ∀ v, sp B' v = sp (w :: B) v
theorem isWith_same {B : List Nat} {w : Nat} (h : Plain B) (e : leftOf B w = 0) : IsWith B w B := by
  refine ⟨h, fun v => ?_⟩
  have k := (left_zero h w).mp e
  refine sp_eq (fun b hb => sp_mem (List.mem_cons_of_mem _ hb)) (fun b hb => ?_) v
  rcases List.mem_cons.mp hb with rfl | hb
  · exact k
  · exact sp_mem hb
theorem sp_perm {A B : List Nat} (p : A.Perm B) (v : Nat) : sp A v = sp B v := sp_eq (fun a ha => sp_mem (p.mem_iff.mp ha)) (fun b hb => sp_mem (p.mem_iff.mpr hb)) v
theorem isWith_new {B : List Nat} {w : Nat} {B' : List Nat} (h : Plain B) (e : leftOf B w ≠ 0) (p : (redOf (leftOf B w) B ++ [leftOf B w]).Perm B') : IsWith B w B' :=
  ⟨(with_plain h e (left_off h)).perm p, fun v => (sp_perm p v).symm.trans (with_span v)⟩
/-- what the def plain_basis gives -/
structure IsBasis (W B : List Nat) : Prop where
  plain : Plain B
  span : ∀ v, sp B v = sp W v
theorem IsBasis.nil : IsBasis [] [] := ⟨Plain.nil, fun _ => rfl⟩
theorem IsBasis.step {W B B' : List Nat} {w : Nat} (h : IsBasis W B) (k : IsWith B w B') : IsBasis (W ++ [w]) B' := by
  refine ⟨k.plain, fun v => ?_⟩
  rw [k.span]
  refine sp_eq (fun b hb => ?_) (fun b hb => ?_) v
  · rcases List.mem_cons.mp hb with rfl | hb
    · exact sp_mem (List.mem_append_right _ List.mem_cons_self)
    · have q := sp_mem hb
      rw [h.span] at q
      exact sp_le (fun a ha => sp_mem (List.mem_append_left _ ha)) q
  · rcases List.mem_append.mp hb with hb | hb
    · refine sp_cons.mpr (.inl ?_)
      rw [h.span]
      exact sp_mem hb
    · rw [List.mem_singleton.mp hb]
      exact sp_mem List.mem_cons_self
/-- a lot of words is told by its sums: those of a plain basis are below what all are -/
theorem IsBasis.lt {n : Nat} {W B : List Nat} (h : IsBasis W B) (l : Lt n W) : Lt n B := fun b hb => by
  have q := sp_mem hb
  rw [h.span] at q
  exact sp_lt l q
end Oc

set_option linter.unusedVariables false
namespace Oc
/-! ### weights -/
def wtN : Nat → Nat → Nat
  | 0, _ => 0
  | n + 1, v => wtN n v + if v.testBit n = true then 1 else 0
def wt (v : Nat) : Nat := wtN 24 v
theorem wtN_lt {n v : Nat} (h : v < 2 ^ n) : ∀ k : Nat, wtN (n + k) v = wtN n v
  | 0 => rfl
  | k + 1 => by
    show wtN (n + k) v + (if v.testBit (n + k) = true then 1 else 0) = wtN n v
    rw [wtN_lt h k, Nat.testBit_lt_two_pow (Nat.lt_of_lt_of_le h (Nat.pow_le_pow_right (by decide) (Nat.le_add_right n k)))]
    rfl
theorem wt_eq {n v : Nat} (h : v < 2 ^ n) (hn : n ≤ 24) : wt v = wtN n v := by
  have e := wtN_lt h (24 - n)
  rw [show n + (24 - n) = 24 by omega] at e
  exact e
theorem wtN_le : ∀ (n v : Nat), wtN n v ≤ n
  | 0, _ => Nat.le_refl 0
  | n + 1, v => by
    have h := wtN_le n v
    show wtN n v + (if v.testBit n = true then 1 else 0) ≤ n + 1
    split <;> omega
def halvesN : List Nat := [0, 1, 1, 2, 1, 2, 2, 3, 1, 2, 2, 3, 2, 3, 3, 4]
def hv (i : Nat) : Nat := halvesN.getD i 0
theorem hv_eq : ∀ i : Nat, i < 16 → hv i = wtN 4 i := by decide
theorem wt_halves {v : Nat} (h : v < 2 ^ 24) : hv (v &&& 15) + hv (v / 2 ^ 4 &&& 15) + hv (v / 2 ^ 8 &&& 15) + hv (v / 2 ^ 12 &&& 15) + hv (v / 2 ^ 16 &&& 15) + hv (v / 2 ^ 20) = wt v := by
  have lt : ∀ x : Nat, x &&& 15 < 16 := fun x => Nat.and_lt_two_pow x (show 15 < 2 ^ 4 by decide)
  have l5 : v / 2 ^ 20 < 16 := by omega
  have b15 : ∀ i : Nat, i < 4 → Nat.testBit 15 i = true := by decide
  have w4 : ∀ x : Nat, wtN 4 x = (if x.testBit 0 = true then 1 else 0) + (if x.testBit 1 = true then 1 else 0) + (if x.testBit 2 = true then 1 else 0) + (if x.testBit 3 = true then 1 else 0) := fun x => by
    show 0 + _ + _ + _ + _ = _
    rw [Nat.zero_add]
  have part : ∀ k : Nat, wtN 4 (v / 2 ^ k) = (if v.testBit k = true then 1 else 0) + (if v.testBit (k + 1) = true then 1 else 0) + (if v.testBit (k + 2) = true then 1 else 0) + (if v.testBit (k + 3) = true then 1 else 0) := fun k => by
    rw [w4, ← Nat.testBit_add, ← Nat.testBit_add, ← Nat.testBit_add, ← Nat.testBit_add, Nat.zero_add, Nat.add_comm 1, Nat.add_comm 2, Nat.add_comm 3]
  have mask : ∀ x : Nat, wtN 4 (x &&& 15) = wtN 4 x := fun x => by
    rw [w4, w4]
    simp only [Nat.testBit_and, b15 0 (by decide), b15 1 (by decide), b15 2 (by decide), b15 3 (by decide), Bool.and_true]
  have p0 := part 0
  rw [Nat.pow_zero, Nat.div_one] at p0
  rw [hv_eq _ (lt _), hv_eq _ (lt _), hv_eq _ (lt _), hv_eq _ (lt _), hv_eq _ (lt _), hv_eq _ l5, mask, mask, mask, mask, mask, p0, part 4, part 8, part 12, part 16, part 20]
  show _ = 0 + _ + _ + _ + _ + _ + _ + _ + _ + _ + _ + _ + _ + _ + _ + _ + _ + _ + _ + _ + _ + _ + _ + _ + _
  simp only [Nat.zero_add, Nat.add_assoc, Nat.reduceAdd]
/-! ### the places of a word -/
def spots (v : Nat) : List Nat := (List.range 24).filter fun i => v.testBit i
theorem and1 (v i : Nat) : (v / 2 ^ i &&& 1 = 1) ↔ v.testBit i = true := by
  rw [Nat.and_one_is_mod, Nat.testBit_eq_decide_div_mod_eq, decide_eq_true_eq]
theorem spots_last {b : Nat} (h0 : b ≠ 0) (h : b < 2 ^ 24) : ∃ l, spots b = l ++ [b.log2] := by
  have key : ∀ k : Nat, (List.range (b.log2 + 1 + k)).filter (fun i => b.testBit i) = (List.range b.log2).filter (fun i => b.testBit i) ++ [b.log2] := fun k => by
    induction k with
    | zero =>
      show (List.range (b.log2 + 1)).filter _ = _
      rw [List.range_succ, List.filter_append, List.filter_cons, if_pos (Nat.testBit_log2 h0)]
      rfl
    | succ k ih =>
      show (List.range (b.log2 + 1 + k + 1)).filter _ = _
      rw [List.range_succ, List.filter_append, ih, List.filter_cons, if_neg (by rw [bit_gt_log (by omega)]; decide)]
      exact List.append_nil _
  have hl := (Nat.log2_lt h0).mpr h
  refine ⟨(List.range b.log2).filter (fun i => b.testBit i), ?_⟩
  unfold spots
  rw [show 24 = b.log2 + 1 + (24 - (b.log2 + 1)) by omega]
  exact key _
theorem spots_mem {v i : Nat} (h : v < 2 ^ 24) : i ∈ spots v ↔ v.testBit i = true := by
  unfold spots
  rw [List.mem_filter, List.mem_range]
  refine ⟨fun q => q.2, fun q => ⟨?_, q⟩⟩
  refine Nat.lt_of_not_le fun c => ?_
  rw [Nat.testBit_lt_two_pow (Nat.lt_of_lt_of_le h (Nat.pow_le_pow_right (by decide) c))] at q
  cases q
theorem spots_nodup (v : Nat) : (spots v).Nodup := List.Nodup.sublist List.filter_sublist List.nodup_range
theorem spots_len (v : Nat) : (spots v).length ≤ 24 := by
  have h := List.length_filter_le (fun i => v.testBit i) (List.range 24)
  rw [List.length_range] at h
  exact h
/-! ### sums of unlike powers -/
theorem add_pow {x e : Nat} (h : x.testBit e = false) : 2 ^ e + x = x ^^^ 2 ^ e := by
  refine Nat.eq_of_testBit_eq fun i => ?_
  rw [Nat.testBit_xor, Nat.testBit_two_pow]
  rcases Nat.lt_trichotomy i e with c | c | c
  · rw [Nat.testBit_two_pow_add_gt c, decide_eq_false (by omega), Bool.xor_false]
  · subst c
    rw [Nat.testBit_two_pow_add_eq, h, decide_eq_true rfl]
    rfl
  · rw [decide_eq_false (by omega), Bool.xor_false]
    obtain ⟨j, rfl⟩ : ∃ j, i = j + (e + 1) := ⟨i - (e + 1), by omega⟩
    rw [Nat.testBit_add, Nat.testBit_add]
    congr 1
    have r : x % 2 ^ (e + 1) < 2 ^ e := by
      have q : x.testBit e = decide (x / 2 ^ e % 2 = 1) := Nat.testBit_eq_decide_div_mod_eq
      rw [h] at q
      have q2 := of_decide_eq_false q.symm
      have q3 : x % 2 ^ (e + 1) / 2 ^ e = 0 := by
        rw [Nat.pow_succ, Nat.mod_mul_right_div_self]
        omega
      exact (Nat.div_eq_zero_iff_lt (Nat.two_pow_pos e)).mp q3
    have m := Nat.div_add_mod x (2 ^ (e + 1))
    have hp : 2 ^ (e + 1) = 2 ^ e + 2 ^ e := by rw [Nat.pow_succ]; omega
    have e1 : 2 ^ e + x = 2 ^ (e + 1) * (x / 2 ^ (e + 1)) + (2 ^ e + x % 2 ^ (e + 1)) := by omega
    rw [e1, Nat.mul_add_div (Nat.two_pow_pos _), (Nat.div_eq_zero_iff_lt (Nat.two_pow_pos _)).mpr (by omega : 2 ^ e + x % 2 ^ (e + 1) < 2 ^ (e + 1)), Nat.add_zero]
/-- the word of unlike places -/
def wordBy (L : List Nat) : Nat := (L.map fun e => 2 ^ e).sum
theorem wordBy_bit : ∀ {L : List Nat}, L.Nodup → ∀ i, (wordBy L).testBit i = decide (i ∈ L)
  | [], _, i => by
    show Nat.testBit 0 i = _
    rw [Nat.zero_testBit, decide_eq_false List.not_mem_nil]
  | e :: r, h, i => by
    have h1 := List.nodup_cons.mp h
    have ih := wordBy_bit h1.2
    have e0 : (wordBy r).testBit e = false := by rw [ih, decide_eq_false h1.1]
    show (2 ^ e + wordBy r).testBit i = _
    rw [add_pow e0, Nat.testBit_xor, ih, Nat.testBit_two_pow]
    by_cases c : e = i
    · subst c
      rw [decide_eq_false h1.1, decide_eq_true rfl, decide_eq_true List.mem_cons_self]
      rfl
    · rw [decide_eq_false c, Bool.xor_false]
      exact decide_eq_decide.mpr ⟨fun q => List.mem_cons_of_mem _ q, fun q => (List.mem_cons.mp q).resolve_left fun z => c z.symm⟩
theorem wordBy_lt {n : Nat} {L : List Nat} (h : L.Nodup) (k : ∀ e, e ∈ L → e < n) : wordBy L < 2 ^ n :=
  Nat.lt_pow_two_of_testBit _ fun i hi => by
    rw [wordBy_bit h]
    exact decide_eq_false fun q => absurd (k i q) (by omega)
/-! ### parity -/
def par : Nat → Nat → Bool
  | 0, _ => false
  | n + 1, x => (par n x).xor (x.testBit n)
theorem par_wt : ∀ n x : Nat, par n x = decide (wtN n x % 2 = 1)
  | 0, _ => rfl
  | n + 1, x => by
    show (par n x).xor (x.testBit n) = decide ((wtN n x + if x.testBit n = true then 1 else 0) % 2 = 1)
    rw [par_wt n x]
    cases x.testBit n with
    | false =>
      rw [Bool.xor_false, if_neg Bool.false_ne_true, Nat.add_zero]
    | true =>
      rw [Bool.xor_true, if_pos rfl]
      by_cases c : wtN n x % 2 = 1
      · rw [decide_eq_true c, decide_eq_false (by omega)]
        rfl
      · rw [decide_eq_false c, decide_eq_true (by omega)]
        rfl
theorem par_zero : ∀ n : Nat, par n 0 = false
  | 0 => rfl
  | n + 1 => by
    show (par n 0).xor (Nat.testBit 0 n) = false
    rw [par_zero n, Nat.zero_testBit]
    rfl
theorem par_xor (v a b : Nat) : ∀ n : Nat, par n ((a ^^^ b) &&& v) = (par n (a &&& v)).xor (par n (b &&& v))
  | 0 => rfl
  | n + 1 => by
    show (par n ((a ^^^ b) &&& v)).xor (((a ^^^ b) &&& v).testBit n) = ((par n (a &&& v)).xor ((a &&& v).testBit n)).xor ((par n (b &&& v)).xor ((b &&& v).testBit n))
    rw [par_xor v a b n, Nat.testBit_and, Nat.testBit_xor, Nat.testBit_and, Nat.testBit_and]
    cases par n (a &&& v) <;> cases par n (b &&& v) <;> cases a.testBit n <;> cases b.testBit n <;> cases v.testBit n <;> rfl
theorem par_comm (n a b : Nat) : par n (a &&& b) = par n (b &&& a) := by rw [Nat.and_comm]
theorem par_pow : ∀ {n t : Nat}, t < n → ∀ v : Nat, par n (2 ^ t &&& v) = v.testBit t
  | n + 1, t, h, v => by
    show (par n (2 ^ t &&& v)).xor ((2 ^ t &&& v).testBit n) = _
    rw [Nat.testBit_and, Nat.testBit_two_pow]
    by_cases c : t = n
    · subst c
      have z : ∀ m : Nat, m ≤ t → par m (2 ^ t &&& v) = false := fun m => by
        induction m with
        | zero => intro _; rfl
        | succ m ih =>
          intro hm
          show (par m (2 ^ t &&& v)).xor ((2 ^ t &&& v).testBit m) = false
          rw [ih (by omega), Nat.testBit_and, Nat.testBit_two_pow, decide_eq_false (by omega)]
          rfl
      rw [z t (Nat.le_refl t), decide_eq_true rfl]
      cases v.testBit t <;> rfl
    · rw [par_pow (show t < n by omega) v, decide_eq_false c]
      cases v.testBit t <;> rfl
/-- even to all words -/
def Orth (n : Nat) (B : List Nat) (v : Nat) : Prop := ∀ b, b ∈ B → par n (b &&& v) = false
theorem orth_span {n v u : Nat} {B : List Nat} (h : Orth n B v) (k : sp B u = true) : par n (u &&& v) = false :=
  sp_closed (S := fun u => par n (u &&& v) = false) (by rw [Nat.zero_and]; exact par_zero n) (fun a b ha hb => by rw [par_xor, ha, hb]; rfl) h k
/-! ### the contrary -/
def tops (B : List Nat) : List Nat := B.map Nat.log2
def vgen (B : List Nat) (p : Nat) : Nat := wordBy (tops (B.filter fun b => b.testBit p)) + 2 ^ p
def dualGen (n : Nat) (B : List Nat) : List Nat := ((List.range n).filter fun p => !decide (p ∈ tops B)).map (vgen B)
theorem mem_tops {B : List Nat} {i : Nat} : i ∈ tops B ↔ ∃ b, b ∈ B ∧ b.log2 = i := List.mem_map
theorem tops_nodup : ∀ {B : List Nat}, Plain B → (tops B).Nodup
  | [], _ => List.nodup_nil
  | b :: r, h => by
    refine List.nodup_cons.mpr ⟨fun q => ?_, tops_nodup h.tail⟩
    obtain ⟨c, hc, e⟩ := mem_tops.mp q
    have k := (h.head c hc).2
    rw [← e, Nat.testBit_log2 (h.nz c (List.mem_cons_of_mem _ hc))] at k
    cases k
theorem Plain.filter {B : List Nat} (h : Plain B) (f : Nat → Bool) : Plain (B.filter f) :=
  ⟨fun b hb => h.nz b ((List.mem_filter.mp hb).1), List.Pairwise.sublist List.filter_sublist h.rr⟩
/-- of two words of a plain basis only one and the same is on at the highest place -/
theorem Plain.top {B : List Nat} (h : Plain B) {b c : Nat} (hb : b ∈ B) (hc : c ∈ B) : b.testBit c.log2 = decide (b = c) := by
  by_cases e : b = c
  · subst e
    rw [Nat.testBit_log2 (h.nz b hb), decide_eq_true rfl]
  · rw [decide_eq_false e]
    exact (List.Pairwise.forall_of_forall_of_flip (R := fun b c => b ≠ c → b.testBit c.log2 = false) (fun x _ z => absurd rfl z) (h.rr.imp fun r _ => r.1) (h.rr.imp fun r _ => r.2) hb hc) e
theorem vgen_bit {B : List Nat} (h : Plain B) {p : Nat} (hp : p ∉ tops B) (i : Nat) : (vgen B p).testBit i = decide (i = p ∨ ∃ b, b ∈ B ∧ b.testBit p = true ∧ b.log2 = i) := by
  have nd := tops_nodup (h.filter fun b => b.testBit p)
  have np : p ∉ tops (B.filter fun b => b.testBit p) := fun q => hp (by
    obtain ⟨b, hb, e⟩ := mem_tops.mp q
    exact mem_tops.mpr ⟨b, (List.mem_filter.mp hb).1, e⟩)
  have z : (wordBy (tops (B.filter fun b => b.testBit p))).testBit p = false := by rw [wordBy_bit nd, decide_eq_false np]
  unfold vgen
  rw [Nat.add_comm, add_pow z, Nat.testBit_xor, wordBy_bit nd, Nat.testBit_two_pow]
  by_cases c : i = p
  · subst c
    rw [decide_eq_false np, decide_eq_true rfl, decide_eq_true (.inl rfl)]
    rfl
  · rw [decide_eq_false (fun q : p = i => c q.symm), Bool.xor_false]
    refine decide_eq_decide.mpr ⟨fun q => ?_, fun q => ?_⟩
    · obtain ⟨b, hb, e⟩ := mem_tops.mp q
      exact .inr ⟨b, (List.mem_filter.mp hb).1, (List.mem_filter.mp hb).2, e⟩
    · rcases q with q | ⟨b, hb, h2, e⟩
      · exact absurd q c
      · exact mem_tops.mpr ⟨b, List.mem_filter.mpr ⟨hb, h2⟩, e⟩
theorem tops_lt {n : Nat} {B : List Nat} (h : Plain B) (l : Lt n B) {i : Nat} (hi : i ∈ tops B) : i < n := by
  obtain ⟨b, hb, rfl⟩ := mem_tops.mp hi
  exact (Nat.log2_lt (h.nz b hb)).mpr (l b hb)
theorem vgen_lt {n : Nat} {B : List Nat} (h : Plain B) (l : Lt n B) {p : Nat} (hp : p ∉ tops B) (hn : p < n) : vgen B p < 2 ^ n :=
  Nat.lt_pow_two_of_testBit _ fun i hi => by
    rw [vgen_bit h hp]
    refine decide_eq_false fun q => ?_
    rcases q with rfl | ⟨b, hb, _, rfl⟩
    · omega
    · have := tops_lt h l (mem_tops.mpr ⟨b, hb, rfl⟩)
      omega
theorem mem_dual {n : Nat} {B : List Nat} {v : Nat} : v ∈ dualGen n B ↔ ∃ p, p < n ∧ p ∉ tops B ∧ v = vgen B p := by
  unfold dualGen
  rw [List.mem_map]
  constructor
  · rintro ⟨p, hp, rfl⟩
    obtain ⟨h1, h2⟩ := List.mem_filter.mp hp
    refine ⟨p, List.mem_range.mp h1, fun q => ?_, rfl⟩
    rw [decide_eq_true q] at h2
    cases h2
  · rintro ⟨p, h1, h2, rfl⟩
    exact ⟨p, List.mem_filter.mpr ⟨List.mem_range.mpr h1, by rw [decide_eq_false h2]; rfl⟩, rfl⟩
theorem dual_lt {n : Nat} {B : List Nat} (h : Plain B) (l : Lt n B) : Lt n (dualGen n B) := fun v hv => by
  obtain ⟨p, h1, h2, rfl⟩ := mem_dual.mp hv
  exact vgen_lt h l h2 h1
/-- words that meet in at most two places told -/
theorem par_two {n x p t : Nat} (hp : p < n) (ht : t < n) (hne : p ≠ t) (h : ∀ i, x.testBit i = (decide (i = p ∨ i = t) && x.testBit p)) : par n x = false := by
  cases c : x.testBit p with
  | false =>
    have e : x = 0 := Nat.eq_of_testBit_eq fun i => by rw [h i, c, Bool.and_false, Nat.zero_testBit]
    rw [e]
    exact par_zero n
  | true =>
    have e : x = (2 ^ p ^^^ 2 ^ t) &&& x := Nat.eq_of_testBit_eq fun i => by
      rw [Nat.testBit_and, Nat.testBit_xor, Nat.testBit_two_pow, Nat.testBit_two_pow, h i, c]
      by_cases c1 : i = p
      · subst c1
        rw [decide_eq_true (.inl rfl), decide_eq_true rfl, decide_eq_false (fun q : t = i => hne q.symm)]
        rfl
      · by_cases c2 : i = t
        · subst c2
          rw [decide_eq_true (.inr rfl), decide_eq_true rfl, decide_eq_false (fun q : p = i => c1 q.symm)]
          rfl
        · rw [decide_eq_false (fun q => q.elim c1 c2), Bool.false_and, Bool.and_false]
    have ht2 : x.testBit t = true := by
      rw [h t, decide_eq_true (.inr rfl), c]
      rfl
    rw [e, par_xor, par_pow hp, par_pow ht, c, ht2]
    rfl
theorem dual_even {n : Nat} {B : List Nat} (h : Plain B) (l : Lt n B) {b v : Nat} (hb : b ∈ B) (hv : v ∈ dualGen n B) : par n (b &&& v) = false := by
  obtain ⟨p, h1, h2, rfl⟩ := mem_dual.mp hv
  have ht : b.log2 < n := tops_lt h l (mem_tops.mpr ⟨b, hb, rfl⟩)
  have hne : p ≠ b.log2 := fun q => h2 (mem_tops.mpr ⟨b, hb, q.symm⟩)
  refine par_two h1 ht hne fun i => ?_
  have ep : (vgen B p).testBit p = true := by rw [vgen_bit h h2, decide_eq_true (.inl rfl)]
  rw [Nat.testBit_and, Nat.testBit_and, ep, Bool.and_true, vgen_bit h h2]
  by_cases c1 : i = p
  · subst c1
    rw [decide_eq_true (.inl rfl), decide_eq_true (.inl rfl), Bool.and_true, Bool.true_and]
  · by_cases c2 : i = b.log2
    · subst c2
      rw [Nat.testBit_log2 (h.nz b hb), Bool.true_and, decide_eq_true (p := b.log2 = p ∨ b.log2 = b.log2) (.inr rfl), Bool.true_and]
      cases c3 : b.testBit p with
      | true => exact decide_eq_true (.inr ⟨b, hb, c3, rfl⟩)
      | false =>
        refine decide_eq_false fun q => ?_
        rcases q with q | ⟨c, hc, c4, e⟩
        · exact c1 q
        · have k := h.top hb hc
          rw [e, Nat.testBit_log2 (h.nz b hb)] at k
          have := of_decide_eq_true k.symm
          subst this
          rw [c3] at c4
          cases c4
    · rw [decide_eq_false (p := i = p ∨ i = b.log2) (fun q => q.elim c1 c2), Bool.false_and]
      cases c3 : b.testBit i with
      | false => rfl
      | true =>
        rw [Bool.true_and]
        refine decide_eq_false fun q => ?_
        rcases q with q | ⟨c, hc, _, e⟩
        · exact c1 q
        · have k := h.top hb hc
          rw [e, c3] at k
          have := of_decide_eq_true k.symm
          subst this
          exact c2 e.symm
/-- a word that is even to all words and on at highest places alone is 0 -/
theorem even_tops {n : Nat} {B : List Nat} (h : Plain B) (l : Lt n B) {u : Nat} (hu : u < 2 ^ n) (ho : Orth n B u) (k : ∀ i, i < n → i ∉ tops B → u.testBit i = false) : u = 0 := by
  refine Nat.eq_of_testBit_eq fun i => ?_
  rw [Nat.zero_testBit]
  by_cases hi : i < n
  · by_cases c : i ∈ tops B
    · obtain ⟨b, hb, rfl⟩ := mem_tops.mp c
      have e : b &&& u = 2 ^ b.log2 &&& u := Nat.eq_of_testBit_eq fun j => by
        rw [Nat.testBit_and, Nat.testBit_and, Nat.testBit_two_pow]
        by_cases cj : j < n
        · by_cases ct : j ∈ tops B
          · obtain ⟨d, hd, rfl⟩ := mem_tops.mp ct
            rw [h.top hb hd]
            by_cases q : b = d
            · rw [decide_eq_true q, q, decide_eq_true rfl]
            · have q2 : ¬ b.log2 = d.log2 := fun z => q (by
                have z2 := h.top hb hd
                rw [← z, Nat.testBit_log2 (h.nz b hb)] at z2
                exact of_decide_eq_true z2.symm)
              rw [decide_eq_false q, decide_eq_false q2]
          · rw [k j cj ct, Bool.and_false, Bool.and_false]
        · rw [Nat.testBit_lt_two_pow (Nat.lt_of_lt_of_le hu (Nat.pow_le_pow_right (by decide) (by omega))), Bool.and_false, Bool.and_false]
      have o := ho b hb
      rw [e, par_pow hi] at o
      exact o
    · exact k i hi c
  · exact Nat.testBit_lt_two_pow (Nat.lt_of_lt_of_le hu (Nat.pow_le_pow_right (by decide) (by omega)))
theorem orth_xor {n : Nat} {B : List Nat} {u v : Nat} (hu : Orth n B u) (hv : Orth n B v) : Orth n B (u ^^^ v) := fun b hb => by
  rw [par_comm, par_xor, par_comm n u, par_comm n v, hu b hb, hv b hb]
  rfl
/-- the contrary's words -/
theorem dual_sp {n : Nat} {B : List Nat} (h : Plain B) (l : Lt n B) {v : Nat} (hv : v < 2 ^ n) : sp (dualGen n B) v = true ↔ Orth n B v := by
  constructor
  · intro k b hb
    rw [par_comm]
    refine orth_span (B := dualGen n B) (fun d hd => ?_) k
    rw [par_comm]
    exact dual_even h l hb hd
  · intro ho
    have step : ∀ m : Nat, m ≤ n → ∃ u, sp (dualGen n B) u = true ∧ ∀ q, q < m → q ∉ tops B → (v ^^^ u).testBit q = false := fun m => by
      induction m with
      | zero => exact fun _ => ⟨0, sp_zero _, fun q hq => absurd hq (Nat.not_lt_zero _)⟩
      | succ m ih =>
        intro hm
        obtain ⟨u, hu, hk⟩ := ih (by omega)
        by_cases c : m ∈ tops B ∨ (v ^^^ u).testBit m = false
        · refine ⟨u, hu, fun q hq ht => ?_⟩
          by_cases e : q = m
          · subst e
            exact c.resolve_left ht
          · exact hk q (by omega) ht
        · have c1 : m ∉ tops B := fun z => c (.inl z)
          have c2 : (v ^^^ u).testBit m = true := by
            cases z : (v ^^^ u).testBit m with
            | true => rfl
            | false => exact absurd (.inr z) c
          have hg : vgen B m ∈ dualGen n B := mem_dual.mpr ⟨m, by omega, c1, rfl⟩
          refine ⟨u ^^^ vgen B m, sp_xor hu (sp_mem hg), fun q hq ht => ?_⟩
          rw [← Nat.xor_assoc, Nat.testBit_xor, vgen_bit h c1]
          have nb : ¬ ∃ b, b ∈ B ∧ b.testBit m = true ∧ b.log2 = q := fun ⟨b, hb, _, e⟩ => ht (mem_tops.mpr ⟨b, hb, e⟩)
          by_cases e : q = m
          · subst e
            rw [c2, decide_eq_true (.inl rfl)]
            rfl
          · rw [hk q (by omega) ht, decide_eq_false (fun z => z.elim e nb)]
            rfl
    obtain ⟨u, hu, hk⟩ := step n (Nat.le_refl n)
    have hul := sp_lt (dual_lt h l) hu
    have ou : Orth n B u := fun b hb => by
      rw [par_comm]
      refine orth_span (B := dualGen n B) (fun d hd => ?_) hu
      rw [par_comm]
      exact dual_even h l hb hd
    have e := even_tops h l (xor_lt hv hul) (orth_xor ho ou) hk
    have e2 : v = u := by
      have z := congrArg (fun x => x ^^^ u) e
      rw [xor_self2, Nat.zero_xor] at z
      exact z
    rw [e2]
    exact hu
/-- what is even to the contrary is in the room -/
theorem dual_dual {n : Nat} {B : List Nat} (h : Plain B) (l : Lt n B) {v : Nat} (hv : v < 2 ^ n) : Orth n (dualGen n B) v ↔ sp B v = true := by
  constructor
  · intro ho
    have s := left_span B v
    have hw := left_lt l hv
    refine (left_zero h v).mp (Nat.eq_of_testBit_eq fun i => ?_)
    rw [Nat.zero_testBit]
    by_cases hi : i < n
    · by_cases c : i ∈ tops B
      · obtain ⟨b, hb, rfl⟩ := mem_tops.mp c
        exact left_off h b hb
      · have hg : vgen B i ∈ dualGen n B := mem_dual.mpr ⟨i, hi, c, rfl⟩
        have o1 := ho _ hg
        have o2 : par n (vgen B i &&& (v ^^^ leftOf B v)) = false := by
          rw [par_comm]
          exact orth_span (fun b hb => dual_even h l hb hg) s
        have o3 : par n (vgen B i &&& leftOf B v) = false := by
          rw [par_comm, par_xor, par_comm n v, par_comm n (leftOf B v), o1] at o2
          cases z : par n (vgen B i &&& leftOf B v) with
          | false => rfl
          | true =>
            rw [z] at o2
            cases o2
        have e : vgen B i &&& leftOf B v = 2 ^ i &&& leftOf B v := Nat.eq_of_testBit_eq fun j => by
          rw [Nat.testBit_and, Nat.testBit_and, Nat.testBit_two_pow, vgen_bit h c]
          by_cases q : j = i
          · subst q
            rw [decide_eq_true (.inl rfl), decide_eq_true rfl]
          · rw [decide_eq_false (fun z : i = j => q z.symm), Bool.false_and]
            by_cases q2 : ∃ b, b ∈ B ∧ b.testBit i = true ∧ b.log2 = j
            · obtain ⟨b, hb, _, rfl⟩ := q2
              rw [left_off h b hb, Bool.and_false]
            · rw [decide_eq_false (fun z => z.elim q q2), Bool.false_and]
        rw [e, par_pow hi] at o3
        exact o3
    · exact Nat.testBit_lt_two_pow (Nat.lt_of_lt_of_le hw (Nat.pow_le_pow_right (by decide) (by omega)))
  · intro k d hd
    rw [par_comm]
    exact orth_span (fun b hb => dual_even h l hb hd) k
/-- the same of a plain basis of the contrary -/
theorem orth_basis {n : Nat} {W C : List Nat} (h : IsBasis W C) (v : Nat) : Orth n C v ↔ Orth n W v :=
  ⟨fun o w hw => orth_span o (by rw [h.span]; exact sp_mem hw), fun o c hc => orth_span o (by rw [← h.span]; exact sp_mem hc)⟩
end Oc

set_option linter.unusedVariables false
namespace Oc
/-! ### lists of a function's values -/
def lf (m : Nat) (f : Nat → Int) : List Int := (List.range m).map f
theorem lf_len (m : Nat) (f : Nat → Int) : (lf m f).length = m := by
  unfold lf
  rw [List.length_map, List.length_range]
theorem lf_at {m i : Nat} (f : Nat → Int) (h : i < m) : (lf m f)[i]? = some (f i) := by
  unfold lf
  rw [List.getElem?_map, List.getElem?_range h]
  rfl
theorem lf_none {m i : Nat} (f : Nat → Int) (h : m ≤ i) : (lf m f)[i]? = none := List.getElem?_eq_none_iff.mpr (by rw [lf_len]; exact h)
theorem lf_congr {m : Nat} {f g : Nat → Int} (h : ∀ i, i < m → f i = g i) : lf m f = lf m g := List.map_congr_left fun i hi => h i (List.mem_range.mp hi)
theorem lf_succ (m : Nat) (f : Nat → Int) : lf (m + 1) f = lf m f ++ [f m] := by
  unfold lf
  rw [List.range_succ, List.map_append]
  rfl
theorem sum_lf (f : Nat → Int) : ∀ m : Nat, (lf m f).sum = sm m f
  | 0 => rfl
  | m + 1 => by
    rw [lf_succ, List.sum_append, sum_lf f m]
    show sm m f + (f m + 0) = sm m f + f m
    rw [Int.add_zero]
theorem lf_ext {l : List Int} {m : Nat} {f : Nat → Int} (h1 : l.length = m) (h2 : ∀ i, i < m → l[i]? = some (f i)) : l = lf m f := by
  refine List.ext_getElem? fun i => ?_
  by_cases c : i < m
  · rw [h2 i c, lf_at f c]
  · rw [lf_none f (by omega), List.getElem?_eq_none_iff.mpr (by omega)]
theorem lf_inj {m : Nat} {f g : Nat → Int} (h : lf m f = lf m g) : ∀ i, i < m → f i = g i := fun i hi => by
  have e := congrArg (fun l : List Int => l[i]?) h
  rw [lf_at f hi, lf_at g hi] at e
  exact Option.some.inj e
theorem lf_rev (n : Nat) (f : Nat → Int) : (lf (n + 1) f).reverse = lf (n + 1) (fun j => f (n - j)) := by
  refine lf_ext (by rw [List.length_reverse, lf_len]) fun i hi => ?_
  rw [List.getElem?_reverse (by rw [lf_len]; exact hi), lf_len, lf_at f (by omega), show n + 1 - 1 - i = n - i by omega]

/-! ### independent words -/
def Ind : List Nat → Prop
  | [] => True
  | b :: r => sp r b = false ∧ Ind r
theorem Plain.ind : ∀ {B : List Nat}, Plain B → Ind B
  | [], _ => trivial
  | b :: r, h => by
    refine ⟨?_, Plain.ind h.tail⟩
    cases c : sp r b with
    | false => rfl
    | true => exact (h.excl c (by rw [Nat.xor_self]; exact sp_zero r)).elim
theorem sb_ind {n : Nat} : ∀ {B : List Nat}, Ind B → Lt n B → ∀ f : Nat → Int, sm (2 ^ n) (fun v => if sp B v = true then f v else 0) = sb B f
  | [], _, _, f => by
    show _ = f 0
    rw [← sm_one (m := 2 ^ n) (k := 0) f (Nat.two_pow_pos n)]
    refine sm_congr fun v _ => ?_
    by_cases c : v = 0
    · rw [if_pos c, if_pos (sp_nil.mpr c)]
    · rw [if_neg c, if_neg fun h => c (sp_nil.mp h)]
  | b :: r, hp, hl, f => by
    have hb : b < 2 ^ n := hl b List.mem_cons_self
    have hr : Lt n r := fun c hc => hl c (List.mem_cons_of_mem _ hc)
    have ex : ∀ v, sp r v = true → sp r (v ^^^ b) = true → False := fun v h1 h2 => by
      have q := sp_xor h1 h2
      rw [← Nat.xor_assoc, Nat.xor_self, Nat.zero_xor, hp.1] at q
      cases q
    have e : sm (2 ^ n) (fun v => if sp (b :: r) v = true then f v else 0) = sm (2 ^ n) (fun v => (if sp r v = true then f v else 0) + (if sp r (v ^^^ b) = true then f v else 0)) := by
      refine sm_congr fun v _ => ?_
      by_cases c1 : sp r v = true
      · rw [if_pos (sp_cons.mpr (.inl c1)), if_pos c1, if_neg (ex v c1), Int.add_zero]
      · by_cases c2 : sp r (v ^^^ b) = true
        · rw [if_pos (sp_cons.mpr (.inr c2)), if_neg c1, if_pos c2, Int.zero_add]
        · rw [if_neg c1, if_neg c2, if_neg fun h => (sp_cons.mp h).elim c1 c2]
          rfl
    rw [e, sm_add, sb_ind hp.2 hr f]
    show _ = sb r f + sb r (fun v => f (v ^^^ b))
    rw [← sb_ind hp.2 hr (fun v => f (v ^^^ b)), ← sm_shift hb (fun v => if sp r (v ^^^ b) = true then f v else 0)]
    congr 1
    exact sm_congr fun v _ => by rw [xor_self2]
/-- one span, one sum -/
theorem sb_same {n : Nat} {A B : List Nat} (ha : Ind A) (hb : Ind B) (la : Lt n A) (lb : Lt n B) (h : ∀ v, v < 2 ^ n → sp A v = sp B v) (f : Nat → Int) : sb A f = sb B f := by
  rw [← sb_ind ha la, ← sb_ind hb lb]
  exact sm_congr fun v hv => by rw [h v hv]
theorem sb_on : ∀ {B : List Nat} {g h : Nat → Int}, (∀ v, sp B v = true → g v = h v) → sb B g = sb B h
  | [], g, h, e => e 0 (sp_zero [])
  | b :: r, g, h, e => by
    show sb r g + sb r (fun v => g (v ^^^ b)) = sb r h + sb r (fun v => h (v ^^^ b))
    rw [sb_on fun v hv => e v (sp_cons.mpr (.inl hv)), sb_on (g := fun v => g (v ^^^ b)) (h := fun v => h (v ^^^ b)) fun v hv => e _ (sp_cons.mpr (.inr (by rw [xor_self2]; exact hv)))]
theorem sb_one : ∀ B : List Nat, sb B (fun _ => 1) = ((2 ^ B.length : Nat) : Int)
  | [] => rfl
  | b :: r => by
    show sb r (fun _ => 1) + sb r (fun _ => 1) = _
    rw [sb_one r, List.length_cons, Nat.pow_succ]
    omega
theorem sb_append : ∀ (A B : List Nat) (g : Nat → Int), sb (A ++ B) g = sb A (fun a => sb B (fun b => g (b ^^^ a)))
  | [], B, g => by
    show sb B g = sb B (fun b => g (b ^^^ 0))
    exact sb_congr fun v => by rw [Nat.xor_zero]
  | a :: r, B, g => by
    show sb (r ++ B) g + sb (r ++ B) (fun v => g (v ^^^ a)) = sb r (fun x => sb B (fun b => g (b ^^^ x))) + sb r (fun x => sb B (fun b => g (b ^^^ (x ^^^ a))))
    rw [sb_append r B g, sb_append r B (fun v => g (v ^^^ a))]
    congr 1
    exact sb_congr fun x => sb_congr fun b => by rw [Nat.xor_assoc]

/-! ### rows -/
def Wb (n : Nat) (B : List Nat) (j : Nat) : Int := sb B (fun v => if wtN n v = j then 1 else 0)
def rowB (n : Nat) (B : List Nat) : List Int := lf (n + 1) (Wb n B)
theorem Wb_same {n m : Nat} {A B : List Nat} (ha : Ind A) (hb : Ind B) (la : Lt m A) (lb : Lt m B) (h : ∀ v, v < 2 ^ m → sp A v = sp B v) : Wb n A = Wb n B := funext fun j => sb_same ha hb la lb h _
theorem group (n : Nat) (B : List Nat) (f : Nat → Int) : sm (n + 1) (fun j => Wb n B j * f j) = sb B (fun v => f (wtN n v)) := by
  have e : sm (n + 1) (fun j => Wb n B j * f j) = sm (n + 1) (fun j => sb B (fun v => if j = wtN n v then f j else 0)) := by
    refine sm_congr fun j _ => ?_
    rw [Int.mul_comm]
    unfold Wb
    rw [← sb_mul]
    refine sb_congr fun v => ?_
    by_cases c : wtN n v = j
    · rw [if_pos c, if_pos c.symm, Int.mul_one]
    · rw [if_neg c, if_neg fun q => c q.symm, Int.mul_zero]
  rw [e, ← sb_sm]
  refine sb_congr fun v => ?_
  exact sm_one f (Nat.lt_succ_of_le (wtN_le n v))
theorem Wb_nonneg {n m : Nat} {B : List Nat} (hi : Ind B) (l : Lt m B) (j : Nat) : 0 ≤ Wb n B j := by
  unfold Wb
  rw [← sb_ind hi l]
  refine sm_nonneg fun v _ => ?_
  split
  · split <;> decide
  · exact Int.le_refl 0
theorem Wb_total (n : Nat) (B : List Nat) : sm (n + 1) (Wb n B) = ((2 ^ B.length : Nat) : Int) := by
  have h := group n B (fun _ => 1)
  rw [sb_one] at h
  rw [← h]
  exact sm_congr fun j _ => (Int.mul_one _).symm
theorem wt_zero : ∀ {n v : Nat}, wtN n v = 0 → ∀ i, i < n → v.testBit i = false
  | n + 1, v, h, i, hi => by
    have h1 : wtN n v + (if v.testBit n = true then 1 else 0) = 0 := h
    by_cases c : i = n
    · subst c
      cases z : v.testBit i with
      | false => rfl
      | true =>
        rw [z, if_pos rfl] at h1
        omega
    · exact wt_zero (n := n) (v := v) (by omega) i (by omega)
theorem wtN_zero : ∀ n : Nat, wtN n 0 = 0
  | 0 => rfl
  | n + 1 => by
    show wtN n 0 + (if Nat.testBit 0 n = true then 1 else 0) = 0
    rw [wtN_zero n, Nat.zero_testBit]
    rfl
theorem zero_of {n v : Nat} (hv : v < 2 ^ n) (h : ∀ i, i < n → v.testBit i = false) : v = 0 := Nat.eq_of_testBit_eq fun i => by
  rw [Nat.zero_testBit]
  by_cases c : i < n
  · exact h i c
  · exact Nat.testBit_lt_two_pow (Nat.lt_of_lt_of_le hv (Nat.pow_le_pow_right (by decide) (by omega)))
theorem Wb_first {n : Nat} {B : List Nat} (hi : Ind B) (l : Lt n B) : Wb n B 0 = 1 := by
  unfold Wb
  rw [← sb_ind hi l]
  have e : sm (2 ^ n) (fun v => if sp B v = true then (if wtN n v = 0 then 1 else 0) else 0) = sm (2 ^ n) (fun v => if v = 0 then (fun _ => (1 : Int)) v else 0) := by
    refine sm_congr fun v hv => ?_
    by_cases c : v = 0
    · subst c
      rw [if_pos (sp_zero B), if_pos (wtN_zero n), if_pos rfl]
    · rw [if_neg c]
      have z : ¬ wtN n v = 0 := fun q => c (zero_of hv (wt_zero q))
      rw [if_neg z]
      split <;> rfl
  rw [e, sm_one _ (Nat.two_pow_pos n)]
theorem sm_const : ∀ m : Nat, sm m (fun _ => 1) = (m : Int)
  | 0 => rfl
  | m + 1 => by
    show sm m (fun _ => 1) + 1 = _
    rw [sm_const m]
    omega
theorem ind_len {n : Nat} {B : List Nat} (hi : Ind B) (l : Lt n B) : B.length ≤ n := by
  have h := sb_ind hi l (fun _ => 1)
  rw [sb_one] at h
  have k := sm_le (m := 2 ^ n) (g := fun v => if sp B v = true then (1 : Int) else 0) (h := fun _ => 1) fun v _ => by
    show (if sp B v = true then (1 : Int) else 0) ≤ 1
    split <;> decide
  rw [h, sm_const] at k
  have k2 : 2 ^ B.length ≤ 2 ^ n := by omega
  exact (Nat.pow_le_pow_iff_right (by decide)).mp k2
theorem Wb_le {n m : Nat} {A B : List Nat} (ha : Ind A) (hb : Ind B) (la : Lt m A) (lb : Lt m B) (h : ∀ v, v < 2 ^ m → sp A v = true → sp B v = true) (j : Nat) : Wb n A j ≤ Wb n B j := by
  unfold Wb
  rw [← sb_ind ha la, ← sb_ind hb lb]
  refine sm_le fun v hv => ?_
  by_cases c : sp A v = true
  · rw [if_pos c, if_pos (h v hv c)]
    exact Int.le_refl _
  · rw [if_neg c]
    split
    · split <;> decide
    · exact Int.le_refl 0

/-! ### characters -/
def chi (n u v : Nat) : Int := if par n (u &&& v) = true then -1 else 1
theorem chi_xor (n a b v : Nat) : chi n (a ^^^ b) v = chi n a v * chi n b v := by
  unfold chi
  rw [par_xor]
  cases par n (a &&& v) <;> cases par n (b &&& v) <;> rfl
theorem chi_sum (n v : Nat) : ∀ B : List Nat, (Orth n B v → sb B (fun u => chi n u v) = ((2 ^ B.length : Nat) : Int)) ∧ (¬ Orth n B v → sb B (fun u => chi n u v) = 0)
  | [] => by
    refine ⟨fun _ => ?_, fun h => absurd (fun b hb => (List.not_mem_nil hb).elim) h⟩
    show chi n 0 v = 1
    unfold chi
    rw [Nat.zero_and, par_zero]
    rfl
  | b :: r => by
    obtain ⟨h1, h2⟩ := chi_sum n v r
    have e : sb (b :: r) (fun u => chi n u v) = sb r (fun u => chi n u v) + chi n b v * sb r (fun u => chi n u v) := by
      show sb r (fun u => chi n u v) + sb r (fun u => chi n (u ^^^ b) v) = _
      rw [← sb_mul]
      congr 1
      exact sb_congr fun u => by rw [chi_xor, Int.mul_comm]
    rw [e]
    by_cases c : Orth n r v
    · rw [h1 c]
      by_cases d : par n (b &&& v) = false
      · refine ⟨fun _ => ?_, fun o => absurd (fun x hx => ?_) o⟩
        · unfold chi
          rw [d, if_neg Bool.false_ne_true, List.length_cons, Nat.pow_succ]
          omega
        · rcases List.mem_cons.mp hx with rfl | hx
          · exact d
          · exact c x hx
      · refine ⟨fun o => absurd (o b List.mem_cons_self) d, fun _ => ?_⟩
        unfold chi
        rw [if_pos (by cases z : par n (b &&& v) with | false => exact absurd z d | true => rfl)]
        omega
    · rw [h2 c]
      exact ⟨fun o => absurd (fun x hx => o x (List.mem_cons_of_mem _ hx)) c, fun _ => by rw [Int.mul_zero]; rfl⟩

/-! ### the table -/
/-- times 1 + s y -/
def tf (s : Int) (f : Nat → Int) : Nat → Int := fun j => f j + s * (if j = 0 then 0 else f (j - 1))
def dl : Nat → Int := fun j => if j = 0 then 1 else 0
theorem tf_comm (s t : Int) (f : Nat → Int) : tf s (tf t f) = tf t (tf s f) := by
  funext j
  unfold tf
  by_cases c0 : j = 0
  · subst c0
    simp only [if_pos, Int.mul_zero, Int.add_zero]
  · simp only [if_neg c0]
    by_cases c1 : j - 1 = 0
    · rw [if_pos c1]
      simp only [Int.mul_zero, Int.add_zero]
      omega
    · rw [if_neg c1]
      rw [Int.mul_add, Int.mul_add, ← Int.mul_assoc, ← Int.mul_assoc, Int.mul_comm t s]
      omega
/-- a times 1 + y, b times 1 - y -/
def pm : Nat → Nat → Int
  | 0 => dl
  | b + 1 => tf (-1) (pm b)
def pq : Nat → Nat → Nat → Int
  | 0, b => pm b
  | a + 1, b => tf 1 (pq a b)
theorem pq_minus : ∀ a b : Nat, tf (-1) (pq a b) = pq a (b + 1)
  | 0, b => rfl
  | a + 1, b => by
    show tf (-1) (tf 1 (pq a b)) = tf 1 (pq a (b + 1))
    rw [tf_comm, pq_minus a b]
/-- the code's way: m factors, the first i of them 1 - y -/
def ef (i : Nat) : Nat → Nat → Int
  | 0 => dl
  | m + 1 => tf (if m < i then -1 else 1) (ef i m)
theorem ef_low (i : Nat) : ∀ m : Nat, m ≤ i → ef i m = pq 0 m
  | 0, _ => rfl
  | m + 1, h => by
    show tf (if m < i then -1 else 1) (ef i m) = pq 0 (m + 1)
    rw [if_pos (by omega), ef_low i m (by omega)]
    rfl
theorem ef_high (i : Nat) : ∀ k : Nat, ef i (i + k) = pq k i
  | 0 => ef_low i i (Nat.le_refl i)
  | k + 1 => by
    show tf (if i + k < i then -1 else 1) (ef i (i + k)) = pq (k + 1) i
    rw [if_neg (by omega), ef_high i k]
    rfl
theorem tf_zero {s : Int} {f : Nat → Int} {m : Nat} (h : ∀ j, m ≤ j → f j = 0) : ∀ j, m + 1 ≤ j → tf s f j = 0 := fun j hj => by
  unfold tf
  rw [h j (by omega), if_neg (by omega), h (j - 1) (by omega), Int.mul_zero]
  rfl
theorem ef_zero (i : Nat) : ∀ m j : Nat, m + 1 ≤ j → ef i m j = 0
  | 0, j, hj => by
    show dl j = 0
    unfold dl
    rw [if_neg (by omega)]
  | m + 1, j, hj => tf_zero (fun j hj => ef_zero i m j hj) j hj
/-- all words by weight, with a character -/
def Fu (n u : Nat) : Nat → Int := fun j => sm (2 ^ n) (fun v => if wtN n v = j then chi n u v else 0)
theorem wt_up {n v : Nat} (hv : v < 2 ^ n) : wtN (n + 1) v = wtN n v ∧ wtN (n + 1) (v ^^^ 2 ^ n) = wtN n v + 1 := by
  have b0 : v.testBit n = false := Nat.testBit_lt_two_pow hv
  refine ⟨?_, ?_⟩
  · show wtN n v + (if v.testBit n = true then 1 else 0) = wtN n v
    rw [b0]
    rfl
  · have low : ∀ m : Nat, m ≤ n → wtN m (v ^^^ 2 ^ n) = wtN m v := fun m => by
      induction m with
      | zero => intro _; rfl
      | succ m ih =>
        intro hm
        show wtN m (v ^^^ 2 ^ n) + (if (v ^^^ 2 ^ n).testBit m = true then 1 else 0) = wtN m v + (if v.testBit m = true then 1 else 0)
        rw [ih (by omega), Nat.testBit_xor, Nat.testBit_two_pow, decide_eq_false (by omega), Bool.xor_false]
    show wtN n (v ^^^ 2 ^ n) + (if (v ^^^ 2 ^ n).testBit n = true then 1 else 0) = wtN n v + 1
    rw [low n (Nat.le_refl n), Nat.testBit_xor, b0, Nat.testBit_two_pow, decide_eq_true rfl]
    rfl
theorem chi_up {n u v : Nat} (hv : v < 2 ^ n) : chi (n + 1) u v = chi n u v ∧ chi (n + 1) u (v ^^^ 2 ^ n) = (if u.testBit n = true then -1 else 1) * chi n u v := by
  have b0 : v.testBit n = false := Nat.testBit_lt_two_pow hv
  have e1 : par (n + 1) (u &&& v) = par n (u &&& v) := by
    show (par n (u &&& v)).xor ((u &&& v).testBit n) = par n (u &&& v)
    rw [Nat.testBit_and, b0, Bool.and_false, Bool.xor_false]
  have e2 : par (n + 1) (u &&& (v ^^^ 2 ^ n)) = (par n (u &&& v)).xor (u.testBit n) := by
    rw [par_comm, par_xor, par_comm (n + 1) v, e1, par_pow (Nat.lt_succ_self n)]
  unfold chi
  rw [e1, e2]
  refine ⟨rfl, ?_⟩
  cases par n (u &&& v) <;> cases u.testBit n <;> rfl
theorem Fu_succ (n u : Nat) : Fu (n + 1) u = tf (if u.testBit n = true then -1 else 1) (Fu n u) := by
  funext j
  unfold Fu tf
  rw [sm_double]
  congr 1
  · refine sm_congr fun v hv => ?_
    rw [(wt_up hv).1, (chi_up hv).1]
  · have e : sm (2 ^ n) (fun v => if wtN (n + 1) (v ^^^ 2 ^ n) = j then chi (n + 1) u (v ^^^ 2 ^ n) else 0) = sm (2 ^ n) (fun v => (if u.testBit n = true then -1 else 1) * (if wtN n v + 1 = j then chi n u v else 0)) := by
      refine sm_congr fun v hv => ?_
      rw [(wt_up hv).2, (chi_up hv).2]
      by_cases c : wtN n v + 1 = j
      · rw [if_pos c, if_pos c]
      · rw [if_neg c, if_neg c, Int.mul_zero]
    rw [e, sm_mul]
    by_cases c0 : j = 0
    · rw [if_pos c0]
      congr 1
      rw [sm_congr (h := fun _ => 0) fun v _ => if_neg (by omega), sm_zero]
    · rw [if_neg c0]
      congr 1
      refine sm_congr fun v _ => ?_
      by_cases c : wtN n v + 1 = j
      · rw [if_pos c, if_pos (by omega)]
      · rw [if_neg c, if_neg (by omega)]
theorem Fu_pq (u : Nat) : ∀ n : Nat, Fu n u = pq (n - wtN n u) (wtN n u)
  | 0 => by
    funext j
    show (0 : Int) + (if 0 = j then chi 0 u 0 else 0) = dl j
    unfold dl chi
    by_cases c : j = 0
    · rw [if_pos c.symm, if_pos c]
      rfl
    · rw [if_neg fun q => c q.symm, if_neg c]
      rfl
  | n + 1 => by
    have h := wtN_le n u
    rw [Fu_succ, Fu_pq u n]
    cases c : u.testBit n with
    | true =>
      have e : wtN (n + 1) u = wtN n u + 1 := by
        show wtN n u + (if u.testBit n = true then 1 else 0) = _
        rw [c]
        rfl
      rw [if_pos rfl, pq_minus, e, show n + 1 - (wtN n u + 1) = n - wtN n u by omega]
    | false =>
      have e : wtN (n + 1) u = wtN n u := by
        show wtN n u + (if u.testBit n = true then 1 else 0) = _
        rw [c]
        rfl
      rw [if_neg Bool.false_ne_true, e, show n + 1 - wtN n u = (n - wtN n u) + 1 by omega]
      rfl
theorem ef_Fu (n u : Nat) : ef (wtN n u) n = Fu n u := by
  have h := ef_high (wtN n u) (n - wtN n u)
  rw [show wtN n u + (n - wtN n u) = n by have := wtN_le n u; omega] at h
  rw [h, Fu_pq]
/-- the entry sums of a room's row -/
def es (n : Nat) (r : Nat → Int) : Nat → Int := fun j => sm (n + 1) (fun i => r i * ef i n j)
/-- MacWilliams -/
theorem mac {n : Nat} {B C : List Nat} (hC : Ind C) (lC : Lt n C) (h : ∀ v, v < 2 ^ n → (sp C v = true ↔ Orth n B v)) (j : Nat) : es n (Wb n B) j = ((2 ^ B.length : Nat) : Int) * Wb n C j := by
  unfold es
  rw [group n B (fun i => ef i n j)]
  have e1 : sb B (fun v => ef (wtN n v) n j) = sb B (fun u => sm (2 ^ n) (fun v => if wtN n v = j then chi n u v else 0)) := sb_congr fun u => by rw [ef_Fu]; rfl
  rw [e1, sb_sm]
  unfold Wb
  rw [← sb_ind hC lC, ← sm_mul]
  refine sm_congr fun v hv => ?_
  by_cases c : wtN n v = j
  · have e2 : sb B (fun u => if wtN n v = j then chi n u v else 0) = sb B (fun u => chi n u v) := sb_congr fun u => if_pos c
    rw [e2]
    by_cases o : Orth n B v
    · rw [(chi_sum n v B).1 o, if_pos ((h v hv).mpr o), if_pos c, Int.mul_one]
    · rw [(chi_sum n v B).2 o, if_neg fun z => o ((h v hv).mp z), Int.mul_zero]
  · have e2 : sb B (fun u => if wtN n v = j then chi n u v else 0) = 0 := (sb_congr fun u => if_neg c).trans (sb_nil B)
    rw [e2, if_neg c]
    split <;> exact (Int.mul_zero _).symm
end Oc

set_option linter.unusedVariables false
namespace Oc
/-! ### all sums, as the code makes them -/
def allS (B : List Nat) : List Nat := B.foldl (fun s b => s ++ s.map fun x => x ^^^ b) [0]
theorem allS_snoc (B : List Nat) (b : Nat) : allS (B ++ [b]) = allS B ++ (allS B).map fun x => x ^^^ b := by
  unfold allS
  rw [List.foldl_append]
  rfl
theorem all_sum (g : Nat → Int) : ∀ (B s : List Nat), ((B.foldl (fun s b => s ++ s.map fun x => x ^^^ b) s).map g).sum = (s.map fun x => sb B (fun v => g (v ^^^ x))).sum
  | [], s => by
    show (s.map g).sum = (s.map fun x => g (0 ^^^ x)).sum
    congr 1
    exact List.map_congr_left fun x _ => by rw [Nat.zero_xor]
  | b :: r, s => by
    show ((r.foldl (fun s b => s ++ s.map fun x => x ^^^ b) (s ++ s.map fun x => x ^^^ b)).map g).sum = _
    rw [all_sum g r, List.map_append, List.sum_append, List.map_map]
    induction s with
    | nil => rfl
    | cons x t ih =>
      simp only [List.map_cons, List.sum_cons, Function.comp_def] at ih ⊢
      have e : sb (b :: r) (fun v => g (v ^^^ x)) = sb r (fun v => g (v ^^^ x)) + sb r (fun v => g (v ^^^ (x ^^^ b))) := by
        show sb r (fun v => g (v ^^^ x)) + sb r (fun v => g (v ^^^ b ^^^ x)) = _
        congr 1
        exact sb_congr fun v => by rw [Nat.xor_assoc, Nat.xor_comm b x]
      rw [e, ← ih]
      omega
theorem allS_sum (B : List Nat) (g : Nat → Int) : ((allS B).map g).sum = sb B g := by
  unfold allS
  rw [all_sum g B [0]]
  show sb B (fun v => g (v ^^^ 0)) + 0 = sb B g
  rw [Int.add_zero]
  exact sb_congr fun v => by rw [Nat.xor_zero]
theorem allS_mem : ∀ (B : List Nat) {x : Nat}, x ∈ allS B → sp B x = true := fun B => by
  have key : ∀ (r s S : List Nat), (∀ x, x ∈ s → sp S x = true) → (∀ b, b ∈ r → sp S b = true) → ∀ x, x ∈ r.foldl (fun s b => s ++ s.map fun x => x ^^^ b) s → sp S x = true := by
    intro r
    induction r with
    | nil => exact fun s S hs _ x hx => hs x hx
    | cons b r ih =>
      intro s S hs hr x hx
      refine ih _ S (fun y hy => ?_) (fun c hc => hr c (List.mem_cons_of_mem _ hc)) x hx
      rcases List.mem_append.mp hy with hy | hy
      · exact hs y hy
      · obtain ⟨z, hz, rfl⟩ := List.mem_map.mp hy
        exact sp_xor (hs z hz) (hr b List.mem_cons_self)
  intro x hx
  exact key B [0] B (fun y hy => by rw [List.mem_singleton.mp hy]; exact sp_zero B) (fun b hb => sp_mem hb) x hx
theorem allS_len (B : List Nat) : (allS B).length = 2 ^ B.length := by
  have key : ∀ (r s : List Nat), (r.foldl (fun s b => s ++ s.map fun x => x ^^^ b) s).length = s.length * 2 ^ r.length := by
    intro r
    induction r with
    | nil => intro s; exact (Nat.mul_one _).symm
    | cons b r ih =>
      intro s
      show (r.foldl _ (s ++ s.map fun x => x ^^^ b)).length = _
      rw [ih, List.length_append, List.length_map, List.length_cons, Nat.pow_succ, Nat.add_mul, Nat.mul_comm (2 ^ r.length) 2, ← Nat.mul_assoc, Nat.mul_two, Nat.add_mul]
  exact (key B [0]).trans (Nat.one_mul _)
/-! ### how many words the contrary's list has -/
theorem dual_len_eq {n : Nat} {B : List Nat} (h : Plain B) (l : Lt n B) : (dualGen n B).length + B.length = n := by
  have p : ((List.range n).filter fun i => decide (i ∈ tops B)).Perm (tops B) := (List.perm_ext_iff_of_nodup (List.Nodup.sublist List.filter_sublist List.nodup_range) (tops_nodup h)).mpr fun i => by
    rw [List.mem_filter, List.mem_range, decide_eq_true_eq]
    exact ⟨fun q => q.2, fun q => ⟨tops_lt h l q, q⟩⟩
  have e1 := p.length_eq
  have e2 : (tops B).length = B.length := List.length_map _
  have key : ∀ L : List Nat, (L.filter fun i => decide (i ∈ tops B)).length + (L.filter fun i => !decide (i ∈ tops B)).length = L.length := fun L => by
    induction L with
    | nil => rfl
    | cons a r ih =>
      rw [List.filter_cons, List.filter_cons, List.length_cons]
      cases decide (a ∈ tops B) with
      | true =>
        rw [if_pos rfl, if_neg (by decide), List.length_cons]
        omega
      | false =>
        rw [if_neg (by decide), if_pos (by rfl), List.length_cons]
        omega
  have e3 := key (List.range n)
  unfold dualGen
  rw [List.length_map]
  rw [List.length_range] at e3
  omega
/-- weights counted in a list -/
def cnt (n : Nat) (L : List Nat) (a : Nat) : Int := (L.map fun v => if wtN n v = a then (1 : Int) else 0).sum
theorem cnt_snoc (n : Nat) (L : List Nat) (v : Nat) : cnt n (L ++ [v]) = fun a => if a = wtN n v then cnt n L (wtN n v) + 1 else cnt n L a := by
  funext a
  unfold cnt
  rw [List.map_append, List.sum_append]
  show _ + ((if wtN n v = a then (1 : Int) else 0) + 0) = _
  by_cases c : a = wtN n v
  · rw [if_pos c, if_pos c.symm, ← c]
    omega
  · rw [if_neg c, if_neg fun z => c z.symm]
    omega
theorem cnt_all (n : Nat) (B : List Nat) : cnt n (allS B) = Wb n B := funext fun a => allS_sum B _
end Oc

set_option Elab.async false
set_option linter.all false
set_option maxRecDepth 100000
set_option maxHeartbeats 4000000
set_option autoImplicit false
/-! ## zip of a tuple and a list -/
namespace OcW
open PySem PySem.Spec PyProof.Rows L2 Evl
/-- what it gives: new pairs of an item of the tuple at a and one of the list at b -/
def ItzM (K : PySem.W.Frag) (a b : Addr) : It where
  go := fun i H => ∃ (xs ys : List V) (x y : V), (SqT K H a xs ∧ SqL K H b ys) ∧ xs[i]? = some x ∧ ys[i]? = some y
  yld := fun i H v H' => ∃ (T : Addr) (x y : V), v = .ref T ∧ H T = none ∧ H' = upd H T (.tup [x, y]) ∧ (∀ xs, SqT K H a xs → xs[i]? = some x) ∧ ∀ ys, SqL K H b ys → ys[i]? = some y
  stop := fun i H => ∃ xs ys : List V, (SqT K H a xs ∧ SqL K H b ys) ∧ xs.length = i ∧ ys.length = i
theorem walk_zipM {K : PySem.W.Frag} {a b : Addr} {xs ys : List V} {n : Nat} (h1 : n = xs.length) (h2 : n = ys.length) : Walk (ItzM K a b) n (fun H => SqT K H a xs ∧ SqL K H b ys) (YPair (fun i => xs[i]?) (fun i => ys[i]?)) where
  goes := fun i H hi q => ⟨xs, ys, xs[i]'(by omega), ys[i]'(by omega), q, by simp, by simp⟩
  stops := fun H q => ⟨xs, ys, q, h1.symm, h2.symm⟩
  yields := fun i H v H' hi q ⟨T, x, y, e1, e2, e3, e4, e5⟩ => ⟨T, x, y, e1, e2, e3, e4 xs q.1, e5 ys q.2⟩
section
variable {P : Program} {w : World} {K : PySem.W.Frag} {elts : List Expr} {kk : Nat} {tpos : Pos} {a b z TI TO i1 i2 : Addr}
def TnM (a b z TI TO i1 i2 : Addr) (i : Nat) (h : Heap) : Prop :=
  IsZip h z TI TO .none ∧ IsTupOf2 h TI (.ref i1) (.ref i2) ∧ (∃ x y, IsTupOf2 h TO x y) ∧ h.IsTupleIter i1 a i ∧ h.IsListIter i2 b i
theorem turn_zipM (S : ZipSep2 z TI TO i1 i2 [i1, a] [i2, b]) (ha : a ≠ i1) (hb : b ≠ i2) : Turn P w K (.Tuple elts kk tpos) (ItzM K a b) [z, TI, TO, i1, i2] z (TnM a b z TI TO i1 i2) where
  mem := List.mem_cons_self
  obj := by
    rintro i h ⟨hz, hTI, ⟨x, y, hTO⟩, ⟨o1, e1, _, d1⟩, ⟨o2, e2, _, d2⟩⟩ c hc
    simp only [List.mem_cons, List.not_mem_nil, or_false] at hc
    rcases hc with rfl | rfl | rfl | rfl | rfl
    · exact ⟨_, hz, fun v q => nomatch q⟩
    · exact ⟨_, hTI, fun v q => nomatch q⟩
    · exact ⟨_, hTO, fun v q => nomatch q⟩
    · refine ⟨o1, e1, fun v q => ?_⟩
      rw [d1] at q
      cases q
    · refine ⟨o2, e2, fun v q => ?_⟩
      rw [d2] at q
      cases q
  keep := by
    rintro i h h' ⟨hz, hTI, ⟨x, y, hTO⟩, h1, h2⟩ k
    exact ⟨k _ (by simp) _ hz, k _ (by simp) _ hTI, ⟨x, y, k _ (by simp) _ hTO⟩, h1.at fun o q => k _ (by simp) o q, h2.at fun o q => k _ (by simp) o q⟩
  item := by
    intro X hP hw hK hc i pins s σ H E I hf st hg
    subst hP hw hK
    obtain ⟨hz, hTI, hTO, h1, h2⟩ := st
    obtain ⟨xs, ys, x, y, ⟨hqx, hqy⟩, hx, hy⟩ := hg
    obtain ⟨its, rv, p, _⟩ := I.tuple hqx
    obtain ⟨its2, rv2, p2, _⟩ := I.list hqy
    obtain ⟨u, hu, ru⟩ := rv.get hx
    obtain ⟨u2, hu2, ru2⟩ := rv2.get hy
    have hh : X.A.in1.handled = none := I.ok.hd hc
    have W := WalksT.zipD2 (prog := X.prog) (w := X.w) (A := X.A) S (Draws.tuple hh i1 a ha its.toArray) (Draws.list hh i2 b hb its2.toArray)
    have l1 := lt_of_at hu
    have l2 := lt_of_at hu2
    refine W.item i s _ E (by simp only [List.size_toArray]; omega) ⟨hz, hTI, hTO, ⟨h1, p⟩, ⟨h2, p2.isList⟩⟩ fun T0 vals h' tk hP hT0 hTup hMid hk => ?_
    obtain ⟨w1, w2, hw1, hw2, rfl⟩ := hP
    have ew1 : w1 = u := Option.some.inj (hw1.symm.trans (by simpa using hu))
    have ew2 : w2 = u2 := Option.some.inj (hw2.symm.trans (by simpa using hu2))
    subst ew1 ew2
    have hap := W.apart _ _ _ hMid
    refine ⟨_, rfl, W.go elts kk tpos i T0 _ _ E hMid fun h'' st2 hk2 => ?_⟩
    obtain ⟨g1, g2, g3, g4, g5⟩ := st2
    have sub : ∀ c, c ∉ [z, TI, TO, i1, i2] → c ∉ [z, TO, i1, i2] := fun c hc1 hc2 => hc1 (by
      simp only [List.mem_cons, List.not_mem_nil, or_false] at hc2 ⊢
      rcases hc2 with q | q | q | q
      · exact .inl q
      · exact .inr (.inr (.inl q))
      · exact .inr (.inr (.inr (.inl q)))
      · exact .inr (.inr (.inr (.inr q))))
    obtain ⟨oT, hoT, hcT, nT, hdT⟩ := hTup
    have new : ObjOk X.prog X.w (upd H T0 (.tup [x, y])) h'' T0 (.tup [x, y]) :=
      ⟨by show 2 ≤ sizeLine; decide, [w1, w2], .cons ru (.cons ru2 .nil), ⟨oT, hk2 _ _ hap hoT, hcT, nT, hdT⟩⟩
    have I1 : Inv X pins σ (upd H T0 (.tup [x, y])) { s with heap := h'', toks := tk } :=
      I.turnedNew (t' := tk) (ch := [z, TI, TO, i1, i2]) (fun c o hcn q => hk2 c o (sub c hcn) (hk c o (sub c hcn) q)) hf hT0 new
    refine ⟨.ref T0, _, I1, rfl, ⟨T0, x, y, rfl, I.hok.fresh hT0, rfl, fun l hl => ?_, fun l hl => ?_⟩, ⟨g1, g2, g3, g4.1, g5.1⟩, fun c hcm => ?_⟩
    · rw [I.tuple_inj hl hqx]
      exact hx
    · rw [I.list_inj hl hqy]
      exact hy
    · have hlt : c < s.heap.objs.size := by
        simp only [List.mem_cons, List.not_mem_nil, or_false] at hcm
        rcases hcm with rfl | rfl | rfl | rfl | rfl
        · exact Heap.lt_size hz
        · exact Heap.lt_size hTI
        · obtain ⟨_, _, q⟩ := hTO
          exact Heap.lt_size q
        · obtain ⟨_, q, _⟩ := h1
          exact Heap.lt_size q
        · obtain ⟨_, q, _⟩ := h2
          exact Heap.lt_size q
      rw [upd_ne (Nat.ne_of_lt (Nat.lt_of_lt_of_le hlt hT0))]
      exact (hf c hcm).1
  done := by
    intro X hP hw hK hc i pins s σ H E I hf st hg
    subst hP hw hK
    obtain ⟨hz, hTI, hTO, h1, h2⟩ := st
    obtain ⟨xs, ys, ⟨hqx, hqy⟩, hl1, hl2⟩ := hg
    obtain ⟨its, rv, p, _⟩ := I.tuple hqx
    obtain ⟨its2, rv2, p2, _⟩ := I.list hqy
    have l1 := rv.length
    have l2 := rv2.length
    have hh : X.A.in1.handled = none := I.ok.hd hc
    have W := WalksT.zipD2 (prog := X.prog) (w := X.w) (A := X.A) S (Draws.tuple hh i1 a ha its.toArray) (Draws.list hh i2 b hb its2.toArray)
    have en : min its.toArray.size its2.toArray.size = i := by
      simp only [List.size_toArray]
      omega
    rw [en] at W
    exact W.done s _ E ⟨hz, hTI, hTO, ⟨h1, p⟩, ⟨h2, p2.isList⟩⟩ fun h' tk hk => ⟨rfl, I.turnedL (t' := tk) (ch := [z, TI, TO, i1, i2]) (fun c o hcn q => hk c o (fun hc2 => hcn (by
      simp only [List.mem_cons, List.not_mem_nil, or_false] at hc2 ⊢
      rcases hc2 with q | q | q | q
      · exact .inl q
      · exact .inr (.inr (.inl q))
      · exact .inr (.inr (.inr (.inl q)))
      · exact .inr (.inr (.inr (.inr q))))) q) hf⟩
  self := fun A i s Q E st h => wpAny_pyIter_zip st.1 h
/-- zip(tuple, list) -/
def iZipM (K : PySem.W.Frag) (ta : TA) : L2.TI := fun σ H R => ta σ H fun vs H1 => ∃ (a b : Addr) (xs ys : List V), vs = [.ref a, .ref b] ∧ SqT K H1 a xs ∧ SqL K H1 b ys ∧ R (ItzM K a b) H1
theorem pi_zipM {X : Cx} {e e2 : Expr} {ta : TA} {p pos tpos : Pos} {elts : List Expr} {kk : Nat} (hg : Gl X "zip") (hm : X.mg "zip" = none) (hA : PA X [e, e2] ta)
    (hs : starEach [e, e2] X.env = (false, eval e X.env) :: starEach [e2] X.env := by rfl) (hpl : (backTo pos (starEach [e2] X.env)).any (·.1) = false := by rfl) :
    PI X (.Tuple elts kk tpos) (.Call (.Name "zip" p) [e, e2] [] pos) (iZipM X.K ta) := by
  refine ⟨fun pins s σ H R I h => Call_ (ld_blt I hg hm PyProof.Rows.boot_zip (PyProof.Rows.callWith_type1 (thn (hA.run pos pins s σ H _ I h) fun us s1 ⟨vs, H1, I1, r1, q1⟩ => ?_) hs hpl))⟩
  obtain ⟨a, b, xs, ys, rfl, hqx, hqy, q⟩ := q1
  obtain ⟨u1, u2, rfl, ra, rb⟩ := vals2 r1
  obtain rfl : u1 = Value.ref a := ra
  obtain rfl : u2 = Value.ref b := rb
  obtain ⟨its, rv, p1, _⟩ := I1.tuple hqx
  obtain ⟨its2, rv2, p2, _⟩ := I1.list hqy
  have la : a < s1.heap.objs.size := by
    obtain ⟨o, ho, _⟩ := id p1
    exact Heap.lt_size ho
  have lb : b < s1.heap.objs.size := p2.lt
  have S : ZipSep2 (s1.heap.objs.size + 4) (s1.heap.objs.size + 2) (s1.heap.objs.size + 3) s1.heap.objs.size (s1.heap.objs.size + 1) [s1.heap.objs.size, a] [s1.heap.objs.size + 1, b] :=
    zip_sep2 (fun c hc => by rw [List.mem_singleton.mp hc]; exact la) (fun c hc => by rw [List.mem_singleton.mp hc]; exact lb)
  have ha : a ≠ s1.heap.objs.size := Nat.ne_of_lt la
  have hb : b ≠ s1.heap.objs.size + 1 := Nat.ne_of_lt (Nat.lt_succ_of_lt lb)
  refine zip_begins2 (begins_tuple a its.toArray) (begins_list b its2.toArray) (show s1.heap.IsTuple a its.toArray from p1) p2.isList fun h' hz hTI hTO g1 g2 hsz hk => wpAny_pyIter_zip hz ?_
  have I2 : Inv X pins σ H1 { s1 with heap := h' } := I1.kept (t' := s1.toks) hk
  refine ⟨s1.heap.objs.size + 4, [s1.heap.objs.size + 4, s1.heap.objs.size + 2, s1.heap.objs.size + 3, s1.heap.objs.size, s1.heap.objs.size + 1], _, _, H1, rfl, I2, turn_zipM S ha hb, ⟨hz, hTI, ⟨_, _, hTO⟩, ⟨_, g1, rfl, rfl⟩, ⟨_, g2, rfl, rfl⟩⟩, fun c hc => ?_, q⟩
  have hle : s1.heap.objs.size ≤ c := by
    simp only [List.mem_cons, List.not_mem_nil, or_false] at hc
    rcases hc with rfl | rfl | rfl | rfl | rfl
    · exact Nat.le_add_right _ _
    · exact Nat.le_add_right _ _
    · exact Nat.le_add_right _ _
    · exact Nat.le_refl _
    · exact Nat.le_add_right _ _
  exact I1.fpOk hle (I1.hok.fresh hle)
end
end OcW

set_option Elab.async false
set_option linter.all false
set_option maxRecDepth 100000
set_option maxHeartbeats 4000000
set_option autoImplicit false
/-! ## xs[1::2] -/
namespace OcW
open PySem PySem.Spec PyProof.Rows L2 Evl
def oddAt {α : Type} (xs : List α) : List α := (List.range (xs.length / 2)).filterMap fun k => xs[1 + 2 * k]?
theorem vals_at {xs : List V} {us : List Value} (r : Vals xs us) : ∀ l : List Nat, Vals (l.filterMap fun k => xs[1 + 2 * k]?) (l.filterMap fun k => us[1 + 2 * k]?)
  | [] => .nil
  | k :: l => by
    have ih := vals_at r l
    rw [List.filterMap_cons, List.filterMap_cons]
    cases e : xs[1 + 2 * k]? with
    | none =>
      rw [r.none_of e]
      exact ih
    | some x =>
      obtain ⟨u, hu, ru⟩ := r.get e
      rw [hu]
      exact .cons ru ih
theorem vals_odd {xs : List V} {us : List Value} (r : Vals xs us) : Vals (oddAt xs) (oddAt us) := by
  unfold oddAt
  rw [← r.length]
  exact vals_at r _
theorem odd_len {α : Type} (xs : List α) : (oddAt xs).length ≤ xs.length := by
  unfold oddAt
  have h := List.length_filterMap_le (fun k => xs[1 + 2 * k]?) (List.range (xs.length / 2))
  rw [List.length_range] at h
  omega
theorem odd_bounds (n : Nat) : sliceRange (sliceBounds (some 1) none (some 2) n).1 (sliceBounds (some 1) none (some 2) n).2.1 (sliceBounds (some 1) none (some 2) n).2.2 = (List.range (n / 2)).map fun k => 1 + 2 * k := by
  have e : sliceBounds (some 1) none (some 2) n = (max 0 (min 1 (n : Int)), (n : Int), 2) := by
    unfold sliceBounds
    simp
  rw [e]
  unfold sliceRange
  have c : (if (2 : Int) > 0 then (if max 0 (min 1 (n : Int)) < (n : Int) then ((n : Int) - max 0 (min 1 (n : Int)) + 2 - 1) / 2 else 0) else (if max 0 (min 1 (n : Int)) > (n : Int) then (max 0 (min 1 (n : Int)) - (n : Int) - 2 - 1) / (-2) else 0)).toNat = n / 2 := by
    rw [if_pos (by decide)]
    by_cases h : n = 0
    · subst h
      decide
    · have m : max 0 (min 1 (n : Int)) = 1 := by omega
      rw [m]
      by_cases h1 : n = 1
      · subst h1
        decide
      · rw [if_pos (by omega)]
        omega
  show List.map _ (List.range (Int.toNat (if (2 : Int) > 0 then _ else _))) = _
  rw [c]
  refine List.map_congr_left fun k hk => ?_
  have hk2 := List.mem_range.mp hk
  have m : max 0 (min 1 (n : Int)) = 1 := by omega
  show (max 0 (min 1 (n : Int)) + 2 * (k : Int)).toNat = 1 + 2 * k
  rw [m]
  omega
theorem odd_pick (items : Array Value) : slicePick items (some 1) none (some 2) = (oddAt items.toList).toArray := by
  unfold slicePick oddAt
  rw [odd_bounds, List.filterMap_map, Array.length_toList]
  refine congrArg (fun g => (List.filterMap g (List.range (items.size / 2))).toArray) (funext fun k => ?_)
  show items[1 + 2 * k]? = items.toList[1 + 2 * k]?
  rw [Array.getElem?_toList]
def tOddL (K : PySem.W.Frag) (te : TE) : TE := fun σ H Q => te σ H fun x H1 => ∃ (a : Addr) (xs : List V), x = .ref a ∧ SqL K H1 a xs ∧ ∀ p, H1 p = none → Q (.ref p) (upd H1 p (.lst (oddAt xs)))
theorem pe_oddL {X : Cx} {e : Expr} {te : TE} {j1 j2 : Nat} {p1 p2 p3 pos : Pos} (he : PE X e te) : PE X (.Subscript e (.Slice (some (.Constant (.int 1) j1 p1)) none (some (.Constant (.int 2) j2 p2)) p3) pos) (tOddL X.K te) := by
  refine ⟨fun pins s σ H Q I h => Subscript_ (thn (he.run pins s σ H _ I h) fun v s1 ⟨x, H1, I1, r1, a, xs, ex, hx, q⟩ => ?_)⟩
  subst ex
  obtain rfl : v = Value.ref a := r1
  have h1 : PO X (some (.Constant (.int 1) j1 p1)) (tPart (tC (.int 1))) := po_some pe_int
  have h2 : PO X (some (.Constant (.int 2) j2 p2)) (tPart (tC (.int 2))) := po_some pe_int
  refine wpAny_Slice (thn (h1.run pins s1 σ H1 (fun o H2 => o = some 1 ∧ H2 = H1) I1 ⟨1, rfl, rfl, rfl⟩) fun vl s2 ⟨o1, H2, I2, pl, eo1, eh2⟩ => ?_)
  subst eo1 eh2
  refine thn (po_none.run pins s2 σ H2 (fun o H3 => o = none ∧ H3 = H2) I2 ⟨rfl, rfl⟩) fun vu s3 ⟨o2, H3, I3, pu, eo2, eh3⟩ => ?_
  subst eo2 eh3
  refine thn (h2.run pins s3 σ H3 (fun o H4 => o = some 2 ∧ H4 = H3) I3 ⟨2, rfl, rfl, rfl⟩) fun vs s4 ⟨o3, H4, I4, ps, eo3, eh4⟩ => ?_
  subst eo3 eh4
  have I5 : Inv X pins σ H4 { s4 with heap := s4.heap.push { cls := .type "slice", data := .fields #[vl, vu, vs] } } := I4.kept (t' := s4.toks) fun b ob q => Heap.get?_push_of_some _ q
  obtain ⟨its, r, ht, hz⟩ := I5.list hx
  have hlen := r.length
  refine tail_any (ops := [.ref a, .ref s4.heap.objs.size]) ht.isList.typeIs (PySem.slot_list_getitem.lookup) ?_ (by with_unfolding_all rfl)
  refine wpAny_getItem_list_slice ht.isList (Heap.IsSliceOf.new _ vl vu vs) pl pu ps (by decide) ?_ (by rw [List.size_toArray]; omega)
  rw [odd_pick]
  exact ⟨.ref _, _, I5.laid (t' := s4.toks) (o := .lst (oddAt xs)) (fun b ob q => Heap.get?_push_of_some _ q) (Nat.le_refl _) ⟨Nat.le_trans (odd_len xs) hz, _, 0, vals_odd r, Heap.get?_push_size _ rfl⟩, rfl, q _ (I5.hok.fresh (Nat.le_refl _))⟩
end OcW

set_option Elab.async false
set_option linter.all false
set_option maxRecDepth 100000
set_option maxHeartbeats 4000000
set_option autoImplicit false
namespace OcW
open PySem PySem.Spec PyProof.Rows L2 Evl
open C8 (Cal Met Mak pe_c pe_mk pe_mt InsC call_isC)
section
variable {P : Program} {w : World} {K : PySem.W.Frag} {mg : Str → Option Value} {base : Heap}
theorem Top.c_int (T : Top K mg) {x : Str} {i : Int} (h : (x, i) ∈ [(("MOST_PLACES_basics" : Str), (24 : Int)), ("MOST_WORDS", 48), ("MOST_PLACES_tables", 24), ("LISTED", 8)]) : ∃ u, mg x = some u ∧ RelV (.int i) u := by
  obtain ⟨t, e⟩ := T.ci x i h
  exact ⟨_, e, t, rfl⟩
theorem Top.c_MOST_PLACES_basics (T : Top K mg) : ∃ u, mg "MOST_PLACES_basics" = some u ∧ RelV (nV 24) u := T.c_int (i := 24) List.mem_cons_self
theorem Top.c_MOST_WORDS (T : Top K mg) : ∃ u, mg "MOST_WORDS" = some u ∧ RelV (nV 48) u := T.c_int (i := 48) (List.mem_cons_of_mem _ List.mem_cons_self)
theorem Top.c_MOST_PLACES_tables (T : Top K mg) : ∃ u, mg "MOST_PLACES_tables" = some u ∧ RelV (nV 24) u := T.c_int (i := 24) (List.mem_cons_of_mem _ (List.mem_cons_of_mem _ List.mem_cons_self))
theorem Top.c_LISTED (T : Top K mg) : ∃ u, mg "LISTED" = some u ∧ RelV (nV 8) u := T.c_int (i := 8) (List.mem_cons_of_mem _ (List.mem_cons_of_mem _ (List.mem_cons_of_mem _ List.mem_cons_self)))
theorem Top.c_Told (T : Top K mg) : ∃ u, mg "Told" = some u ∧ RelV (.ref (He.ga K "Told")) u := ⟨_, T.told.at_, rfl⟩
theorem Top.c_Room (T : Top K mg) : ∃ u, mg "Room" = some u ∧ RelV (.ref (He.ga K "Room")) u := ⟨_, T.room.at_, rfl⟩
theorem Top.c_HALVES (T : Top K mg) : ∃ u, mg "HALVES" = some u ∧ RelV (.ref (He.ga K "HALVES")) u := ⟨_, T.hv, rfl⟩

/-! ### numbers, lists -/
def sp_integer : Sp := fun vs H Q _ => ∃ i : Int, vs = [.int i] ∧ Q (.bl true) H
theorem sc_is_integer : FnScope ["value"] ["value"] (defScope (top 15)) := ⟨rfl, rfl, rfl, by decide +kernel, rfl, by decide +kernel, by decide +kernel⟩
theorem C_is_integer (T : Top K mg) : Cal P w K mg base 1 "is_integer" sp_integer [] := by
  refine cal_of (T.fn 0 _ rfl) sc_is_integer (fun _ _ _ _ _ _ us hl => match us, hl with | [_], _ => rfl) (fun vs H Q E h => ?_) (fun cdv A outer s H vs Q E hr h => ?_)
  · obtain ⟨i, rfl, q⟩ := h
    rfl
  obtain ⟨i, rfl, q⟩ := h
  refine ⟨_, (pss_one (ps_ret (pe_and (pe_callB call_isi (by rfl) (T.fr 0 _ rfl) (by decide +kernel) (pa_cons (pv 0) (pa_cons (pe_bltn (v := .ty "int") (by rfl) (T.fr 1 _ rfl) (by decide +kernel) rfl) pa_nil))) (pe_one (pe_not (pe_callB call_isi (by rfl) (T.fr 0 _ rfl) (by decide +kernel) (pa_cons (pv 0) (pa_cons (pe_bltn (v := .ty "bool") (by rfl) (T.fr 2 _ rfl) (by decide +kernel) rfl) pa_nil)))))))), ?_⟩
  refine ⟨_, rfl, _, _, _, _, true, rfl, .ty "int", .base (.int i), kit_ty (by decide +kernel), true, rfl, iteT ?_⟩
  exact ⟨_, rfl, _, _, _, _, false, rfl, .ty "bool", .base (.int i), kit_ty (by decide +kernel), false, rfl, q⟩
def sp_count : Sp := fun vs H Q _ => ∃ n : Nat, vs = [nV n] ∧ Q (.bl true) H
theorem sc_is_count : FnScope ["value"] ["value"] (defScope (top 16)) := ⟨rfl, rfl, rfl, by decide +kernel, rfl, by decide +kernel, by decide +kernel⟩
theorem C_is_count (T : Top K mg) : Cal P w K mg base 2 "is_count" sp_count [] := by
  refine cal_of (T.fn 1 _ rfl) sc_is_count (fun _ _ _ _ _ _ us hl => match us, hl with | [_], _ => rfl) (fun vs H Q E h => ?_) (fun cdv A outer s H vs Q E hr h => ?_)
  · obtain ⟨n, rfl, q⟩ := h
    rfl
  obtain ⟨n, rfl, q⟩ := h
  refine ⟨_, (pss_one (ps_ret (pe_and (pe_c (C_is_integer T) hr (by decide) rfl (pa_cons (pv 0) pa_nil)) (pe_one (pe_cmpR n_ge (pv 0) (pe_nat 0) (nomark _)))))), ?_⟩
  refine ⟨_, rfl, _, rfl, true, rfl, iteT ?_⟩
  refine ⟨_, rfl, n, 0, rfl, rfl, ?_⟩
  exact bl_t (Q := Q) (Nat.zero_le n) q
def IsSeq (H : Hp) (a : Addr) : Prop := (∃ xs, H a = some (.lst xs)) ∨ ∃ xs, H a = some (.tup xs)
def sp_list : Sp := fun vs H Q _ => ∃ a, vs = [.ref a] ∧ IsSeq H a ∧ ∀ H', Ex H H' → Q (.bl true) H'
theorem sc_is_list : FnScope ["value"] ["value"] (defScope (top 17)) := ⟨rfl, rfl, rfl, by decide +kernel, rfl, by decide +kernel, by decide +kernel⟩
theorem C_is_list (T : Top K mg) : Cal P w K mg base 1 "is_list" sp_list [] := by
  refine cal_of (T.fn 2 _ rfl) sc_is_list (fun _ _ _ _ _ _ us hl => match us, hl with | [_], _ => rfl) (fun vs H Q E h => ?_) (fun cdv A outer s H vs Q E hr h => ?_)
  · obtain ⟨a, rfl, ha, q⟩ := h
    rfl
  obtain ⟨a, rfl, ha, q⟩ := h
  refine ⟨_, (pss_one (ps_ret (pe_callB call_isiT (by rfl) (T.fr 0 _ rfl) (by decide +kernel) (pa_cons (pv 0) (pa_cons (pe_tup (pa_cons (pe_bltn (v := .ty "list") (by rfl) (T.fr 3 _ rfl) (by decide +kernel) rfl) (pa_cons (pe_bltn (v := .ty "tuple") (by rfl) (T.fr 4 _ rfl) (by decide +kernel) rfl) pa_nil))) pa_nil))))), ?_⟩
  refine ⟨_, rfl, by show 2 ≤ sizeLine; decide, fun p hp => ?_⟩
  have e1 : Ex H (upd H p (.tup [.ty "list", .ty "tuple"])) := Ex.new hp
  rcases ha with ⟨xs, ha⟩ | ⟨xs, ha⟩
  · exact ⟨_, p, _, _, _, true, rfl, upd_same, .cons (.ty "list") (.cons (.ty "tuple") .nil), .base (.lst (e1 a _ ha)), kitAny_cons (b := true) (kit_ty (by decide +kernel)) (fun z => nomatch z) (fun _ => rfl), q _ e1⟩
  · exact ⟨_, p, _, _, _, true, rfl, upd_same, .cons (.ty "list") (.cons (.ty "tuple") .nil), .base (.tup (e1 a _ ha)),
      kitAny_cons (b := false) (kit_ty (by decide +kernel)) (fun _ => kitAny_cons (b := true) (kit_ty (by decide +kernel)) (fun z => nomatch z) (fun _ => rfl)) (fun z => nomatch z), q _ e1⟩
def sp_places : Sp := fun vs H Q _ => ∃ n : Nat, vs = [nV n] ∧ 1 ≤ n ∧ n ≤ 24 ∧ Q (.bl true) H
theorem sc_is_places : FnScope ["value"] ["value"] (defScope (top 18)) := ⟨rfl, rfl, rfl, by decide +kernel, rfl, by decide +kernel, by decide +kernel⟩
theorem C_is_places (T : Top K mg) : Cal P w K mg base 3 "is_places" sp_places [] := by
  refine cal_of (T.fn 3 _ rfl) sc_is_places (fun _ _ _ _ _ _ us hl => match us, hl with | [_], _ => rfl) (fun vs H Q E h => ?_) (fun cdv A outer s H vs Q E hr h => ?_)
  · obtain ⟨n, rfl, h1, h2, q⟩ := h
    rfl
  obtain ⟨n, rfl, h1, h2, q⟩ := h
  refine ⟨_, (pss_one (ps_ret (pe_and (pe_c (C_is_count T) hr (by decide) rfl (pa_cons (pv 0) pa_nil)) (pe_one (pe_chain n_le n_le (pe_nat 1) (pv 0) (C8.pe_gc rfl T.c_MOST_PLACES_basics)))))), ?_⟩
  refine ⟨_, rfl, _, rfl, true, rfl, iteT ?_⟩
  refine ⟨_, rfl, 1, n, rfl, rfl, tst_t h1 ⟨n, 24, rfl, rfl, bl_t (Q := Q) h2 q⟩⟩
def sp_wplaces : Sp := fun vs H Q _ => ∃ n : Nat, vs = [nV n] ∧ 1 ≤ n ∧ n ≤ 24 ∧ Q .non H
theorem sc_want_places : FnScope ["value"] ["value"] (defScope (top 19)) := ⟨rfl, rfl, rfl, by decide +kernel, rfl, by decide +kernel, by decide +kernel⟩
theorem C_want_places (T : Top K mg) : Cal P w K mg base 4 "want_places" sp_wplaces [] := by
  refine cal_of (T.fn 4 _ rfl) sc_want_places (fun _ _ _ _ _ _ us hl => match us, hl with | [_], _ => rfl) (fun vs H Q E h => ?_) (fun cdv A outer s H vs Q E hr h => ?_)
  · obtain ⟨n, rfl, h1, h2, q⟩ := h
    rfl
  obtain ⟨n, rfl, h1, h2, q⟩ := h
  refine ⟨_, (pss_one (ps_if (pt_not (pt_val (pe_c (C_is_places T) hr (by decide) rfl (pa_cons (pv 0) pa_nil)))) pss_never pss_nil)), ?_⟩
  exact ⟨_, rfl, n, rfl, h1, h2, true, rfl, iteF q⟩
def sp_most : Sp := fun vs H Q _ => ∃ (x : Str) (a b : Nat), vs = [.str x, nV a, nV b] ∧ b ≤ a ∧ Q .non H
theorem sc_want_at_most : FnScope ["what", "limit", "number"] ["what", "limit", "number"] (defScope (top 20)) := ⟨rfl, rfl, rfl, by decide +kernel, rfl, by decide +kernel, by decide +kernel⟩
theorem C_want_at_most (T : Top K mg) : Cal P w K mg base 1 "want_at_most" sp_most [] := by
  refine cal_of (T.fn 5 _ rfl) sc_want_at_most (fun _ _ _ _ _ _ us hl => match us, hl with | [_, _, _], _ => rfl) (fun vs H Q E h => ?_) (fun cdv A outer s H vs Q E hr h => ?_)
  · obtain ⟨x, a, b, rfl, h, q⟩ := h
    rfl
  obtain ⟨x, a, b, rfl, h, q⟩ := h
  refine ⟨_, (pss_one (ps_if (pt_cmpR n_gt (pv 2) (pv 1) (nomark _)) pss_never pss_nil)), ?_⟩
  exact ⟨_, rfl, _, rfl, b, a, rfl, rfl, tst_f (Nat.not_lt.mpr h) q⟩

/-! ### bases -/
def sp_left (K : PySem.W.Frag) : Sp := fun vs H Q _ => ∃ (t : Addr) (B : List Nat) (v : Nat), vs = [.ref t, nV v] ∧ TupN K H t B ∧ Q (nV (Oc.leftOf B v)) H
theorem sc_left_of : FnScope ["basis", "word", "one"] ["basis", "word"] (defScope (top 24)) := ⟨rfl, rfl, rfl, by decide +kernel, rfl, by decide +kernel, by decide +kernel⟩
theorem C_left_of (T : Top K mg) : Cal P w K mg base 1 "left_of" (sp_left K) [] := by
  refine cal_of (T.fn 6 _ rfl) sc_left_of (fun _ _ _ _ _ _ us hl => match us, hl with | [_, _], _ => rfl) (fun vs H Q E h => ?_) (fun cdv A outer s H vs Q E hr h => ?_)
  · obtain ⟨t, B, v, rfl, hT, q⟩ := h
    rfl
  obtain ⟨t, B, v, rfl, hT, q⟩ := h
  refine ⟨_, (pss_cons (ps_for PassesOwn.never rfl (pi_tup (pv 0)) (pg_name (i := 2) sc_left_of.nd rfl (.inl rfl)) (pss_one (ps_set (i := 1) sc_left_of.nd rfl (.inl rfl) (pe_callB (n_min rfl) (by rfl) (T.fr 6 _ rfl) (by decide +kernel) (pa_cons (pv 1) (pa_cons (pe_op n_xor (pv 1) (pv 2)) pa_nil)))))) (pss_one (ps_ret (pv 1)))), ?_⟩
  refine ⟨_, rfl, t, rfl, ⟨_, hT⟩, for_it (walk_tup (xs := B.map nV)) (fun i σ H' => ∃ y, σ = [some (.ref t), some (nV (Oc.leftOf (B.take i) v)), y] ∧ H' = H) ⟨none, rfl, rfl⟩ ?_ ?_ ?_⟩
  · rintro i σ H' _ ⟨y, rfl, rfl⟩
    exact hT
  · rintro i x σ H' H'' hi ⟨y, rfl, rfl⟩ ⟨rfl, hx⟩
    obtain ⟨b, hb, rfl⟩ := map_at hx
    refine ⟨_, rfl, _, rfl, _, rfl, _, _, rfl, rfl, _, _, rfl, some (nV b), ?_, rfl⟩
    rw [take_at hb]
    unfold Oc.leftOf
    rw [List.foldl_append] <;> rfl
  · rintro σ H' ⟨y, rfl, rfl⟩
    rw [List.length_map, List.take_length]
    exact ⟨_, rfl, q⟩
end
end OcW

set_option Elab.async false
set_option linter.all false
set_option maxRecDepth 100000
set_option maxHeartbeats 4000000
set_option autoImplicit false
namespace OcW
open PySem PySem.Spec PyProof.Rows L2 Evl
open C8 (Cal Met Mak pe_c pe_mk pe_mt InsC call_isC)
section
variable {P : Program} {w : World} {K : PySem.W.Frag} {mg : Str → Option Value} {base : Heap}
theorem toNat_map (B : List Nat) : (B.map nV) = (B.map fun n : Nat => (n : Int)).map V.int := by
  rw [List.map_map] <;> rfl
theorem perm_nat {ns : List Int} {B : List Nat} (h : ns.Perm (B.map fun n : Nat => (n : Int))) : ∃ B' : List Nat, B.Perm B' ∧ ns = B'.map (fun n : Nat => (n : Int)) := by
  refine ⟨ns.map Int.toNat, ?_, ?_⟩
  · have k := (h.map Int.toNat).symm
    rw [List.map_map] at k
    have e : (Int.toNat ∘ fun n : Nat => (n : Int)) = id := funext fun n => Int.toNat_natCast n
    rw [e, List.map_id] at k
    exact k
  · rw [List.map_map]
    have e : ∀ x, x ∈ ns → ((fun n : Nat => (n : Int)) ∘ Int.toNat) x = x := fun x hx => by
      obtain ⟨n, _, rfl⟩ := List.mem_map.mp (h.mem_iff.mp hx)
      show ((Int.toNat (n : Int) : Nat) : Int) = (n : Int)
      rw [Int.toNat_natCast]
    rw [List.map_congr_left (g := id) e, List.map_id]
/-- with a further word -/
def sp_with (K : PySem.W.Frag) : Sp := fun vs H Q _ => ∃ (t : Addr) (B : List Nat) (v : Nat), vs = [.ref t, nV v] ∧ TupN K H t B ∧ B.length ≤ 1000 ∧ Oc.Plain B ∧
  ∀ (t' : Addr) (H' : Hp) (B' : List Nat), Ex H H' → TupN K H' t' B' → Oc.IsWith B v B' → B'.length ≤ B.length + 1 → Q (.ref t') H'
theorem sc_with_word : FnScope ["basis", "word", "left", "one"] ["basis", "word"] (defScope (top 25)) := ⟨rfl, rfl, rfl, by decide +kernel, rfl, by decide +kernel, by decide +kernel⟩
theorem C_with_word (T : Top K mg) : Cal P w K mg base 2 "with_word" (sp_with K) [] := by
  refine cal_of (T.fn 7 _ rfl) sc_with_word (fun _ _ _ _ _ _ us hl => match us, hl with | [_, _], _ => rfl) (fun vs H Q E h => ?_) (fun cdv A outer s H vs Q E hr h => ?_)
  · obtain ⟨t, B, v, rfl, hT, hl, hp, q⟩ := h
    rfl
  obtain ⟨t, B, v, rfl, hT, hl, hp, q⟩ := h
  refine ⟨_, (pss_cons (ps_set (i := 2) sc_with_word.nd rfl (.inr rfl) (pe_c (C_left_of T) hr (by decide) rfl (pa_cons (pv 0) (pa_cons (pv 1) pa_nil)))) (pss_cons (ps_if (pt_cmpR n_eq (pv 2) (pe_nat 0) (nomark _)) (pss_one (ps_ret (pv 0))) pss_nil) (pss_one (ps_ret (pe_callTy call_tuple_of (by rfl) (T.fr 4 _ rfl) (by decide +kernel) (pa_cons (pe_callBK (cr_sortedRev (b := true)) (by rfl) (T.fr 8 _ rfl) boot_sorted (pa_cons (pe_op op_cat (pe_lc (own := [("one", 3)]) rfl sc_with_word.nd (pi_tup (pv 0)) (blkOk_by (N := (["basis", "word", "left", "one"] : List Str)) (sc := defScope (top 25)) (by decide +kernel)) (fun _ _ _ _ _ => (pg_name (i := 3) sc_with_word.nd rfl (.inl rfl))) (fun _ _ _ _ _ => pts_nil) (fun _ _ _ _ _ => (pe_callB (n_min rfl) (by rfl) (T.fr 6 _ rfl) (by decide +kernel) (pa_cons (pv 3) (pa_cons (pe_op n_xor (pv 3) (pv 2)) pa_nil))))) (pe_lst (pa_cons (pv 2) pa_nil))) pa_nil) (pk_cons pe_bl pk_nil)) pa_nil)))))), ?_⟩
  refine ⟨_, rfl, _, rfl, t, B, v, rfl, hT, ?_⟩
  refine ⟨_, rfl, Oc.leftOf B v, 0, rfl, rfl, tst_c (fun e => ?_) (fun e => ?_)⟩
  · exact ⟨_, rfl, q t H B (Ex.refl H) hT (Oc.isWith_same hp e) (Nat.le_succ _)⟩
  refine ⟨_, rfl, t, rfl, ⟨_, hT⟩, ?_⟩
  refine fun D hD => lc_go (walk_tup (xs := B.map nV)) hD (fun H' e => ex_t e hT) (by rw [List.length_map]; omega) (fun i => B[i]?.map fun o => nV (min o (o ^^^ Oc.leftOf B v))) ?_ ?_
  · rintro i x H1 H2 K1 K0 hi e1 ⟨rfl, hx⟩ k1 k0
    obtain ⟨b, hb, rfl⟩ := map_at hx
    refine ⟨rfl, tyes ⟨_, rfl, _, rfl, _, rfl, b, _, rfl, rfl, b, _, rfl, k1 _ _ (Ex.refl _) ?_⟩⟩
    show B[i]?.map _ = _
    rw [hb] <;> rfl
  · intro H1 e1 h1
    rw [List.length_map, fm_map] at h1
    refine ⟨_, rfl, Nat.le_trans (show 1 ≤ 1000 by omega) (by decide), fun p2 hp2 => ?_⟩
    have e2 : Ex H1 (upd H1 p2 (.lst [nV (Oc.leftOf B v)])) := Ex.new hp2
    refine ⟨D, p2, _, _, rfl, rfl, e2 D _ h1, upd_same, ?_, fun p3 hp3 => ?_⟩
    · rw [List.length_map]
      exact Nat.le_trans (show B.length + 1 ≤ 100000 by omega) (by decide)
    have e3 := Ex.new (o := .lst ((B.map fun o => nV (min o (o ^^^ Oc.leftOf B v))) ++ [nV (Oc.leftOf B v)])) hp3
    have hm : (B.map fun o => nV (min o (o ^^^ Oc.leftOf B v))) ++ [nV (Oc.leftOf B v)] = ((Oc.redOf (Oc.leftOf B v) B ++ [Oc.leftOf B v]).map fun n : Nat => (n : Int)).map V.int := by
      rw [← toNat_map, List.map_append]
      unfold Oc.redOf
      rw [List.map_map] <;> rfl
    refine ⟨p3, _, rfl, rfl, SqL.of (by rw [← hm]; exact upd_same), fun ns' p4 hperm _ hp4 => ?_⟩
    obtain ⟨B', hB, rfl⟩ := perm_nat hperm
    have e4 := Ex.new (o := .lst ((B'.map fun n : Nat => (n : Int)).map V.int)) hp4
    refine ⟨p4, _, rfl, .inl ⟨SqL.of upd_same, fun p5 hp5 => ?_⟩⟩
    have e5 := Ex.new (o := .tup ((B'.map fun n : Nat => (n : Int)).map V.int)) hp5
    refine q p5 _ B' ((((e1.trans e2).trans e3).trans e4).trans e5) (SqT.of (by rw [toNat_map]; exact upd_same)) (Oc.isWith_new hp e hB) ?_
    have hlen := hB.length_eq
    unfold Oc.redOf at hlen
    rw [List.length_append, List.length_map] at hlen
    show B'.length ≤ B.length + 1
    rw [← hlen] <;> exact Nat.le_refl _
/-- the plain basis of a list, a tuple of words -/
def RetB (K : PySem.W.Frag) (W : List Nat) (H : Hp) (Q : VK) : Prop := ∀ (t : Addr) (H' : Hp) (B : List Nat), Ex H H' → TupN K H' t B → Oc.IsBasis W B → B.length ≤ W.length → Q (.ref t) H'
def sp_plainL (K : PySem.W.Frag) : Sp := fun vs H Q _ => ∃ (a : Addr) (W : List Nat), vs = [.ref a] ∧ LstN K H a W ∧ W.length ≤ 100 ∧ RetB K W H Q
def sp_plainT (K : PySem.W.Frag) : Sp := fun vs H Q _ => ∃ (a : Addr) (W : List Nat), vs = [.ref a] ∧ TupN K H a W ∧ W.length ≤ 100 ∧ RetB K W H Q
def PbW (K : PySem.W.Frag) (a : Addr) (W : List Nat) (H : Hp) (i : Nat) (σ : L2.St) (H' : Hp) : Prop :=
  ∃ (t : Addr) (B : List Nat) (y : Option V), σ = [some (.ref a), some (.ref t), y] ∧ Ex H H' ∧ TupN K H' t B ∧ Oc.IsBasis (W.take i) B ∧ B.length ≤ i
theorem sc_plain_basis : FnScope ["words", "found", "word"] ["words"] (defScope (top 26)) := ⟨rfl, rfl, rfl, by decide +kernel, rfl, by decide +kernel, by decide +kernel⟩
theorem C_plain_basis (T : Top K mg) : Cal P w K mg base 3 "plain_basis" (sp_plainL K) [] := by
  refine cal_of (T.fn 8 _ rfl) sc_plain_basis (fun _ _ _ _ _ _ us hl => match us, hl with | [_], _ => rfl) (fun vs H Q E h => ?_) (fun cdv A outer s H vs Q E hr h => ?_)
  · obtain ⟨a, W, rfl, hA, hl, q⟩ := h
    rfl
  obtain ⟨a, W, rfl, hA, hl, q⟩ := h
  refine ⟨_, (pss_cons (ps_set (i := 1) sc_plain_basis.nd rfl (.inl rfl) (pe_tup pa_nil)) (pss_cons (ps_for PassesOwn.never rfl (pi_list (pv 0)) (pg_name (i := 2) sc_plain_basis.nd rfl (.inl rfl)) (pss_one (ps_set (i := 1) sc_plain_basis.nd rfl (.inl rfl) (pe_c (C_with_word T) hr (by decide) rfl (pa_cons (pv 1) (pa_cons (pv 2) pa_nil)))))) (pss_one (ps_ret (pv 1))))), ?_⟩
  refine ⟨Nat.zero_le _, fun p hp => ?_⟩
  have e1 := Ex.new (o := .tup []) hp
  refine ⟨_, rfl, a, rfl, ⟨_, ex_l e1 hA⟩, for_it (walk_list (xs := W.map nV)) (PbW K a W H) ⟨p, [], none, rfl, e1, SqT.of upd_same, Oc.IsBasis.nil, Nat.le_refl _⟩ ?_ ?_ ?_⟩
  · rintro i σ H' _ ⟨t, B, y, rfl, e2, _⟩
    exact ex_l e2 hA
  · rintro i x σ H' H'' hi ⟨t, B, y, rfl, e2, hT, hB, hlB⟩ ⟨rfl, hx⟩
    obtain ⟨b, hb, rfl⟩ := map_at hx
    have hiW := lt_of_at hb
    refine ⟨_, rfl, _, rfl, t, B, b, rfl, hT, by omega, hB.plain, fun t' H3 B' e3 hT' hW hl' => ?_⟩
    refine ⟨t', B', some (nV b), rfl, e2.trans e3, hT', ?_, by omega⟩
    rw [take_at hb]
    exact hB.step hW
  · rintro σ H' ⟨t, B, y, rfl, e2, hT, hB, hlB⟩
    rw [List.length_map] at hB hlB
    rw [List.take_length] at hB
    exact ⟨_, rfl, q t H' B e2 hT hB hlB⟩
theorem C_plain_basis_t (T : Top K mg) : Cal P w K mg base 3 "plain_basis" (sp_plainT K) [] := by
  refine cal_of (T.fn 8 _ rfl) sc_plain_basis (fun _ _ _ _ _ _ us hl => match us, hl with | [_], _ => rfl) (fun vs H Q E h => ?_) (fun cdv A outer s H vs Q E hr h => ?_)
  · obtain ⟨a, W, rfl, hA, hl, q⟩ := h
    rfl
  obtain ⟨a, W, rfl, hA, hl, q⟩ := h
  refine ⟨_, (pss_cons (ps_set (i := 1) sc_plain_basis.nd rfl (.inl rfl) (pe_tup pa_nil)) (pss_cons (ps_for PassesOwn.never rfl (pi_tup (pv 0)) (pg_name (i := 2) sc_plain_basis.nd rfl (.inl rfl)) (pss_one (ps_set (i := 1) sc_plain_basis.nd rfl (.inl rfl) (pe_c (C_with_word T) hr (by decide) rfl (pa_cons (pv 1) (pa_cons (pv 2) pa_nil)))))) (pss_one (ps_ret (pv 1))))), ?_⟩
  refine ⟨Nat.zero_le _, fun p hp => ?_⟩
  have e1 := Ex.new (o := .tup []) hp
  refine ⟨_, rfl, a, rfl, ⟨_, ex_t e1 hA⟩, for_it (walk_tup (xs := W.map nV)) (PbW K a W H) ⟨p, [], none, rfl, e1, SqT.of upd_same, Oc.IsBasis.nil, Nat.le_refl _⟩ ?_ ?_ ?_⟩
  · rintro i σ H' _ ⟨t, B, y, rfl, e2, _⟩
    exact ex_t e2 hA
  · rintro i x σ H' H'' hi ⟨t, B, y, rfl, e2, hT, hB, hlB⟩ ⟨rfl, hx⟩
    obtain ⟨b, hb, rfl⟩ := map_at hx
    have hiW := lt_of_at hb
    refine ⟨_, rfl, _, rfl, t, B, b, rfl, hT, by omega, hB.plain, fun t' H3 B' e3 hT' hW hl' => ?_⟩
    refine ⟨t', B', some (nV b), rfl, e2.trans e3, hT', ?_, by omega⟩
    rw [take_at hb]
    exact hB.step hW
  · rintro σ H' ⟨t, B, y, rfl, e2, hT, hB, hlB⟩
    rw [List.length_map] at hB hlB
    rw [List.take_length] at hB
    exact ⟨_, rfl, q t H' B e2 hT hB hlB⟩
end
end OcW

set_option Elab.async false
set_option linter.all false
set_option maxRecDepth 100000
set_option maxHeartbeats 4000000
set_option autoImplicit false
namespace OcW
open PySem PySem.Spec PyProof.Rows L2 Evl
open C8 (Cal Met Mak pe_c pe_mk pe_mt InsC call_isC)
def fT (n : Nat) (t : Addr) : List (Str × V) := putF "told_basis" (.ref t) (putF "told_places" (nV n) [])
def fR (n : Nat) (t : Addr) : List (Str × V) := putF "own_basis" (.ref t) (putF "own_places" (nV n) [])
theorem fT_p (n : Nat) (t : Addr) : (fT n t).lookup ("told_places" : Str) = some (nV n) := by
  unfold fT
  rw [lookup_putF, if_neg (by decide +kernel), lookup_putF, if_pos rfl]
theorem fT_b (n : Nat) (t : Addr) : (fT n t).lookup ("told_basis" : Str) = some (.ref t) := by
  unfold fT
  rw [lookup_putF, if_pos rfl]
theorem fR_p (n : Nat) (t : Addr) : (fR n t).lookup ("own_places" : Str) = some (nV n) := by
  unfold fR
  rw [lookup_putF, if_neg (by decide +kernel), lookup_putF, if_pos rfl]
theorem fR_b (n : Nat) (t : Addr) : (fR n t).lookup ("own_basis" : Str) = some (.ref t) := by
  unfold fR
  rw [lookup_putF, if_pos rfl]
theorem fR_has (n : Nat) (t : Addr) : (fR n t).lookup ("has" : Str) = none := by
  unfold fR
  rw [lookup_putF, if_neg (by decide +kernel), lookup_putF, if_neg (by decide +kernel)]
  rfl
theorem ex_made {H : Hp} {x dx C : Addr} {fs : List (Str × V)} (nx : H x = none) (nd : H dx = none) : Ex H (upd (upd H dx (.own x)) x (.ins C dx fs)) := fun b o e => by
  rw [upd_ne (ne_of_none e nx), upd_ne (ne_of_none e nd)]
  exact e
section
variable {P : Program} {w : World} {K : PySem.W.Frag} {mg : Str → Option Value} {base : Heap}
abbrev aT (K : PySem.W.Frag) : Addr := He.ga K "Told"
abbrev aR (K : PySem.W.Frag) : Addr := He.ga K "Room"
def ToldAt (K : PySem.W.Frag) (H : Hp) (q : Addr) (n : Nat) (B : List Nat) : Prop := ∃ (dx t : Addr), H q = some (.ins (aT K) dx (fT n t)) ∧ TupN K H t B
def RoomAt (K : PySem.W.Frag) (H : Hp) (r : Addr) (n : Nat) (B : List Nat) : Prop := ∃ (dx t : Addr), H r = some (.ins (aR K) dx (fR n t)) ∧ TupN K H t B
theorem RoomAt.up {H H' : Hp} {r : Addr} {n : Nat} {B : List Nat} (e : Ex H H') (h : RoomAt K H r n B) : RoomAt K H' r n B := by
  obtain ⟨dx, t, h1, h2⟩ := h
  exact ⟨dx, t, e _ _ h1, ex_t e h2⟩
/-! ### classes -/
def sp_initT (K : PySem.W.Frag) : Sp := fun vs H Q _ => ∃ (p dx : Addr) (n : Nat) (t : Addr), vs = [.ref p, nV n, .ref t] ∧ H p = some (.ins (aT K) dx []) ∧ Q .non (upd H p (.ins (aT K) dx (fT n t)))
theorem sc_Told___init__ : FnScope ["self", "places", "basis"] ["self", "places", "basis"] (defScope (inClass (top 28) 0)) := ⟨rfl, rfl, rfl, by decide +kernel, rfl, by decide +kernel, by decide +kernel⟩
theorem M_Told (T : Top K mg) : Mak P w K mg base 1 "Told" (He.ga K "Told") (sp_initT K) [] := by
  refine mak_of T.told T.iniT sc_Told___init__ (fun _ _ _ _ _ _ us hl => match us, hl with | [_, _, _], _ => rfl) (fun vs H Q E h => ?_) (fun cdv A outer s H vs Q E hr h => ?_)
  · obtain ⟨p, dx, n, t, rfl, hp, q⟩ := h
    rfl
  obtain ⟨p, dx, n, t, rfl, hp, q⟩ := h
  refine ⟨_, (pss_cons (ps_fld (pv 0) (pv 1) rfl) (pss_one (ps_fld (pv 0) (pv 2) rfl))), ?_⟩
  refine ⟨_, rfl, _, rfl, p, _, dx, _, rfl, hp, T.told.cl, T.nTp, (by show 0 < 1000; decide), ?_⟩
  refine ⟨_, rfl, _, rfl, p, _, dx, _, rfl, upd_same, T.told.cl, T.nTb, (by show 1 < 1000; decide), ?_⟩
  rw [upd_upd]
  exact q
/-- places, a list of words that are words of these places -/
def sp_toldA (K : PySem.W.Frag) : Sp := fun vs H Q _ => ∃ (q : Addr) (v : V) (dx : Addr) (fs : List (Str × V)), vs = [.ref q, v] ∧ H q = some (.ins (aT K) dx fs) ∧ Q (.ref q) H
theorem sc_told_room : FnScope ["places", "words", "position", "word"] ["places", "words"] (defScope (top 29)) := ⟨rfl, rfl, rfl, by decide +kernel, rfl, by decide +kernel, by decide +kernel⟩
theorem C_told_room (T : Top K mg) : Cal P w K mg base 5 "told_room" (sp_toldA K) [] := by
  refine cal_of (T.fn 9 _ rfl) sc_told_room (fun _ _ _ _ _ _ us hl => match us, hl with | [_, _], _ => rfl) (fun vs H Q E h => ?_) (fun cdv A outer s H vs Q E hr h => ?_)
  · obtain ⟨p, v, dx, fs, rfl, hp, q⟩ := h
    rfl
  obtain ⟨p, v, dx, fs, rfl, hp, q⟩ := h
  refine ⟨_, (pss_cons (ps_if (pt_val (pe_callB call_isi (by rfl) (T.fr 0 _ rfl) (by decide +kernel) (pa_cons (pv 0) (pa_cons (C8.pe_gc rfl T.c_Told) pa_nil)))) (pss_one (ps_ret (pv 0))) pss_nil) (pss_cons (ps_expr (pe_c (C_want_places T) hr (by decide) rfl (pa_cons (pv 0) pa_nil))) (pss_cons (ps_if (PW.pt (pw_or (pt_not (pt_val (pe_c (C_is_list T) hr (by decide) rfl (pa_cons (pv 1) pa_nil)))) (pw_or1 (pt_cmpR n_gt (pe_callB n_len (by rfl) (T.fr 5 _ rfl) (by decide +kernel) (pa_cons (pv 1) pa_nil)) (C8.pe_gc rfl T.c_MOST_WORDS) (nomark _))))) pss_never pss_nil) (pss_cons (ps_for PassesOwn.never rfl (pi_enum (by rfl) (T.fr 9 _ rfl) (pa_cons (pv 1) pa_nil)) (pg_tup rfl (pgs_cons (pg_name (i := 2) sc_told_room.nd rfl (.inl rfl)) (pgs_cons (pg_name (i := 3) sc_told_room.nd rfl (.inl rfl)) pgs_nil))) (pss_one (ps_if (PW.pt (pw_or (pt_not (pt_val (pe_c (C_is_count T) hr (by decide) rfl (pa_cons (pv 3) pa_nil)))) (pw_or1 (pt_cmpR n_ne (pe_op n_shr (pv 3) (pv 0)) (pe_nat 0) (nomark _))))) pss_never pss_nil))) (pss_one (ps_ret (pe_mk (M_Told T) hr (by decide) rfl (pa_cons (pv 0) (pa_cons (pe_c (C_plain_basis T) hr (by decide) rfl (pa_cons (pv 1) pa_nil)) pa_nil))))))))), ?_⟩
  refine ⟨_, rfl, _, _, _, _, true, rfl, .own _, .base (.ins hp T.told.cl T.told.ins.ha T.told.ins.hn T.told.ins.htk T.told.ins.hm), T.told.ins.me, true, rfl, iteT ?_⟩
  exact ⟨_, rfl, q⟩
def sp_toldB (K : PySem.W.Frag) : Sp := fun vs H Q _ => ∃ (n : Nat) (a : Addr) (W : List Nat), vs = [nV n, .ref a] ∧ 1 ≤ n ∧ n ≤ 24 ∧ H a = some (.lst (W.map nV)) ∧ W.length ≤ 48 ∧ Oc.Lt n W ∧
  ∀ (q : Addr) (H' : Hp) (B : List Nat), Ex H H' → ToldAt K H' q n B → Oc.IsBasis W B → B.length ≤ W.length → Q (.ref q) H'
theorem C_told_room_b (T : Top K mg) : Cal P w K mg base 5 "told_room" (sp_toldB K) [] := by
  refine cal_of (T.fn 9 _ rfl) sc_told_room (fun _ _ _ _ _ _ us hl => match us, hl with | [_, _], _ => rfl) (fun vs H Q E h => ?_) (fun cdv A outer s H vs Q E hr h => ?_)
  · obtain ⟨n, a, W, rfl, h1, h24, hA, hl, hlt, q⟩ := h
    rfl
  obtain ⟨n, a, W, rfl, h1, h24, hA, hl, hlt, q⟩ := h
  refine ⟨_, (pss_cons (ps_if (pt_val (pe_callB call_isi (by rfl) (T.fr 0 _ rfl) (by decide +kernel) (pa_cons (pv 0) (pa_cons (C8.pe_gc rfl T.c_Told) pa_nil)))) (pss_one (ps_ret (pv 0))) pss_nil) (pss_cons (ps_expr (pe_c (C_want_places T) hr (by decide) rfl (pa_cons (pv 0) pa_nil))) (pss_cons (ps_if (PW.pt (pw_or (pt_not (pt_val (pe_c (C_is_list T) hr (by decide) rfl (pa_cons (pv 1) pa_nil)))) (pw_or1 (pt_cmpR n_gt (pe_callB n_len (by rfl) (T.fr 5 _ rfl) (by decide +kernel) (pa_cons (pv 1) pa_nil)) (C8.pe_gc rfl T.c_MOST_WORDS) (nomark _))))) pss_never pss_nil) (pss_cons (ps_for PassesOwn.never rfl (pi_enum (by rfl) (T.fr 9 _ rfl) (pa_cons (pv 1) pa_nil)) (pg_tup rfl (pgs_cons (pg_name (i := 2) sc_told_room.nd rfl (.inl rfl)) (pgs_cons (pg_name (i := 3) sc_told_room.nd rfl (.inl rfl)) pgs_nil))) (pss_one (ps_if (PW.pt (pw_or (pt_not (pt_val (pe_c (C_is_count T) hr (by decide) rfl (pa_cons (pv 3) pa_nil)))) (pw_or1 (pt_cmpR n_ne (pe_op n_shr (pv 3) (pv 0)) (pe_nat 0) (nomark _))))) pss_never pss_nil))) (pss_one (ps_ret (pe_mk (M_Told T) hr (by decide) rfl (pa_cons (pv 0) (pa_cons (pe_c (C_plain_basis T) hr (by decide) rfl (pa_cons (pv 1) pa_nil)) pa_nil))))))))), ?_⟩
  refine ⟨_, rfl, _, _, _, _, false, rfl, .own _, .base (.int _), T.intTold, false, rfl, iteF ?_⟩
  refine ⟨_, rfl, n, rfl, h1, h24, ?_⟩
  refine ⟨_, rfl, a, rfl, .inl ⟨_, hA⟩, fun H1 e1 => ⟨true, rfl, ?_⟩⟩
  refine iteF ⟨_, rfl, a, W.map nV, rfl, .inl (SqL.of (e1 a _ hA)), (W.map nV).length, 48, rfl, rfl, tst_f (by rw [List.length_map]; omega) ?_⟩
  refine ⟨_, rfl, a, W.map nV, rfl, SqL.of (e1 a _ hA), for_it (walk_enum (xs := W.map nV)) (fun i σ H' => ∃ y2 y3, σ = [some (nV n), some (.ref a), y2, y3] ∧ Ex H1 H') ⟨none, none, rfl, Ex.refl _⟩ ?_ ?_ ?_⟩
  · rintro i σ H' _ ⟨y2, y3, rfl, e2⟩
    exact SqL.of (e2 a _ (e1 a _ hA))
  · rintro i x σ H' H'' hi ⟨y2, y3, rfl, e2⟩ ⟨p, u, v, rfl, np, rfl, hu, hv⟩
    obtain ⟨b, hb, rfl⟩ := map_at hv
    have eu : u = nV i := (Option.some.inj hu).symm
    subst eu
    have e3 : Ex H' (upd H' p (.tup [nV i, nV b])) := Ex.new np
    refine ⟨p, _, rfl, SqT.of upd_same, rfl, _, _, rfl, _, _, rfl, rfl, ?_⟩
    refine ⟨_, rfl, b, rfl, true, rfl, iteF ⟨_, rfl, _, rfl, b, n, rfl, rfl, b / 2 ^ n, 0, rfl, rfl, tst_nf ?_ ⟨_, _, rfl, e2.trans e3⟩⟩⟩
    exact Nat.div_eq_of_lt (hlt b (List.mem_of_getElem? hb))
  · rintro σ H2 ⟨y2, y3, rfl, e2⟩
    refine ⟨_, rfl, _, rfl, a, W, rfl, SqL.of (e2 a _ (e1 a _ hA)), by omega, fun t H3 B e3 hT hB hlB => ?_⟩
    intro x dx nx nd ne
    refine ⟨x, dx, n, t, rfl, upd_same, rfl, ?_⟩
    rw [upd_upd]
    have e4 : Ex H3 (upd (upd H3 dx (.own x)) x (.ins (aT K) dx (fT n t))) := ex_made nx nd
    exact q x _ B (((e1.trans e2).trans e3).trans e4) ⟨dx, t, upd_same, ex_t e4 hT⟩ hB hlB
def sp_initRA (K : PySem.W.Frag) : Sp := fun vs H Q _ => ∃ (p dx q dq : Addr) (n : Nat) (t : Addr) (v : V), vs = [.ref p, .ref q, v] ∧ H p = some (.ins (aR K) dx []) ∧ H q = some (.ins (aT K) dq (fT n t)) ∧ q ≠ p ∧ Q .non (upd H p (.ins (aR K) dx (fR n t)))
theorem sc_Room___init__ : FnScope ["self", "places", "words", "told"] ["self", "places", "words"] (defScope (inClass (top 30) 0)) := ⟨rfl, rfl, rfl, by decide +kernel, rfl, by decide +kernel, by decide +kernel⟩
theorem M_Room (T : Top K mg) : Mak P w K mg base 6 "Room" (He.ga K "Room") (sp_initRA K) [] := by
  refine mak_of T.room T.iniR sc_Room___init__ (fun _ _ _ _ _ _ us hl => match us, hl with | [_, _, _], _ => rfl) (fun vs H Q E h => ?_) (fun cdv A outer s H vs Q E hr h => ?_)
  · obtain ⟨p, dx, q', dq, n, t, v, rfl, hp, hq, hne, q⟩ := h
    rfl
  obtain ⟨p, dx, q', dq, n, t, v, rfl, hp, hq, hne, q⟩ := h
  refine ⟨_, (pss_cons (ps_set (i := 3) sc_Room___init__.nd rfl (.inl rfl) (pe_c (C_told_room T) hr (by decide) rfl (pa_cons (pv 1) (pa_cons (pv 2) pa_nil)))) (pss_cons (ps_fld (pv 0) (pe_fld (pv 3) rfl) rfl) (pss_one (ps_fld (pv 0) (pe_fld (pv 3) rfl) rfl)))), ?_⟩
  refine ⟨_, rfl, _, rfl, q', v, dq, _, rfl, hq, ?_⟩
  refine ⟨_, rfl, q', _, dq, _, _, rfl, hq, T.told.cl, T.nTp, fT_p n t, _, rfl, p, _, dx, _, rfl, hp, T.room.cl, T.nRp, (by show 0 < 1000; decide), ?_⟩
  refine ⟨_, rfl, q', _, dq, _, _, rfl, (by rw [upd_ne hne]; exact hq), T.told.cl, T.nTb, fT_b n t, _, rfl, p, _, dx, _, rfl, upd_same, T.room.cl, T.nRb, (by show 1 < 1000; decide), ?_⟩
  rw [upd_upd]
  exact q
/-- from a list of words -/
def sp_initRB (K : PySem.W.Frag) : Sp := fun vs H Q _ => ∃ (p dx : Addr) (n : Nat) (a : Addr) (W : List Nat), vs = [.ref p, nV n, .ref a] ∧ H p = some (.ins (aR K) dx []) ∧ 1 ≤ n ∧ n ≤ 24 ∧ H a = some (.lst (W.map nV)) ∧ W.length ≤ 48 ∧ Oc.Lt n W ∧
  ∀ (H1 : Hp) (t : Addr) (B : List Nat), Ex H H1 → TupN K H1 t B → Oc.IsBasis W B → B.length ≤ W.length → Q .non (upd H1 p (.ins (aR K) dx (fR n t)))
theorem M_Room_b (T : Top K mg) : Mak P w K mg base 6 "Room" (He.ga K "Room") (sp_initRB K) [] := by
  refine mak_of T.room T.iniR sc_Room___init__ (fun _ _ _ _ _ _ us hl => match us, hl with | [_, _, _], _ => rfl) (fun vs H Q E h => ?_) (fun cdv A outer s H vs Q E hr h => ?_)
  · obtain ⟨p, dx, n, a, W, rfl, hp, h1, h24, hA, hl, hlt, q⟩ := h
    rfl
  obtain ⟨p, dx, n, a, W, rfl, hp, h1, h24, hA, hl, hlt, q⟩ := h
  refine ⟨_, (pss_cons (ps_set (i := 3) sc_Room___init__.nd rfl (.inl rfl) (pe_c (C_told_room_b T) hr (by decide) rfl (pa_cons (pv 1) (pa_cons (pv 2) pa_nil)))) (pss_cons (ps_fld (pv 0) (pe_fld (pv 3) rfl) rfl) (pss_one (ps_fld (pv 0) (pe_fld (pv 3) rfl) rfl)))), ?_⟩
  refine ⟨_, rfl, _, rfl, n, a, W, rfl, h1, h24, hA, hl, hlt, fun q' H1 B e1 hq hB hlB => ?_⟩
  obtain ⟨dq, t, hq, hT⟩ := hq
  have hne : q' ≠ p := ne_of hq (e1 p _ hp) (fun z => by
    have z1 : (fT n t).length = 0 := congrArg (fun o : HO => match o with | .ins _ _ fs => fs.length | _ => 0) z
    exact absurd z1 (by show ¬ 2 = 0; decide))
  refine ⟨_, rfl, q', _, dq, _, _, rfl, hq, T.told.cl, T.nTp, fT_p n t, _, rfl, p, _, dx, _, rfl, e1 p _ hp, T.room.cl, T.nRp, (by show 0 < 1000; decide), ?_⟩
  refine ⟨_, rfl, q', _, dq, _, _, rfl, (by rw [upd_ne hne]; exact hq), T.told.cl, T.nTb, fT_b n t, _, rfl, p, _, dx, _, rfl, upd_same, T.room.cl, T.nRb, (by show 1 < 1000; decide), ?_⟩
  rw [upd_upd]
  exact q H1 t B e1 hT hB hlB
def RetR (K : PySem.W.Frag) (n : Nat) (B : List Nat) (H : Hp) (Q : VK) : Prop := ∀ (r : Addr) (H' : Hp), Ex H H' → RoomAt K H' r n B → Q (.ref r) H'
def RetRB (K : PySem.W.Frag) (n : Nat) (W : List Nat) (H : Hp) (Q : VK) : Prop := ∀ (r : Addr) (H' : Hp) (B : List Nat), Ex H H' → RoomAt K H' r n B → Oc.IsBasis W B → B.length ≤ W.length → Q (.ref r) H'
def sp_roomby (K : PySem.W.Frag) : Sp := fun vs H Q _ => ∃ (n : Nat) (t : Addr) (B : List Nat), vs = [nV n, .ref t] ∧ TupN K H t B ∧ RetR K n B H Q
theorem sc_room_by : FnScope ["places", "basis"] ["places", "basis"] (defScope (top 31)) := ⟨rfl, rfl, rfl, by decide +kernel, rfl, by decide +kernel, by decide +kernel⟩
theorem C_room_by (T : Top K mg) : Cal P w K mg base 8 "room_by" (sp_roomby K) [] := by
  refine cal_of (T.fn 10 _ rfl) sc_room_by (fun _ _ _ _ _ _ us hl => match us, hl with | [_, _], _ => rfl) (fun vs H Q E h => ?_) (fun cdv A outer s H vs Q E hr h => ?_)
  · obtain ⟨n, t, B, rfl, hT, q⟩ := h
    rfl
  obtain ⟨n, t, B, rfl, hT, q⟩ := h
  refine ⟨_, (pss_one (ps_ret (pe_mk (M_Room T) hr (by decide) rfl (pa_cons (pe_mk (M_Told T) hr (by decide) rfl (pa_cons (pv 0) (pa_cons (pv 1) pa_nil))) (pa_cons pe_non pa_nil))))), ?_⟩
  refine ⟨_, rfl, _, rfl, ?_⟩
  intro x dx nx nd ne
  refine ⟨x, dx, n, t, rfl, upd_same, rfl, ?_⟩
  rw [upd_upd]
  have e1 : Ex H (upd (upd H dx (.own x)) x (.ins (aT K) dx (fT n t))) := ex_made nx nd
  intro x2 dx2 nx2 nd2 ne2
  have e2 : Ex (upd (upd H dx (.own x)) x (.ins (aT K) dx (fT n t))) (upd (upd (upd (upd H dx (.own x)) x (.ins (aT K) dx (fT n t))) dx2 (.own x2)) x2 (.ins (aR K) dx2 [])) := ex_made nx2 nd2
  have hx : x ≠ x2 := ne_of_none upd_same nx2
  refine ⟨x2, dx2, x, dx, n, t, _, rfl, upd_same, e2 x _ upd_same, hx, rfl, ?_⟩
  rw [upd_upd]
  have e3 := ex_made (fs := fR n t) (C := aR K) nx2 nd2
  exact q x2 _ (e1.trans e3) ⟨dx2, t, upd_same, ex_t (e1.trans e3) hT⟩
def sp_roomofL (K : PySem.W.Frag) : Sp := fun vs H Q _ => ∃ (n : Nat) (a : Addr) (W : List Nat), vs = [nV n, .ref a] ∧ LstN K H a W ∧ W.length ≤ 100 ∧ RetRB K n W H Q
def sp_roomofT (K : PySem.W.Frag) : Sp := fun vs H Q _ => ∃ (n : Nat) (a : Addr) (W : List Nat), vs = [nV n, .ref a] ∧ TupN K H a W ∧ W.length ≤ 100 ∧ RetRB K n W H Q
theorem sc_room_of : FnScope ["places", "words"] ["places", "words"] (defScope (top 32)) := ⟨rfl, rfl, rfl, by decide +kernel, rfl, by decide +kernel, by decide +kernel⟩
theorem C_room_of (T : Top K mg) : Cal P w K mg base 8 "room_of" (sp_roomofL K) [] := by
  refine cal_of (T.fn 11 _ rfl) sc_room_of (fun _ _ _ _ _ _ us hl => match us, hl with | [_, _], _ => rfl) (fun vs H Q E h => ?_) (fun cdv A outer s H vs Q E hr h => ?_)
  · obtain ⟨n, a, W, rfl, hA, hl, q⟩ := h
    rfl
  obtain ⟨n, a, W, rfl, hA, hl, q⟩ := h
  refine ⟨_, (pss_one (ps_ret (pe_mk (M_Room T) hr (by decide) rfl (pa_cons (pe_mk (M_Told T) hr (by decide) rfl (pa_cons (pv 0) (pa_cons (pe_c (C_plain_basis T) hr (by decide) rfl (pa_cons (pv 1) pa_nil)) pa_nil))) (pa_cons pe_non pa_nil))))), ?_⟩
  refine ⟨_, rfl, _, rfl, a, W, rfl, hA, hl, fun t H0 B e0 hT hB hlB => ?_⟩
  intro x dx nx nd ne
  refine ⟨x, dx, n, t, rfl, upd_same, rfl, ?_⟩
  rw [upd_upd]
  have e1 : Ex H0 (upd (upd H0 dx (.own x)) x (.ins (aT K) dx (fT n t))) := ex_made nx nd
  intro x2 dx2 nx2 nd2 ne2
  have e2 : Ex (upd (upd H0 dx (.own x)) x (.ins (aT K) dx (fT n t))) (upd (upd (upd (upd H0 dx (.own x)) x (.ins (aT K) dx (fT n t))) dx2 (.own x2)) x2 (.ins (aR K) dx2 [])) := ex_made nx2 nd2
  have hx : x ≠ x2 := ne_of_none upd_same nx2
  refine ⟨x2, dx2, x, dx, n, t, _, rfl, upd_same, e2 x _ upd_same, hx, rfl, ?_⟩
  rw [upd_upd]
  have e3 := ex_made (fs := fR n t) (C := aR K) nx2 nd2
  exact q x2 _ B (e0.trans (e1.trans e3)) ⟨dx2, t, upd_same, ex_t (e1.trans e3) hT⟩ hB hlB
theorem C_room_of_t (T : Top K mg) : Cal P w K mg base 8 "room_of" (sp_roomofT K) [] := by
  refine cal_of (T.fn 11 _ rfl) sc_room_of (fun _ _ _ _ _ _ us hl => match us, hl with | [_, _], _ => rfl) (fun vs H Q E h => ?_) (fun cdv A outer s H vs Q E hr h => ?_)
  · obtain ⟨n, a, W, rfl, hA, hl, q⟩ := h
    rfl
  obtain ⟨n, a, W, rfl, hA, hl, q⟩ := h
  refine ⟨_, (pss_one (ps_ret (pe_mk (M_Room T) hr (by decide) rfl (pa_cons (pe_mk (M_Told T) hr (by decide) rfl (pa_cons (pv 0) (pa_cons (pe_c (C_plain_basis_t T) hr (by decide) rfl (pa_cons (pv 1) pa_nil)) pa_nil))) (pa_cons pe_non pa_nil))))), ?_⟩
  refine ⟨_, rfl, _, rfl, a, W, rfl, hA, hl, fun t H0 B e0 hT hB hlB => ?_⟩
  intro x dx nx nd ne
  refine ⟨x, dx, n, t, rfl, upd_same, rfl, ?_⟩
  rw [upd_upd]
  have e1 : Ex H0 (upd (upd H0 dx (.own x)) x (.ins (aT K) dx (fT n t))) := ex_made nx nd
  intro x2 dx2 nx2 nd2 ne2
  have e2 : Ex (upd (upd H0 dx (.own x)) x (.ins (aT K) dx (fT n t))) (upd (upd (upd (upd H0 dx (.own x)) x (.ins (aT K) dx (fT n t))) dx2 (.own x2)) x2 (.ins (aR K) dx2 [])) := ex_made nx2 nd2
  have hx : x ≠ x2 := ne_of_none upd_same nx2
  refine ⟨x2, dx2, x, dx, n, t, _, rfl, upd_same, e2 x _ upd_same, hx, rfl, ?_⟩
  rw [upd_upd]
  have e3 := ex_made (fs := fR n t) (C := aR K) nx2 nd2
  exact q x2 _ B (e0.trans (e1.trans e3)) ⟨dx2, t, upd_same, ex_t (e1.trans e3) hT⟩ hB hlB
def sp_wroom (K : PySem.W.Frag) : Sp := fun vs H Q _ => ∃ (r : Addr) (n : Nat) (B : List Nat), vs = [.ref r] ∧ RoomAt K H r n B ∧ Q .non H
theorem sc_want_room : FnScope ["value"] ["value"] (defScope (top 33)) := ⟨rfl, rfl, rfl, by decide +kernel, rfl, by decide +kernel, by decide +kernel⟩
theorem C_want_room (T : Top K mg) : Cal P w K mg base 1 "want_room" (sp_wroom K) [] := by
  refine cal_of (T.fn 12 _ rfl) sc_want_room (fun _ _ _ _ _ _ us hl => match us, hl with | [_], _ => rfl) (fun vs H Q E h => ?_) (fun cdv A outer s H vs Q E hr h => ?_)
  · obtain ⟨r, n, B, rfl, ⟨dx, t, hr1, hT⟩, q⟩ := h
    rfl
  obtain ⟨r, n, B, rfl, ⟨dx, t, hr1, hT⟩, q⟩ := h
  refine ⟨_, (pss_one (ps_if (pt_not (pt_val (pe_callB (call_isC T.room.ins) (by rfl) (T.fr 0 _ rfl) (by decide +kernel) (pa_cons (pv 0) (pa_cons (C8.pe_gc rfl T.c_Room) pa_nil))))) pss_never pss_nil)), ?_⟩
  exact ⟨_, rfl, r, dx, _, rfl, hr1, true, rfl, iteF q⟩
def sp_wword (K : PySem.W.Frag) : Sp := fun vs H Q _ => ∃ (r : Addr) (n : Nat) (B : List Nat) (v : Nat), vs = [.ref r, nV v] ∧ RoomAt K H r n B ∧ v < 2 ^ n ∧ Q .non H
theorem sc_want_word : FnScope ["room", "value"] ["room", "value"] (defScope (top 34)) := ⟨rfl, rfl, rfl, by decide +kernel, rfl, by decide +kernel, by decide +kernel⟩
theorem C_want_word (T : Top K mg) : Cal P w K mg base 3 "want_word" (sp_wword K) [] := by
  refine cal_of (T.fn 13 _ rfl) sc_want_word (fun _ _ _ _ _ _ us hl => match us, hl with | [_, _], _ => rfl) (fun vs H Q E h => ?_) (fun cdv A outer s H vs Q E hr h => ?_)
  · obtain ⟨r, n, B, v, rfl, ⟨dx, t, hr1, hT⟩, hv, q⟩ := h
    rfl
  obtain ⟨r, n, B, v, rfl, ⟨dx, t, hr1, hT⟩, hv, q⟩ := h
  refine ⟨_, (pss_one (ps_if (PW.pt (pw_or (pt_not (pt_val (pe_c (C_is_count T) hr (by decide) rfl (pa_cons (pv 1) pa_nil)))) (pw_or1 (pt_cmpR n_ne (pe_op n_shr (pv 1) (pe_fld (pv 0) rfl)) (pe_nat 0) (nomark _))))) pss_never pss_nil)), ?_⟩
  refine ⟨_, rfl, v, rfl, true, rfl, iteF ⟨_, rfl, _, rfl, r, _, dx, _, _, rfl, hr1, T.room.cl, T.nRp, fR_p n t, v, n, rfl, rfl, v / 2 ^ n, 0, rfl, rfl, tst_nf (Nat.div_eq_of_lt hv) q⟩⟩
def sp_has (K : PySem.W.Frag) : Sp := fun vs H Q _ => ∃ (r : Addr) (n : Nat) (B : List Nat) (v : Nat), vs = [.ref r, nV v] ∧ RoomAt K H r n B ∧ v < 2 ^ n ∧ Oc.Plain B ∧ Q (.bl (Oc.sp B v)) H
theorem sc_Room_has : FnScope ["self", "word"] ["self", "word"] (defScope (inClass (top 30) 4)) := ⟨rfl, rfl, rfl, by decide +kernel, rfl, by decide +kernel, by decide +kernel⟩
theorem T_has (T : Top K mg) : Met P w K mg base 4 (He.ga K "Room") "has" (sp_has K) [] := by
  refine met_of T.room T.hasR T.hasM sc_Room_has (fun _ _ _ _ _ _ us hl => match us, hl with | [_, _], _ => rfl) (fun vs H Q E h => ?_) (fun cdv A outer s H vs Q E hr h => ?_)
  · obtain ⟨r, n, B, v, rfl, ⟨dx, t, hr1, hT⟩, hv, hp, q⟩ := h
    rfl
  obtain ⟨r, n, B, v, rfl, ⟨dx, t, hr1, hT⟩, hv, hp, q⟩ := h
  refine ⟨_, (pss_cons (ps_expr (pe_c (C_want_word T) hr (by decide) rfl (pa_cons (pv 0) (pa_cons (pv 1) pa_nil)))) (pss_one (ps_ret (pe_cmpR n_eq (pe_c (C_left_of T) hr (by decide) rfl (pa_cons (pe_fld (pv 0) rfl) (pa_cons (pv 1) pa_nil))) (pe_nat 0) (nomark _))))), ?_⟩
  refine ⟨_, rfl, _, rfl, r, n, B, v, rfl, ⟨dx, t, hr1, hT⟩, hv, ?_⟩
  refine ⟨_, rfl, r, _, dx, _, _, rfl, hr1, T.room.cl, T.nRb, fR_b n t, _, rfl, t, B, v, rfl, hT, Oc.leftOf B v, 0, rfl, rfl, ?_⟩
  by_cases c : Oc.leftOf B v = 0
  · rw [(Oc.left_zero hp v).mp c] at q
    exact bl_t (Q := Q) c q
  · have e : Oc.sp B v = false := by
      cases z : Oc.sp B v with
      | false => rfl
      | true => exact absurd ((Oc.left_zero hp v).mpr z) c
    rw [e] at q
    exact bl_f (Q := Q) c q
end
end OcW

set_option Elab.async false
set_option linter.all false
set_option maxRecDepth 100000
set_option maxHeartbeats 4000000
set_option autoImplicit false
namespace OcW
open PySem PySem.Spec PyProof.Rows L2 Evl
open C8 (Cal Met Mak pe_c pe_mk pe_mt InsC call_isC)
section
variable {P : Program} {w : World} {K : PySem.W.Frag} {mg : Str → Option Value} {base : Heap}
theorem hv_at : ∀ m : Nat, m < 16 → (halves.map V.int)[m]? = some (nV (Oc.hv m)) := by decide
theorem hv_ix {m : Nat} (h : m < 16) : atI (halves.map V.int) (m : Int) = some (nV (Oc.hv m)) := by
  rw [atI_nat (hv_at m h)]
theorem and15 (x : Nat) : x &&& 15 < 16 := Nat.and_lt_two_pow x (show 15 < 2 ^ 4 by decide)
def sp_weight : Sp := fun vs H Q _ => ∃ v : Nat, vs = [nV v] ∧ v < 2 ^ 24 ∧ Q (nV (Oc.wt v)) H
theorem sc_weight_of : FnScope ["word", "low"] ["word"] (defScope (top 37)) := ⟨rfl, rfl, rfl, by decide +kernel, rfl, by decide +kernel, by decide +kernel⟩
theorem C_weight_of (T : Top K mg) : Cal P w K mg base 1 "weight_of" sp_weight [] := by
  refine cal_of (T.fn 14 _ rfl) sc_weight_of (fun _ _ _ _ _ _ us hl => match us, hl with | [_], _ => rfl) (fun vs H Q E h => ?_) (fun cdv A outer s H vs Q E hr h => ?_)
  · obtain ⟨v, rfl, hv, q⟩ := h
    rfl
  obtain ⟨v, rfl, hv, q⟩ := h
  refine ⟨_, (pss_cons (ps_set (i := 1) sc_weight_of.nd rfl (.inl rfl) (pe_op n_add (pe_op n_add (pe_ix (r := rIxT K) ix_tup (C8.pe_gc rfl T.c_HALVES) (pe_op n_and (pv 0) (pe_nat 15)) (fun _ _ => rfl)) (pe_ix (r := rIxT K) ix_tup (C8.pe_gc rfl T.c_HALVES) (pe_op n_and (pe_op n_shr (pv 0) (pe_nat 4)) (pe_nat 15)) (fun _ _ => rfl))) (pe_ix (r := rIxT K) ix_tup (C8.pe_gc rfl T.c_HALVES) (pe_op n_and (pe_op n_shr (pv 0) (pe_nat 8)) (pe_nat 15)) (fun _ _ => rfl)))) (pss_one (ps_ret (pe_op n_add (pe_op n_add (pe_op n_add (pv 1) (pe_ix (r := rIxT K) ix_tup (C8.pe_gc rfl T.c_HALVES) (pe_op n_and (pe_op n_shr (pv 0) (pe_nat 12)) (pe_nat 15)) (fun _ _ => rfl))) (pe_ix (r := rIxT K) ix_tup (C8.pe_gc rfl T.c_HALVES) (pe_op n_and (pe_op n_shr (pv 0) (pe_nat 16)) (pe_nat 15)) (fun _ _ => rfl))) (pe_ix (r := rIxT K) ix_tup (C8.pe_gc rfl T.c_HALVES) (pe_op n_shr (pv 0) (pe_nat 20)) (fun _ _ => rfl)))))), ?_⟩
  have l5 : v / 2 ^ 20 < 16 := by omega
  refine ⟨_, rfl, v, 15, rfl, rfl, _, _, _, _, rfl, rfl, T.ht _, hv_ix (and15 v), ?_⟩
  refine ⟨_, rfl, v, 4, rfl, rfl, _, 15, rfl, rfl, _, _, _, _, rfl, rfl, T.ht _, hv_ix (and15 _), _, _, rfl, rfl, ?_⟩
  refine ⟨_, rfl, v, 8, rfl, rfl, _, 15, rfl, rfl, _, _, _, _, rfl, rfl, T.ht _, hv_ix (and15 _), _, _, rfl, rfl, ?_⟩
  refine ⟨_, rfl, _, rfl, v, 12, rfl, rfl, _, 15, rfl, rfl, _, _, _, _, rfl, rfl, T.ht _, hv_ix (and15 _), _, _, rfl, rfl, ?_⟩
  refine ⟨_, rfl, v, 16, rfl, rfl, _, 15, rfl, rfl, _, _, _, _, rfl, rfl, T.ht _, hv_ix (and15 _), _, _, rfl, rfl, ?_⟩
  refine ⟨_, rfl, v, 20, rfl, rfl, _, _, _, _, rfl, rfl, T.ht _, hv_ix l5, _, _, rfl, rfl, ?_⟩
  show Q (nV (Oc.hv (v &&& 15) + Oc.hv (v / 2 ^ 4 &&& 15) + Oc.hv (v / 2 ^ 8 &&& 15) + Oc.hv (v / 2 ^ 12 &&& 15) + Oc.hv (v / 2 ^ 16 &&& 15) + Oc.hv (v / 2 ^ 20))) H
  rw [Oc.wt_halves hv]
  exact q
def RetLN (S : List Nat) (H : Hp) (Q : VK) : Prop := ∀ (p : Addr) (H' : Hp), H p = none → Ex H H' → H' p = some (.lst (S.map nV)) → Q (.ref p) H'
theorem fm_filter (n : Nat) (f : Nat → Bool) : (List.range n).filterMap (fun i => if f i = true then some (nV i) else none) = ((List.range n).filter f).map nV := by
  induction n with
  | zero => rfl
  | succ n ih =>
    rw [List.range_succ, List.filterMap_append, List.filter_append, List.map_append, ih, List.filterMap_cons, List.filter_cons]
    cases f n <;> rfl
def sp_spots : Sp := fun vs H Q _ => ∃ v : Nat, vs = [nV v] ∧ RetLN (Oc.spots v) H Q
theorem sc_spots_of : FnScope ["word", "place"] ["word"] (defScope (top 38)) := ⟨rfl, rfl, rfl, by decide +kernel, rfl, by decide +kernel, by decide +kernel⟩
theorem C_spots_of (T : Top K mg) : Cal P w K mg base 1 "spots_of" sp_spots [] := by
  refine cal_of (T.fn 15 _ rfl) sc_spots_of (fun _ _ _ _ _ _ us hl => match us, hl with | [_], _ => rfl) (fun vs H Q E h => ?_) (fun cdv A outer s H vs Q E hr h => ?_)
  · obtain ⟨v, rfl, q⟩ := h
    rfl
  obtain ⟨v, rfl, q⟩ := h
  refine ⟨_, (pss_one (ps_ret (pe_lc (own := [("place", 1)]) rfl sc_spots_of.nd (pi_range1 (by rfl) (T.fr 10 _ rfl) (pa_cons (C8.pe_gc rfl T.c_MOST_PLACES_basics) pa_nil)) (blkOk_by (N := (["word", "place"] : List Str)) (sc := defScope (top 38)) (by decide +kernel)) (fun _ _ _ _ _ => (pg_name (i := 1) sc_spots_of.nd rfl (.inl rfl))) (fun _ _ _ _ _ => (pts_one (pt_cmpR n_eq (pe_op n_and (pe_op n_shr (pv 0) (pv 1)) (pe_nat 1)) (pe_nat 1) (nomark _)))) (fun _ _ _ _ _ => (pv 1))))), ?_⟩
  refine ⟨24, rfl, by decide, by decide, ?_⟩
  refine fun D hD => lc_go (walk_rangeN (n := 24)) hD (fun _ _ => trivial) (by decide) (fun i => if v.testBit i = true then some (nV i) else none) ?_ ?_
  · rintro i x H1 H2 K1 K0 hi e1 ⟨rfl, rfl⟩ k1 k0
    refine ⟨rfl, _, rfl, _, rfl, v, i, rfl, rfl, _, 1, rfl, rfl, _, 1, rfl, rfl, ?_⟩
    refine tst_c (c := (v / 2 ^ i &&& 1) = 1) (fun c => ?_) (fun c => ?_)
    · exact ⟨_, rfl, k1 _ _ (Ex.refl _) (if_pos ((Oc.and1 v i).mp c))⟩
    · exact k0 _ (Ex.refl _) (if_neg fun z => c ((Oc.and1 v i).mpr z))
  · intro H1 e1 h1
    rw [fm_filter] at h1
    exact q D H1 hD e1 h1
theorem sum_cast : ∀ S : List Nat, (S.map fun n : Nat => (n : Int)).sum = ((S.sum : Nat) : Int)
  | [] => rfl
  | a :: r => by
    rw [List.map_cons, List.sum_cons, List.sum_cons, sum_cast r]
    omega
def sp_wordby (K : PySem.W.Frag) : Sp := fun vs H Q _ => ∃ (a : Addr) (S : List Nat), vs = [.ref a] ∧ LstN K H a S ∧ S.length ≤ 1000 ∧ (∀ s, s ∈ S → s ≤ 100) ∧ ∀ H', Ex H H' → Q (nV (Oc.wordBy S)) H'
theorem sc_word_by : FnScope ["spots", "place"] ["spots"] (defScope (top 39)) := ⟨rfl, rfl, rfl, by decide +kernel, rfl, by decide +kernel, by decide +kernel⟩
theorem C_word_by (T : Top K mg) : Cal P w K mg base 1 "word_by" (sp_wordby K) [] := by
  refine cal_of (T.fn 16 _ rfl) sc_word_by (fun _ _ _ _ _ _ us hl => match us, hl with | [_], _ => rfl) (fun vs H Q E h => ?_) (fun cdv A outer s H vs Q E hr h => ?_)
  · obtain ⟨a, S, rfl, hA, hl, h100, q⟩ := h
    rfl
  obtain ⟨a, S, rfl, hA, hl, h100, q⟩ := h
  refine ⟨_, (pss_one (ps_ret (pe_callB (cr_sum rfl) (by rfl) (T.fr 11 _ rfl) (by decide +kernel) (pa_cons (pe_lc (own := [("place", 1)]) rfl sc_word_by.nd (pi_list (pv 0)) (blkOk_by (N := (["spots", "place"] : List Str)) (sc := defScope (top 39)) (by decide +kernel)) (fun _ _ _ _ _ => (pg_name (i := 1) sc_word_by.nd rfl (.inl rfl))) (fun _ _ _ _ _ => pts_nil) (fun _ _ _ _ _ => (pe_op n_shl (pe_nat 1) (pv 1)))) pa_nil)))), ?_⟩
  refine ⟨_, rfl, a, rfl, ⟨_, hA⟩, ?_⟩
  refine fun D hD => lc_go (walk_list (xs := S.map nV)) hD (fun H' e => ex_l e hA) (by rw [List.length_map]; omega) (fun i => S[i]?.map fun s => nV (1 * 2 ^ s)) ?_ ?_
  · rintro i x H1 H2 K1 K0 hi e1 ⟨rfl, hx⟩ k1 k0
    obtain ⟨b, hb, rfl⟩ := map_at hx
    have l := h100 b (List.mem_of_getElem? hb)
    refine ⟨rfl, tyes ⟨_, rfl, 1, b, rfl, rfl, ⟨by decide, by omega⟩, k1 _ _ (Ex.refl _) ?_⟩⟩
    show S[i]?.map _ = _
    rw [hb] <;> rfl
  · intro H1 e1 h1
    rw [List.length_map, fm_map] at h1
    have hm : (S.map fun s => nV (1 * 2 ^ s)) = ((S.map fun e => 2 ^ e).map fun n : Nat => (n : Int)).map V.int := by
      rw [← toNat_map, List.map_map]
      refine List.map_congr_left fun s _ => ?_
      show nV (1 * 2 ^ s) = nV (2 ^ s)
      rw [Nat.one_mul]
    rw [hm] at h1
    refine ⟨D, _, rfl, SqL.of h1, ?_⟩
    rw [sum_cast]
    exact q H1 e1
/-! ### the contrary -/
theorem inV_nat {x : Nat} : ∀ {S : List Nat}, inV (nV x) (S.map nV) = decide (x ∈ S)
  | [] => rfl
  | a :: r => by
    have ih := inV_nat (x := x) (S := r)
    show (eqV (nV a) (nV x) || inV (nV x) (r.map nV)) = decide (x ∈ a :: r)
    rw [ih]
    have e : eqV (nV a) (nV x) = decide (a = x) := by
      show ((a : Int) == (x : Int)) = decide (a = x)
      rw [Bool.beq_eq_decide_eq]
      exact decide_eq_decide.mpr (by omega)
    rw [e]
    by_cases c : a = x
    · subst c
      rw [decide_eq_true rfl, decide_eq_true List.mem_cons_self]
      rfl
    · rw [decide_eq_false c, Bool.false_or]
      exact decide_eq_decide.mpr ⟨fun z => List.mem_cons_of_mem _ z, fun z => (List.mem_cons.mp z).resolve_left fun y => c y.symm⟩
theorem all_flat (S : List Nat) : (S.map nV).all flatV = true := by
  rw [List.all_map]
  exact List.all_eq_true.mpr fun _ _ => rfl
def highs (B : List Nat) : List Nat := (Oc.tops B).map fun t => 1 * 2 ^ t
theorem mem_highs {B : List Nat} {p : Nat} : (1 * 2 ^ p) ∈ highs B ↔ p ∈ Oc.tops B := by
  unfold highs
  constructor
  · intro h
    obtain ⟨t, ht, e⟩ := List.mem_map.mp h
    have e2 : 1 * 2 ^ t = 1 * 2 ^ p := e
    have e3 : t = p := (Nat.pow_right_inj (by decide : 1 < 2)).mp (by omega)
    rw [← e3]
    exact ht
  · intro h
    exact List.mem_map.mpr ⟨p, h, rfl⟩
theorem taken_eq (B : List Nat) (p : Nat) : (List.range B.length).filterMap (fun i => B[i]?.bind fun b => if b.testBit p = true then some (nV (1 * 2 ^ b.log2)) else none) = ((Oc.tops (B.filter fun b => b.testBit p)).map fun e => 2 ^ e).map nV := by
  rw [fm_at]
  induction B with
  | nil => rfl
  | cons b r ih =>
    rw [List.filterMap_cons, List.filter_cons]
    cases c : b.testBit p with
    | true =>
      rw [if_pos rfl, if_pos rfl]
      show nV (1 * 2 ^ b.log2) :: _ = nV (2 ^ b.log2) :: _
      rw [Nat.one_mul, ih] <;> rfl
    | false =>
      rw [if_neg Bool.false_ne_true, if_neg Bool.false_ne_true]
      exact ih
theorem dual_succ_no {p : Nat} {B : List Nat} (h : p ∈ Oc.tops B) : Oc.dualGen (p + 1) B = Oc.dualGen p B := by
  unfold Oc.dualGen
  rw [List.range_succ, List.filter_append, List.map_append, List.filter_cons, if_neg (by rw [decide_eq_true h]; decide)]
  exact List.append_nil _
theorem dual_succ_yes {p : Nat} {B : List Nat} (h : p ∉ Oc.tops B) : Oc.dualGen (p + 1) B = Oc.dualGen p B ++ [Oc.vgen B p] := by
  unfold Oc.dualGen
  rw [List.range_succ, List.filter_append, List.map_append, List.filter_cons, if_pos (by rw [decide_eq_false h]; rfl)] <;> rfl
theorem dual_len (n : Nat) (B : List Nat) : (Oc.dualGen n B).length ≤ n := by
  unfold Oc.dualGen
  rw [List.length_map]
  have h := List.length_filter_le (fun p => !decide (p ∈ Oc.tops B)) (List.range n)
  rw [List.length_range] at h
  exact h
def CbW (H : Hp) (n : Nat) (t hA D : Addr) (B : List Nat) (i : Nat) (σ : L2.St) (H' : Hp) : Prop :=
  (∃ y4 y5 y6 y7 y8 : Option V, σ = [some (nV n), some (.ref t), some (.ref hA), some (.ref D), y4, y5, y6, y7, y8]) ∧ H D = none ∧ Ex H H' ∧ H' D = some (.lst ((Oc.dualGen i B).map nV))
def sp_cbasis (K : PySem.W.Frag) : Sp := fun vs H Q _ => ∃ (n : Nat) (t : Addr) (B : List Nat), vs = [nV n, .ref t] ∧ TupN K H t B ∧ Oc.Plain B ∧ Oc.Lt n B ∧ n ≤ 24 ∧ B.length ≤ 100 ∧ RetB K (Oc.dualGen n B) H Q
theorem sc_contrary_basis : FnScope ["places", "basis", "highs", "found", "place", "word", "taken", "one", "high"] ["places", "basis"] (defScope (top 41)) := ⟨rfl, rfl, rfl, by decide +kernel, rfl, by decide +kernel, by decide +kernel⟩
theorem C_contrary_basis (T : Top K mg) : Cal P w K mg base 4 "contrary_basis" (sp_cbasis K) [] := by
  refine cal_of (T.fn 17 _ rfl) sc_contrary_basis (fun _ _ _ _ _ _ us hl => match us, hl with | [_, _], _ => rfl) (fun vs H Q E h => ?_) (fun cdv A outer s H vs Q E hr h => ?_)
  · obtain ⟨n, t, B, rfl, hT, hp, hlt, h24, hl, q⟩ := h
    rfl
  obtain ⟨n, t, B, rfl, hT, hp, hlt, h24, hl, q⟩ := h
  refine ⟨_, (pss_cons (ps_setLc (i := 2) (own := [("word", 5)]) rfl sc_contrary_basis.nd rfl rfl (sw_true rfl rfl rfl (by decide +kernel)) (pi_tup (pv 1)) (blkOk_by (N := (["places", "basis", "highs", "found", "place", "word", "taken", "one", "high"] : List Str)) (sc := defScope (top 41)) (by decide +kernel)) (fun _ _ _ _ _ => (pg_name (i := 5) sc_contrary_basis.nd rfl (.inl rfl))) (fun _ _ _ _ _ => pts_nil) (fun _ _ _ _ _ => (pe_op n_shl (pe_nat 1) (pe_ix (r := rIxL K) ix_list (pe_c (C_spots_of T) hr (by decide) rfl (pa_cons (pv 5) pa_nil)) (pe_un un_neg pe_int) (fun _ _ => rfl))))) (pss_cons (ps_set (i := 3) sc_contrary_basis.nd rfl (.inl rfl) (pe_lst pa_nil)) (pss_cons (ps_for PassesOwn.never rfl (pi_range1 (by rfl) (T.fr 10 _ rfl) (pa_cons (pv 0) pa_nil)) (pg_name (i := 4) sc_contrary_basis.nd rfl (.inr rfl)) (pss_cons (ps_set (i := 5) sc_contrary_basis.nd rfl (.inl rfl) (pe_op n_shl (pe_nat 1) (pv 4))) (pss_one (ps_if (pt_cmpR op_notIn_seq (pv 5) (pv 2) (by rfl)) (pss_cons (ps_setLc (i := 6) (own := [("one", 7), ("high", 8)]) (g := gTup K 2 (gCons (gName 7) (gCons (gName 8) gNil))) rfl sc_contrary_basis.nd rfl rfl (sw_true rfl rfl rfl (by decide +kernel)) (pi_zipM (by rfl) (T.fr 12 _ rfl) (pa_cons (pv 1) (pa_cons (pv 2) pa_nil))) (blkOk_by (N := (["places", "basis", "highs", "found", "place", "word", "taken", "one", "high"] : List Str)) (sc := defScope (top 41)) (by decide +kernel)) (fun _ _ _ _ _ => (pg_tup rfl (pgs_cons (pg_name (i := 7) sc_contrary_basis.nd rfl (.inl rfl)) (pgs_cons (pg_name (i := 8) sc_contrary_basis.nd rfl (.inl rfl)) pgs_nil)))) (fun _ _ _ _ _ => (pts_one (pt_cmpR n_eq (pe_op n_and (pe_op n_shr (pv 7) (pv 4)) (pe_nat 1)) (pe_nat 1) (nomark _)))) (fun _ _ _ _ _ => (pv 8))) (pss_one (ps_expr (pe_bm PySem.F.plainAttrs_list PySem.F.slot_list_append PySem.F.type_list_append mt_append (pv 3) (pa_cons (pe_op n_add (pe_callB (cr_sum rfl) (by rfl) (T.fr 11 _ rfl) (by decide +kernel) (pa_cons (pv 6) pa_nil)) (pv 5)) pa_nil))))) pss_nil)))) (pss_one (ps_ret (pe_c (C_plain_basis T) hr (by decide) rfl (pa_cons (pv 3) pa_nil))))))), ?_⟩
  refine ⟨_, rfl, t, rfl, ⟨_, hT⟩, ?_⟩
  refine fun D0 hD0 => lc_go (walk_tup (xs := B.map nV)) hD0 (fun H' e => ex_t e hT) (by rw [List.length_map]; omega) (fun i => B[i]?.map fun b => nV (1 * 2 ^ b.log2)) ?_ ?_
  · rintro i x H1 H2 K1 K0 hi e1 ⟨rfl, hx⟩ k1 k0
    obtain ⟨b, hb, rfl⟩ := map_at hx
    have hm := List.mem_of_getElem? hb
    have b0 := hp.nz b hm
    have b24 : b < 2 ^ 24 := Nat.lt_of_lt_of_le (hlt b hm) (Nat.pow_le_pow_right (by decide) h24)
    have lg : b.log2 < 24 := (Nat.log2_lt b0).mpr b24
    refine ⟨rfl, tyes ⟨_, rfl, b, rfl, fun p H3 np e3 h3 => ?_⟩⟩
    obtain ⟨l, hs⟩ := Oc.spots_last b0 b24
    rw [hs, List.map_append] at h3
    refine ⟨1, rfl, p, _, _, _, rfl, rfl, SqL.of h3, atI_last _ _, 1, b.log2, rfl, rfl, ⟨by decide, by omega⟩, k1 _ _ e3 ?_⟩
    show B[i]?.map _ = _
    rw [hb] <;> rfl
  · intro H1 e1 h1
    rw [List.length_map, fm_map] at h1
    have hh : (B.map fun b => nV (1 * 2 ^ b.log2)) = (highs B).map nV := by
      unfold highs Oc.tops
      rw [List.map_map, List.map_map] <;> rfl
    rw [hh] at h1
    refine ⟨Nat.zero_le _, fun D hD => ?_⟩
    have e2 := Ex.new (o := .lst []) hD
    refine ⟨_, rfl, _, rfl, by omega, by omega, for_it (walk_rangeN (n := n)) (CbW H1 n t D0 D B) ⟨⟨_, _, _, _, _, rfl⟩, hD, e2, upd_same⟩ (fun _ _ _ _ _ => trivial) ?_ ?_⟩
    · rintro i x σ H2 H3 hi ⟨⟨y4, y5, y6, y7, y8, rfl⟩, _, e3, h3⟩ ⟨rfl, rfl⟩
      refine ⟨_, rfl, 1, i, rfl, rfl, ⟨by decide, by omega⟩, ?_⟩
      refine ⟨_, rfl, _, rfl, D0, _, rfl, .inl (ex_l e3 (SqL.of h1)), rfl, all_flat _, !decide (1 * 2 ^ i ∈ highs B), by rw [← inV_nat] <;> rfl, ?_⟩
      by_cases c : i ∈ Oc.tops B
      · rw [decide_eq_true (mem_highs.mpr c)]
        refine iteF ⟨⟨_, _, _, _, _, rfl⟩, hD, e3, ?_⟩
        rw [dual_succ_no c]
        exact h3
      · rw [decide_eq_false (fun z => c (mem_highs.mp z))]
        refine iteT ⟨_, rfl, _, rfl, t, D0, _, _, rfl, ex_t (e1.trans e3) hT, ex_l e3 (SqL.of h1), ?_⟩
        have lh : (highs B).length = B.length := by
          unfold highs Oc.tops
          rw [List.length_map, List.length_map]
        refine fun D2 hD2 => lc_go (walk_zipM (n := B.length) (xs := B.map nV) (ys := (highs B).map nV) (by rw [List.length_map]) (by rw [List.length_map, lh])) hD2 (fun H' e => ⟨ex_t (e3.trans e) (ex_t e1 hT), ex_l (e3.trans e) (SqL.of h1)⟩) (by omega)
          (fun i' => B[i']?.bind fun b => if b.testBit i = true then some (nV (1 * 2 ^ b.log2)) else none) ?_ ?_
        · rintro i' x H4 H5 K1 K0 hi' e4 ⟨T0, u, v, rfl, nT, rfl, hu, hv⟩ k1 k0
          obtain ⟨b, hb, rfl⟩ := map_at hu
          have ev : v = nV (1 * 2 ^ b.log2) := by
            rw [← hh] at hv
            have hv2 : (B.map fun b => nV (1 * 2 ^ b.log2))[i']? = some v := hv
            rw [List.getElem?_map, hb] at hv2
            exact (Option.some.inj hv2).symm
          subst ev
          have e5 : Ex H4 (upd H4 T0 (.tup [nV b, nV (1 * 2 ^ b.log2)])) := Ex.new nT
          refine ⟨T0, _, rfl, SqT.of upd_same, rfl, _, _, rfl, _, _, rfl, rfl, rfl, ?_⟩
          refine ⟨_, rfl, _, rfl, b, i, rfl, rfl, _, 1, rfl, rfl, _, 1, rfl, rfl, ?_⟩
          refine tst_c (c := (b / 2 ^ i &&& 1) = 1) (fun z => ?_) (fun z => ?_)
          · refine ⟨_, rfl, k1 _ _ e5 ?_⟩
            rw [hb]
            exact if_pos ((Oc.and1 b i).mp z)
          · refine k0 _ e5 ?_
            rw [hb]
            exact if_neg fun y => z ((Oc.and1 b i).mpr y)
        · intro H4 e4 h4
          rw [taken_eq] at h4
          refine ⟨_, rfl, .inl ⟨rfl, _, SqL.of (e4 D _ h3)⟩, ?_⟩
          refine ⟨_, rfl, D2, _, rfl, SqL.of (by rw [← toNat_map]; exact h4), ?_⟩
          rw [sum_cast]
          refine ⟨_, rfl, _, _, rfl, rfl, D, _, _, rfl, rfl, e4 D _ h3, ?_, ⟨⟨_, _, _, _, _, rfl⟩, hD, (e3.trans e4).mut hD, ?_⟩⟩
          · rw [List.length_map]
            exact Nat.lt_of_le_of_lt (Nat.le_trans (dual_len i B) (show i ≤ 1000 by omega)) (by decide)
          · rw [dual_succ_yes c, List.map_append]
            have ev : Oc.vgen B i = ((Oc.tops (B.filter fun b => b.testBit i)).map fun e => 2 ^ e).sum + 1 * 2 ^ i := by
              rw [Nat.one_mul] <;> rfl
            rw [ev]
            exact upd_same
    · rintro σ H2 ⟨⟨y4, y5, y6, y7, y8, rfl⟩, _, e3, h3⟩
      exact ⟨_, rfl, D, _, rfl, SqL.of h3, Nat.le_trans (dual_len n B) (by omega), fun t' H' B' e4 hT' hB' hl' => q t' H' B' (e1.trans (e3.trans e4)) hT' hB' hl'⟩
/-- of a room -/
def sp_contrary (K : PySem.W.Frag) : Sp := fun vs H Q _ => ∃ (r : Addr) (n : Nat) (B : List Nat), vs = [.ref r] ∧ RoomAt K H r n B ∧ Oc.Plain B ∧ Oc.Lt n B ∧ n ≤ 24 ∧ B.length ≤ 100 ∧ RetRB K n (Oc.dualGen n B) H Q
theorem sc_contrary : FnScope ["room"] ["room"] (defScope (top 42)) := ⟨rfl, rfl, rfl, by decide +kernel, rfl, by decide +kernel, by decide +kernel⟩
theorem C_contrary (T : Top K mg) : Cal P w K mg base 9 "contrary" (sp_contrary K) [] := by
  refine cal_of (T.fn 18 _ rfl) sc_contrary (fun _ _ _ _ _ _ us hl => match us, hl with | [_], _ => rfl) (fun vs H Q E h => ?_) (fun cdv A outer s H vs Q E hr h => ?_)
  · obtain ⟨r, n, B, rfl, ⟨dx, t, hr1, hT⟩, hp, hlt, h24, hl, q⟩ := h
    rfl
  obtain ⟨r, n, B, rfl, ⟨dx, t, hr1, hT⟩, hp, hlt, h24, hl, q⟩ := h
  refine ⟨_, (pss_cons (ps_expr (pe_c (C_want_room T) hr (by decide) rfl (pa_cons (pv 0) pa_nil))) (pss_one (ps_ret (pe_c (C_room_by T) hr (by decide) rfl (pa_cons (pe_fld (pv 0) rfl) (pa_cons (pe_c (C_contrary_basis T) hr (by decide) rfl (pa_cons (pe_fld (pv 0) rfl) (pa_cons (pe_fld (pv 0) rfl) pa_nil))) pa_nil)))))), ?_⟩
  refine ⟨_, rfl, r, n, B, rfl, ⟨dx, t, hr1, hT⟩, ?_⟩
  refine ⟨_, rfl, r, _, dx, _, _, rfl, hr1, T.room.cl, T.nRp, fR_p n t, _, rfl, r, _, dx, _, _, rfl, hr1, T.room.cl, T.nRp, fR_p n t, _, rfl, r, _, dx, _, _, rfl, hr1, T.room.cl, T.nRb, fR_b n t, ?_⟩
  refine ⟨n, t, B, rfl, hT, hp, hlt, h24, hl, fun t' H' B' e1 hT' hB' hl' => ?_⟩
  exact ⟨n, t', B', rfl, hT', fun r' H2 e2 hr' => q r' H2 B' (e1.trans e2) hr' hB' hl'⟩
end
end OcW

set_option Elab.async false
set_option linter.all false
set_option maxRecDepth 100000
set_option maxHeartbeats 4000000
set_option autoImplicit false
namespace OcW
open PySem PySem.Spec PyProof.Rows L2 Evl
open C8 (Cal Met Mak pe_c pe_mk pe_mt InsC call_isC)
section
variable {P : Program} {w : World} {K : PySem.W.Frag} {mg : Str → Option Value} {base : Heap}
/-! ### lists of numbers by a function -/
def lfV (m : Nat) (f : Nat → Int) : List V := (Oc.lf m f).map V.int
theorem lfV_len (m : Nat) (f : Nat → Int) : (lfV m f).length = m := by
  unfold lfV
  rw [List.length_map, Oc.lf_len]
theorem lfV_at {m i : Nat} (f : Nat → Int) (h : i < m) : (lfV m f)[i]? = some (.int (f i)) := by
  unfold lfV
  rw [List.getElem?_map, Oc.lf_at f h] <;> rfl
theorem lfV_of {m i : Nat} {f : Nat → Int} {x : V} (h : (lfV m f)[i]? = some x) : i < m ∧ x = .int (f i) := by
  have l := lt_of_at h
  rw [lfV_len] at l
  rw [lfV_at f l] at h
  exact ⟨l, (Option.some.inj h).symm⟩
theorem lfV_congr {m : Nat} {f g : Nat → Int} (h : ∀ i, i < m → f i = g i) : lfV m f = lfV m g := by
  unfold lfV
  rw [Oc.lf_congr h]
theorem lfV_succ (m : Nat) (f : Nat → Int) : lfV (m + 1) f = lfV m f ++ [.int (f m)] := by
  unfold lfV
  rw [Oc.lf_succ, List.map_append] <;> rfl
theorem lfV_ext {l : List V} {m : Nat} {f : Nat → Int} (h1 : l.length = m) (h2 : ∀ i, i < m → l[i]? = some (.int (f i))) : l = lfV m f := by
  refine List.ext_getElem? fun i => ?_
  by_cases c : i < m
  · rw [h2 i c, lfV_at f c]
  · rw [List.getElem?_eq_none_iff.mpr (by omega), List.getElem?_eq_none_iff.mpr (by rw [lfV_len]; omega)]
theorem lfV_set {m k : Nat} (f : Nat → Int) (v : Int) : (lfV m f).set k (.int v) = lfV m (fun j => if j = k then v else f j) := by
  refine lfV_ext (by rw [List.length_set, lfV_len]) fun i hi => ?_
  rw [List.getElem?_set]
  by_cases c : k = i
  · rw [if_pos c, if_pos (by rw [lfV_len]; omega), if_pos c.symm]
  · rw [if_neg c, if_neg fun z => c z.symm, lfV_at f hi]
theorem lfV_range (n : Nat) (f : Nat → Int) : (List.range n).filterMap (fun i => some (V.int (f i))) = lfV n f := by
  unfold lfV Oc.lf
  rw [List.map_map]
  exact congrFun (List.filterMap_eq_map (f := V.int ∘ f)) (List.range n)
theorem atI_lfV {m : Nat} (f : Nat → Int) {z : Int} {i : Nat} (e : z = (i : Int)) (h : i < m) : atI (lfV m f) z = some (.int (f i)) := by
  rw [e]
  exact atI_nat (lfV_at f h)
def RetLI (m : Nat) (f : Nat → Int) (H : Hp) (Q : VK) : Prop := ∀ (p : Addr) (H' : Hp), H p = none → Ex H H' → H' p = some (.lst (lfV m f)) → Q (.ref p) H'
theorem small {n : Nat} (h : n ≤ 1000) : n ≤ sizeLine := Nat.le_trans h (by decide)
theorem smallt {n : Nat} (h : n ≤ 1000) : n < sizeLine := Nat.lt_of_le_of_lt h (by decide)

/-! ### powers of two, rows -/
def sp_p2 : Sp := fun vs H Q _ => ∃ (k : Nat) (v : V), vs = [v] ∧ v = nV (2 ^ k) ∧ k ≤ 40 ∧ Q (nV k) H
theorem sc_power_of_two : FnScope ["total", "found"] ["total"] (defScope (top 45)) := ⟨rfl, rfl, rfl, by decide +kernel, rfl, by decide +kernel, by decide +kernel⟩
theorem C_power_of_two (T : Top K mg) : Cal P w K mg base 1 "power_of_two" sp_p2 [] := by
  refine cal_of (T.fn 19 _ rfl) sc_power_of_two (fun _ _ _ _ _ _ us hl => match us, hl with | [_], _ => rfl) (fun vs H Q E h => ?_) (fun cdv A outer s H vs Q E hr h => ?_)
  · obtain ⟨k, v, rfl, rfl, hk, q⟩ := h
    rfl
  obtain ⟨k, v, rfl, rfl, hk, q⟩ := h
  refine ⟨_, (pss_cons (ps_set (i := 1) sc_power_of_two.nd rfl (.inl rfl) (pe_nat 0)) (pss_cons (ps_while PassesOwn.never (pt_cmpR n_lt (pe_op n_shl (pe_nat 1) (pv 1)) (pv 0) (nomark _)) (pss_one (ps_set (i := 1) sc_power_of_two.nd rfl (.inl rfl) (pe_op n_add (pv 1) (pe_nat 1))))) (pss_one (ps_ret (pe_ifExp (pt_cmpR n_eq (pe_op n_shl (pe_nat 1) (pv 1)) (pv 0) (nomark _)) (pv 1) pe_non))))), ?_⟩
  refine ⟨fun m σ H' => ∃ f, f ≤ k ∧ m = k - f ∧ σ = [some (nV (2 ^ k)), some (nV f)] ∧ H' = H, ⟨k, 0, Nat.zero_le k, rfl, rfl, rfl⟩, ?_⟩
  rintro m σ H' ⟨f, hf, rfl, rfl, rfl⟩
  have p60 : ∀ a, a ≤ 40 → 1 * 2 ^ a < 2 ^ 60 := fun a ha => by
    rw [Nat.one_mul]
    exact Nat.pow_lt_pow_right (by decide) (by omega)
  refine ⟨_, rfl, 1, f, rfl, rfl, ⟨by decide, by omega⟩, _, rfl, 1 * 2 ^ f, 2 ^ k, rfl, rfl, tst_c (fun c => ?_) (fun c => ?_)⟩
  · refine ⟨fun σ' H2 => ∃ m', m' < k - f ∧ ∃ g, g ≤ k ∧ m' = k - g ∧ σ' = [some (nV (2 ^ k)), some (nV g)] ∧ H2 = H', fun σ' H2 h => h, ?_⟩
    have hlt : f < k := by
      rw [Nat.one_mul] at c
      exact (Nat.pow_lt_pow_iff_right (by decide)).mp c
    exact ⟨_, rfl, f, 1, rfl, rfl, k - (f + 1), by omega, f + 1, hlt, rfl, rfl, rfl⟩
  · have e : f = k := by
      rw [Nat.one_mul] at c
      have c2 : 2 ^ k ≤ 2 ^ f := by omega
      have c3 := (Nat.pow_le_pow_iff_right (by decide)).mp c2
      omega
    subst e
    exact ⟨_, rfl, 1, f, rfl, rfl, ⟨by decide, by omega⟩, _, rfl, 1 * 2 ^ f, 2 ^ f, rfl, rfl, tst_t (by rw [Nat.one_mul]) ⟨_, rfl, q⟩⟩
/-- a row of numbers that are not negative -/
structure RowN (R : List Nat) : Prop where
  l2 : 2 ≤ R.length
  l25 : R.length ≤ 25
  one : R[0]? = some 1
  pow : ∃ k, k < R.length ∧ R.sum = 2 ^ k
def sp_isrow : Sp := fun vs H Q _ => ∃ (l : Addr) (R : List Nat), vs = [.ref l] ∧ H l = some (.lst (R.map nV)) ∧ RowN R ∧ ∀ H', Ex H H' → Q (.bl true) H'
theorem sc_is_row : FnScope ["value", "found", "number"] ["value"] (defScope (top 46)) := ⟨rfl, rfl, rfl, by decide +kernel, rfl, by decide +kernel, by decide +kernel⟩
theorem C_is_row (T : Top K mg) : Cal P w K mg base 3 "is_row" sp_isrow [] := by
  refine cal_of (T.fn 20 _ rfl) sc_is_row (fun _ _ _ _ _ _ us hl => match us, hl with | [_], _ => rfl) (fun vs H Q E h => ?_) (fun cdv A outer s H vs Q E hr h => ?_)
  · obtain ⟨l, R, rfl, hl, ⟨l2, l25, h1, k, hk, hs⟩, q⟩ := h
    rfl
  obtain ⟨l, R, rfl, hl, ⟨l2, l25, h1, k, hk, hs⟩, q⟩ := h
  refine ⟨_, (pss_cons (ps_if (PW.pt (pw_or (pt_not (pt_val (pe_c (C_is_list T) hr (by decide) rfl (pa_cons (pv 0) pa_nil)))) (pw_or (pt_not (pt_chain n_le n_le (pe_nat 2) (pe_callB n_len (by rfl) (T.fr 5 _ rfl) (by decide +kernel) (pa_cons (pv 0) pa_nil)) (pe_op n_add (C8.pe_gc rfl T.c_MOST_PLACES_tables) (pe_nat 1)))) (pw_or1 (pt_not (pt_val (pe_callB (cr_all rfl) (by rfl) (T.fr 13 _ rfl) (by decide +kernel) (pa_cons (pe_lc (own := [("number", 2)]) rfl sc_is_row.nd (pi_list (pv 0)) (blkOk_by (N := (["value", "found", "number"] : List Str)) (sc := defScope (top 46)) (by decide +kernel)) (fun _ _ _ _ _ => (pg_name (i := 2) sc_is_row.nd rfl (.inl rfl))) (fun _ _ _ _ _ => pts_nil) (fun _ _ _ _ _ => (pe_c (C_is_count T) hr (by decide) rfl (pa_cons (pv 2) pa_nil)))) pa_nil)))))))) (pss_one (ps_ret pe_bl)) pss_nil) (pss_cons (ps_set (i := 1) sc_is_row.nd rfl (.inl rfl) (pe_c (C_power_of_two T) hr (by decide) rfl (pa_cons (pe_callB (cr_sum rfl) (by rfl) (T.fr 11 _ rfl) (by decide +kernel) (pa_cons (pv 0) pa_nil)) pa_nil))) (pss_one (ps_ret (pe_and (pe_cmpR n_eq (pe_ix (r := rIxL K) ix_list (pv 0) (pe_nat 0) (fun _ _ => rfl)) (pe_nat 1) (nomark _)) (pe_and (pe_cmpR op_notN (pv 1) pe_non (nomark _)) (pe_one (pe_cmpR n_lt (pv 1) (pe_callB n_len (by rfl) (T.fr 5 _ rfl) (by decide +kernel) (pa_cons (pv 0) pa_nil)) (nomark _))))))))), ?_⟩
  refine ⟨_, rfl, l, rfl, .inl ⟨_, hl⟩, fun H1 e1 => ⟨true, rfl, iteF ?_⟩⟩
  refine ⟨_, rfl, l, R.map nV, rfl, .inl (SqL.of (e1 l _ hl)), 2, (R.map nV).length, rfl, rfl, tst_t (by rw [List.length_map]; exact l2) ?_⟩
  refine ⟨24, 1, rfl, rfl, (R.map nV).length, 24 + 1, rfl, rfl, true, ?_, iteF ?_⟩
  · rw [List.length_map]
    exact congrArg V.bl (decide_eq_true l25)
  refine ⟨_, rfl, l, rfl, ⟨_, SqL.of (e1 l _ hl)⟩, ?_⟩
  refine fun D hD => lc_go (walk_list (xs := R.map nV)) hD (fun H' e => SqL.of (e l _ (e1 l _ hl))) (by rw [List.length_map]; omega) (fun i => R[i]?.map fun _ => V.bl true) ?_ ?_
  · rintro i x H2 H3 K1 K0 hi e2 ⟨rfl, hx⟩ k1 k0
    obtain ⟨b, hb, rfl⟩ := map_at hx
    refine ⟨rfl, tyes ⟨_, rfl, b, rfl, k1 _ _ (Ex.refl _) ?_⟩⟩
    show R[i]?.map _ = _
    rw [hb] <;> rfl
  · intro H2 e2 h2
    rw [List.length_map, fm_map] at h2
    have hm : (R.map fun _ => V.bl true) = (R.map fun _ => true).map V.bl := by rw [List.map_map] <;> rfl
    rw [hm] at h2
    refine ⟨D, _, rfl, SqL.of h2, true, ?_, iteF ?_⟩
    · refine congrArg V.bl (List.all_eq_true.mpr fun b hb => ?_)
      obtain ⟨_, _, rfl⟩ := List.mem_map.mp hb
      rfl
    have h3 : H2 l = some (.lst (R.map nV)) := e2 l _ (e1 l _ hl)
    refine ⟨_, rfl, l, R.map fun n : Nat => (n : Int), rfl, SqL.of (by rw [← toNat_map]; exact h3), ?_⟩
    refine ⟨k, _, rfl, by rw [sum_cast, hs], by omega, ?_⟩
    refine ⟨_, rfl, l, R.map nV, 0, nV 1, rfl, rfl, SqL.of h3, atI_nat (j := 0) (by rw [List.getElem?_map, h1] <;> rfl), 1, 1, rfl, rfl, true, rfl, iteT ?_⟩
    refine ⟨_, rfl, rfl, true, rfl, iteT ⟨_, rfl, _, rfl, l, R.map nV, rfl, .inl (SqL.of h3), k, (R.map nV).length, rfl, rfl, ?_⟩⟩
    exact bl_t (Q := Q) (by rw [List.length_map]; exact hk) (q H2 (e1.trans e2))
def sp_wrow : Sp := fun vs H Q _ => ∃ (l : Addr) (R : List Nat), vs = [.ref l] ∧ H l = some (.lst (R.map nV)) ∧ RowN R ∧ RetLN R H Q
theorem sc_want_row : FnScope ["value"] ["value"] (defScope (top 47)) := ⟨rfl, rfl, rfl, by decide +kernel, rfl, by decide +kernel, by decide +kernel⟩
theorem C_want_row (T : Top K mg) : Cal P w K mg base 4 "want_row" sp_wrow [] := by
  refine cal_of (T.fn 21 _ rfl) sc_want_row (fun _ _ _ _ _ _ us hl => match us, hl with | [_], _ => rfl) (fun vs H Q E h => ?_) (fun cdv A outer s H vs Q E hr h => ?_)
  · obtain ⟨l, R, rfl, hl, hR, q⟩ := h
    rfl
  obtain ⟨l, R, rfl, hl, hR, q⟩ := h
  refine ⟨_, (pss_cons (ps_if (pt_not (pt_val (pe_c (C_is_row T) hr (by decide) rfl (pa_cons (pv 0) pa_nil)))) pss_never pss_nil) (pss_one (ps_ret (pe_callTy call_list_of (by rfl) (T.fr 3 _ rfl) (by decide +kernel) (pa_cons (pv 0) pa_nil))))), ?_⟩
  refine ⟨_, rfl, l, R, rfl, hl, hR, fun H1 e1 => ⟨true, rfl, iteF ?_⟩⟩
  refine ⟨_, rfl, l, R.map nV, rfl, .inl (SqL.of (e1 l _ hl)), fun p hp => q p _ (fresh_back e1 hp) (e1.trans (Ex.new hp)) upd_same⟩

/-! ### the table -/
def gi (s : Int) (f : Nat → Int) (i : Nat) : Nat → Int := fun j => f j + s * (if j = 0 then 0 else if j ≤ i then f (j - 1) else 0)
theorem gi_set (s : Int) (f : Nat → Int) (i : Nat) : (fun j => if j = i + 1 then gi s f i (i + 1) + s * f i else gi s f i j) = gi s f (i + 1) := by
  funext j
  unfold gi
  by_cases c : j = i + 1
  · subst c
    rw [if_pos rfl, if_neg (by omega), if_neg (by omega), if_neg (by omega), if_pos (Nat.le_refl _), Int.mul_zero, Int.add_zero]
    congr 2
  · rw [if_neg c]
    by_cases c0 : j = 0
    · rw [if_pos c0, if_pos c0]
    · rw [if_neg c0, if_neg c0]
      by_cases c1 : j ≤ i
      · rw [if_pos c1, if_pos (by omega)]
      · rw [if_neg c1, if_neg (by omega)]
def sp_times (K : PySem.W.Frag) : Sp := fun vs H Q _ => ∃ (l : Addr) (m : Nat) (f : Nat → Int) (s : Int), vs = [.ref l, .int s] ∧ SqL K H l (lfV m f) ∧ (∀ j, m ≤ j → f j = 0) ∧ m ≤ 100 ∧ (s = 1 ∨ s = -1) ∧ RetLI (m + 1) (Oc.tf s f) H Q
theorem sc_times_row : FnScope ["numbers", "sign", "found", "at", "number"] ["numbers", "sign"] (defScope (top 48)) := ⟨rfl, rfl, rfl, by decide +kernel, rfl, by decide +kernel, by decide +kernel⟩
theorem C_times_row (T : Top K mg) : Cal P w K mg base 1 "times_row" (sp_times K) [] := by
  refine cal_of (T.fn 22 _ rfl) sc_times_row (fun _ _ _ _ _ _ us hl => match us, hl with | [_, _], _ => rfl) (fun vs H Q E h => ?_) (fun cdv A outer s H vs Q E hr h => ?_)
  · obtain ⟨l, m, f, s', rfl, hL, hf, hm, hs, q⟩ := h
    rfl
  obtain ⟨l, m, f, s', rfl, hL, hf, hm, hs, q⟩ := h
  refine ⟨_, (pss_cons (ps_set (i := 2) sc_times_row.nd rfl (.inl rfl) (pe_op op_cat (pe_callTy call_list_of (by rfl) (T.fr 3 _ rfl) (by decide +kernel) (pa_cons (pv 0) pa_nil)) (pe_lst (pa_cons pe_int pa_nil)))) (pss_cons (ps_for PassesOwn.never rfl (pi_enum (by rfl) (T.fr 9 _ rfl) (pa_cons (pv 0) pa_nil)) (pg_tup rfl (pgs_cons (pg_name (i := 3) sc_times_row.nd rfl (.inl rfl)) (pgs_cons (pg_name (i := 4) sc_times_row.nd rfl (.inl rfl)) pgs_nil))) (pss_one (ps_asg (pe_op op_add (pe_ix (r := rIxL K) ix_list (pv 2) (pe_op op_add (pv 3) pe_int) (fun _ _ => rfl)) (pe_op op_mul (pv 1) (pv 4))) (pg_sub (pv 2) (pe_op op_add (pv 3) pe_int) set_list)))) (pss_one (ps_ret (pv 2))))), ?_⟩
  refine ⟨_, rfl, l, _, rfl, .inl hL, fun p1 n1 => ?_⟩
  have e1 := Ex.new (o := .lst (lfV m f)) n1
  refine ⟨small (show 1 ≤ 1000 by decide), fun p2 n2 => ?_⟩
  have e2 := Ex.new (o := .lst [.int 0]) n2
  refine ⟨p1, p2, _, _, rfl, rfl, e2 p1 _ upd_same, upd_same, ?_, fun D nD => ?_⟩
  · rw [lfV_len]
    exact small (show m + 1 ≤ 1000 by omega)
  have e3 := Ex.new (o := .lst (lfV m f ++ [.int 0])) nD
  have e13 := (e1.trans e2).trans e3
  have nD0 : H D = none := fresh_back (e1.trans e2) nD
  have g0 : lfV m f ++ [.int 0] = lfV (m + 1) (gi s' f 0) := by
    rw [lfV_succ]
    congr 1
    · refine lfV_congr fun i hi => ?_
      unfold gi
      by_cases c : i = 0
      · rw [if_pos c, Int.mul_zero, Int.add_zero]
      · rw [if_neg c, if_neg (by omega), Int.mul_zero, Int.add_zero]
    · congr 2
      unfold gi
      rw [hf m (Nat.le_refl m)]
      by_cases c : m = 0
      · rw [if_pos c, Int.mul_zero] <;> rfl
      · rw [if_neg c, if_neg (by omega), Int.mul_zero] <;> rfl
  rw [g0] at e13 ⊢
  refine ⟨_, rfl, l, lfV m f, rfl, ex_l e13 hL, for_it (walk_enum (xs := lfV m f)) (fun i σ H' => ∃ y3 y4, σ = [some (.ref l), some (.int s'), some (.ref D), y3, y4] ∧ Ex H H' ∧ H' D = some (.lst (lfV (m + 1) (gi s' f i)))) ⟨none, none, rfl, e13, upd_same⟩ ?_ ?_ ?_⟩
  · rintro i σ H' _ ⟨y3, y4, rfl, e4, _⟩
    exact ex_l e4 hL
  · rintro i x σ H4 H5 hi ⟨y3, y4, rfl, e4, hD⟩ ⟨p, u, v, rfl, np, rfl, hu, hv⟩
    obtain ⟨him, rfl⟩ := lfV_of hv
    have eu : u = .int (i : Int) := (Option.some.inj hu).symm
    subst eu
    have e5 := Ex.new (o := .tup [V.int (i : Int), V.int (f i)]) np
    have hD5 := e5 D _ hD
    refine ⟨p, _, rfl, SqT.of upd_same, rfl, _, _, rfl, _, _, rfl, rfl, ?_⟩
    refine ⟨_, rfl, _, rfl, _, _, rfl, rfl, D, _, _, _, rfl, rfl, SqL.of hD5, atI_lfV _ (i := i + 1) (by omega) (by omega), _, rfl, _, rfl, s', f i, rfl, rfl, ?_, _, _, rfl, rfl, ?_⟩
    · rcases hs with rfl | rfl
      · exact .inl ⟨by decide, by decide⟩
      · exact .inl ⟨by decide, by decide⟩
    refine ⟨_, rfl, _, rfl, _, _, rfl, rfl, D, _, _, i + 1, rfl, rfl, hD5, ?_, ?_⟩
    · rw [lfV_len]
      exact ixN_nat (show i + 1 < m + 1 by omega)
    · rw [lfV_set, gi_set]
      exact ⟨_, _, rfl, (e4.trans e5).mut nD0, upd_same⟩
  · rintro σ H4 ⟨y3, y4, rfl, e4, hD⟩
    rw [lfV_len] at hD
    refine ⟨_, rfl, q D H4 nD0 e4 ?_⟩
    have ge : lfV (m + 1) (gi s' f m) = lfV (m + 1) (Oc.tf s' f) := lfV_congr fun i hi => by
      unfold gi Oc.tf
      by_cases c : i = 0
      · rw [if_pos c, if_pos c]
      · rw [if_neg c, if_neg c, if_pos (by omega)]
    rw [← ge]
    exact hD
def sp_entries : Sp := fun vs H Q _ => ∃ (n i : Nat), vs = [nV n, nV i] ∧ n ≤ 30 ∧ RetLI (n + 1) (Oc.ef i n) H Q
theorem sc_entries : FnScope ["places", "second", "found", "turn"] ["places", "second"] (defScope (top 49)) := ⟨rfl, rfl, rfl, by decide +kernel, rfl, by decide +kernel, by decide +kernel⟩
theorem C_entries (T : Top K mg) : Cal P w K mg base 2 "entries" sp_entries [] := by
  refine cal_of (T.fn 23 _ rfl) sc_entries (fun _ _ _ _ _ _ us hl => match us, hl with | [_, _], _ => rfl) (fun vs H Q E h => ?_) (fun cdv A outer s H vs Q E hr h => ?_)
  · obtain ⟨n, i, rfl, hn, q⟩ := h
    rfl
  obtain ⟨n, i, rfl, hn, q⟩ := h
  refine ⟨_, (pss_cons (ps_set (i := 2) sc_entries.nd rfl (.inl rfl) (pe_lst (pa_cons pe_int pa_nil))) (pss_cons (ps_for PassesOwn.never rfl (pi_range1 (by rfl) (T.fr 10 _ rfl) (pa_cons (pv 0) pa_nil)) (pg_name (i := 3) sc_entries.nd rfl (.inl rfl)) (pss_one (ps_set (i := 2) sc_entries.nd rfl (.inl rfl) (pe_c (C_times_row T) hr (by decide) rfl (pa_cons (pv 2) (pa_cons (pe_ifExp (pt_cmpR op_lt (pv 3) (pv 1) (nomark _)) (pe_un un_neg pe_int) pe_int) pa_nil)))))) (pss_one (ps_ret (pv 2))))), ?_⟩
  refine ⟨small (show 1 ≤ 1000 by decide), fun p1 n1 => ?_⟩
  have e1 := Ex.new (o := .lst [.int 1]) n1
  have l0 : [V.int 1] = lfV (0 + 1) (Oc.ef i 0) := rfl
  rw [l0] at e1 ⊢
  refine ⟨_, rfl, _, rfl, by omega, by omega, for_it (walk_rangeN (n := n)) (fun m σ H' => ∃ (p : Addr) (y : Option V), σ = [some (nV n), some (nV i), some (.ref p), y] ∧ H p = none ∧ Ex H H' ∧ H' p = some (.lst (lfV (m + 1) (Oc.ef i m)))) ⟨p1, none, rfl, n1, e1, upd_same⟩ (fun _ _ _ _ _ => trivial) ?_ ?_⟩
  · rintro m x σ H2 H3 hm ⟨p, y, rfl, np, e2, h2⟩ ⟨rfl, rfl⟩
    have go : ∀ s' : Int, s' = (if m < i then -1 else 1) → sp_times K [.ref p, .int s'] H3 (fun v H' => ∃ (p' : Addr) (y' : Option V), [some (nV n), some (nV i), some v, some (nV m)] = [some (nV n), some (nV i), some (.ref p'), y'] ∧ H p' = none ∧ Ex H H' ∧ H' p' = some (.lst (lfV (m + 1 + 1) (Oc.ef i (m + 1))))) C8.E0 := fun s' hs => by
      refine ⟨p, m + 1, Oc.ef i m, s', rfl, SqL.of h2, fun j hj => Oc.ef_zero i m j hj, by omega, ?_, fun p' H4 np' e4 h4 => ⟨p', _, rfl, fresh_back e2 np', e2.trans e4, ?_⟩⟩
      · rw [hs]
        split
        · exact .inr rfl
        · exact .inl rfl
      · rw [h4, hs] <;> rfl
    refine ⟨_, rfl, _, rfl, _, rfl, _, _, rfl, rfl, ?_⟩
    by_cases c : m < i
    · exact tst_t (by omega) ⟨1, rfl, go (-1) (by rw [if_pos c])⟩
    · exact tst_f (by omega) (go 1 (by rw [if_neg c]))
  · rintro σ H2 ⟨p, y, rfl, np, e2, h2⟩
    exact ⟨_, rfl, q p H2 np e2 h2⟩
theorem es_step (n : Nat) (r : Nat → Int) (i : Nat) : (fun j => Oc.sm i (fun a => r a * Oc.ef a n j) + r i * Oc.ef i n j) = fun j => Oc.sm (i + 1) (fun a => r a * Oc.ef a n j) := rfl
def sp_esums (K : PySem.W.Frag) : Sp := fun vs H Q _ => ∃ (l : Addr) (n : Nat) (r : Nat → Int), vs = [.ref l] ∧ SqL K H l (lfV (n + 1) r) ∧ n ≤ 30 ∧ (∀ i, i ≤ n → -(2 ^ 64) < r i ∧ r i < 2 ^ 64) ∧ RetLI (n + 1) (Oc.es n r) H Q
theorem sc_entry_sums : FnScope ["row", "places", "found", "at", "number", "one", "other"] ["row"] (defScope (top 50)) := ⟨rfl, rfl, rfl, by decide +kernel, rfl, by decide +kernel, by decide +kernel⟩
theorem C_entry_sums (T : Top K mg) : Cal P w K mg base 3 "entry_sums" (sp_esums K) [] := by
  refine cal_of (T.fn 24 _ rfl) sc_entry_sums (fun _ _ _ _ _ _ us hl => match us, hl with | [_], _ => rfl) (fun vs H Q E h => ?_) (fun cdv A outer s H vs Q E hr h => ?_)
  · obtain ⟨l, n, r, rfl, hL, hn, hb, q⟩ := h
    rfl
  obtain ⟨l, n, r, rfl, hL, hn, hb, q⟩ := h
  refine ⟨_, (pss_cons (ps_set (i := 1) sc_entry_sums.nd rfl (.inl rfl) (pe_op n_sub (pe_callB n_len (by rfl) (T.fr 5 _ rfl) (by decide +kernel) (pa_cons (pv 0) pa_nil)) (pe_nat 1))) (pss_cons (ps_setLc (i := 2) (own := [("number", 4)]) rfl sc_entry_sums.nd rfl rfl (sw_true rfl rfl rfl (by decide +kernel)) (pi_list (pv 0)) (blkOk_by (N := (["row", "places", "found", "at", "number", "one", "other"] : List Str)) (sc := defScope (top 50)) (by decide +kernel)) (fun _ _ _ _ _ => (pg_name (i := 4) sc_entry_sums.nd rfl (.inl rfl))) (fun _ _ _ _ _ => pts_nil) (fun _ _ _ _ _ => pe_int)) (pss_cons (ps_for PassesOwn.never rfl (pi_enum (by rfl) (T.fr 9 _ rfl) (pa_cons (pv 0) pa_nil)) (pg_tup rfl (pgs_cons (pg_name (i := 3) sc_entry_sums.nd rfl (.inl rfl)) (pgs_cons (pg_name (i := 4) sc_entry_sums.nd rfl (.inr rfl)) pgs_nil))) (pss_one (ps_if (pt_cmpR op_ne (pv 4) pe_int (nomark _)) (pss_one (ps_setLc (i := 2) (own := [("one", 5), ("other", 6)]) (g := gTup K 2 (gCons (gName 5) (gCons (gName 6) gNil))) rfl sc_entry_sums.nd rfl rfl (sw_true rfl rfl rfl (by decide +kernel)) (pi_zip (by rfl) (T.fr 12 _ rfl) (pa_cons (pv 2) (pa_cons (pe_c (C_entries T) hr (by decide) rfl (pa_cons (pv 1) (pa_cons (pv 3) pa_nil))) pa_nil))) (blkOk_by (N := (["row", "places", "found", "at", "number", "one", "other"] : List Str)) (sc := defScope (top 50)) (by decide +kernel)) (fun _ _ _ _ _ => (pg_tup rfl (pgs_cons (pg_name (i := 5) sc_entry_sums.nd rfl (.inl rfl)) (pgs_cons (pg_name (i := 6) sc_entry_sums.nd rfl (.inl rfl)) pgs_nil)))) (fun _ _ _ _ _ => pts_nil) (fun _ _ _ _ _ => (pe_op op_add (pv 5) (pe_op op_mul (pv 4) (pv 6)))))) pss_nil))) (pss_one (ps_ret (pv 2)))))), ?_⟩
  refine ⟨_, rfl, l, _, rfl, .inl hL, n + 1, 1, by rw [lfV_len], rfl, by omega, ?_⟩
  refine ⟨_, rfl, l, rfl, ⟨_, hL⟩, ?_⟩
  refine fun D0 hD0 => lc_go (walk_list (xs := lfV (n + 1) r)) hD0 (fun H' e => ex_l e hL) (by rw [lfV_len]; omega) (fun i => some (.int ((fun _ => (0 : Int)) i))) ?_ ?_
  · rintro i x H1 H2 K1 K0 hi e1 ⟨rfl, hx⟩ k1 k0
    exact ⟨rfl, tyes (k1 _ _ (Ex.refl _) rfl)⟩
  intro H1 e1 h1
  rw [lfV_len, lfV_range] at h1
  refine ⟨_, rfl, l, lfV (n + 1) r, rfl, ex_l e1 hL, for_it (walk_enum (xs := lfV (n + 1) r)) (fun i σ H' => ∃ (p : Addr) (y3 y4 y5 y6 : Option V), σ = [some (.ref l), some (nV n), some (.ref p), y3, y4, y5, y6] ∧ H p = none ∧ Ex H H' ∧ H' p = some (.lst (lfV (n + 1) (fun j => Oc.sm i (fun a => r a * Oc.ef a n j))))) ⟨D0, none, none, none, none, rfl, hD0, e1, h1⟩ ?_ ?_ ?_⟩
  · rintro i σ H' _ ⟨p, y3, y4, y5, y6, rfl, _, e2, _⟩
    exact ex_l e2 hL
  · rintro i x σ H2 H3 hi ⟨p, y3, y4, y5, y6, rfl, np, e2, h2⟩ ⟨T0, u, v, rfl, nT, rfl, hu, hv⟩
    obtain ⟨him, rfl⟩ := lfV_of hv
    have eu : u = .int (i : Int) := (Option.some.inj hu).symm
    subst eu
    have e3 := Ex.new (o := .tup [V.int (i : Int), V.int (r i)]) nT
    refine ⟨T0, _, rfl, SqT.of upd_same, rfl, _, _, rfl, _, _, rfl, rfl, ?_⟩
    refine ⟨_, rfl, rfl, tst_nc (fun c => ?_) (fun c => ?_)⟩
    · refine ⟨_, rfl, _, rfl, _, rfl, n, i, rfl, hn, fun pe H4 npe e4 h4 => ?_⟩
      have h24 : H4 p = some _ := e4 p _ (e3 p _ h2)
      refine ⟨p, pe, _, _, rfl, SqL.of h24, SqL.of h4, ?_⟩
      refine fun D2 hD2 => lc_go (walk_zip (xs := lfV (n + 1) (fun j => Oc.sm i (fun a => r a * Oc.ef a n j))) (ys := lfV (n + 1) (Oc.ef i n)) (n := n + 1) (by rw [lfV_len, lfV_len, Nat.min_self])) hD2 (fun H' e => ⟨SqL.of (e p _ h24), SqL.of (e pe _ h4)⟩) (by omega)
        (fun j => some (.int ((fun j => Oc.sm (i + 1) (fun a => r a * Oc.ef a n j)) j))) ?_ ?_
      · rintro j x H5 H6 K1 K0 hj e5 ⟨T1, u1, v1, rfl, nT1, rfl, hu1, hv1⟩ k1 k0
        obtain ⟨hj1, rfl⟩ := lfV_of hu1
        obtain ⟨hj2, rfl⟩ := lfV_of hv1
        have e6 := Ex.new (o := .tup [V.int (Oc.sm i (fun a => r a * Oc.ef a n j)), V.int (Oc.ef i n j)]) nT1
        refine ⟨T1, _, rfl, SqT.of upd_same, rfl, _, _, rfl, _, _, rfl, rfl, rfl, tyes ?_⟩
        exact ⟨_, rfl, _, rfl, _, rfl, _, _, rfl, rfl, .inl (hb i (by omega)), _, _, rfl, rfl, k1 _ _ e6 rfl⟩
      · intro H5 e5 h5
        rw [lfV_range] at h5
        exact ⟨D2, _, _, _, _, rfl, fresh_back ((e2.trans e3).trans e4) hD2, ((e2.trans e3).trans e4).trans e5, h5⟩
    · refine ⟨p, _, _, _, _, rfl, np, e2.trans e3, ?_⟩
      have r0 : r i = 0 := V.int.inj c
      have z : lfV (n + 1) (fun j => Oc.sm (i + 1) (fun a => r a * Oc.ef a n j)) = lfV (n + 1) (fun j => Oc.sm i (fun a => r a * Oc.ef a n j)) := lfV_congr fun j _ => by
        show Oc.sm i (fun a => r a * Oc.ef a n j) + r i * Oc.ef i n j = _
        rw [r0, Int.zero_mul, Int.add_zero]
      rw [z]
      exact e3 p _ h2
  · rintro σ H2 ⟨p, y3, y4, y5, y6, rfl, np, e2, h2⟩
    rw [lfV_len] at h2
    exact ⟨_, rfl, q p H2 np e2 h2⟩
end
end OcW

set_option Elab.async false
set_option linter.all false
set_option maxRecDepth 100000
set_option maxHeartbeats 4000000
set_option autoImplicit false
namespace OcW
open PySem PySem.Spec PyProof.Rows L2 Evl
open C8 (Cal Met Mak pe_c pe_mk pe_mt InsC call_isC)
section
variable {P : Program} {w : World} {K : PySem.W.Frag} {mg : Str → Option Value} {base : Heap}
def sp_chof (K : PySem.W.Frag) : Sp := fun vs H Q _ => ∃ (l : Addr) (n : Nat) (r c : Nat → Int) (t : Nat), vs = [.ref l] ∧ SqL K H l (lfV (n + 1) r) ∧ n ≤ 30 ∧ (∀ i, i ≤ n → -(2 ^ 64) < r i ∧ r i < 2 ^ 64) ∧ Oc.sm (n + 1) r = (t : Int) ∧ 0 < t ∧ t < 1000000 ∧
  (∀ j, j ≤ n → 0 ≤ c j ∧ Oc.es n r j = (t : Int) * c j) ∧ ∀ (p f : Addr) (H' : Hp), H f = none → Ex H H' → H' p = some (.tup [.ref f, .non]) → H' f = some (.lst (lfV (n + 1) c)) → Q (.ref p) H'
theorem sc_changed_of : FnScope ["row", "total", "found", "place", "number"] ["row"] (defScope (top 51)) := ⟨rfl, rfl, rfl, by decide +kernel, rfl, by decide +kernel, by decide +kernel⟩
theorem C_changed_of (T : Top K mg) : Cal P w K mg base 4 "changed_of" (sp_chof K) [] := by
  refine cal_of (T.fn 25 _ rfl) sc_changed_of (fun _ _ _ _ _ _ us hl => match us, hl with | [_], _ => rfl) (fun vs H Q E h => ?_) (fun cdv A outer s H vs Q E hr h => ?_)
  · obtain ⟨l, n, r, c, t, rfl, hL, hn, hb, ht, t0, t1, hc, q⟩ := h
    rfl
  obtain ⟨l, n, r, c, t, rfl, hL, hn, hb, ht, t0, t1, hc, q⟩ := h
  refine ⟨_, (pss_cons (ps_par (i := 1) (j := 2) (by rfl) sc_changed_of.nd rfl rfl (by decide) rfl rfl (pa_cons (pe_callB (cr_sum rfl) (by rfl) (T.fr 11 _ rfl) (by decide +kernel) (pa_cons (pv 0) pa_nil)) (pa_cons (pe_lst pa_nil) pa_nil)) (by rfl)) (pss_cons (ps_for PassesOwn.never rfl (pi_enum (by rfl) (T.fr 9 _ rfl) (pa_cons (pe_c (C_entry_sums T) hr (by decide) rfl (pa_cons (pv 0) pa_nil)) pa_nil)) (pg_tup rfl (pgs_cons (pg_name (i := 3) sc_changed_of.nd rfl (.inl rfl)) (pgs_cons (pg_name (i := 4) sc_changed_of.nd rfl (.inl rfl)) pgs_nil))) (pss_cons (ps_if (PW.pt (pw_or (pt_cmpR op_lt (pv 4) pe_int (nomark _)) (pw_or1 (pt_cmpR op_ne (pe_op op_mul (pe_op op_fdiv (pv 4) (pv 1)) (pv 1)) (pv 4) (nomark _))))) (pss_one (ps_ret (pe_tup (pa_cons (pv 2) (pa_cons (pv 3) pa_nil))))) pss_nil) (pss_one (ps_expr (pe_bm PySem.F.plainAttrs_list PySem.F.slot_list_append PySem.F.type_list_append mt_append (pv 2) (pa_cons (pe_op op_fdiv (pv 4) (pv 1)) pa_nil)))))) (pss_one (ps_ret (pe_tup (pa_cons (pv 2) (pa_cons pe_non pa_nil))))))), ?_⟩
  refine ⟨_, rfl, l, Oc.lf (n + 1) r, rfl, hL, ?_⟩
  rw [Oc.sum_lf, ht]
  refine ⟨Nat.zero_le _, fun D nD => ⟨_, _, rfl, ?_⟩⟩
  have e1 := Ex.new (o := .lst []) nD
  refine ⟨_, rfl, l, n, r, rfl, ex_l e1 hL, hn, hb, fun pe H2 npe e2 h2 => ?_⟩
  have hD2 : H2 D = some (.lst (lfV 0 c)) := e2 D _ upd_same
  refine ⟨pe, _, rfl, SqL.of h2, for_it (walk_enum (xs := lfV (n + 1) (Oc.es n r))) (fun i σ H' => ∃ y3 y4, σ = [some (.ref l), some (.int (t : Int)), some (.ref D), y3, y4] ∧ Ex H H' ∧ H' pe = some (.lst (lfV (n + 1) (Oc.es n r))) ∧ H' D = some (.lst (lfV i c))) ⟨none, none, rfl, e1.trans e2, h2, hD2⟩ ?_ ?_ ?_⟩
  · rintro i σ H' _ ⟨y3, y4, rfl, e3, h3, _⟩
    exact SqL.of h3
  · rintro i x σ H3 H4 hi ⟨y3, y4, rfl, e3, h3, hD3⟩ ⟨T0, u, v, rfl, nT, rfl, hu, hv⟩
    obtain ⟨him, rfl⟩ := lfV_of hv
    have eu : u = .int (i : Int) := (Option.some.inj hu).symm
    subst eu
    obtain ⟨c0, ec⟩ := hc i (by omega)
    have e4 := Ex.new (o := .tup [V.int (i : Int), V.int (Oc.es n r i)]) nT
    have hpe : D ≠ pe := ne_of_none upd_same npe
    have tpos : (0 : Int) < (t : Int) := by omega
    have dv : Oc.es n r i / (t : Int) = c i := by
      rw [ec]
      exact Int.mul_ediv_cancel_left _ (by omega)
    have nn : ¬ Oc.es n r i < 0 := by
      rw [ec]
      have := Int.mul_nonneg (Int.le_of_lt tpos) c0
      omega
    refine ⟨T0, _, rfl, SqT.of upd_same, rfl, _, _, rfl, _, _, rfl, rfl, ?_⟩
    refine ⟨_, rfl, _, _, rfl, rfl, tst_f nn ?_⟩
    refine ⟨_, rfl, _, rfl, _, _, rfl, rfl, ⟨tpos, by omega⟩, _, rfl, _, _, rfl, rfl, .inr ⟨by omega, by omega⟩, _, rfl, rfl, tst_nf ?_ ?_⟩
    · rw [dv, ec, Int.mul_comm]
    · have hD4 := e4 D _ hD3
      refine ⟨_, rfl, .inl ⟨rfl, _, SqL.of hD4⟩, _, rfl, _, rfl, _, _, rfl, rfl, ⟨tpos, by omega⟩, D, _, _, rfl, rfl, hD4, ?_, _, _, rfl, (e3.trans e4).mut nD, ?_, ?_⟩
      · rw [lfV_len]
        exact smallt (show i ≤ 1000 by omega)
      · rw [upd_ne hpe.symm]
        exact e4 pe _ h3
      · show upd _ D (.lst (lfV i c ++ [V.int (Oc.es n r i / (t : Int))])) D = _
        rw [dv, ← lfV_succ]
        exact upd_same
  · rintro σ H3 ⟨y3, y4, rfl, e3, h3, hD3⟩
    rw [lfV_len] at hD3
    refine ⟨_, rfl, small (show 2 ≤ 1000 by decide), fun p np => ?_⟩
    have e4 := Ex.new (o := .tup [.ref D, .non]) np
    exact q p D _ nD (e3.trans e4) upd_same (e4 D _ hD3)
/-- a list of counts -/
theorem nat_lf {m : Nat} {f : Nat → Int} (h : ∀ i, i < m → 0 ≤ f i) : lfV m f = (((Oc.lf m f).map Int.toNat)).map nV := by
  unfold lfV
  rw [List.map_map]
  refine List.map_congr_left fun x hx => ?_
  obtain ⟨i, hi, rfl⟩ := List.mem_map.mp hx
  have := h i (List.mem_range.mp hi)
  show V.int (f i) = V.int (((f i).toNat : Nat) : Int)
  rw [Int.toNat_of_nonneg this]
theorem toNat_sum : ∀ {l : List Int}, (∀ x, x ∈ l → 0 ≤ x) → ((l.map Int.toNat).sum : Int) = l.sum
  | [], _ => rfl
  | a :: r, h => by
    have ih := toNat_sum (l := r) fun x hx => h x (List.mem_cons_of_mem _ hx)
    have h0 := h a List.mem_cons_self
    rw [List.map_cons, List.sum_cons, List.sum_cons]
    omega
theorem rowN_of {n k : Nat} {f : Nat → Int} (hn : 1 ≤ n) (hn2 : n ≤ 24) (h : ∀ i, i < n + 1 → 0 ≤ f i) (h1 : f 0 = 1) (hk : k ≤ n) (hs : Oc.sm (n + 1) f = ((2 ^ k : Nat) : Int)) : RowN ((Oc.lf (n + 1) f).map Int.toNat) where
  l2 := by rw [List.length_map, Oc.lf_len]; omega
  l25 := by rw [List.length_map, Oc.lf_len]; omega
  one := by
    rw [List.getElem?_map, Oc.lf_at f (by omega), h1]
    rfl
  pow := by
    refine ⟨k, by rw [List.length_map, Oc.lf_len]; omega, ?_⟩
    have e := toNat_sum (l := Oc.lf (n + 1) f) fun x hx => by
      obtain ⟨i, hi, rfl⟩ := List.mem_map.mp hx
      exact h i (List.mem_range.mp hi)
    rw [Oc.sum_lf, hs] at e
    omega
def sp_changed : Sp := fun vs H Q _ => ∃ (l : Addr) (n k : Nat) (r c : Nat → Int), vs = [.ref l] ∧ H l = some (.lst (lfV (n + 1) r)) ∧ 1 ≤ n ∧ n ≤ 24 ∧ (∀ i, i < n + 1 → 0 ≤ r i) ∧ r 0 = 1 ∧ k ≤ n ∧ k ≤ 16 ∧ Oc.sm (n + 1) r = ((2 ^ k : Nat) : Int) ∧
  (∀ j, j ≤ n → 0 ≤ c j ∧ Oc.es n r j = ((2 ^ k : Nat) : Int) * c j) ∧ RetLI (n + 1) c H Q
theorem sc_changed : FnScope ["row", "found", "place"] ["row"] (defScope (top 52)) := ⟨rfl, rfl, rfl, by decide +kernel, rfl, by decide +kernel, by decide +kernel⟩
theorem C_changed (T : Top K mg) : Cal P w K mg base 5 "changed" sp_changed [] := by
  refine cal_of (T.fn 26 _ rfl) sc_changed (fun _ _ _ _ _ _ us hl => match us, hl with | [_], _ => rfl) (fun vs H Q E h => ?_) (fun cdv A outer s H vs Q E hr h => ?_)
  · obtain ⟨l, n, k, r, c, rfl, hL, hn, hn2, h0, h1, hk, hk2, hs, hc, q⟩ := h
    rfl
  obtain ⟨l, n, k, r, c, rfl, hL, hn, hn2, h0, h1, hk, hk2, hs, hc, q⟩ := h
  refine ⟨_, (pss_cons (ps_asg (pe_c (C_changed_of T) hr (by decide) rfl (pa_cons (pe_c (C_want_row T) hr (by decide) rfl (pa_cons (pv 0) pa_nil)) pa_nil)) (pg_tup rfl (pgs_cons (pg_name (i := 1) sc_changed.nd rfl (.inl rfl)) (pgs_cons (pg_name (i := 2) sc_changed.nd rfl (.inl rfl)) pgs_nil)))) (pss_cons (ps_if (pt_cmpR op_notN (pv 2) pe_non (nomark _)) pss_never pss_nil) (pss_one (ps_ret (pv 1))))), ?_⟩
  have pk : 2 ^ k ≤ 2 ^ 16 := Nat.pow_le_pow_right (by decide) hk2
  refine ⟨_, rfl, l, (Oc.lf (n + 1) r).map Int.toNat, rfl, (by rw [← nat_lf h0]; exact hL), rowN_of hn hn2 h0 h1 hk hs, fun p H1 np e1 hp => ?_⟩
  rw [← nat_lf h0] at hp
  have hb : ∀ i, i ≤ n → -(2 ^ 64) < r i ∧ r i < 2 ^ 64 := fun i hi => by
    have a := h0 i (by omega)
    have b := Oc.sm_pos (m := n + 1) (k := i) (g := r) h0 (by omega)
    rw [hs] at b
    omega
  refine ⟨p, n, r, c, 2 ^ k, rfl, SqL.of hp, by omega, hb, hs, Nat.two_pow_pos k, by omega, hc, fun pt f H2 nf e2 h2 hf => ?_⟩
  refine ⟨pt, _, rfl, SqT.of h2, rfl, _, _, rfl, _, _, rfl, rfl, ?_⟩
  refine ⟨_, rfl, rfl, false, rfl, iteF ⟨_, rfl, q f H2 (fresh_back e1 nf) (e1.trans e2) hf⟩⟩

/-! ### words counted -/
def sp_walked (K : PySem.W.Frag) : Sp := fun vs H Q _ => ∃ (t f : Addr) (B : List Nat) (n : Nat), vs = [.ref t, nV 0, .ref f] ∧ TupN K H t B ∧ B.length ≤ 8 ∧ Oc.Lt n B ∧ n ≤ 24 ∧ H f = some (.lst (lfV (n + 1) (fun _ => 0))) ∧
  ∀ H' : Hp, (∀ b o, b ≠ f → H b = some o → H' b = some o) → H' f = some (.lst (lfV (n + 1) (Oc.Wb n B))) → Q .non H'
def ExB (f : Addr) (H H' : Hp) : Prop := ∀ b o, b ≠ f → H b = some o → H' b = some o
theorem ExB.of {f : Addr} {H H' : Hp} (e : Ex H H') : ExB f H H' := fun b o _ h => e b o h
theorem ExB.trans {f : Addr} {H H1 H2 : Hp} (a : ExB f H H1) (b : ExB f H1 H2) : ExB f H H2 := fun c o n h => b c o n (a c o n h)
theorem ExB.put {f : Addr} {H : Hp} {o : HO} : ExB f H (upd H f o) := fun b u n h => by rw [upd_ne n]; exact h
theorem sc_walked : FnScope ["basis", "begin", "found", "some", "word", "weight", "one"] ["basis", "begin", "found"] (defScope (top 55)) := ⟨rfl, rfl, rfl, by decide +kernel, rfl, by decide +kernel, by decide +kernel⟩
theorem C_walked (T : Top K mg) : Cal P w K mg base 2 "walked" (sp_walked K) [] := by
  refine cal_of (T.fn 27 _ rfl) sc_walked (fun _ _ _ _ _ _ us hl => match us, hl with | [_, _, _], _ => rfl) (fun vs H Q E h => ?_) (fun cdv A outer s H vs Q E hr h => ?_)
  · obtain ⟨t, f, B, n, rfl, hT, hl, hlt, hn, hf, q⟩ := h
    rfl
  obtain ⟨t, f, B, n, rfl, hT, hl, hlt, hn, hf, q⟩ := h
  refine ⟨_, (pss_cons (ps_if (pt_cmpR n_gt (pe_callB n_len (by rfl) (T.fr 5 _ rfl) (by decide +kernel) (pa_cons (pv 0) pa_nil)) (C8.pe_gc rfl T.c_LISTED) (nomark _)) pss_never pss_nil) (pss_cons (ps_set (i := 3) sc_walked.nd rfl (.inl rfl) (pe_lst (pa_cons (pv 1) pa_nil))) (pss_cons (ps_for PassesOwn.never rfl (pi_tup (pv 0)) (pg_name (i := 4) sc_walked.nd rfl (.inr rfl)) (pss_one (ps_set (i := 3) sc_walked.nd rfl (.inl rfl) (pe_op op_cat (pv 3) (pe_lc (own := [("one", 6)]) rfl sc_walked.nd (pi_list (pv 3)) (blkOk_by (N := (["basis", "begin", "found", "some", "word", "weight", "one"] : List Str)) (sc := defScope (top 55)) (by decide +kernel)) (fun _ _ _ _ _ => (pg_name (i := 6) sc_walked.nd rfl (.inl rfl))) (fun _ _ _ _ _ => pts_nil) (fun _ _ _ _ _ => (pe_op n_xor (pv 6) (pv 4)))))))) (pss_one (ps_for PassesOwn.never rfl (pi_list (pv 3)) (pg_name (i := 4) sc_walked.nd rfl (.inr rfl)) (pss_cons (ps_set (i := 5) sc_walked.nd rfl (.inl rfl) (pe_c (C_weight_of T) hr (by decide) rfl (pa_cons (pv 4) pa_nil))) (pss_one (ps_asg (pe_op op_add (pe_ix (r := rIxL K) ix_list (pv 2) (pv 5) (fun _ _ => rfl)) pe_int) (pg_sub (pv 2) (pv 5) set_list))))))))), ?_⟩
  refine ⟨_, rfl, t, _, rfl, .inr hT, (B.map nV).length, 8, rfl, rfl, tst_f (by rw [List.length_map]; omega) ?_⟩
  refine ⟨_, rfl, small (show 1 ≤ 1000 by decide), fun p1 n1 => ?_⟩
  have e1 := Ex.new (o := .lst [nV 0]) n1
  refine ⟨_, rfl, t, rfl, ⟨_, ex_t e1 hT⟩, for_it (walk_tup (xs := B.map nV)) (fun i σ H' => ∃ (p : Addr) (y4 y5 y6 : Option V), σ = [some (.ref t), some (nV 0), some (.ref f), some (.ref p), y4, y5, y6] ∧ H p = none ∧ Ex H H' ∧ H' p = some (.lst ((Oc.allS (B.take i)).map nV))) ⟨p1, none, none, none, rfl, n1, e1, upd_same⟩ ?_ ?_ ?_⟩
  · rintro i σ H' _ ⟨p, y4, y5, y6, rfl, _, e2, _⟩
    exact ex_t e2 hT
  · rintro i x σ H2 H3 hi ⟨p, y4, y5, y6, rfl, np, e2, h2⟩ ⟨rfl, hx⟩
    obtain ⟨b, hb, rfl⟩ := map_at hx
    have hib := lt_of_at hb
    have la : (Oc.allS (B.take i)).length ≤ 256 := by
      rw [Oc.allS_len, List.length_take]
      exact Nat.pow_le_pow_right (by decide) (show min i B.length ≤ 8 by omega)
    refine ⟨_, rfl, _, rfl, p, rfl, ⟨_, SqL.of h2⟩, ?_⟩
    refine fun D hD => lc_go (walk_list (xs := (Oc.allS (B.take i)).map nV)) hD (fun H' e => SqL.of (e p _ h2)) (by rw [List.length_map]; omega) (fun j => (Oc.allS (B.take i))[j]?.map fun x => nV (x ^^^ b)) ?_ ?_
    · rintro j x H4 H5 K1 K0 hj e4 ⟨rfl, hx⟩ k1 k0
      obtain ⟨a, ha, rfl⟩ := map_at hx
      refine ⟨rfl, tyes ⟨_, rfl, _, rfl, a, b, rfl, rfl, k1 _ _ (Ex.refl _) ?_⟩⟩
      show (Oc.allS (B.take i))[j]?.map _ = _
      rw [ha] <;> rfl
    · intro H4 e4 h4
      rw [List.length_map, fm_map] at h4
      refine ⟨p, D, _, _, rfl, rfl, e4 p _ h2, h4, ?_, fun p' np' => ?_⟩
      · rw [List.length_map, List.length_map]
        exact small (by omega)
      · have e5 := Ex.new (o := .lst ((Oc.allS (B.take i)).map nV ++ (Oc.allS (B.take i)).map fun x => nV (x ^^^ b))) np'
        refine ⟨p', _, _, _, rfl, fresh_back (e2.trans e4) np', (e2.trans e4).trans e5, ?_⟩
        rw [take_at hb, Oc.allS_snoc, List.map_append, List.map_map]
        exact upd_same
  · rintro σ H2 ⟨p, y4, y5, y6, rfl, np, e2, h2⟩
    rw [List.length_map, List.take_length] at h2
    have hpf : p ≠ f := (ne_of_none hf np).symm
    refine ⟨_, rfl, p, rfl, ⟨_, SqL.of h2⟩, for_it (walk_list (xs := (Oc.allS B).map nV)) (fun j σ H' => ∃ (y4 y5 y6 : Option V), σ = [some (.ref t), some (nV 0), some (.ref f), some (.ref p), y4, y5, y6] ∧ ExB f H H' ∧ H' p = some (.lst ((Oc.allS B).map nV)) ∧ H' f = some (.lst (lfV (n + 1) (Oc.cnt n ((Oc.allS B).take j)))))
      ⟨_, _, _, rfl, ExB.of e2, h2, e2 f _ hf⟩ ?_ ?_ ?_⟩
    · rintro j σ H' _ ⟨y4, y5, y6, rfl, _, h3, _⟩
      exact SqL.of h3
    · rintro j x σ H3 H4 hj ⟨y4, y5, y6, rfl, e3, h3, hf3⟩ ⟨rfl, hx⟩
      obtain ⟨v, hv, rfl⟩ := map_at hx
      have vl : v < 2 ^ n := Oc.sp_lt hlt (Oc.allS_mem B (List.mem_of_getElem? hv))
      have wl := Oc.wtN_le n v
      refine ⟨_, rfl, v, rfl, Nat.lt_of_lt_of_le vl (Nat.pow_le_pow_right (by decide) hn), ?_⟩
      rw [Oc.wt_eq vl hn]
      refine ⟨_, rfl, _, rfl, f, _, _, _, rfl, rfl, SqL.of hf3, atI_lfV _ rfl (show Oc.wtN n v < n + 1 by omega), _, _, rfl, rfl, ?_⟩
      refine ⟨_, rfl, _, rfl, f, _, _, Oc.wtN n v, rfl, rfl, hf3, ?_, ?_⟩
      · rw [lfV_len]
        exact ixN_nat (by omega)
      · rw [lfV_set, take_at hv, Oc.cnt_snoc]
        exact ⟨_, _, _, rfl, e3.trans ExB.put, by rw [upd_ne hpf]; exact h3, upd_same⟩
    · rintro σ H3 ⟨y4, y5, y6, rfl, e3, h3, hf3⟩
      rw [List.length_map, List.take_length, Oc.cnt_all] at hf3
      exact q H3 e3 hf3
def sp_wordsrow (K : PySem.W.Frag) : Sp := fun vs H Q _ => ∃ (n : Nat) (t : Addr) (B : List Nat), vs = [nV n, .ref t] ∧ TupN K H t B ∧ B.length ≤ 8 ∧ Oc.Lt n B ∧ n ≤ 24 ∧ RetLI (n + 1) (Oc.Wb n B) H Q
theorem sc_words_row : FnScope ["places", "basis", "found", "at"] ["places", "basis"] (defScope (top 56)) := ⟨rfl, rfl, rfl, by decide +kernel, rfl, by decide +kernel, by decide +kernel⟩
theorem C_words_row (T : Top K mg) : Cal P w K mg base 3 "words_row" (sp_wordsrow K) [] := by
  refine cal_of (T.fn 28 _ rfl) sc_words_row (fun _ _ _ _ _ _ us hl => match us, hl with | [_, _], _ => rfl) (fun vs H Q E h => ?_) (fun cdv A outer s H vs Q E hr h => ?_)
  · obtain ⟨n, t, B, rfl, hT, hl, hlt, hn, q⟩ := h
    rfl
  obtain ⟨n, t, B, rfl, hT, hl, hlt, hn, q⟩ := h
  refine ⟨_, (pss_cons (ps_setLc (i := 2) (own := [("at", 3)]) rfl sc_words_row.nd rfl rfl (sw_true rfl rfl rfl (by decide +kernel)) (pi_range1 (by rfl) (T.fr 10 _ rfl) (pa_cons (pe_op n_add (pv 0) (pe_nat 1)) pa_nil)) (blkOk_by (N := (["places", "basis", "found", "at"] : List Str)) (sc := defScope (top 56)) (by decide +kernel)) (fun _ _ _ _ _ => (pg_name (i := 3) sc_words_row.nd rfl (.inl rfl))) (fun _ _ _ _ _ => pts_nil) (fun _ _ _ _ _ => (pe_nat 0))) (pss_cons (ps_expr (pe_c (C_walked T) hr (by decide) rfl (pa_cons (pv 1) (pa_cons (pe_nat 0) (pa_cons (pv 2) pa_nil))))) (pss_one (ps_ret (pv 2))))), ?_⟩
  refine ⟨_, rfl, n, 1, rfl, rfl, ((n + 1 : Nat) : Int), rfl, by omega, by omega, ?_⟩
  refine fun D hD => lc_go (walk_rangeN (n := n + 1)) hD (fun _ _ => trivial) (by omega) (fun i => some (.int ((fun _ => (0 : Int)) i))) ?_ ?_
  · rintro i x H1 H2 K1 K0 hi e1 ⟨rfl, hx⟩ k1 k0
    exact ⟨rfl, tyes (k1 _ _ (Ex.refl _) rfl)⟩
  intro H1 e1 h1
  rw [lfV_range] at h1
  refine ⟨_, rfl, _, rfl, t, D, B, n, rfl, ex_t e1 hT, hl, hlt, hn, h1, fun H2 e2 h2 => ?_⟩
  refine ⟨_, rfl, q D H2 hD (fun b o hb => ?_) h2⟩
  exact e2 b o (ne_of_none hb hD) (e1 b o hb)
/-- the contrary's basis, and back -/
theorem back {n : Nat} {B B' : List Nat} (hp : Oc.Plain B) (hlt : Oc.Lt n B) (hB' : Oc.IsBasis (Oc.dualGen n B) B') (v : Nat) (hv : v < 2 ^ n) : Oc.sp B v = true ↔ Oc.Orth n B' v :=
  (Oc.dual_dual hp hlt hv).symm.trans (Oc.orth_basis hB' v).symm
def sp_rowof (K : PySem.W.Frag) : Sp := fun vs H Q _ => ∃ (n : Nat) (t : Addr) (B : List Nat), vs = [nV n, .ref t] ∧ TupN K H t B ∧ Oc.Plain B ∧ Oc.Lt n B ∧ n ≤ 16 ∧ RetLI (n + 1) (Oc.Wb n B) H Q
theorem sc_row_of : FnScope ["places", "basis"] ["places", "basis"] (defScope (top 57)) := ⟨rfl, rfl, rfl, by decide +kernel, rfl, by decide +kernel, by decide +kernel⟩
theorem C_row_of (T : Top K mg) : Cal P w K mg base 5 "row_of" (sp_rowof K) [] := by
  refine cal_of (T.fn 29 _ rfl) sc_row_of (fun _ _ _ _ _ _ us hl => match us, hl with | [_, _], _ => rfl) (fun vs H Q E h => ?_) (fun cdv A outer s H vs Q E hr h => ?_)
  · obtain ⟨n, t, B, rfl, hT, hp, hlt, hn, q⟩ := h
    rfl
  obtain ⟨n, t, B, rfl, hT, hp, hlt, hn, q⟩ := h
  refine ⟨_, (pss_cons (ps_if (pt_cmpR n_le (pe_op n_mul (pe_nat 2) (pe_callB n_len (by rfl) (T.fr 5 _ rfl) (by decide +kernel) (pa_cons (pv 1) pa_nil))) (pv 0) (nomark _)) (pss_one (ps_ret (pe_c (C_words_row T) hr (by decide) rfl (pa_cons (pv 0) (pa_cons (pv 1) pa_nil))))) pss_nil) (pss_one (ps_ret (pe_ix (r := rIxT K) ix_tup (pe_c (C_changed_of T) hr (by decide) rfl (pa_cons (pe_c (C_words_row T) hr (by decide) rfl (pa_cons (pv 0) (pa_cons (pe_c (C_contrary_basis T) hr (by decide) rfl (pa_cons (pv 0) (pa_cons (pv 1) pa_nil))) pa_nil))) pa_nil)) (pe_nat 0) (fun _ _ => rfl))))), ?_⟩
  have hlen := Oc.ind_len hp.ind hlt
  refine ⟨_, rfl, t, B.map nV, rfl, .inr hT, 2, B.length, rfl, by rw [List.length_map], (by show (2 : Nat) < 2 ^ 60; decide), _, rfl, 2 * B.length, n, rfl, rfl, tst_c (fun c => ?_) (fun c => ?_)⟩
  · exact ⟨_, rfl, _, rfl, n, t, B, rfl, hT, by omega, hlt, by omega, q⟩
  have hd := Oc.dual_len_eq hp hlt
  refine ⟨_, rfl, _, rfl, _, rfl, n, t, B, rfl, hT, hp, hlt, by omega, by omega, fun t' H1 B' e1 hT' hB' hl' => ?_⟩
  have hlt' := hB'.lt (Oc.dual_lt hp hlt)
  have hl8 : B'.length ≤ 8 := by omega
  refine ⟨n, t', B', rfl, hT', hl8, hlt', by omega, fun p H2 np e2 h2 => ?_⟩
  have nn : ∀ i, i < n + 1 → 0 ≤ Oc.Wb n B' i := fun i _ => Oc.Wb_nonneg hB'.plain.ind hlt' i
  have p8 : 2 ^ B'.length ≤ 2 ^ 8 := Nat.pow_le_pow_right (by decide) hl8
  have hb : ∀ i, i ≤ n → -(2 ^ 64) < Oc.Wb n B' i ∧ Oc.Wb n B' i < 2 ^ 64 := fun i hi => by
    have a := nn i (by omega)
    have b := Oc.sm_pos (m := n + 1) (k := i) (g := Oc.Wb n B') nn (by omega)
    rw [Oc.Wb_total] at b
    omega
  refine ⟨p, n, Oc.Wb n B', Oc.Wb n B, 2 ^ B'.length, rfl, SqL.of h2, by omega, hb, Oc.Wb_total n B', Nat.two_pow_pos _, by omega, fun j _ => ⟨Oc.Wb_nonneg hp.ind hlt j, Oc.mac hp.ind hlt (back hp hlt hB') j⟩, fun pt f H3 nf e3 h3 hf => ?_⟩
  exact ⟨pt, _, 0, _, rfl, rfl, SqT.of h3, atI_nat (j := 0) rfl, q f H3 (fresh_back (e1.trans e2) nf) ((e1.trans e2).trans e3) hf⟩
/-- row(room = e) -/
structure CalK (P : Program) (w : World) (K : PySem.W.Frag) (mg : Str → Option Value) (base : Heap) (k : Nat) (x kw : Str) (sp : Sp) : Prop where
  ex : ∃ (f : Addr) (fd : FuncData) (ps : List Str), FnOk P w K mg base CX0 k f fd ps sp ∧ mg x = some (.ref f) ∧ PySem.W.keepIn K (.ref f) = true ∧ KBn K fd ps 0 [kw] (fun _ ws => ws) (fun _ zs => zs)
theorem pe_ck {X : Cx} {k j : Nat} {x kw : Str} {sp : Sp} {p kpos pos : Pos} {e : Expr} {te : TE} (c : CalK X.prog X.w X.K X.mg X.base k x kw sp) (hr : Room j X.A) (hk : k ≤ j) (hg : Gl X x) (ha : PE X e te)
    (hdb : (x == ("__debug__" : Str)) = false := by decide) : PE X (.Call (.Name x p) [] [⟨some kw, e, kpos⟩] pos) (tCallN 0 1 sp (fun _ zs => zs) E0 tNil (tCons te tNil)) := by
  obtain ⟨f, fd, ps, F, hm, kp, b⟩ := c.ex
  refine ⟨fun pins s σ H Q I h => wpAny_Call_Name_kw (ld_glob I hg hm ?_ hdb)⟩
  refine PySem.W.callWith_KW0 (h₀ := X.base) I.ok.mod.kin kp rfl ?_ rfl
  have h2 : tCons te tNil σ H (fun zs H2 => ([] : List V).length = 0 ∧ zs.length = 1 ∧ sp zs H2 Q E0) := h
  refine thn ((pk_cons (nm := some kw) (kpos := kpos) ha pk_nil).run pos pins s σ H _ I h2) fun ws s2 ⟨zs, H2, I2, rz, l1, l2, q2⟩ => ⟨I2.kIn, ?_⟩
  exact run_fnN (us := []) (vs := []) F (hr.mono hk) b pass0 I2 .nil rz rfl l2 q2
theorem calk_of {x kw : Str} {i : Nat} {N ps : List Str} {k : Nat} {sp : Sp} (F : FnP K mg x i) (S : FnScope N ps (defScope (top i)))
    (hb : ∀ (kV doc pm : Value) (an : Option Addr) (cdv ct : Value) (us : List Value), us.length = ps.length → bindArgs (PySem.W.fnOf x x (defArgs (top i)) (defBody (top i)) (defScope (top i)) .none kV doc pm an cdv ct) ⟨us, []⟩ = pure (ps.zip us))
    (hk : ∀ (kV doc pm : Value) (an : Option Addr) (cdv ct : Value) (ws : List Value), ws.length = 1 → bindArgs (PySem.W.fnOf x x (defArgs (top i)) (defBody (top i)) (defScope (top i)) .none kV doc pm an cdv ct) ⟨[], [kw].zip ws⟩ = pure (ps.zip ws))
    (len : ∀ vs H Q E, sp vs H Q E → vs.length = ps.length)
    (hbody : ∀ (cdv : Value) (A : Around) (outer : List Env) (s : Shared) (H : Hp) (vs : List V) (Q : VK) (E : XK), Room k (A.deeper (envOfC x (defScope (top i)) s.heap.objs.size (He.ga K x) cdv)) → sp vs H Q E →
      ∃ t, PSs (cxOf CX0 P w K mg base N x (defScope (top i)) (He.ga K x) cdv A outer s H E).nox (defBody (top i)) t ∧ t { nx := fun _ H' => Q .non H', rt := Q } (start N vs) H) : Cal P w K mg base (k + 1) x sp [] ∧ CalK P w K mg base (k + 1) x kw sp := by
  obtain ⟨hm, fd, F⟩ := F
  have FO : FnOk P w K mg base CX0 (k + 1) (He.ga K x) fd ps sp := F.ok S len fun cdv A outer s H vs Q E hr h => by
    obtain ⟨t, h1, h2⟩ := hbody cdv A outer s H vs Q E hr h
    exact ⟨t, h1.nox, h2⟩
  refine ⟨⟨_, fd, ps, [], FO, hm, F.kp, F.bindsN hb, .nil⟩, ⟨_, fd, ps, FO, hm, F.kp, ⟨fun s us ws X l1 l2 => ?_, fun _ r => r⟩⟩⟩
  obtain ⟨oc, od, dV, kV, doc, pm, an, cdv, ct, osl, rfl, lk, hcd, hD, hK⟩ := F.ex
  rcases hD with ⟨_, rfl⟩ | ⟨e, _⟩
  · obtain rfl : us = [] := List.length_eq_zero_iff.mp l1
    exact .of_eq (hk kV doc pm an cdv ct ws l2)
  · exact absurd rfl e
def sp_row (K : PySem.W.Frag) : Sp := fun vs H Q _ => ∃ (r : Addr) (n : Nat) (B : List Nat), vs = [.ref r] ∧ RoomAt K H r n B ∧ Oc.Plain B ∧ Oc.Lt n B ∧ n ≤ 16 ∧ RetLI (n + 1) (Oc.Wb n B) H Q
theorem sc_row : FnScope ["room"] ["room"] (defScope (top 58)) := ⟨rfl, rfl, rfl, by decide +kernel, rfl, by decide +kernel, by decide +kernel⟩
theorem C2_row (T : Top K mg) : Cal P w K mg base 6 "row" (sp_row K) [] ∧ CalK P w K mg base 6 "row" "room" (sp_row K) := by
  refine calk_of (T.fn 30 _ rfl) sc_row (fun _ _ _ _ _ _ us hl => match us, hl with | [_], _ => rfl) (fun _ _ _ _ _ _ us hl => match us, hl with | [_], _ => rfl) (fun vs H Q E h => ?_) (fun cdv A outer s H vs Q E hr h => ?_)
  · obtain ⟨r, n, B, rfl, ⟨dx, t, hr1, hT⟩, hp, hlt, hn, q⟩ := h
    rfl
  obtain ⟨r, n, B, rfl, ⟨dx, t, hr1, hT⟩, hp, hlt, hn, q⟩ := h
  refine ⟨_, (pss_cons (ps_expr (pe_c (C_want_room T) hr (by decide) rfl (pa_cons (pv 0) pa_nil))) (pss_one (ps_ret (pe_c (C_row_of T) hr (by decide) rfl (pa_cons (pe_fld (pv 0) rfl) (pa_cons (pe_fld (pv 0) rfl) pa_nil)))))), ?_⟩
  refine ⟨_, rfl, r, n, B, rfl, ⟨dx, t, hr1, hT⟩, ?_⟩
  refine ⟨_, rfl, r, _, dx, _, _, rfl, hr1, T.room.cl, T.nRp, fR_p n t, _, rfl, r, _, dx, _, _, rfl, hr1, T.room.cl, T.nRb, fR_b n t, n, t, B, rfl, hT, hp, hlt, hn, q⟩
theorem C_row (T : Top K mg) : Cal P w K mg base 6 "row" (sp_row K) [] := (C2_row T).1
theorem CK_row (T : Top K mg) : CalK P w K mg base 6 "row" "room" (sp_row K) := (C2_row T).2
end
end OcW

set_option Elab.async false
set_option linter.all false
set_option maxRecDepth 100000
set_option maxHeartbeats 4000000
set_option autoImplicit false
namespace OcW
open PySem PySem.Spec PyProof.Rows L2 Evl
open C8 (Cal Met Mak pe_c pe_mk pe_mt InsC call_isC)
/-! ### lists of ints compared -/
theorem dpAll_ints {K : PySem.W.Frag} {H : Hp} : ∀ ns : List Int, DpAll K H (ns.map V.int) (ns.map PyData.int)
  | [] => .nil
  | n :: r => .cons (.int n) (dpAll_ints r)
theorem eqvAll_ints : ∀ ns ms : List Int, PyData.eqvAll (ns.map PyData.int) (ms.map PyData.int) = decide (ns = ms)
  | [], [] => rfl
  | [], m :: r => by
    rw [List.map_nil, List.map_cons, PyData.eqvAll]
    rfl
  | n :: r, [] => by
    rw [List.map_nil, List.map_cons, PyData.eqvAll]
    rfl
  | n :: r, m :: t => by
    rw [List.map_cons, List.map_cons, PyData.eqvAll, eqvAll_ints r t, PyData.eqv, Bool.beq_eq_decide_eq]
    by_cases c : n = m
    · by_cases d : r = t
      · rw [decide_eq_true c, decide_eq_true d, decide_eq_true (by rw [c, d])]
        rfl
      · rw [decide_eq_false d, Bool.and_false, decide_eq_false fun z => d (List.cons.inj z).2]
    · rw [decide_eq_false c, Bool.false_and, decide_eq_false fun z => c (List.cons.inj z).1]
theorem can_ints : ∀ ns : List Int, PyData.canLayAll0 (ns.map PyData.int) = true
  | [] => rfl
  | n :: r => by
    rw [List.map_cons, PyData.canLayAll0, can_ints r, PyData.canLay0]
    rfl
theorem depth_ints : ∀ ns : List Int, PyData.depthAll (ns.map PyData.int) = 0
  | [] => rfl
  | n :: r => by
    rw [List.map_cons, PyData.depthAll, depth_ints r, PyData.depth]
    rfl
theorem shaped_ints (ns : List Int) : SeqAt.shaped (.list (ns.map PyData.int)) = true := by
  unfold SeqAt.shaped
  rw [PyData.canLay0, can_ints, PyData.depth, depth_ints]
  rfl
theorem eqv_ints (ns ms : List Int) : PyData.eqv (.list (ns.map PyData.int)) (.list (ms.map PyData.int)) = decide (ns = ms) := by
  rw [PyData.eqv, eqvAll_ints]
def rEqI (K : PySem.W.Frag) : R2 := fun x y H Q => ∃ (a b : Addr) (ns ms : List Int), x = .ref a ∧ y = .ref b ∧ SqL K H a (ns.map V.int) ∧ SqL K H b (ms.map V.int) ∧ Q (.bl (decide (ns = ms))) H
def rNeI (K : PySem.W.Frag) : R2 := fun x y H Q => ∃ (a b : Addr) (ns ms : List Int), x = .ref a ∧ y = .ref b ∧ SqL K H a (ns.map V.int) ∧ SqL K H b (ms.map V.int) ∧ Q (.bl (!decide (ns = ms))) H
theorem op_eqIs {X : Cx} (hu : X.A.units + 64 < cLine) : OpR X (compareOp .Eq) (rEqI X.K) := OpR.weak (op_eqD hu) fun x y H Q ⟨a, b, ns, ms, h1, h2, h3, h4, q⟩ => by
  subst h1 h2
  exact ⟨_, _, .lst h3 (dpAll_ints ns), .lst h4 (dpAll_ints ms), shaped_ints ns, shaped_ints ms, by rw [eqv_ints]; exact q⟩
theorem op_neIs {X : Cx} (hu : X.A.units + 64 < cLine) : OpR X (compareOp .NotEq) (rNeI X.K) := OpR.weak (op_neD hu) fun x y H Q ⟨a, b, ns, ms, h1, h2, h3, h4, q⟩ => by
  subst h1 h2
  exact ⟨_, _, .lst h3 (dpAll_ints ns), .lst h4 (dpAll_ints ms), shaped_ints ns, shaped_ints ms, by rw [eqv_ints]; exact q⟩
section
variable {P : Program} {w : World} {K : PySem.W.Frag} {mg : Str → Option Value} {base : Heap}
def sp_alike (K : PySem.W.Frag) : Sp := fun vs H Q _ => ∃ (r r' : Addr) (n : Nat) (A B : List Nat), vs = [.ref r, .ref r'] ∧ RoomAt K H r n A ∧ RoomAt K H r' n B ∧ Q .non H
theorem sc_want_alike : FnScope ["room", "other"] ["room", "other"] (defScope (top 60)) := ⟨rfl, rfl, rfl, by decide +kernel, rfl, by decide +kernel, by decide +kernel⟩
theorem C_want_alike (T : Top K mg) : Cal P w K mg base 2 "want_alike" (sp_alike K) [] := by
  refine cal_of (T.fn 31 _ rfl) sc_want_alike (fun _ _ _ _ _ _ us hl => match us, hl with | [_, _], _ => rfl) (fun vs H Q E h => ?_) (fun cdv A outer s H vs Q E hr h => ?_)
  · obtain ⟨r, r', n, A, B, rfl, ⟨dx, t, h1, hT⟩, ⟨dx', t', h1', hT'⟩, q⟩ := h
    rfl
  obtain ⟨r, r', n, A, B, rfl, ⟨dx, t, h1, hT⟩, ⟨dx', t', h1', hT'⟩, q⟩ := h
  refine ⟨_, (pss_cons (ps_expr (pe_c (C_want_room T) hr (by decide) rfl (pa_cons (pv 0) pa_nil))) (pss_cons (ps_expr (pe_c (C_want_room T) hr (by decide) rfl (pa_cons (pv 1) pa_nil))) (pss_one (ps_if (pt_cmpR n_ne (pe_fld (pv 0) rfl) (pe_fld (pv 1) rfl) (nomark _)) pss_never pss_nil)))), ?_⟩
  refine ⟨_, rfl, r, n, A, rfl, ⟨dx, t, h1, hT⟩, _, rfl, r', n, B, rfl, ⟨dx', t', h1', hT'⟩, ?_⟩
  exact ⟨_, rfl, r, _, dx, _, _, rfl, h1, T.room.cl, T.nRp, fR_p n t, _, rfl, r', _, dx', _, _, rfl, h1', T.room.cl, T.nRp, fR_p n t', n, n, rfl, rfl, tst_nf rfl q⟩
theorem fm_sel (f : Nat → Bool) (B : List Nat) : (List.range B.length).filterMap (fun i => B[i]?.bind fun b => if f b = true then some (nV b) else none) = (B.filter f).map nV := by
  rw [fm_at]
  induction B with
  | nil => rfl
  | cons b r ih =>
    rw [List.filterMap_cons, List.filter_cons]
    cases c : f b with
    | true =>
      rw [if_pos rfl, if_pos rfl]
      show nV b :: _ = nV b :: _
      rw [ih] <;> rfl
    | false =>
      rw [if_neg Bool.false_ne_true, if_neg Bool.false_ne_true]
      exact ih
def low (n : Nat) (b : Nat) : Bool := decide (b / 2 ^ n = 0)
def RetT (K : PySem.W.Frag) (B : List Nat) (H : Hp) (Q : VK) : Prop := ∀ (t : Addr) (H' : Hp), Ex H H' → TupN K H' t B → Q (.ref t) H'
def sp_below (K : PySem.W.Frag) : Sp := fun vs H Q _ => ∃ (t : Addr) (n : Nat) (B : List Nat), vs = [.ref t, nV n] ∧ TupN K H t B ∧ B.length ≤ 1000 ∧ RetT K (B.filter (low n)) H Q
theorem sc_below : FnScope ["basis", "places", "word"] ["basis", "places"] (defScope (top 61)) := ⟨rfl, rfl, rfl, by decide +kernel, rfl, by decide +kernel, by decide +kernel⟩
theorem C_below (T : Top K mg) : Cal P w K mg base 1 "below" (sp_below K) [] := by
  refine cal_of (T.fn 32 _ rfl) sc_below (fun _ _ _ _ _ _ us hl => match us, hl with | [_, _], _ => rfl) (fun vs H Q E h => ?_) (fun cdv A outer s H vs Q E hr h => ?_)
  · obtain ⟨t, n, B, rfl, hT, hl, q⟩ := h
    rfl
  obtain ⟨t, n, B, rfl, hT, hl, q⟩ := h
  refine ⟨_, (pss_one (ps_ret (pe_callTy call_tuple_of (by rfl) (T.fr 4 _ rfl) (by decide +kernel) (pa_cons (pe_lc (own := [("word", 2)]) rfl sc_below.nd (pi_tup (pv 0)) (blkOk_by (N := (["basis", "places", "word"] : List Str)) (sc := defScope (top 61)) (by decide +kernel)) (fun _ _ _ _ _ => (pg_name (i := 2) sc_below.nd rfl (.inl rfl))) (fun _ _ _ _ _ => (pts_one (pt_cmpR n_eq (pe_op n_shr (pv 2) (pv 1)) (pe_nat 0) (nomark _)))) (fun _ _ _ _ _ => (pv 2))) pa_nil)))), ?_⟩
  refine ⟨_, rfl, t, rfl, ⟨_, hT⟩, ?_⟩
  refine fun D hD => lc_go (walk_tup (xs := B.map nV)) hD (fun H' e => ex_t e hT) (by rw [List.length_map]; omega) (fun i => B[i]?.bind fun b => if low n b = true then some (nV b) else none) ?_ ?_
  · rintro i x H1 H2 K1 K0 hi e1 ⟨rfl, hx⟩ k1 k0
    obtain ⟨b, hb, rfl⟩ := map_at hx
    refine ⟨rfl, _, rfl, _, rfl, b, n, rfl, rfl, b / 2 ^ n, 0, rfl, rfl, tst_c (c := b / 2 ^ n = 0) (fun z => ?_) (fun z => ?_)⟩
    · refine ⟨_, rfl, k1 _ _ (Ex.refl _) ?_⟩
      rw [hb]
      exact if_pos (decide_eq_true z)
    · refine k0 _ (Ex.refl _) ?_
      rw [hb]
      exact if_neg fun y => z (of_decide_eq_true y)
  · intro H1 e1 h1
    rw [List.length_map, fm_sel] at h1
    exact ⟨D, _, rfl, .inl ⟨SqL.of h1, fun p np => q p _ (e1.trans (Ex.new np)) (SqT.of upd_same)⟩⟩
def twice (n : Nat) (A B : List Nat) : List Nat := (A.map fun a => a * 2 ^ n + a) ++ B.map fun b => b * 2 ^ n
def sp_common (K : PySem.W.Frag) : Sp := fun vs H Q _ => ∃ (t t' : Addr) (n : Nat) (A B : List Nat), vs = [.ref t, .ref t', nV n] ∧ TupN K H t A ∧ TupN K H t' B ∧ A.length ≤ 50 ∧ B.length ≤ 50 ∧ n ≤ 24 ∧ Oc.Lt n A ∧ Oc.Lt n B ∧
  ∀ C : List Nat, Oc.IsBasis (twice n A B) C → C.length ≤ 100 → RetT K (C.filter (low n)) H Q
theorem sc_common_basis : FnScope ["basis", "other", "places", "twice", "word"] ["basis", "other", "places"] (defScope (top 62)) := ⟨rfl, rfl, rfl, by decide +kernel, rfl, by decide +kernel, by decide +kernel⟩
theorem C_common_basis (T : Top K mg) : Cal P w K mg base 4 "common_basis" (sp_common K) [] := by
  refine cal_of (T.fn 33 _ rfl) sc_common_basis (fun _ _ _ _ _ _ us hl => match us, hl with | [_, _, _], _ => rfl) (fun vs H Q E h => ?_) (fun cdv A outer s H vs Q E hr h => ?_)
  · obtain ⟨t, t', n, A, B, rfl, hT, hT', hA, hB, hn, lA, lB, q⟩ := h
    rfl
  obtain ⟨t, t', n, A, B, rfl, hT, hT', hA, hB, hn, lA, lB, q⟩ := h
  refine ⟨_, (pss_cons (ps_setLc (i := 3) (own := [("word", 4)]) rfl sc_common_basis.nd rfl rfl (sw_true rfl rfl rfl (by decide +kernel)) (pi_tup (pv 0)) (blkOk_by (N := (["basis", "other", "places", "twice", "word"] : List Str)) (sc := defScope (top 62)) (by decide +kernel)) (fun _ _ _ _ _ => (pg_name (i := 4) sc_common_basis.nd rfl (.inl rfl))) (fun _ _ _ _ _ => pts_nil) (fun _ _ _ _ _ => (pe_op n_add (pe_op n_shl (pv 4) (pv 2)) (pv 4)))) (pss_one (ps_ret (pe_c (C_below T) hr (by decide) rfl (pa_cons (pe_c (C_plain_basis T) hr (by decide) rfl (pa_cons (pe_op op_cat (pv 3) (pe_lc (own := [("word", 4)]) rfl sc_common_basis.nd (pi_tup (pv 1)) (blkOk_by (N := (["basis", "other", "places", "twice", "word"] : List Str)) (sc := defScope (top 62)) (by decide +kernel)) (fun _ _ _ _ _ => (pg_name (i := 4) sc_common_basis.nd rfl (.inl rfl))) (fun _ _ _ _ _ => pts_nil) (fun _ _ _ _ _ => (pe_op n_shl (pv 4) (pv 2))))) pa_nil)) (pa_cons (pv 2) pa_nil)))))), ?_⟩
  have big : ∀ {L : List Nat} {a : Nat}, Oc.Lt n L → a ∈ L → a < 2 ^ 60 := fun h m => Nat.lt_of_lt_of_le (h _ m) (Nat.pow_le_pow_right (by decide) (by omega))
  refine ⟨_, rfl, t, rfl, ⟨_, hT⟩, ?_⟩
  refine fun D hD => lc_go (walk_tup (xs := A.map nV)) hD (fun H' e => ex_t e hT) (by rw [List.length_map]; omega) (fun i => A[i]?.map fun a => nV (a * 2 ^ n + a)) ?_ ?_
  · rintro i x H1 H2 K1 K0 hi e1 ⟨rfl, hx⟩ k1 k0
    obtain ⟨b, hb, rfl⟩ := map_at hx
    refine ⟨rfl, tyes ⟨_, rfl, _, rfl, b, n, rfl, rfl, ⟨big lA (List.mem_of_getElem? hb), by omega⟩, _, rfl, _, b, rfl, rfl, k1 _ _ (Ex.refl _) ?_⟩⟩
    show A[i]?.map _ = _
    rw [hb] <;> rfl
  intro H1 e1 h1
  rw [List.length_map, fm_map] at h1
  refine ⟨_, rfl, _, rfl, t', rfl, ⟨_, ex_t e1 hT'⟩, ?_⟩
  refine fun D2 hD2 => lc_go (walk_tup (xs := B.map nV)) hD2 (fun H' e => ex_t e (ex_t e1 hT')) (by rw [List.length_map]; omega) (fun i => B[i]?.map fun b => nV (b * 2 ^ n)) ?_ ?_
  · rintro i x H2 H3 K1 K0 hi e2 ⟨rfl, hx⟩ k1 k0
    obtain ⟨b, hb, rfl⟩ := map_at hx
    refine ⟨rfl, tyes ⟨_, rfl, _, rfl, b, n, rfl, rfl, ⟨big lB (List.mem_of_getElem? hb), by omega⟩, k1 _ _ (Ex.refl _) ?_⟩⟩
    show B[i]?.map _ = _
    rw [hb] <;> rfl
  intro H2 e2 h2
  rw [List.length_map, fm_map] at h2
  refine ⟨D, D2, _, _, rfl, rfl, e2 D _ h1, h2, ?_, fun p np => ?_⟩
  · rw [List.length_map, List.length_map]
    exact small (by omega)
  have e3 := Ex.new (o := .lst ((A.map fun a => nV (a * 2 ^ n + a)) ++ B.map fun b => nV (b * 2 ^ n))) np
  have hm : (A.map fun a => nV (a * 2 ^ n + a)) ++ (B.map fun b => nV (b * 2 ^ n)) = (twice n A B).map nV := by
    unfold twice
    rw [List.map_append, List.map_map, List.map_map] <;> rfl
  rw [hm] at e3 ⊢
  have lt : (twice n A B).length = A.length + B.length := by
    unfold twice
    rw [List.length_append, List.length_map, List.length_map]
  refine ⟨p, twice n A B, rfl, SqL.of upd_same, by omega, fun tc H4 C e4 hC hBs hlC => ?_⟩
  exact ⟨_, rfl, tc, n, C, rfl, hC, by omega, fun tr H5 e5 hr5 => q C hBs (by omega) tr H5 ((((e1.trans e2).trans e3).trans e4).trans e5) hr5⟩
/-! ### exchanged -/
def led (S : List Nat) (v : Nat) : Nat := Oc.wordBy ((Oc.spots v).map fun p => S.getD p 0)
def sp_led (K : PySem.W.Frag) : Sp := fun vs H Q _ => ∃ (v : Nat) (l : Addr) (S : List Nat), vs = [nV v, .ref l] ∧ SqL K H l (S.map nV) ∧ v < 2 ^ S.length ∧ S.length ≤ 24 ∧ (∀ s, s ∈ S → s ≤ 100) ∧ ∀ H', Ex H H' → Q (nV (led S v)) H'
theorem sc_led_word : FnScope ["word", "sequence", "place"] ["word", "sequence"] (defScope (top 63)) := ⟨rfl, rfl, rfl, by decide +kernel, rfl, by decide +kernel, by decide +kernel⟩
theorem C_led_word (T : Top K mg) : Cal P w K mg base 2 "led_word" (sp_led K) [] := by
  refine cal_of (T.fn 34 _ rfl) sc_led_word (fun _ _ _ _ _ _ us hl => match us, hl with | [_, _], _ => rfl) (fun vs H Q E h => ?_) (fun cdv A outer s H vs Q E hr h => ?_)
  · obtain ⟨v, l, S, rfl, hL, hv, hS, h100, q⟩ := h
    rfl
  obtain ⟨v, l, S, rfl, hL, hv, hS, h100, q⟩ := h
  refine ⟨_, (pss_one (ps_ret (pe_c (C_word_by T) hr (by decide) rfl (pa_cons (pe_lc (own := [("place", 2)]) rfl sc_led_word.nd (pi_list (pe_c (C_spots_of T) hr (by decide) rfl (pa_cons (pv 0) pa_nil))) (blkOk_by (N := (["word", "sequence", "place"] : List Str)) (sc := defScope (top 63)) (by decide +kernel)) (fun _ _ _ _ _ => (pg_name (i := 2) sc_led_word.nd rfl (.inl rfl))) (fun _ _ _ _ _ => pts_nil) (fun _ _ _ _ _ => (pe_ix (r := rIxL K) ix_list (pv 1) (pv 2) (fun _ _ => rfl)))) pa_nil)))), ?_⟩
  have v24 : v < 2 ^ 24 := Nat.lt_of_lt_of_le hv (Nat.pow_le_pow_right (by decide) hS)
  refine ⟨_, rfl, v, rfl, fun p H1 np e1 h1 => ?_⟩
  refine ⟨p, rfl, ⟨_, SqL.of h1⟩, ?_⟩
  have hsp : ∀ a, a ∈ Oc.spots v → a < S.length := fun a ha => by
    have hb := (Oc.spots_mem v24).mp ha
    refine Nat.lt_of_not_le fun c => ?_
    rw [Nat.testBit_lt_two_pow (Nat.lt_of_lt_of_le hv (Nat.pow_le_pow_right (by decide) c))] at hb
    cases hb
  have lsp := Oc.spots_len v
  refine fun D hD => lc_go (walk_list (xs := (Oc.spots v).map nV)) hD (fun H' e => SqL.of (e p _ h1)) (by rw [List.length_map]; omega) (fun i => (Oc.spots v)[i]?.map fun a => nV (S.getD a 0)) ?_ ?_
  · rintro i x H2 H3 K1 K0 hi e2 ⟨rfl, hx⟩ k1 k0
    obtain ⟨a, ha, rfl⟩ := map_at hx
    have al := hsp a (List.mem_of_getElem? ha)
    have hs : (S.map nV)[a]? = some (nV (S.getD a 0)) := by
      rw [List.getElem?_map, List.getD_eq_getElem?_getD, List.getElem?_eq_getElem al] <;> rfl
    refine ⟨rfl, tyes ⟨_, rfl, _, rfl, l, _, _, _, rfl, rfl, ex_l (e1.trans e2) hL, atI_nat hs, k1 _ _ (Ex.refl _) ?_⟩⟩
    show (Oc.spots v)[i]?.map _ = _
    rw [ha] <;> rfl
  · intro H2 e2 h2
    rw [List.length_map, fm_map] at h2
    have hm : ((Oc.spots v).map fun a => nV (S.getD a 0)) = ((Oc.spots v).map fun p => S.getD p 0).map nV := by rw [List.map_map] <;> rfl
    rw [hm] at h2
    refine ⟨D, _, rfl, SqL.of h2, by rw [List.length_map]; omega, fun s hs => ?_, fun H3 e3 => q H3 ((e1.trans e2).trans e3)⟩
    obtain ⟨a, ha, rfl⟩ := List.mem_map.mp hs
    have al := hsp a ha
    refine h100 _ ?_
    rw [List.getD_eq_getElem?_getD, List.getElem?_eq_getElem al]
    exact List.getElem_mem al
theorem range_sorted {ns : List Int} {n : Nat} (hp : ns.Perm ((List.range n).map fun i : Nat => (i : Int))) (hs : ns.Pairwise (· ≤ ·)) : ns = (List.range n).map fun i : Nat => (i : Int) := by
  refine hp.eq_of_pairwise (fun a b _ _ h1 h2 => Int.le_antisymm h1 h2) hs ?_
  rw [List.pairwise_map]
  exact List.pairwise_le_range.imp fun h => by omega
def sp_isseq : Sp := fun vs H Q _ => ∃ (l : Addr) (n : Nat) (S : List Nat), vs = [.ref l, nV n] ∧ H l = some (.lst (S.map nV)) ∧ S.Perm (List.range n) ∧ n ≤ 1000 ∧ ∀ H', Ex H H' → Q (.bl true) H'
theorem sc_is_sequence : FnScope ["value", "places", "place"] ["value", "places"] (defScope (top 64)) := ⟨rfl, rfl, rfl, by decide +kernel, rfl, by decide +kernel, by decide +kernel⟩
theorem C_is_sequence (T : Top K mg) : Cal P w K mg base 3 "is_sequence" sp_isseq [] := by
  refine cal_of (T.fn 35 _ rfl) sc_is_sequence (fun _ _ _ _ _ _ us hl => match us, hl with | [_, _], _ => rfl) (fun vs H Q E h => ?_) (fun cdv A outer s H vs Q E hr h => ?_)
  · obtain ⟨l, n, S, rfl, hl, hS, hn, q⟩ := h
    rfl
  obtain ⟨l, n, S, rfl, hl, hS, hn, q⟩ := h
  refine ⟨_, (pss_cons (ps_if (PW.pt (pw_or (pt_not (pt_val (pe_c (C_is_list T) hr (by decide) rfl (pa_cons (pv 0) pa_nil)))) (pw_or (pt_cmpR n_ne (pe_callB n_len (by rfl) (T.fr 5 _ rfl) (by decide +kernel) (pa_cons (pv 0) pa_nil)) (pv 1) (nomark _)) (pw_or1 (pt_not (pt_val (pe_callB (cr_all rfl) (by rfl) (T.fr 13 _ rfl) (by decide +kernel) (pa_cons (pe_lc (own := [("place", 2)]) rfl sc_is_sequence.nd (pi_list (pv 0)) (blkOk_by (N := (["value", "places", "place"] : List Str)) (sc := defScope (top 64)) (by decide +kernel)) (fun _ _ _ _ _ => (pg_name (i := 2) sc_is_sequence.nd rfl (.inl rfl))) (fun _ _ _ _ _ => pts_nil) (fun _ _ _ _ _ => (pe_c (C_is_count T) hr (by decide) rfl (pa_cons (pv 2) pa_nil)))) pa_nil)))))))) (pss_one (ps_ret pe_bl)) pss_nil) (pss_one (ps_ret (pe_cmpR (op_eqIs hr.units) (pe_callB cr_sortedI (by rfl) (T.fr 8 _ rfl) boot_sorted (pa_cons (pv 0) pa_nil)) (pe_listRg rfl (by rfl) (T.fr 3 _ rfl) (prg_1 (by rfl) (T.fr 10 _ rfl) (pv 1))) (nomark _))))), ?_⟩
  have ln : S.length = n := by rw [hS.length_eq, List.length_range]
  refine ⟨_, rfl, l, rfl, .inl ⟨_, hl⟩, fun H1 e1 => ⟨true, rfl, iteF ?_⟩⟩
  refine ⟨_, rfl, l, S.map nV, rfl, .inl (SqL.of (e1 l _ hl)), _, rfl, (S.map nV).length, n, rfl, rfl, tst_nf (by rw [List.length_map, ln]) ?_⟩
  refine ⟨_, rfl, l, rfl, ⟨_, SqL.of (e1 l _ hl)⟩, ?_⟩
  refine fun D hD => lc_go (walk_list (xs := S.map nV)) hD (fun H' e => SqL.of (e l _ (e1 l _ hl))) (by rw [List.length_map]; omega) (fun i => S[i]?.map fun _ => V.bl true) ?_ ?_
  · rintro i x H2 H3 K1 K0 hi e2 ⟨rfl, hx⟩ k1 k0
    obtain ⟨b, hb, rfl⟩ := map_at hx
    refine ⟨rfl, tyes ⟨_, rfl, b, rfl, k1 _ _ (Ex.refl _) ?_⟩⟩
    show S[i]?.map _ = _
    rw [hb] <;> rfl
  · intro H2 e2 h2
    rw [List.length_map, fm_map] at h2
    have hm : (S.map fun _ => V.bl true) = (S.map fun _ => true).map V.bl := by rw [List.map_map] <;> rfl
    rw [hm] at h2
    refine ⟨D, _, rfl, SqL.of h2, true, ?_, iteF ?_⟩
    · refine congrArg V.bl (List.all_eq_true.mpr fun b hb => ?_)
      obtain ⟨_, _, rfl⟩ := List.mem_map.mp hb
      rfl
    have h3 : H2 l = some (.lst (S.map nV)) := e2 l _ (e1 l _ hl)
    refine ⟨_, rfl, l, S.map fun i : Nat => (i : Int), rfl, SqL.of (by rw [← toNat_map]; exact h3), fun ns' p hperm hs np => ?_⟩
    have e3 := Ex.new (o := .lst (ns'.map V.int)) np
    have ens : ns' = (List.range n).map fun i : Nat => (i : Int) := range_sorted (hperm.trans (hS.map _)) hs
    refine ⟨_, rfl, n, rfl, RgOk.of_le (by decide) (by omega) (by decide) (by omega), fun p2 np2 => ?_⟩
    have e4 := Ex.new (o := .lst (rgV 0 n)) np2
    have hr2 : rgV 0 (n : Int) = ((List.range n).map fun i : Nat => (i : Int)).map V.int := by
      unfold rgV
      rw [List.map_map, Int.sub_zero, Int.toNat_natCast]
      refine List.map_congr_left fun i _ => ?_
      show V.int ((0 : Int) + (i : Int)) = V.int (i : Int)
      rw [Int.zero_add]
    refine ⟨p, p2, ns', (List.range n).map fun i : Nat => (i : Int), rfl, rfl, SqL.of (e4 p _ upd_same), SqL.of (by rw [← hr2]; exact upd_same), ?_⟩
    exact bl_t (Q := Q) ens (q _ (((e1.trans e2).trans e3).trans e4))
end
end OcW

set_option Elab.async false
set_option linter.all false
set_option maxRecDepth 100000
set_option maxHeartbeats 4000000
set_option autoImplicit false
namespace OcW
open PySem PySem.Spec PyProof.Rows L2 Evl
open C8 (Cal Met Mak pe_c pe_mk pe_mt InsC call_isC)
theorem pe_fldK {X : Cx} {K : PySem.W.Frag} {e : Expr} {ta : TE} {f : Str} {pos : Pos} (hK : X.K = K) (he : PE X e ta) (hb : attributeBase e f X.env (eval e X.env) = eval e X.env) : PE X (.Attribute e f pos) (tFld K ta f) := by
  subst hK
  exact pe_fld he hb
section
variable {P : Program} {w : World} {K : PySem.W.Frag} {mg : Str → Option Value} {base : Heap}
/-- tuple + tuple, whatever comes of it -/
theorem cat_tup {H : Hp} {a b : Addr} {A B : List Nat} {Q : VK} (ha : TupN K H a A) (hb : TupN K H b B) (hl : A.length + B.length ≤ 1000) (q : ∀ t H', Ex H H' → TupN K H' t (A ++ B) → Q (.ref t) H') : rCatA K (.ref a) (.ref b) H Q := by
  refine ⟨a, b, A.map nV, B.map nV, rfl, rfl, ha, hb, ?_, fun h => ?_, fun _ h => ?_, fun _ _ p np => ?_⟩
  · rw [List.length_map, List.length_map]
    exact small hl
  · have e : A = [] := List.map_eq_nil_iff.mp h
    subst e
    exact q b H (Ex.refl H) hb
  · have e : B = [] := List.map_eq_nil_iff.mp h
    subst e
    refine q a H (Ex.refl H) ?_
    rw [List.append_nil]
    exact ha
  · refine q p _ (Ex.new np) (SqT.of ?_)
    rw [List.map_append]
    exact upd_same
def sp_sumroom (K : PySem.W.Frag) : Sp := fun vs H Q _ => ∃ (r r' : Addr) (n : Nat) (A B : List Nat), vs = [.ref r, .ref r'] ∧ RoomAt K H r n A ∧ RoomAt K H r' n B ∧ A.length ≤ 50 ∧ B.length ≤ 50 ∧ RetRB K n (A ++ B) H Q
theorem sc_sum_room : FnScope ["room", "other"] ["room", "other"] (defScope (top 65)) := ⟨rfl, rfl, rfl, by decide +kernel, rfl, by decide +kernel, by decide +kernel⟩
theorem C_sum_room (T : Top K mg) : Cal P w K mg base 9 "sum_room" (sp_sumroom K) [] := by
  refine cal_of (T.fn 36 _ rfl) sc_sum_room (fun _ _ _ _ _ _ us hl => match us, hl with | [_, _], _ => rfl) (fun vs H Q E h => ?_) (fun cdv A outer s H vs Q E hr h => ?_)
  · obtain ⟨r, r', n, A, B, rfl, ⟨dx, t, h1, hT⟩, ⟨dx', t', h1', hT'⟩, lA, lB, q⟩ := h
    rfl
  obtain ⟨r, r', n, A, B, rfl, ⟨dx, t, h1, hT⟩, ⟨dx', t', h1', hT'⟩, lA, lB, q⟩ := h
  refine ⟨_, (pss_cons (ps_expr (pe_c (C_want_alike T) hr (by decide) rfl (pa_cons (pv 0) (pa_cons (pv 1) pa_nil)))) (pss_one (ps_ret (pe_c (C_room_of_t T) hr (by decide) rfl (pa_cons (pe_fld (pv 0) rfl) (pa_cons (pe_op op_catA (pe_fld (pv 0) rfl) (pe_fld (pv 1) rfl)) pa_nil)))))), ?_⟩
  refine ⟨_, rfl, _, rfl, r, r', n, A, B, rfl, ⟨dx, t, h1, hT⟩, ⟨dx', t', h1', hT'⟩, ?_⟩
  refine ⟨_, rfl, r, _, dx, _, _, rfl, h1, T.room.cl, T.nRp, fR_p n t, _, rfl, r, _, dx, _, _, rfl, h1, T.room.cl, T.nRb, fR_b n t, _, rfl, r', _, dx', _, _, rfl, h1', T.room.cl, T.nRb, fR_b n t', ?_⟩
  refine cat_tup hT hT' (by omega) fun tc H1 e1 hc => ?_
  exact ⟨n, tc, A ++ B, rfl, hc, by rw [List.length_append]; omega, fun r2 H2 B2 e2 hr2 hB2 hl2 => q r2 H2 B2 (e1.trans e2) hr2 hB2 hl2⟩
def sp_commonroom (K : PySem.W.Frag) : Sp := fun vs H Q _ => ∃ (r r' : Addr) (n : Nat) (A B : List Nat), vs = [.ref r, .ref r'] ∧ RoomAt K H r n A ∧ RoomAt K H r' n B ∧ A.length ≤ 50 ∧ B.length ≤ 50 ∧ n ≤ 24 ∧ Oc.Lt n A ∧ Oc.Lt n B ∧
  ∀ C : List Nat, Oc.IsBasis (twice n A B) C → C.length ≤ 100 → RetR K n (C.filter (low n)) H Q
theorem sc_common_room : FnScope ["room", "other"] ["room", "other"] (defScope (top 66)) := ⟨rfl, rfl, rfl, by decide +kernel, rfl, by decide +kernel, by decide +kernel⟩
theorem C_common_room (T : Top K mg) : Cal P w K mg base 9 "common_room" (sp_commonroom K) [] := by
  refine cal_of (T.fn 37 _ rfl) sc_common_room (fun _ _ _ _ _ _ us hl => match us, hl with | [_, _], _ => rfl) (fun vs H Q E h => ?_) (fun cdv A outer s H vs Q E hr h => ?_)
  · obtain ⟨r, r', n, A, B, rfl, ⟨dx, t, h1, hT⟩, ⟨dx', t', h1', hT'⟩, lA, lB, hn, hA, hB, q⟩ := h
    rfl
  obtain ⟨r, r', n, A, B, rfl, ⟨dx, t, h1, hT⟩, ⟨dx', t', h1', hT'⟩, lA, lB, hn, hA, hB, q⟩ := h
  refine ⟨_, (pss_cons (ps_expr (pe_c (C_want_alike T) hr (by decide) rfl (pa_cons (pv 0) (pa_cons (pv 1) pa_nil)))) (pss_one (ps_ret (pe_c (C_room_by T) hr (by decide) rfl (pa_cons (pe_fld (pv 0) rfl) (pa_cons (pe_c (C_common_basis T) hr (by decide) rfl (pa_cons (pe_fld (pv 0) rfl) (pa_cons (pe_fld (pv 1) rfl) (pa_cons (pe_fld (pv 0) rfl) pa_nil)))) pa_nil)))))), ?_⟩
  refine ⟨_, rfl, _, rfl, r, r', n, A, B, rfl, ⟨dx, t, h1, hT⟩, ⟨dx', t', h1', hT'⟩, ?_⟩
  refine ⟨_, rfl, r, _, dx, _, _, rfl, h1, T.room.cl, T.nRp, fR_p n t, _, rfl, r, _, dx, _, _, rfl, h1, T.room.cl, T.nRb, fR_b n t, _, rfl, r', _, dx', _, _, rfl, h1', T.room.cl, T.nRb, fR_b n t', _, rfl, r, _, dx, _, _, rfl, h1, T.room.cl, T.nRp, fR_p n t, ?_⟩
  refine ⟨t, t', n, A, B, rfl, hT, hT', lA, lB, hn, hA, hB, fun C hC hlC tc H1 e1 hc => ?_⟩
  exact ⟨n, tc, _, rfl, hc, fun r2 H2 e2 hr2 => q C hC hlC r2 H2 (e1.trans e2) hr2⟩
def bes (m : Nat) (A B : List Nat) : List Nat := (B.map fun b => b * 2 ^ m) ++ A
def sp_beside (K : PySem.W.Frag) : Sp := fun vs H Q _ => ∃ (r r' : Addr) (m n : Nat) (A B : List Nat), vs = [.ref r, .ref r'] ∧ RoomAt K H r m A ∧ RoomAt K H r' n B ∧ A.length ≤ 50 ∧ B.length ≤ 50 ∧ m + n ≤ 24 ∧ Oc.Lt n B ∧ RetR K (m + n) (bes m A B) H Q
theorem sc_beside : FnScope ["room", "other", "places", "word"] ["room", "other"] (defScope (top 67)) := ⟨rfl, rfl, rfl, by decide +kernel, rfl, by decide +kernel, by decide +kernel⟩
theorem C_beside (T : Top K mg) : Cal P w K mg base 9 "beside" (sp_beside K) [] := by
  refine cal_of (T.fn 38 _ rfl) sc_beside (fun _ _ _ _ _ _ us hl => match us, hl with | [_, _], _ => rfl) (fun vs H Q E h => ?_) (fun cdv A outer s H vs Q E hr h => ?_)
  · obtain ⟨r, r', m, n, A, B, rfl, ⟨dx, t, h1, hT⟩, ⟨dx', t', h1', hT'⟩, lA, lB, hmn, hB, q⟩ := h
    rfl
  obtain ⟨r, r', m, n, A, B, rfl, ⟨dx, t, h1, hT⟩, ⟨dx', t', h1', hT'⟩, lA, lB, hmn, hB, q⟩ := h
  refine ⟨_, (pss_cons (ps_expr (pe_c (C_want_room T) hr (by decide) rfl (pa_cons (pv 0) pa_nil))) (pss_cons (ps_expr (pe_c (C_want_room T) hr (by decide) rfl (pa_cons (pv 1) pa_nil))) (pss_cons (ps_set (i := 2) sc_beside.nd rfl (.inl rfl) (pe_op n_add (pe_fld (pv 0) rfl) (pe_fld (pv 1) rfl))) (pss_cons (ps_expr (pe_c (C_want_at_most T) hr (by decide) rfl (pa_cons pe_str (pa_cons (C8.pe_gc rfl T.c_MOST_PLACES_basics) (pa_cons (pv 2) pa_nil))))) (pss_one (ps_ret (pe_c (C_room_by T) hr (by decide) rfl (pa_cons (pv 2) (pa_cons (pe_op op_catA (pe_callTy call_tuple_of (by rfl) (T.fr 4 _ rfl) (by decide +kernel) (pa_cons (pe_lc (own := [("word", 3)]) rfl sc_beside.nd (pi_tup (pe_fld (pv 1) rfl)) (blkOk_by (N := (["room", "other", "places", "word"] : List Str)) (sc := defScope (top 67)) (by decide +kernel)) (fun _ _ _ _ _ => (pg_name (i := 3) sc_beside.nd rfl (.inl rfl))) (fun _ _ _ _ _ => pts_nil) (fun _ _ _ _ _ => (pe_op n_shl (pv 3) (pe_fldK (K := K) rfl (pv 0) rfl)))) pa_nil)) (pe_fld (pv 0) rfl)) pa_nil))))))))), ?_⟩
  refine ⟨_, rfl, r, m, A, rfl, ⟨dx, t, h1, hT⟩, _, rfl, r', n, B, rfl, ⟨dx', t', h1', hT'⟩, ?_⟩
  refine ⟨_, rfl, r, _, dx, _, _, rfl, h1, T.room.cl, T.nRp, fR_p m t, _, rfl, r', _, dx', _, _, rfl, h1', T.room.cl, T.nRp, fR_p n t', m, n, rfl, rfl, ?_⟩
  refine ⟨_, rfl, "places", 24, m + n, rfl, hmn, ?_⟩
  refine ⟨_, rfl, _, rfl, r', _, dx', _, _, rfl, h1', T.room.cl, T.nRb, fR_b n t', t', rfl, ⟨_, hT'⟩, ?_⟩
  refine fun D hD => lc_go (walk_tup (xs := B.map nV)) hD (fun H' e => ex_t e hT') (by rw [List.length_map]; omega) (fun i => B[i]?.map fun b => nV (b * 2 ^ m)) ?_ ?_
  · rintro i x H1 H2 K1 K0 hi e1 ⟨rfl, hx⟩ k1 k0
    obtain ⟨b, hb, rfl⟩ := map_at hx
    have bl : b < 2 ^ 60 := Nat.lt_of_lt_of_le (hB b (List.mem_of_getElem? hb)) (Nat.pow_le_pow_right (by decide) (by omega))
    refine ⟨rfl, tyes ⟨_, rfl, _, rfl, r, _, dx, _, _, rfl, e1 r _ h1, T.room.cl, T.nRp, fR_p m t, b, m, rfl, rfl, ⟨bl, by omega⟩, k1 _ _ (Ex.refl _) ?_⟩⟩
    show B[i]?.map _ = _
    rw [hb] <;> rfl
  intro H1 e1 h1s
  rw [List.length_map, fm_map] at h1s
  have hm : (B.map fun b => nV (b * 2 ^ m)) = (B.map fun b => b * 2 ^ m).map nV := by rw [List.map_map] <;> rfl
  rw [hm] at h1s
  refine ⟨D, _, rfl, .inl ⟨SqL.of h1s, fun p np => ?_⟩⟩
  have e2 := Ex.new (o := .tup ((B.map fun b => b * 2 ^ m).map nV)) np
  have e12 := e1.trans e2
  refine ⟨_, rfl, r, _, dx, _, _, rfl, e12 r _ h1, T.room.cl, T.nRb, fR_b m t, ?_⟩
  refine cat_tup (A := B.map fun b => b * 2 ^ m) (SqT.of upd_same) (ex_t e12 hT) (by rw [List.length_map]; omega) fun tc H3 e3 hc => ?_
  exact ⟨m + n, tc, bes m A B, rfl, hc, fun r2 H4 e4 hr2 => q r2 H4 ((e12.trans e3).trans e4) hr2⟩
def sp_exch (K : PySem.W.Frag) : Sp := fun vs H Q _ => ∃ (r l : Addr) (n : Nat) (A S : List Nat), vs = [.ref r, .ref l] ∧ RoomAt K H r n A ∧ H l = some (.lst (S.map nV)) ∧ S.Perm (List.range n) ∧ n ≤ 24 ∧ Oc.Lt n A ∧ A.length ≤ 100 ∧ RetRB K n (A.map (led S)) H Q
theorem sc_exchanged : FnScope ["room", "sequence", "word"] ["room", "sequence"] (defScope (top 68)) := ⟨rfl, rfl, rfl, by decide +kernel, rfl, by decide +kernel, by decide +kernel⟩
theorem C_exchanged (T : Top K mg) : Cal P w K mg base 9 "exchanged" (sp_exch K) [] := by
  refine cal_of (T.fn 39 _ rfl) sc_exchanged (fun _ _ _ _ _ _ us hl => match us, hl with | [_, _], _ => rfl) (fun vs H Q E h => ?_) (fun cdv A outer s H vs Q E hr h => ?_)
  · obtain ⟨r, l, n, A, S, rfl, ⟨dx, t, h1, hT⟩, hl, hS, hn, hA, lA, q⟩ := h
    rfl
  obtain ⟨r, l, n, A, S, rfl, ⟨dx, t, h1, hT⟩, hl, hS, hn, hA, lA, q⟩ := h
  refine ⟨_, (pss_cons (ps_expr (pe_c (C_want_room T) hr (by decide) rfl (pa_cons (pv 0) pa_nil))) (pss_cons (ps_if (pt_not (pt_val (pe_c (C_is_sequence T) hr (by decide) rfl (pa_cons (pv 1) (pa_cons (pe_fld (pv 0) rfl) pa_nil))))) pss_never pss_nil) (pss_one (ps_ret (pe_c (C_room_of T) hr (by decide) rfl (pa_cons (pe_fld (pv 0) rfl) (pa_cons (pe_lc (own := [("word", 2)]) rfl sc_exchanged.nd (pi_tup (pe_fld (pv 0) rfl)) (blkOk_by (N := (["room", "sequence", "word"] : List Str)) (sc := defScope (top 68)) (by decide +kernel)) (fun _ _ _ _ _ => (pg_name (i := 2) sc_exchanged.nd rfl (.inl rfl))) (fun _ _ _ _ _ => pts_nil) (fun _ _ _ _ _ => (pe_c (C_led_word T) hr (by decide) rfl (pa_cons (pv 2) (pa_cons (pv 1) pa_nil))))) pa_nil))))))), ?_⟩
  have ln : S.length = n := by rw [hS.length_eq, List.length_range]
  refine ⟨_, rfl, r, n, A, rfl, ⟨dx, t, h1, hT⟩, ?_⟩
  refine ⟨_, rfl, _, rfl, r, _, dx, _, _, rfl, h1, T.room.cl, T.nRp, fR_p n t, l, n, S, rfl, hl, hS, by omega, fun H1 e1 => ⟨true, rfl, iteF ?_⟩⟩
  refine ⟨_, rfl, r, _, dx, _, _, rfl, e1 r _ h1, T.room.cl, T.nRp, fR_p n t, _, rfl, r, _, dx, _, _, rfl, e1 r _ h1, T.room.cl, T.nRb, fR_b n t, t, rfl, ⟨_, ex_t e1 hT⟩, ?_⟩
  refine fun D hD => lc_go (walk_tup (xs := A.map nV)) hD (fun H' e => ex_t e (ex_t e1 hT)) (by rw [List.length_map]; omega) (fun i => A[i]?.map fun a => nV (led S a)) ?_ ?_
  · rintro i x H2 H3 K1 K0 hi e2 ⟨rfl, hx⟩ k1 k0
    obtain ⟨a, ha, rfl⟩ := map_at hx
    refine ⟨rfl, tyes ⟨_, rfl, _, rfl, a, l, S, rfl, SqL.of (e2 l _ (e1 l _ hl)), by rw [ln]; exact hA a (List.mem_of_getElem? ha), by omega, fun s hs => ?_, fun H4 e4 => k1 _ _ e4 ?_⟩⟩
    · have := List.mem_range.mp (hS.mem_iff.mp hs)
      omega
    · show A[i]?.map _ = _
      rw [ha] <;> rfl
  · intro H2 e2 h2
    rw [List.length_map, fm_map] at h2
    have hm : (A.map fun a => nV (led S a)) = (A.map (led S)).map nV := by rw [List.map_map] <;> rfl
    rw [hm] at h2
    exact ⟨n, D, A.map (led S), rfl, SqL.of h2, by rw [List.length_map]; exact lA, fun r2 H3 B2 e3 hr2 hB2 hl2 => q r2 H3 B2 ((e1.trans e2).trans e3) hr2 hB2 hl2⟩
end
end OcW

set_option Elab.async false
set_option linter.all false
set_option maxRecDepth 100000
set_option maxHeartbeats 4000000
set_option autoImplicit false
namespace OcW
open PySem PySem.Spec PyProof.Rows L2 Evl
open C8 (Cal Met Mak pe_c pe_mk pe_mt InsC call_isC)
section
variable {P : Program} {w : World} {K : PySem.W.Frag} {mg : Str → Option Value} {base : Heap}
/-! ### the law's draws -/
def PotAt (H : Hp) (p : Addr) : Prop := ∃ a b : Int, H p = some (.lst [.int a, .int b]) ∧ 0 ≤ a ∧ 0 ≤ b ∧ b < 4294967296
def sp_pot (K : PySem.W.Frag) : Sp := fun vs H Q _ => ∃ (a : Addr) (ns : List Int) (k : Nat), vs = [.ref a, nV k] ∧ SqL K H a (ns.map V.int) ∧ ∀ (p : Addr) (H' : Hp), H p = none → Ex H H' → PotAt H' p → Q (.ref p) H'
theorem pot_end {cell : Int} {k : Nat} {H : Hp} {Q : VK} (q : ∀ (p : Addr) (H' : Hp), H p = none → Ex H H' → PotAt H' p → Q (.ref p) H') (p : Addr) (np : H p = none) :
    Q (.ref p) (upd H p (.lst [.int (if cell - 10 ^ (18 : Int).toNat > 0 then cell - 10 ^ (18 : Int).toNat else 0), .int ((cell % 2147483549 * 40253 + 1511 * (k : Int) + 101) % 2147483563 + 1)])) := by
  refine q p _ np (Ex.new np) ⟨_, _, upd_same, ?_, ?_, ?_⟩
  · split <;> omega
  · have := Int.emod_nonneg (cell % 2147483549 * 40253 + 1511 * (k : Int) + 101) (show (2147483563 : Int) ≠ 0 by decide)
    omega
  · have := Int.emod_lt_of_pos (cell % 2147483549 * 40253 + 1511 * (k : Int) + 101) (show (0 : Int) < 2147483563 by decide)
    omega
theorem sc__law_pot : FnScope ["_law_script", "_law_k", "_law_cell"] ["_law_script", "_law_k"] (defScope (top 70)) := ⟨rfl, rfl, rfl, by decide +kernel, rfl, by decide +kernel, by decide +kernel⟩
theorem C__law_pot (T : Top K mg) : Cal P w K mg base 1 "_law_pot" (sp_pot K) [] := by
  refine cal_of (T.fn 40 _ rfl) sc__law_pot (fun _ _ _ _ _ _ us hl => match us, hl with | [_, _], _ => rfl) (fun vs H Q E h => ?_) (fun cdv A outer s H vs Q E hr h => ?_)
  · obtain ⟨a, ns, k, rfl, hA, q⟩ := h
    rfl
  obtain ⟨a, ns, k, rfl, hA, q⟩ := h
  refine ⟨_, (pss_cons (ps_set (i := 2) sc__law_pot.nd rfl (.inl rfl) (pe_ifExp (pt_cmpR op_lt (pv 1) (pe_callB call_len_seq (by rfl) (T.fr 5 _ rfl) (by decide +kernel) (pa_cons (pv 0) pa_nil)) (nomark _)) (pe_callB call_abs (by rfl) (T.fr 14 _ rfl) (by decide +kernel) (pa_cons (pe_ix (r := rIxL K) ix_list (pv 0) (pv 1) (fun _ _ => rfl)) pa_nil)) (pe_op op_add (pe_op op_mul pe_int (pv 1)) pe_int))) (pss_one (ps_ret (pe_lst (pa_cons (pe_callB (call_max2 rfl) (by rfl) (T.fr 7 _ rfl) (by decide +kernel) (pa_cons pe_int (pa_cons (pe_op op_sub (pv 2) (pe_op op_pow pe_int pe_int)) pa_nil))) (pa_cons (pe_op op_add (pe_op op_mod (pe_callTy call_int1 (by rfl) (T.fr 1 _ rfl) (by decide +kernel) (pa_cons (pe_op op_add (pe_op op_add (pe_op op_mul (pe_op op_mod (pe_callTy call_int1 (by rfl) (T.fr 1 _ rfl) (by decide +kernel) (pa_cons (pv 2) pa_nil)) pe_int) pe_int) (pe_op op_mul pe_int (pv 1))) pe_int) pa_nil)) pe_int) pe_int) pa_nil)))))), ?_⟩
  refine ⟨_, rfl, _, rfl, a, _, rfl, .inl hA, _, _, rfl, rfl, tst_c (fun c => ?_) (fun c => ?_)⟩
  · have hk : k < ns.length := by
      rw [List.length_map] at c
      omega
    refine ⟨_, rfl, _, rfl, a, _, _, .int (ns[k]), rfl, rfl, hA, atI_nat (by rw [List.getElem?_map, List.getElem?_eq_getElem hk]; rfl), _, rfl, ?_⟩
    refine ⟨_, rfl, _, _, rfl, rfl, ⟨by decide, by decide, by decide⟩, _, _, rfl, rfl, _, _, rfl, ?_⟩
    refine ⟨_, rfl, .inl ⟨_, rfl, ?_⟩⟩
    refine ⟨_, _, rfl, rfl, (by show (0 : Int) < 2147483549; decide), _, _, rfl, rfl, .inr ⟨by decide, by decide⟩, _, rfl, _, _, rfl, rfl, .inl ⟨by decide, by decide⟩, _, _, rfl, rfl, _, _, rfl, rfl, .inl ⟨_, rfl, ?_⟩⟩
    exact ⟨_, _, rfl, rfl, (by show (0 : Int) < 2147483563; decide), _, _, rfl, rfl, small (show 2 ≤ 1000 by decide), fun p np => pot_end q p np⟩
  · refine ⟨_, rfl, _, _, rfl, rfl, .inl ⟨by decide, by decide⟩, _, _, rfl, rfl, ?_⟩
    refine ⟨_, rfl, _, _, rfl, rfl, ⟨by decide, by decide, by decide⟩, _, _, rfl, rfl, _, _, rfl, ?_⟩
    refine ⟨_, rfl, .inl ⟨_, rfl, ?_⟩⟩
    refine ⟨_, _, rfl, rfl, (by show (0 : Int) < 2147483549; decide), _, _, rfl, rfl, .inr ⟨by decide, by decide⟩, _, rfl, _, _, rfl, rfl, .inl ⟨by decide, by decide⟩, _, _, rfl, rfl, _, _, rfl, rfl, .inl ⟨_, rfl, ?_⟩⟩
    exact ⟨_, _, rfl, rfl, (by show (0 : Int) < 2147483563; decide), _, _, rfl, rfl, small (show 2 ≤ 1000 by decide), fun p np => pot_end q p np⟩
theorem nat_of {x : Int} (h : 0 ≤ x) : V.int x = nV x.toNat := by
  show V.int x = V.int ((x.toNat : Nat) : Int)
  rw [Int.toNat_of_nonneg h]
def sp_draw : Sp := fun vs H Q _ => ∃ (p : Addr) (m : Nat), vs = [.ref p, nV m] ∧ PotAt H p ∧ 1 ≤ m ∧ m < 1000000 ∧ ∀ (d : Nat) (H' : Hp), ExB p H H' → PotAt H' p → d < m → Q (nV d) H'
theorem sc__law_draw : FnScope ["_law_pot_here", "_law_size", "_law_digit"] ["_law_pot_here", "_law_size"] (defScope (top 71)) := ⟨rfl, rfl, rfl, by decide +kernel, rfl, by decide +kernel, by decide +kernel⟩
theorem C__law_draw (T : Top K mg) : Cal P w K mg base 1 "_law_draw" sp_draw [] := by
  refine cal_of (T.fn 41 _ rfl) sc__law_draw (fun _ _ _ _ _ _ us hl => match us, hl with | [_, _], _ => rfl) (fun vs H Q E h => ?_) (fun cdv A outer s H vs Q E hr h => ?_)
  · obtain ⟨p, m, rfl, ⟨a, b, hp, ha, hb, hb2⟩, h1, h2, q⟩ := h
    rfl
  obtain ⟨p, m, rfl, ⟨a, b, hp, ha, hb, hb2⟩, h1, h2, q⟩ := h
  refine ⟨_, (pss_cons (ps_if (pt_cmpR op_gt (pe_ix (r := rIxL K) ix_list (pv 0) pe_int (fun _ _ => rfl)) pe_int (nomark _)) (pss_cons (ps_asg (pe_callB call_divmod (by rfl) (T.fr 15 _ rfl) (by decide +kernel) (pa_cons (pe_ix (r := rIxL K) ix_list (pv 0) pe_int (fun _ _ => rfl)) (pa_cons (pv 1) pa_nil))) (pg_tup rfl (pgs_cons (pg_sub (pv 0) pe_int set_list) (pgs_cons (pg_name (i := 2) sc__law_draw.nd rfl (.inl rfl)) pgs_nil)))) (pss_one (ps_ret (pv 2)))) pss_nil) (pss_cons (ps_asg (pe_op op_mod (pe_callTy call_int1 (by rfl) (T.fr 1 _ rfl) (by decide +kernel) (pa_cons (pe_op op_add (pe_op op_mul (pe_ix (r := rIxL K) ix_list (pv 0) pe_int (fun _ _ => rfl)) pe_int) pe_int) pa_nil)) pe_int) (pg_sub (pv 0) pe_int set_list)) (pss_one (ps_ret (pe_op op_mod (pe_callTy call_int1 (by rfl) (T.fr 1 _ rfl) (by decide +kernel) (pa_cons (pe_op op_fdiv (pe_op op_mod (pe_callTy call_int1 (by rfl) (T.fr 1 _ rfl) (by decide +kernel) (pa_cons (pe_op op_mul (pe_ix (r := rIxL K) ix_list (pv 0) pe_int (fun _ _ => rfl)) (pe_ix (r := rIxL K) ix_list (pv 0) pe_int (fun _ _ => rfl))) pa_nil)) pe_int) pe_int) pa_nil)) (pv 1)))))), ?_⟩
  refine ⟨_, rfl, p, _, _, _, rfl, rfl, SqL.of hp, atI_nat (j := 0) rfl, _, _, rfl, rfl, tst_c (fun c => ?_) (fun c => ?_)⟩
  · refine ⟨_, rfl, p, _, _, _, rfl, rfl, SqL.of hp, atI_nat (j := 0) rfl, _, rfl, a, (m : Int), rfl, ⟨by omega, by omega⟩, fun t nt => ?_⟩
    have e1 := Ex.new (o := .tup [V.int (a / (m : Int)), V.int (a % (m : Int))]) nt
    refine ⟨t, _, rfl, SqT.of upd_same, rfl, _, _, rfl, _, rfl, p, _, 0, 0, rfl, rfl, e1 p _ hp, rfl, _, _, rfl, rfl, _, rfl, ?_⟩
    have d0 := Int.emod_nonneg a (show (m : Int) ≠ 0 by omega)
    have d1 := Int.emod_lt_of_pos a (show (0 : Int) < (m : Int) by omega)
    have qq := q (a % (m : Int)).toNat (upd (upd H t (.tup [V.int (a / (m : Int)), V.int (a % (m : Int))])) p (.lst [.int (a / (m : Int)), .int b])) ((ExB.of e1).trans ExB.put) ⟨a / (m : Int), b, upd_same, Int.ediv_nonneg ha (by omega), hb, hb2⟩ (by omega)
    rw [← nat_of d0] at qq
    exact qq
  · refine ⟨_, rfl, p, _, _, _, rfl, rfl, SqL.of hp, atI_nat (j := 1) rfl, _, _, rfl, rfl, .inr ⟨by decide, by decide⟩, _, _, rfl, rfl, .inl ⟨_, rfl, ?_⟩⟩
    refine ⟨_, _, rfl, rfl, (by show (0 : Int) < 2147483587; decide), _, rfl, p, _, 1, 1, rfl, rfl, hp, rfl, ?_⟩
    have b0 := Int.emod_nonneg (b * 39373 + 409) (show (2147483587 : Int) ≠ 0 by decide)
    have b1 := Int.emod_lt_of_pos (b * 39373 + 409) (show (0 : Int) < 2147483587 by decide)
    refine ⟨_, rfl, p, _, _, _, rfl, rfl, SqL.of upd_same, atI_nat (j := 1) rfl, _, rfl, p, _, _, _, rfl, rfl, SqL.of upd_same, atI_nat (j := 1) rfl, _, _, rfl, rfl, .inl ⟨by omega, by omega⟩, .inl ⟨_, rfl, ?_⟩⟩
    refine ⟨_, _, rfl, rfl, (by show (0 : Int) < 2147483563; decide), _, _, rfl, rfl, ⟨by decide, by decide⟩, .inl ⟨_, rfl, _, rfl, _, _, rfl, rfl, (by show (0 : Int) < (m : Int); omega), ?_⟩⟩
    have d0 := Int.emod_nonneg ((b * 39373 + 409) % 2147483587 * ((b * 39373 + 409) % 2147483587) % 2147483563 / 23) (show (m : Int) ≠ 0 by omega)
    have d1 := Int.emod_lt_of_pos ((b * 39373 + 409) % 2147483587 * ((b * 39373 + 409) % 2147483587) % 2147483563 / 23) (show (0 : Int) < (m : Int) by omega)
    show Q (V.int ((b * 39373 + 409) % 2147483587 * ((b * 39373 + 409) % 2147483587) % 2147483563 / 23 % (m : Int))) _
    rw [nat_of d0]
    exact q _ _ ExB.put ⟨_, _, upd_same, ha, b0, by omega⟩ (by omega)
def sp_lweight : Sp := fun vs H Q _ => ∃ v : Nat, vs = [nV v] ∧ ∀ c : Nat, Q (nV c) H
theorem sc__law_weight : FnScope ["_law_word", "_law_found"] ["_law_word"] (defScope (top 72)) := ⟨rfl, rfl, rfl, by decide +kernel, rfl, by decide +kernel, by decide +kernel⟩
theorem C__law_weight (T : Top K mg) : Cal P w K mg base 1 "_law_weight" sp_lweight [] := by
  refine cal_of (T.fn 42 _ rfl) sc__law_weight (fun _ _ _ _ _ _ us hl => match us, hl with | [_], _ => rfl) (fun vs H Q E h => ?_) (fun cdv A outer s H vs Q E hr h => ?_)
  · obtain ⟨v, rfl, q⟩ := h
    rfl
  obtain ⟨v, rfl, q⟩ := h
  refine ⟨_, (pss_cons (ps_set (i := 1) sc__law_weight.nd rfl (.inl rfl) (pe_nat 0)) (pss_cons (ps_while PassesOwn.never (pt_cmpR n_gt (pv 0) (pe_nat 0) (nomark _)) (pss_one (ps_par (i := 1) (j := 0) (by rfl) sc__law_weight.nd rfl rfl (by decide) rfl rfl (pa_cons (pe_op n_add (pv 1) (pe_op n_and (pv 0) (pe_nat 1))) (pa_cons (pe_op n_shr (pv 0) (pe_nat 1)) pa_nil)) (by rfl)))) (pss_one (ps_ret (pv 1))))), ?_⟩
  refine ⟨fun m σ H' => ∃ f : Nat, σ = [some (nV m), some (nV f)] ∧ H' = H, ⟨v, 0, rfl, rfl⟩, ?_⟩
  rintro m σ H' ⟨f, rfl, hH⟩
  subst hH
  refine ⟨_, rfl, m, 0, rfl, rfl, tst_c (fun c => ?_) (fun c => ?_)⟩
  · refine ⟨fun σ' H2 => ∃ m', m' < m ∧ ∃ f : Nat, σ' = [some (nV m'), some (nV f)] ∧ H2 = H', fun σ' H2 h => h, ?_⟩
    refine ⟨_, rfl, _, rfl, m, 1, rfl, rfl, f, _, rfl, rfl, _, rfl, m, 1, rfl, rfl, _, _, rfl, m / 2 ^ 1, ?_, _, rfl, rfl⟩
    have c2 : 0 < m := c
    omega
  · exact ⟨_, rfl, q f⟩
/-- drawn words -/
def sp_words : Sp := fun vs H Q _ => ∃ (p : Addr) (n m : Nat), vs = [.ref p, nV n, nV m] ∧ PotAt H p ∧ 1 ≤ n ∧ n ≤ 8 ∧ m ≤ 8 ∧
  ∀ (l : Addr) (H' : Hp) (W : List Nat), H l = none → ExB p H H' → PotAt H' p → H' l = some (.lst (W.map nV)) → W.length = m → Oc.Lt n W → Q (.ref l) H'
theorem lt_snoc {n v : Nat} {W : List Nat} (h : Oc.Lt n W) (hv : v < 2 ^ n) : Oc.Lt n (W ++ [v]) := fun b hb => by
  rcases List.mem_append.mp hb with hb | hb
  · exact h b hb
  · rw [List.mem_singleton.mp hb]
    exact hv
theorem sc__law_words : FnScope ["_law_pot_here", "_law_places", "_law_many", "_law_found", "_law_turn", "_law_word"] ["_law_pot_here", "_law_places", "_law_many"] (defScope (top 73)) := ⟨rfl, rfl, rfl, by decide +kernel, rfl, by decide +kernel, by decide +kernel⟩
theorem C__law_words (T : Top K mg) : Cal P w K mg base 2 "_law_words" sp_words [] := by
  refine cal_of (T.fn 43 _ rfl) sc__law_words (fun _ _ _ _ _ _ us hl => match us, hl with | [_, _, _], _ => rfl) (fun vs H Q E h => ?_) (fun cdv A outer s H vs Q E hr h => ?_)
  · obtain ⟨p, n, m, rfl, hP, h1, h8, hm, q⟩ := h
    rfl
  obtain ⟨p, n, m, rfl, hP, h1, h8, hm, q⟩ := h
  refine ⟨_, (pss_cons (ps_set (i := 3) sc__law_words.nd rfl (.inl rfl) (pe_lst pa_nil)) (pss_cons (ps_for PassesOwn.never rfl (pi_range1 (by rfl) (T.fr 10 _ rfl) (pa_cons (pv 2) pa_nil)) (pg_name (i := 4) sc__law_words.nd rfl (.inl rfl)) (pss_cons (ps_set (i := 5) sc__law_words.nd rfl (.inl rfl) (pe_c (C__law_draw T) hr (by decide) rfl (pa_cons (pv 0) (pa_cons (pe_op n_shl (pe_nat 1) (pv 1)) pa_nil)))) (pss_cons (ps_set (i := 5) sc__law_words.nd rfl (.inl rfl) (pe_ifExp (PW.pt (pw_and (pt_cmpR n_eq (pe_c (C__law_draw T) hr (by decide) rfl (pa_cons (pv 0) (pa_cons (pe_nat 2) pa_nil))) (pe_nat 0) (nomark _)) (pw_and1 (pt_cmpR n_eq (pe_op n_and (pe_c (C__law_weight T) hr (by decide) rfl (pa_cons (pv 5) pa_nil)) (pe_nat 1)) (pe_nat 1) (nomark _))))) (pe_op n_xor (pv 5) (pe_nat 1)) (pv 5))) (pss_one (ps_expr (pe_bm PySem.F.plainAttrs_list PySem.F.slot_list_append PySem.F.type_list_append mt_append (pv 3) (pa_cons (pv 5) pa_nil))))))) (pss_one (ps_ret (pv 3))))), ?_⟩
  refine ⟨Nat.zero_le _, fun D nD => ?_⟩
  have e1 := Ex.new (o := .lst []) nD
  have hpD : p ≠ D := by
    obtain ⟨a, b, hp, _⟩ := hP
    exact ne_of_none hp nD
  have hP1 : PotAt (upd H D (.lst [])) p := by
    obtain ⟨a, b, hp, r⟩ := hP
    exact ⟨a, b, e1 p _ hp, r⟩
  refine ⟨_, rfl, _, rfl, by omega, by omega, for_it (walk_rangeN (n := m)) (fun i σ H' => ∃ (y4 y5 : Option V) (W : List Nat), σ = [some (.ref p), some (nV n), some (nV m), some (.ref D), y4, y5] ∧ ExB p H H' ∧ PotAt H' p ∧ H' D = some (.lst (W.map nV)) ∧ W.length = i ∧ Oc.Lt n W) ⟨none, none, [], rfl, ExB.of e1, hP1, upd_same, rfl, fun _ h => nomatch h⟩ (fun _ _ _ _ _ => trivial) ?_ ?_⟩
  · rintro i x σ H2 H3 hi ⟨y4, y5, W, rfl, e2, hP2, hD2, hW, lW⟩ ⟨rfl, rfl⟩
    have pn : 1 * 2 ^ n ≤ 256 := by
      rw [Nat.one_mul]
      exact Nat.pow_le_pow_right (by decide) (show n ≤ 8 by omega)
    have pn1 := Nat.two_pow_pos n
    refine ⟨_, rfl, _, rfl, 1, n, rfl, rfl, ⟨by decide, by omega⟩, p, 1 * 2 ^ n, rfl, hP2, by omega, by omega, fun d H4 e4 hP4 hd => ?_⟩
    rw [Nat.one_mul] at hd
    have hD4 : H4 D = some (.lst (W.map nV)) := e4 D _ hpD.symm hD2
    have fin : ∀ (v : Nat) (H5 : Hp), ExB p H4 H5 → PotAt H5 p → v < 2 ^ n → H5 D = some (.lst (W.map nV)) →
        ∃ (y4 y5 : Option V) (W' : List Nat), [some (V.ref p), some (nV n), some (nV m), some (V.ref D), some (nV i), some (nV v)] = [some (V.ref p), some (nV n), some (nV m), some (V.ref D), y4, y5] ∧ ExB p H (upd H5 D (.lst (W.map nV ++ [nV v]))) ∧ PotAt (upd H5 D (.lst (W.map nV ++ [nV v]))) p ∧ upd H5 D (.lst (W.map nV ++ [nV v])) D = some (.lst (W'.map nV)) ∧ W'.length = i + 1 ∧ Oc.Lt n W' := fun v H5 e5 hP5 hv hD5 => by
      refine ⟨_, _, W ++ [v], rfl, fun b o hb hH => ?_, ?_, ?_, ?_, lt_snoc lW hv⟩
      · rw [upd_ne (ne_of_none hH nD)]
        exact e5 b o hb (e4 b o hb (e2 b o hb hH))
      · obtain ⟨a, b, hp, r⟩ := hP5
        exact ⟨a, b, by rw [upd_ne hpD]; exact hp, r⟩
      · rw [List.map_append]
        exact upd_same
      · rw [List.length_append, hW] <;> rfl
    have app : ∀ (v : Nat) (H5 : Hp), ExB p H4 H5 → PotAt H5 p → v < 2 ^ n → H5 D = some (.lst (W.map nV)) → (W.map nV).length < sizeLine := fun v H5 _ _ _ _ => by
      rw [List.length_map, hW]
      exact smallt (by omega)
    refine ⟨_, rfl, p, 2, rfl, hP4, by decide, by decide, fun d2 H5 e5 hP5 hd2 => ?_⟩
    have hD5 : H5 D = some (.lst (W.map nV)) := e5 D _ hpD.symm hD4
    refine ⟨d2, 0, rfl, rfl, tst_c (fun c => ?_) (fun c => ?_)⟩
    · refine ⟨_, rfl, d, rfl, fun cw => ⟨cw, 1, rfl, rfl, _, 1, rfl, rfl, tst_c (fun c2 => ?_) (fun c2 => ?_)⟩⟩
      · have hx : d ^^^ 1 < 2 ^ n := Oc.xor_lt hd (Nat.one_lt_two_pow (by omega))
        exact ⟨_, rfl, d, 1, rfl, rfl, _, rfl, .inl ⟨rfl, _, SqL.of hD5⟩, _, rfl, D, _, _, rfl, rfl, hD5, app _ H5 e5 hP5 hx hD5, fin _ H5 e5 hP5 hx hD5⟩
      · exact ⟨_, rfl, _, rfl, .inl ⟨rfl, _, SqL.of hD5⟩, _, rfl, D, _, _, rfl, rfl, hD5, app _ H5 e5 hP5 hd hD5, fin _ H5 e5 hP5 hd hD5⟩
    · exact ⟨_, rfl, _, rfl, .inl ⟨rfl, _, SqL.of hD5⟩, _, rfl, D, _, _, rfl, rfl, hD5, app _ H5 e5 hP5 hd hD5, fin _ H5 e5 hP5 hd hD5⟩
  · rintro σ H2 ⟨y4, y5, W, rfl, e2, hP2, hD2, hW, lW⟩
    exact ⟨_, rfl, q D H2 W nD e2 hP2 hD2 hW lW⟩
end
end OcW

set_option Elab.async false
set_option linter.all false
set_option maxRecDepth 100000
set_option maxHeartbeats 4000000
set_option autoImplicit false
namespace OcW
open PySem PySem.Spec PyProof.Rows L2 Evl
open C8 (Cal Met Mak pe_c pe_mk pe_mt InsC call_isC)
section
variable {P : Program} {w : World} {K : PySem.W.Frag} {mg : Str → Option Value} {base : Heap}
theorem nil_map {L : List Nat} : (L.map fun i : Nat => (i : Int)) = [] ↔ L = [] := List.map_eq_nil_iff
theorem pop_back : ∀ (L : List Nat) (d x : Nat), L[d]? = some x → (x :: L.eraseIdx d).Perm L
  | [], d, x, h => by cases h
  | a :: r, 0, x, h => by
    have e : a = x := Option.some.inj h
    subst e
    exact List.Perm.refl _
  | a :: r, d + 1, x, h => (List.Perm.swap a x _).trans ((pop_back r d x h).cons a)
theorem map_pop {α β : Type} (f : α → β) : ∀ (L : List α) (d : Nat), (L.map f).eraseIdx d = (L.eraseIdx d).map f
  | [], d => rfl
  | a :: r, 0 => rfl
  | a :: r, d + 1 => congrArg (f a :: ·) (map_pop f r d)
theorem seq_at {d n : Nat} (h : d < n) : seqIndex? (d : Int) n = some d := by
  unfold seqIndex?
  have e : ¬ ((d : Int) < 0) := by omega
  rw [if_neg e]
  dsimp only
  have k1 : (0 : Int) ≤ (d : Int) := by omega
  have k2 : (d : Int) < (n : Int) := by omega
  rw [decide_eq_true k1, decide_eq_true k2]
  rfl
theorem perm_pop {F L R : List Nat} {d x : Nat} (hp : (F ++ L).Perm R) (hx : L[d]? = some x) : ((F ++ [x]) ++ L.eraseIdx d).Perm R := by
  obtain ⟨hd, e⟩ := List.getElem?_eq_some_iff.mp hx
  refine List.Perm.trans ?_ hp
  rw [List.append_assoc]
  refine List.Perm.append_left F ?_
  show (x :: L.eraseIdx d).Perm L
  exact pop_back L d x hx
/-- a drawn sequence -/
def sp_seq : Sp := fun vs H Q _ => ∃ (p : Addr) (n : Nat), vs = [.ref p, nV n] ∧ PotAt H p ∧ n ≤ 24 ∧
  ∀ (l : Addr) (H' : Hp) (S : List Nat), H l = none → ExB p H H' → PotAt H' p → H' l = some (.lst (S.map nV)) → S.Perm (List.range n) → Q (.ref l) H'
theorem sc__law_sequence : FnScope ["_law_pot_here", "_law_places", "_law_left", "_law_found"] ["_law_pot_here", "_law_places"] (defScope (top 74)) := ⟨rfl, rfl, rfl, by decide +kernel, rfl, by decide +kernel, by decide +kernel⟩
theorem C__law_sequence (T : Top K mg) : Cal P w K mg base 2 "_law_sequence" sp_seq [] := by
  refine cal_of (T.fn 44 _ rfl) sc__law_sequence (fun _ _ _ _ _ _ us hl => match us, hl with | [_, _], _ => rfl) (fun vs H Q E h => ?_) (fun cdv A outer s H vs Q E hr h => ?_)
  · obtain ⟨p, n, rfl, hP, hn, q⟩ := h
    rfl
  obtain ⟨p, n, rfl, hP, hn, q⟩ := h
  refine ⟨_, (pss_cons (ps_par (i := 2) (j := 3) (by rfl) sc__law_sequence.nd rfl rfl (by decide) rfl rfl (pa_cons (pe_listRg rfl (by rfl) (T.fr 3 _ rfl) (prg_1 (by rfl) (T.fr 10 _ rfl) (pv 1))) (pa_cons (pe_lst pa_nil) pa_nil)) (by rfl)) (pss_cons (ps_while PassesOwn.never (pt_cmpR (op_neIs hr.units) (pv 2) (pe_lst pa_nil) (nomark _)) (pss_one (ps_expr (pe_bm PySem.F.plainAttrs_list PySem.F.slot_list_append PySem.F.type_list_append mt_append (pv 3) (pa_cons (pe_bm PySem.F.plainAttrs_list PySem.F.slot_list_pop PySem.F.type_list_pop mt_popAt (pv 2) (pa_cons (pe_c (C__law_draw T) hr (by decide) rfl (pa_cons (pv 0) (pa_cons (pe_callB n_len (by rfl) (T.fr 5 _ rfl) (by decide +kernel) (pa_cons (pv 2) pa_nil)) pa_nil))) pa_nil)) pa_nil))))) (pss_one (ps_ret (pv 3))))), ?_⟩
  refine ⟨_, rfl, n, rfl, RgOk.of_le (by decide) (by omega) (by decide) (by omega), fun l nl => ?_⟩
  have e1 := Ex.new (o := .lst (rgV 0 n)) nl
  refine ⟨Nat.zero_le _, fun D nD => ⟨_, _, rfl, ?_⟩⟩
  have e2 := Ex.new (o := .lst []) nD
  have hlD : l ≠ D := ne_of_none upd_same nD
  have hpl : p ≠ l := by
    obtain ⟨a, b, hp, _⟩ := hP
    exact ne_of_none hp nl
  have hpD : p ≠ D := by
    obtain ⟨a, b, hp, _⟩ := hP
    exact ne_of_none (e1 p _ hp) nD
  have hr2 : rgV 0 (n : Int) = (List.range n).map nV := by
    unfold rgV
    rw [Int.sub_zero, Int.toNat_natCast]
    refine List.map_congr_left fun i _ => ?_
    show V.int ((0 : Int) + (i : Int)) = V.int (i : Int)
    rw [Int.zero_add]
  refine ⟨fun m σ H' => ∃ (L F : List Nat), L.length = m ∧ σ = [some (.ref p), some (nV n), some (.ref l), some (.ref D)] ∧ ExB p H H' ∧ PotAt H' p ∧ H' l = some (.lst (L.map nV)) ∧ H' D = some (.lst (F.map nV)) ∧ (F ++ L).Perm (List.range n), ⟨n, List.range n, [], List.length_range, rfl, ExB.of (e1.trans e2), ?_, ?_, upd_same, List.Perm.refl _⟩, ?_⟩
  · obtain ⟨a, b, hp, r⟩ := hP
    exact ⟨a, b, e2 p _ (e1 p _ hp), r⟩
  · rw [← hr2]
    exact e2 l _ upd_same
  rintro m σ H1 ⟨L, F, hL, rfl, eb, hP1, hl1, hD1, hperm⟩
  have hlen := hperm.length_eq
  rw [List.length_append, List.length_range] at hlen
  refine ⟨_, rfl, Nat.zero_le _, fun pe npe => ?_⟩
  have e3 := Ex.new (o := .lst []) npe
  have hl2 := e3 l _ hl1
  have hD2 := e3 D _ hD1
  have hP2 : PotAt (upd H1 pe (.lst [])) p := by
    obtain ⟨a, b, hp, r⟩ := hP1
    exact ⟨a, b, e3 p _ hp, r⟩
  refine ⟨l, pe, L.map fun i : Nat => (i : Int), [], rfl, rfl, SqL.of (by rw [← toNat_map]; exact hl2), SqL.of upd_same, tst_nc (fun c => ?_) (fun c => ?_)⟩
  · have hne : 1 ≤ L.length := by
      cases L with
      | nil => exact absurd rfl c
      | cons _ _ => exact Nat.succ_le_succ (Nat.zero_le _)
    refine ⟨fun σ' H2 => ∃ m', m' < m ∧ ∃ (L F : List Nat), L.length = m' ∧ σ' = [some (.ref p), some (nV n), some (.ref l), some (.ref D)] ∧ ExB p H H2 ∧ PotAt H2 p ∧ H2 l = some (.lst (L.map nV)) ∧ H2 D = some (.lst (F.map nV)) ∧ (F ++ L).Perm (List.range n), fun σ' H2 h => h, ?_⟩
    refine ⟨_, rfl, .inl ⟨rfl, _, SqL.of hD2⟩, ?_⟩
    refine ⟨_, rfl, .inl ⟨rfl, _, SqL.of hl2⟩, ?_⟩
    refine ⟨_, rfl, _, rfl, l, _, rfl, .inl (SqL.of hl2), p, (L.map nV).length, rfl, hP2, by rw [List.length_map]; exact hne, by rw [List.length_map]; omega, fun d H3 e4 hP3 hd => ?_⟩
    rw [List.length_map] at hd
    have hl3 := e4 l _ hpl.symm hl2
    have hD3 := e4 D _ hpD.symm hD2
    have hx : L[d]? = some L[d] := List.getElem?_eq_getElem hd
    have hdn : d ≤ 1000 := by omega
    refine ⟨l, _, (d : Int), d, nV L[d], rfl, rfl, hl3, by omega, by omega, ?_, ?_, ?_⟩
    · rw [List.length_map]
      exact seq_at hd
    · rw [List.getElem?_map, hx] <;> rfl
    have hD4 : (upd H3 l (.lst ((L.map nV).eraseIdx d))) D = some (.lst (F.map nV)) := by
      rw [upd_ne hlD.symm]
      exact hD3
    refine ⟨D, _, _, rfl, rfl, hD4, ?_, ?_⟩
    · rw [List.length_map]
      exact smallt (by omega)
    refine ⟨L.length - 1, by omega, L.eraseIdx d, F ++ [L[d]], by rw [List.length_eraseIdx, if_pos hd], rfl, fun b o hb hH => ?_, ?_, ?_, ?_, perm_pop hperm hx⟩
    · have hbl : b ≠ l := ne_of_none hH nl
      have hbD : b ≠ D := ne_of_none (e1 b o hH) nD
      rw [upd_ne hbD, upd_ne hbl]
      exact e4 b o hb (e3 b o (eb b o hb hH))
    · obtain ⟨a, b, hp, r⟩ := hP3
      exact ⟨a, b, by rw [upd_ne hpD, upd_ne hpl]; exact hp, r⟩
    · rw [upd_ne hlD, upd_same, map_pop]
    · rw [List.map_append]
      exact upd_same
  · have hL0 : L = [] := nil_map.mp c
    subst hL0
    rw [List.append_nil] at hperm
    refine ⟨_, rfl, q D _ F (fresh_back e1 nD) (eb.trans (ExB.of e3)) hP2 hD2 hperm⟩
/-! ### the product of two rows -/
def cv (m n : Nat) (f g : Nat → Int) (j : Nat) : Int := Oc.sm m (fun a => Oc.sm n (fun b => if a + b = j then f a * g b else 0))
def tw (n : Nat) (f g : Nat → Int) (i l : Nat) (j : Nat) : Int := Oc.sm i (fun a => Oc.sm n (fun b => if a + b = j then f a * g b else 0)) + Oc.sm l (fun b => if i + b = j then f i * g b else 0)
theorem tw_set (n : Nat) (f g : Nat → Int) (i l : Nat) : (fun j => if j = i + l then tw n f g i l (i + l) + f i * g l else tw n f g i l j) = tw n f g i (l + 1) := by
  funext j
  show _ = Oc.sm i _ + (Oc.sm l _ + (if i + l = j then f i * g l else 0))
  by_cases c : j = i + l
  · subst c
    rw [if_pos rfl, if_pos rfl]
    unfold tw
    rw [Int.add_assoc]
  · rw [if_neg c, if_neg fun z => c z.symm, Int.add_zero]
    rfl
theorem tw_zero (n : Nat) (f g : Nat → Int) (i : Nat) : tw n f g i 0 = cv i n f g := by
  funext j
  show Oc.sm i _ + 0 = cv i n f g j
  rw [Int.add_zero]
  rfl
def sp_ltimes (K : PySem.W.Frag) : Sp := fun vs H Q _ => ∃ (a b : Addr) (m n : Nat) (f g : Nat → Int), vs = [.ref a, .ref b] ∧ SqL K H a (lfV (m + 1) f) ∧ SqL K H b (lfV (n + 1) g) ∧ m ≤ 30 ∧ n ≤ 30 ∧ (∀ i, i ≤ m → -(2 ^ 64) < f i ∧ f i < 2 ^ 64) ∧ RetLI (m + n + 1) (cv (m + 1) (n + 1) f g) H Q
theorem sc__law_times : FnScope ["_law_one", "_law_other", "_law_found", "_law_at", "_law_near", "_law_to", "_law_far"] ["_law_one", "_law_other"] (defScope (top 75)) := ⟨rfl, rfl, rfl, by decide +kernel, rfl, by decide +kernel, by decide +kernel⟩
theorem C__law_times (T : Top K mg) : Cal P w K mg base 1 "_law_times" (sp_ltimes K) [] := by
  refine cal_of (T.fn 45 _ rfl) sc__law_times (fun _ _ _ _ _ _ us hl => match us, hl with | [_, _], _ => rfl) (fun vs H Q E h => ?_) (fun cdv A outer s H vs Q E hr h => ?_)
  · obtain ⟨a, b, m, n, f, g, rfl, hA, hB, hm, hn, hf, q⟩ := h
    rfl
  obtain ⟨a, b, m, n, f, g, rfl, hA, hB, hm, hn, hf, q⟩ := h
  refine ⟨_, (pss_cons (ps_set (i := 2) sc__law_times.nd rfl (.inl rfl) (pe_op op_rep (pe_lst (pa_cons pe_int pa_nil)) (pe_op op_sub (pe_op op_add (pe_callB call_len_seq (by rfl) (T.fr 5 _ rfl) (by decide +kernel) (pa_cons (pv 0) pa_nil)) (pe_callB call_len_seq (by rfl) (T.fr 5 _ rfl) (by decide +kernel) (pa_cons (pv 1) pa_nil))) pe_int))) (pss_cons (ps_for PassesOwn.never rfl (pi_enum (by rfl) (T.fr 9 _ rfl) (pa_cons (pv 0) pa_nil)) (pg_tup rfl (pgs_cons (pg_name (i := 3) sc__law_times.nd rfl (.inl rfl)) (pgs_cons (pg_name (i := 4) sc__law_times.nd rfl (.inl rfl)) pgs_nil))) (pss_one (ps_for PassesOwn.never rfl (pi_enum (by rfl) (T.fr 9 _ rfl) (pa_cons (pv 1) pa_nil)) (pg_tup rfl (pgs_cons (pg_name (i := 5) sc__law_times.nd rfl (.inl rfl)) (pgs_cons (pg_name (i := 6) sc__law_times.nd rfl (.inl rfl)) pgs_nil))) (pss_one (ps_asg (pe_op op_add (pe_ix (r := rIxL K) ix_list (pv 2) (pe_op op_add (pv 3) (pv 5)) (fun _ _ => rfl)) (pe_op op_mul (pv 4) (pv 6))) (pg_sub (pv 2) (pe_op op_add (pv 3) (pv 5)) set_list)))))) (pss_one (ps_ret (pv 2))))), ?_⟩
  refine ⟨small (show 1 ≤ 1000 by decide), fun p1 n1 => ?_⟩
  have e1 := Ex.new (o := .lst [.int 0]) n1
  refine ⟨_, rfl, a, _, rfl, .inl (ex_l e1 hA), _, rfl, b, _, rfl, .inl (ex_l e1 hB), _, _, rfl, rfl, _, _, rfl, rfl, ?_⟩
  have ek : (((lfV (m + 1) f).length : Int) + ((lfV (n + 1) g).length : Int) - 1).toNat = m + n + 1 := by
    rw [lfV_len, lfV_len]
    omega
  refine ⟨p1, ((lfV (m + 1) f).length : Int) + ((lfV (n + 1) g).length : Int) - 1, [.int 0], rfl, rfl, upd_same, by rw [lfV_len, lfV_len]; omega, by rw [lfV_len, lfV_len]; omega, ?_, fun D nD => ?_⟩
  · rw [ek]
    exact small (show 1 * (m + n + 1) ≤ 1000 by omega)
  rw [ek]
  have rep : ∀ k : Nat, (List.replicate k [V.int 0]).flatten = lfV k (fun _ => 0) := fun k => by
    refine lfV_ext ?_ fun i hi => ?_
    · rw [List.flatten_replicate_singleton, List.length_replicate]
    · rw [List.flatten_replicate_singleton, List.getElem?_replicate, if_pos hi]
  rw [rep]
  have e2 := Ex.new (o := .lst (lfV (m + n + 1) (fun _ => 0))) nD
  have nD0 : H D = none := fresh_back e1 nD
  refine ⟨_, rfl, a, _, rfl, ex_l (e1.trans e2) hA, for_it (walk_enum (xs := lfV (m + 1) f)) (fun i σ H' => ∃ (y3 y4 y5 y6 : Option V), σ = [some (.ref a), some (.ref b), some (.ref D), y3, y4, y5, y6] ∧ Ex H H' ∧ H' D = some (.lst (lfV (m + n + 1) (cv i (n + 1) f g)))) ⟨none, none, none, none, rfl, e1.trans e2, upd_same⟩ ?_ ?_ ?_⟩
  · rintro i σ H' _ ⟨y3, y4, y5, y6, rfl, e3, _⟩
    exact ex_l e3 hA
  · rintro i x σ H2 H3 hi ⟨y3, y4, y5, y6, rfl, e3, h3⟩ ⟨t0, u, v, rfl, nt, rfl, hu, hv⟩
    obtain ⟨him, rfl⟩ := lfV_of hv
    have eu : u = .int (i : Int) := (Option.some.inj hu).symm
    subst eu
    have e4 := Ex.new (o := .tup [V.int (i : Int), V.int (f i)]) nt
    refine ⟨t0, _, rfl, SqT.of upd_same, rfl, _, _, rfl, _, _, rfl, rfl, ?_⟩
    refine ⟨_, rfl, b, _, rfl, ex_l (e3.trans e4) hB, for_it (walk_enum (xs := lfV (n + 1) g)) (fun l σ H' => ∃ (y5 y6 : Option V), σ = [some (.ref a), some (.ref b), some (.ref D), some (.int (i : Int)), some (.int (f i)), y5, y6] ∧ Ex H H' ∧ H' D = some (.lst (lfV (m + n + 1) (tw (n + 1) f g i l)))) ⟨_, _, rfl, e3.trans e4, by rw [tw_zero]; exact e4 D _ h3⟩ ?_ ?_ ?_⟩
    · rintro l σ H' _ ⟨y5, y6, rfl, e5, _⟩
      exact ex_l e5 hB
    · rintro l x σ H4 H5 hl ⟨y5, y6, rfl, e5, h5⟩ ⟨t1, u, v, rfl, nt1, rfl, hu, hv⟩
      obtain ⟨hln, rfl⟩ := lfV_of hv
      have eu : u = .int (l : Int) := (Option.some.inj hu).symm
      subst eu
      have e6 := Ex.new (o := .tup [V.int (l : Int), V.int (g l)]) nt1
      have h6 := e6 D _ h5
      refine ⟨t1, _, rfl, SqT.of upd_same, rfl, _, _, rfl, _, _, rfl, rfl, ?_⟩
      refine ⟨_, rfl, _, rfl, _, rfl, _, _, rfl, rfl, D, _, _, _, rfl, rfl, SqL.of h6, atI_lfV _ (i := i + l) (by omega) (by omega), _, rfl, _, rfl, f i, g l, rfl, rfl, .inl (hf i (by omega)), _, _, rfl, rfl, ?_⟩
      refine ⟨_, rfl, _, rfl, _, rfl, _, _, rfl, rfl, D, _, _, i + l, rfl, rfl, h6, ?_, ?_⟩
      · rw [lfV_len]
        exact ixN_nat (show i + l < m + n + 1 by omega)
      · rw [lfV_set, tw_set]
        exact ⟨_, _, rfl, (e5.trans e6).mut nD0, upd_same⟩
    · rintro σ H4 ⟨y5, y6, rfl, e5, h5⟩
      rw [lfV_len] at h5
      exact ⟨_, _, _, _, rfl, e5, h5⟩
  · rintro σ H2 ⟨y3, y4, y5, y6, rfl, e3, h3⟩
    rw [lfV_len] at h3
    exact ⟨_, rfl, q D H2 nD0 e3 h3⟩
end
end OcW

set_option linter.unusedVariables false
namespace Oc
open OcW (bes twice led low cv)
/-! ### a basis is there -/
theorem basis_more : ∀ (r W B : List Nat), IsBasis W B → ∃ C, IsBasis (W ++ r) C
  | [], W, B, h => ⟨B, by rw [List.append_nil]; exact h⟩
  | w :: r, W, B, h => by
    have step : ∃ B', IsWith B w B' := by
      by_cases c : leftOf B w = 0
      · exact ⟨B, isWith_same h.plain c⟩
      · exact ⟨_, isWith_new h.plain c (List.Perm.refl _)⟩
    obtain ⟨B', k⟩ := step
    have z := basis_more r (W ++ [w]) B' (h.step k)
    rw [List.append_assoc] at z
    exact z
theorem basis_ex (W : List Nat) : ∃ B, IsBasis W B := basis_more W [] [] IsBasis.nil
/-! ### spans of joined and of mapped words -/
theorem sp_app : ∀ {X Y : List Nat} {v : Nat}, sp (X ++ Y) v = true ↔ ∃ x y, sp X x = true ∧ sp Y y = true ∧ v = x ^^^ y
  | [], Y, v => by
    refine ⟨fun h => ⟨0, v, rfl, h, (Nat.zero_xor v).symm⟩, fun ⟨x, y, hx, hy, e⟩ => ?_⟩
    rw [sp_nil.mp hx, Nat.zero_xor] at e
    rw [e]
    exact hy
  | b :: X, Y, v => by
    show sp (b :: (X ++ Y)) v = true ↔ _
    rw [sp_cons, sp_app, sp_app]
    constructor
    · rintro (⟨x, y, hx, hy, e⟩ | ⟨x, y, hx, hy, e⟩)
      · exact ⟨x, y, sp_cons.mpr (.inl hx), hy, e⟩
      · refine ⟨x ^^^ b, y, sp_cons.mpr (.inr (by rw [xor_self2]; exact hx)), hy, ?_⟩
        rw [xor_right_comm, ← e, xor_self2]
    · rintro ⟨x, y, hx, hy, e⟩
      rcases sp_cons.mp hx with hx | hx
      · exact .inl ⟨x, y, hx, hy, e⟩
      · exact .inr ⟨x ^^^ b, y, hx, hy, by rw [e, xor_right_comm]⟩
theorem sp_map {n : Nat} {f : Nat → Nat} (f0 : f 0 = 0) (fx : ∀ a b, a < 2 ^ n → b < 2 ^ n → f (a ^^^ b) = f a ^^^ f b) : ∀ {B : List Nat} {v : Nat}, Lt n B → (sp (B.map f) v = true ↔ ∃ u, sp B u = true ∧ v = f u)
  | [], v, _ => by
    refine ⟨fun h => ⟨0, rfl, by rw [f0]; exact sp_nil.mp h⟩, fun ⟨u, hu, e⟩ => ?_⟩
    rw [sp_nil.mp hu, f0] at e
    exact sp_nil.mpr e
  | b :: r, v, l => by
    have hb : b < 2 ^ n := l b List.mem_cons_self
    have hr : Lt n r := fun c hc => l c (List.mem_cons_of_mem _ hc)
    show sp (f b :: r.map f) v = true ↔ _
    rw [sp_cons, sp_map f0 fx hr, sp_map f0 fx hr]
    constructor
    · rintro (⟨u, hu, e⟩ | ⟨u, hu, e⟩)
      · exact ⟨u, sp_cons.mpr (.inl hu), e⟩
      · refine ⟨u ^^^ b, sp_cons.mpr (.inr (by rw [xor_self2]; exact hu)), ?_⟩
        rw [fx u b (sp_lt hr hu) hb, ← e, xor_self2]
    · rintro ⟨u, hu, e⟩
      rcases sp_cons.mp hu with hu | hu
      · exact .inl ⟨u, hu, e⟩
      · refine .inr ⟨u ^^^ b, hu, ?_⟩
        have z := fx (u ^^^ b) b (sp_lt hr hu) hb
        rw [xor_self2] at z
        rw [e, z, xor_self2]
theorem sb_mapL {n : Nat} {f : Nat → Nat} (f0 : f 0 = 0) (fx : ∀ a b, a < 2 ^ n → b < 2 ^ n → f (a ^^^ b) = f a ^^^ f b) : ∀ {B : List Nat} (g : Nat → Int), Lt n B → sb B (fun v => g (f v)) = sb (B.map f) g
  | [], g, _ => by
    show g (f 0) = g 0
    rw [f0]
  | b :: r, g, l => by
    have hb : b < 2 ^ n := l b List.mem_cons_self
    have hr : Lt n r := fun c hc => l c (List.mem_cons_of_mem _ hc)
    show sb r (fun v => g (f v)) + sb r (fun v => g (f (v ^^^ b))) = sb (r.map f) g + sb (r.map f) (fun v => g (v ^^^ f b))
    rw [sb_mapL f0 fx g hr, ← sb_mapL f0 fx (fun v => g (v ^^^ f b)) hr]
    congr 1
    exact sb_on fun v hv => by rw [fx v b (sp_lt hr hv) hb]
theorem sb_swap : ∀ (A B : List Nat) (g : Nat → Nat → Int), sb A (fun a => sb B (fun b => g a b)) = sb B (fun b => sb A (fun a => g a b))
  | [], B, g => rfl
  | c :: A, B, g => by
    show sb A (fun a => sb B (fun b => g a b)) + sb A (fun a => sb B (fun b => g (a ^^^ c) b)) = sb B (fun b => sb A (fun a => g a b) + sb A (fun a => g (a ^^^ c) b))
    rw [sb_add, sb_swap A B g, sb_swap A B (fun a b => g (a ^^^ c) b)]

/-! ### one room beside another -/
theorem wtN_congr {x y : Nat} : ∀ {n : Nat}, (∀ i, i < n → x.testBit i = y.testBit i) → wtN n x = wtN n y
  | 0, _ => rfl
  | n + 1, h => by
    show wtN n x + (if x.testBit n = true then 1 else 0) = wtN n y + (if y.testBit n = true then 1 else 0)
    rw [wtN_congr (n := n) fun i hi => h i (by omega), h n (by omega)]
theorem par_congr {x y : Nat} : ∀ {n : Nat}, (∀ i, i < n → x.testBit i = y.testBit i) → par n x = par n y := fun {n} h => by
  rw [par_wt, par_wt, wtN_congr h]
theorem shl_zero (m : Nat) : 0 * 2 ^ m = 0 := Nat.zero_mul _
theorem shl_xor (m a b : Nat) : (a ^^^ b) * 2 ^ m = a * 2 ^ m ^^^ b * 2 ^ m := Nat.eq_of_testBit_eq fun i => by
  rw [Nat.testBit_xor, Nat.testBit_mul_two_pow, Nat.testBit_mul_two_pow, Nat.testBit_mul_two_pow, Nat.testBit_xor]
  cases decide (m ≤ i) <;> rfl
theorem mix_bit {m a : Nat} (ha : a < 2 ^ m) (b i : Nat) : (a ^^^ b * 2 ^ m).testBit i = if i < m then a.testBit i else b.testBit (i - m) := by
  rw [Nat.testBit_xor, Nat.testBit_mul_two_pow]
  by_cases c : i < m
  · rw [if_pos c, decide_eq_false (by omega), Bool.false_and, Bool.xor_false]
  · rw [if_neg c, decide_eq_true (by omega), Bool.true_and, Nat.testBit_lt_two_pow (Nat.lt_of_lt_of_le ha (Nat.pow_le_pow_right (by decide) (by omega))), Bool.false_xor]
theorem mix_wt {m a : Nat} (ha : a < 2 ^ m) (b : Nat) : ∀ n : Nat, wtN (m + n) (a ^^^ b * 2 ^ m) = wtN m a + wtN n b
  | 0 => wtN_congr fun i hi => by rw [mix_bit ha, if_pos (show i < m from hi)]
  | n + 1 => by
    show wtN (m + n) (a ^^^ b * 2 ^ m) + (if (a ^^^ b * 2 ^ m).testBit (m + n) = true then 1 else 0) = wtN m a + (wtN n b + if b.testBit n = true then 1 else 0)
    have e : (a ^^^ b * 2 ^ m).testBit (m + n) = b.testBit n := by rw [mix_bit ha, if_neg (by omega), Nat.add_sub_cancel_left]
    rw [mix_wt ha b n, e]
    omega
theorem mix_lt {m n a b : Nat} (ha : a < 2 ^ m) (hb : b < 2 ^ n) : a ^^^ b * 2 ^ m < 2 ^ (m + n) := Nat.lt_pow_two_of_testBit _ fun i hi => by
  rw [mix_bit ha, if_neg (by omega)]
  exact Nat.testBit_lt_two_pow (Nat.lt_of_lt_of_le hb (Nat.pow_le_pow_right (by decide) (by omega)))
theorem mix_mod {m a : Nat} (ha : a < 2 ^ m) (b : Nat) : (a ^^^ b * 2 ^ m) % 2 ^ m = a := Nat.eq_of_testBit_eq fun i => by
  rw [Nat.testBit_mod_two_pow, mix_bit ha]
  by_cases c : i < m
  · rw [if_pos c, decide_eq_true c, Bool.true_and]
  · rw [decide_eq_false c, Bool.false_and, Nat.testBit_lt_two_pow (Nat.lt_of_lt_of_le ha (Nat.pow_le_pow_right (by decide) (by omega)))]
theorem mix_div {m a : Nat} (ha : a < 2 ^ m) (b : Nat) : (a ^^^ b * 2 ^ m) / 2 ^ m = b := Nat.eq_of_testBit_eq fun i => by
  rw [Nat.testBit_div_two_pow, mix_bit ha, if_neg (by omega), Nat.add_sub_cancel]
theorem mix_of (m v : Nat) : v = v % 2 ^ m ^^^ v / 2 ^ m * 2 ^ m := Nat.eq_of_testBit_eq fun i => by
  rw [mix_bit (Nat.mod_lt _ (Nat.two_pow_pos m)), Nat.testBit_mod_two_pow, Nat.testBit_div_two_pow]
  by_cases c : i < m
  · rw [if_pos c, decide_eq_true c, Bool.true_and]
  · rw [if_neg c, Nat.sub_add_cancel (by omega)]
theorem shl_lt {m n b : Nat} (hb : b < 2 ^ n) : b * 2 ^ m < 2 ^ (m + n) := by
  have h := mix_lt (m := m) (a := 0) (Nat.two_pow_pos m) hb
  rw [Nat.zero_xor] at h
  exact h
theorem bes_lt {m n : Nat} {A B : List Nat} (hA : Lt m A) (hB : Lt n B) : Lt (m + n) (bes m A B) := fun c hc => by
  rcases List.mem_append.mp hc with hc | hc
  · obtain ⟨b, hb, rfl⟩ := List.mem_map.mp hc
    exact shl_lt (hB b hb)
  · exact Nat.lt_of_lt_of_le (hA c hc) (Nat.pow_le_pow_right (by decide) (by omega))
theorem bes_len (m : Nat) (A B : List Nat) : (bes m A B).length = A.length + B.length := by
  unfold bes
  rw [List.length_append, List.length_map, Nat.add_comm]
theorem log_shl {m b : Nat} (h : b ≠ 0) : (b * 2 ^ m).log2 = b.log2 + m := by
  have h2 : b * 2 ^ m ≠ 0 := Nat.mul_ne_zero h (Nat.ne_of_gt (Nat.two_pow_pos m))
  have u := (Nat.log2_lt h (k := b.log2 + 1)).mp (Nat.lt_succ_self _)
  have l := (Nat.le_log2 h (k := b.log2)).mp (Nat.le_refl _)
  have p1 : b.log2 + m ≤ (b * 2 ^ m).log2 := (Nat.le_log2 h2).mpr (by rw [Nat.pow_add]; exact Nat.mul_le_mul_right _ l)
  have p2 : (b * 2 ^ m).log2 < b.log2 + m + 1 := (Nat.log2_lt h2).mpr (by
    rw [show b.log2 + m + 1 = (b.log2 + 1) + m by omega, Nat.pow_add]
    exact Nat.mul_lt_mul_of_pos_right u (Nat.two_pow_pos m))
  omega
theorem bes_plain {m : Nat} {A B : List Nat} (pA : Plain A) (pB : Plain B) (hA : Lt m A) : Plain (bes m A B) := by
  refine ⟨fun c hc => ?_, ?_⟩
  · rcases List.mem_append.mp hc with hc | hc
    · obtain ⟨b, hb, rfl⟩ := List.mem_map.mp hc
      exact Nat.mul_ne_zero (pB.nz b hb) (Nat.ne_of_gt (Nat.two_pow_pos m))
    · exact pA.nz c hc
  · unfold bes
    rw [List.pairwise_append]
    refine ⟨?_, pA.rr, fun x hx a ha => ?_⟩
    · rw [List.pairwise_map]
      refine List.Pairwise.imp_of_mem (fun {a b} ha hb h => ?_) pB.rr
      refine ⟨?_, ?_⟩
      · rw [log_shl (pB.nz b hb), Nat.testBit_mul_two_pow, decide_eq_true (by omega), Nat.add_sub_cancel]
        exact h.1
      · rw [log_shl (pB.nz a ha), Nat.testBit_mul_two_pow, decide_eq_true (by omega), Nat.add_sub_cancel]
        exact h.2
    · obtain ⟨b, hb, rfl⟩ := List.mem_map.mp hx
      have l : a.log2 < m := (Nat.log2_lt (pA.nz a ha)).mpr (hA a ha)
      refine ⟨?_, ?_⟩
      · rw [Nat.testBit_mul_two_pow, decide_eq_false (by omega), Bool.false_and]
      · rw [log_shl (pB.nz b hb)]
        exact Nat.testBit_lt_two_pow (Nat.lt_of_lt_of_le (hA a ha) (Nat.pow_le_pow_right (by decide) (by omega)))
theorem sp_bes {m n : Nat} {A B : List Nat} (hA : Lt m A) (hB : Lt n B) (v : Nat) : sp (bes m A B) v = true ↔ sp A (v % 2 ^ m) = true ∧ sp B (v / 2 ^ m) = true := by
  unfold bes
  rw [sp_app]
  constructor
  · rintro ⟨x, y, hx, hy, rfl⟩
    obtain ⟨u, hu, rfl⟩ := (sp_map (n := n) (shl_zero m) (fun a b _ _ => shl_xor m a b) hB).mp hx
    have ly := sp_lt hA hy
    rw [Nat.xor_comm, mix_mod ly, mix_div ly]
    exact ⟨hy, hu⟩
  · rintro ⟨h1, h2⟩
    refine ⟨v / 2 ^ m * 2 ^ m, v % 2 ^ m, (sp_map (n := n) (shl_zero m) (fun a b _ _ => shl_xor m a b) hB).mpr ⟨_, h2, rfl⟩, h1, ?_⟩
    rw [Nat.xor_comm]
    exact mix_of m v
theorem orth_bes {m n : Nat} {A B : List Nat} (hA : Lt m A) (v : Nat) : Orth (m + n) (bes m A B) v ↔ Orth m A (v % 2 ^ m) ∧ Orth n B (v / 2 ^ m) := by
  have split : ∀ x : Nat, ∀ k : Nat, par (m + k) x = (par m x).xor (par k (x / 2 ^ m)) := fun x k => by
    induction k with
    | zero =>
      show par m x = (par m x).xor false
      rw [Bool.xor_false]
    | succ k ih =>
      show (par (m + k) x).xor (x.testBit (m + k)) = (par m x).xor ((par k (x / 2 ^ m)).xor ((x / 2 ^ m).testBit k))
      rw [ih, Nat.testBit_div_two_pow, Nat.add_comm k m, Bool.xor_assoc]
  have eA : ∀ a, a ∈ A → par (m + n) (a &&& v) = par m (a &&& v % 2 ^ m) := fun a ha => by
    rw [split, par_congr (n := n) (y := 0) fun i _ => ?_, par_zero, Bool.xor_false]
    · refine par_congr fun i hi => ?_
      rw [Nat.testBit_and, Nat.testBit_and, Nat.testBit_mod_two_pow, decide_eq_true hi, Bool.true_and]
    · rw [Nat.testBit_div_two_pow, Nat.testBit_and, Nat.testBit_lt_two_pow (Nat.lt_of_lt_of_le (hA a ha) (Nat.pow_le_pow_right (by decide) (Nat.le_add_left m i))), Bool.false_and, Nat.zero_testBit]
  have eB : ∀ b : Nat, par (m + n) (b * 2 ^ m &&& v) = par n (b &&& v / 2 ^ m) := fun b => by
    rw [split, par_congr (n := m) (y := 0) fun i hi => ?_, par_zero, Bool.false_xor]
    · refine par_congr fun i hi => ?_
      rw [Nat.testBit_div_two_pow, Nat.testBit_and, Nat.testBit_and, Nat.testBit_div_two_pow, Nat.testBit_mul_two_pow, decide_eq_true (by omega), Bool.true_and, Nat.add_sub_cancel]
    · rw [Nat.testBit_and, Nat.testBit_mul_two_pow, decide_eq_false (by omega), Bool.false_and, Bool.false_and, Nat.zero_testBit]
  constructor
  · intro h
    refine ⟨fun a ha => ?_, fun b hb => ?_⟩
    · rw [← eA a ha]
      exact h a (List.mem_append_right _ ha)
    · rw [← eB b]
      exact h _ (List.mem_append_left _ (List.mem_map_of_mem hb))
  · rintro ⟨h1, h2⟩ c hc
    rcases List.mem_append.mp hc with hc | hc
    · obtain ⟨b, hb, rfl⟩ := List.mem_map.mp hc
      rw [eB b]
      exact h2 b hb
    · rw [eA c hc]
      exact h1 c hc
/-- the row of a room beside another -/
theorem Wb_bes {m n : Nat} {A B : List Nat} (hA : Lt m A) : Wb (m + n) (bes m A B) = cv (m + 1) (n + 1) (Wb m A) (Wb n B) := funext fun j => by
  have e1 : Wb (m + n) (bes m A B) j = sb A (fun a => sb B (fun b => if wtN m a + wtN n b = j then 1 else 0)) := by
    unfold Wb bes
    rw [sb_append, ← sb_map (fun b => b * 2 ^ m) (shl_zero m) (shl_xor m) B (fun x => sb A (fun a => if wtN (m + n) (a ^^^ x) = j then 1 else 0)), sb_swap]
    exact sb_on fun a ha => sb_congr fun b => by rw [mix_wt (sp_lt hA ha)]
  have e2 : cv (m + 1) (n + 1) (Wb m A) (Wb n B) j = sm (m + 1) (fun x => Wb m A x * (fun x => sb B (fun b => if x + wtN n b = j then 1 else 0)) x) := by
    unfold cv
    refine sm_congr fun x _ => ?_
    dsimp only
    rw [← group n B (fun y => if x + y = j then 1 else 0), ← sm_mul]
    refine sm_congr fun y _ => ?_
    by_cases c : x + y = j
    · rw [if_pos c, if_pos c, Int.mul_one]
    · rw [if_neg c, if_neg c, Int.mul_zero, Int.mul_zero]
  rw [e1, e2, group m A (fun x => sb B (fun b => if x + wtN n b = j then 1 else 0))]
theorem cv_comm (m n : Nat) (f g : Nat → Int) : cv m n f g = cv n m g f := funext fun j => by
  unfold cv
  rw [sm_swap]
  refine sm_congr fun b _ => sm_congr fun a _ => ?_
  rw [Nat.add_comm, Int.mul_comm]
/-- the changed row of a room beside another -/
theorem es_bes {m n : Nat} {A B A' B' : List Nat} (pA : Plain A) (pB : Plain B) (hA : Lt m A) (hB : Lt n B) (kA : IsBasis (dualGen m A) A') (kB : IsBasis (dualGen n B) B') (j : Nat) :
    es (m + n) (cv (m + 1) (n + 1) (Wb m A) (Wb n B)) j = ((2 ^ (A.length + B.length) : Nat) : Int) * cv (m + 1) (n + 1) (Wb m A') (Wb n B') j := by
  have lA := kA.lt (dual_lt pA hA)
  have lB := kB.lt (dual_lt pB hB)
  rw [← Wb_bes (n := n) (B := B) hA, ← Wb_bes (n := n) (B := B') lA, ← bes_len m A B]
  refine mac (bes_plain kA.plain kB.plain lA).ind (bes_lt lA lB) (fun v hv => ?_) j
  rw [sp_bes lA lB, orth_bes hA, kA.span, kB.span, dual_sp pA hA (Nat.mod_lt _ (Nat.two_pow_pos m)), dual_sp pB hB]
  rw [Nat.pow_add] at hv
  exact Nat.div_lt_of_lt_mul hv
theorem es_one {n : Nat} {A A' : List Nat} (pA : Plain A) (hA : Lt n A) (kA : IsBasis (dualGen n A) A') (j : Nat) : es n (Wb n A) j = ((2 ^ A.length : Nat) : Int) * Wb n A' j :=
  mac kA.plain.ind (kA.lt (dual_lt pA hA)) (fun v hv => by rw [kA.span, dual_sp pA hA hv]) j

/-! ### places led to others -/
theorem filter_wt (v : Nat) : ∀ k : Nat, ((List.range k).filter fun i => v.testBit i).length = wtN k v
  | 0 => rfl
  | k + 1 => by
    rw [List.range_succ, List.filter_append, List.length_append, filter_wt v k, List.filter_cons]
    show _ = wtN k v + if v.testBit k = true then 1 else 0
    cases v.testBit k with
    | true => rfl
    | false => rfl
theorem spots_wt {n v : Nat} (h : v < 2 ^ n) (hn : n ≤ 24) : (spots v).length = wtN n v := by
  rw [← wt_eq h hn]
  exact filter_wt v 24
section
variable {n : Nat} {S : List Nat}
theorem nth_perm (hS : S.Perm (List.range n)) {p : Nat} (hp : p < n) : S.getD p 0 < n ∧ S[p]? = some (S.getD p 0) := by
  have l := hS.length_eq
  rw [List.length_range] at l
  have e : S[p]? = some (S.getD p 0) := by
    rw [List.getD_eq_getElem?_getD, List.getElem?_eq_getElem (by omega)]
    rfl
  exact ⟨List.mem_range.mp (hS.mem_iff.mp (List.mem_of_getElem? e)), e⟩
theorem nth_inj (hS : S.Perm (List.range n)) {p q : Nat} (hp : p < n) (hq : q < n) (e : S.getD p 0 = S.getD q 0) : p = q := by
  have l := hS.length_eq
  rw [List.length_range] at l
  have nd : S.Nodup := hS.symm.nodup List.nodup_range
  have e1 := (nth_perm hS hp).2
  have e2 := (nth_perm hS hq).2
  rw [← e] at e2
  have g1 := (List.getElem?_eq_some_iff.mp e1)
  have g2 := (List.getElem?_eq_some_iff.mp e2)
  obtain ⟨h1, z1⟩ := g1
  obtain ⟨h2, z2⟩ := g2
  exact (List.getElem_inj nd).mp (z1.trans z2.symm)
theorem spot_lt (hn : n ≤ 24) {v p : Nat} (hv : v < 2 ^ n) (hp : p ∈ spots v) : p < n := by
  have hb := (spots_mem (Nat.lt_of_lt_of_le hv (Nat.pow_le_pow_right (by decide) hn))).mp hp
  refine Nat.lt_of_not_le fun c => ?_
  rw [Nat.testBit_lt_two_pow (Nat.lt_of_lt_of_le hv (Nat.pow_le_pow_right (by decide) c))] at hb
  cases hb
theorem led_nodup (hS : S.Perm (List.range n)) (hn : n ≤ 24) {v : Nat} (hv : v < 2 ^ n) : ((spots v).map fun p => S.getD p 0).Nodup := by
  unfold List.Nodup
  rw [List.pairwise_map]
  refine List.Pairwise.imp_of_mem (fun {a b} ha hb h e => h ?_) (spots_nodup v)
  exact nth_inj hS (spot_lt hn hv ha) (spot_lt hn hv hb) e
theorem led_bit (hS : S.Perm (List.range n)) (hn : n ≤ 24) {v : Nat} (hv : v < 2 ^ n) (i : Nat) : (led S v).testBit i = decide (∃ p, p < n ∧ v.testBit p = true ∧ S.getD p 0 = i) := by
  unfold led
  rw [wordBy_bit (led_nodup hS hn hv)]
  have v24 := Nat.lt_of_lt_of_le hv (Nat.pow_le_pow_right (by decide) hn)
  refine decide_eq_decide.mpr ⟨fun h => ?_, fun ⟨p, hp, hb, e⟩ => ?_⟩
  · obtain ⟨p, hp, e⟩ := List.mem_map.mp h
    exact ⟨p, spot_lt hn hv hp, (spots_mem v24).mp hp, e⟩
  · exact List.mem_map.mpr ⟨p, (spots_mem v24).mpr hb, e⟩
theorem led_lt (hS : S.Perm (List.range n)) (hn : n ≤ 24) {v : Nat} (hv : v < 2 ^ n) : led S v < 2 ^ n := Nat.lt_pow_two_of_testBit _ fun i hi => by
  rw [led_bit hS hn hv]
  refine decide_eq_false fun ⟨p, hp, _, e⟩ => ?_
  have := (nth_perm hS hp).1
  omega
theorem led_at (hS : S.Perm (List.range n)) (hn : n ≤ 24) {v p : Nat} (hv : v < 2 ^ n) (hp : p < n) : (led S v).testBit (S.getD p 0) = v.testBit p := by
  rw [led_bit hS hn hv]
  cases c : v.testBit p with
  | true => exact decide_eq_true ⟨p, hp, c, rfl⟩
  | false =>
    refine decide_eq_false fun ⟨q, hq, hb, e⟩ => ?_
    rw [nth_inj hS hq hp e, c] at hb
    cases hb
theorem led_xor (hS : S.Perm (List.range n)) (hn : n ≤ 24) (a b : Nat) (ha : a < 2 ^ n) (hb : b < 2 ^ n) : led S (a ^^^ b) = led S a ^^^ led S b := Nat.eq_of_testBit_eq fun i => by
  rw [Nat.testBit_xor]
  by_cases c : ∃ p, p < n ∧ S.getD p 0 = i
  · obtain ⟨p, hp, rfl⟩ := c
    rw [led_at hS hn (xor_lt ha hb) hp, led_at hS hn ha hp, led_at hS hn hb hp, Nat.testBit_xor]
  · have z : ∀ v, v < 2 ^ n → (led S v).testBit i = false := fun v hv => by
      rw [led_bit hS hn hv]
      exact decide_eq_false fun ⟨p, hp, _, e⟩ => c ⟨p, hp, e⟩
    rw [z _ (xor_lt ha hb), z _ ha, z _ hb]
    rfl
theorem led_zero (S : List Nat) : led S 0 = 0 := by
  unfold led
  have e : spots 0 = [] := by
    unfold spots
    rw [List.filter_eq_nil_iff]
    intro i _
    rw [Nat.zero_testBit]
    exact Bool.false_ne_true
  rw [e]
  rfl
theorem led_wt (hS : S.Perm (List.range n)) (hn : n ≤ 24) {v : Nat} (hv : v < 2 ^ n) : wtN n (led S v) = wtN n v := by
  rw [← spots_wt hv hn, ← spots_wt (led_lt hS hn hv) hn, ← List.length_map (f := fun p => S.getD p 0) (as := spots v)]
  refine List.Perm.length_eq ((List.perm_ext_iff_of_nodup (spots_nodup _) (led_nodup hS hn hv)).mpr fun i => ?_)
  rw [spots_mem (Nat.lt_of_lt_of_le (led_lt hS hn hv) (Nat.pow_le_pow_right (by decide) hn))]
  unfold led
  rw [wordBy_bit (led_nodup hS hn hv), decide_eq_true_eq]
theorem led_ind (hS : S.Perm (List.range n)) (hn : n ≤ 24) : ∀ {A : List Nat}, Ind A → Lt n A → Ind (A.map (led S))
  | [], _, _ => trivial
  | a :: r, hi, hl => by
    have ha : a < 2 ^ n := hl a List.mem_cons_self
    have hr : Lt n r := fun c hc => hl c (List.mem_cons_of_mem _ hc)
    refine ⟨?_, led_ind hS hn hi.2 hr⟩
    cases c : sp (r.map (led S)) (led S a) with
    | false => rfl
    | true =>
      obtain ⟨u, hu, e⟩ := (sp_map (led_zero S) (led_xor hS hn) hr).mp c
      have lu := sp_lt hr hu
      have z : led S (a ^^^ u) = 0 := by rw [led_xor hS hn a u ha lu, e, Nat.xor_self]
      have w := led_wt hS hn (xor_lt ha lu)
      rw [z, wtN_zero] at w
      have q := zero_of (xor_lt ha lu) (wt_zero w.symm)
      have au : a = u := by
        have t := xor_self2 a u
        rw [q, Nat.zero_xor] at t
        exact t.symm
      rw [← au, hi.1] at hu
      cases hu
theorem Wb_led (hS : S.Perm (List.range n)) (hn : n ≤ 24) {A B : List Nat} (pA : Plain A) (hA : Lt n A) (k : IsBasis (A.map (led S)) B) : Lt n B ∧ Wb n B = Wb n A := by
  have lm : Lt n (A.map (led S)) := fun c hc => by
    obtain ⟨a, ha, rfl⟩ := List.mem_map.mp hc
    exact led_lt hS hn (hA a ha)
  refine ⟨k.lt lm, ?_⟩
  rw [Wb_same (n := n) k.plain.ind (led_ind hS hn pA.ind hA) (k.lt lm) lm fun v _ => k.span v]
  funext j
  unfold Wb
  rw [← sb_mapL (led_zero S) (led_xor hS hn) _ hA]
  exact sb_on fun v hv => by rw [led_wt hS hn (sp_lt hA hv)]
end

/-! ### with the whole word -/
theorem whole_wt {n : Nat} (v : Nat) : ∀ k : Nat, k ≤ n → wtN k (v ^^^ (2 ^ n - 1)) + wtN k v = k
  | 0, _ => rfl
  | k + 1, h => by
    have ih := whole_wt (n := n) v k (by omega)
    show wtN k (v ^^^ (2 ^ n - 1)) + (if (v ^^^ (2 ^ n - 1)).testBit k = true then 1 else 0) + (wtN k v + if v.testBit k = true then 1 else 0) = k + 1
    rw [Nat.testBit_xor, Nat.testBit_two_pow_sub_one, decide_eq_true (by omega), Bool.xor_true]
    cases v.testBit k with
    | true =>
      rw [if_neg (by decide), if_pos rfl]
      omega
    | false =>
      rw [if_pos (by rfl), if_neg (by decide)]
      omega
theorem Wb_sym {n : Nat} {B : List Nat} (h : sp B (2 ^ n - 1) = true) {j : Nat} (hj : j ≤ n) : Wb n B (n - j) = Wb n B j := by
  unfold Wb
  rw [← sb_shift h]
  refine sb_congr fun v => ?_
  have e := whole_wt (n := n) v n (Nat.le_refl n)
  by_cases c : wtN n v = j
  · rw [if_pos c, if_pos (by omega)]
  · rw [if_neg c, if_neg (by omega)]
theorem row_sym {n : Nat} {B : List Nat} (h : sp B (2 ^ n - 1) = true) : (lf (n + 1) (Wb n B)).reverse = lf (n + 1) (Wb n B) := by
  rw [lf_rev]
  exact lf_congr fun i hi => Wb_sym h (by omega)
theorem whole_lt (n : Nat) : 2 ^ n - 1 < 2 ^ n := Nat.sub_lt (Nat.two_pow_pos n) (by decide)

/-! ### even rows -/
theorem even_row {n : Nat} {A : List Nat} (pA : Plain A) (hA : Lt n A) : sm ((n + 1) / 2) (fun k => Wb n A (1 + 2 * k)) = 0 ↔ Orth n A (2 ^ n - 1) := by
  have pw : ∀ v : Nat, par n (v &&& (2 ^ n - 1)) = decide (wtN n v % 2 = 1) := fun v => by
    rw [par_congr (n := n) (y := v) fun i hi => by rw [Nat.testBit_and, Nat.testBit_two_pow_sub_one, decide_eq_true hi, Bool.and_true], par_wt]
  constructor
  · intro h b hb
    rw [pw]
    refine decide_eq_false fun c => ?_
    have l := wtN_le n b
    have hk : wtN n b / 2 < (n + 1) / 2 := by omega
    have p1 := sm_pos (m := (n + 1) / 2) (g := fun k => Wb n A (1 + 2 * k)) (fun i _ => Wb_nonneg pA.ind hA _) hk
    have e : 1 + 2 * (wtN n b / 2) = wtN n b := by omega
    rw [h, e] at p1
    have p2 : (1 : Int) ≤ Wb n A (wtN n b) := by
      unfold Wb
      rw [← sb_ind pA.ind hA]
      have q := sm_pos (m := 2 ^ n) (g := fun v => if sp A v = true then (if wtN n v = wtN n b then (1 : Int) else 0) else 0) (fun i _ => by
        show (0 : Int) ≤ if sp A i = true then (if wtN n i = wtN n b then (1 : Int) else 0) else 0
        split
        · split <;> decide
        · exact Int.le_refl 0) (hA b hb)
      rw [if_pos (sp_mem hb), if_pos rfl] at q
      exact q
    exact absurd (Int.le_trans p2 p1) (by decide)
  · intro h
    rw [sm_congr (h := fun _ => 0) fun k _ => ?_, sm_zero]
    unfold Wb
    rw [sb_on (h := fun _ => 0) fun v hv => ?_, sb_nil]
    have o := orth_span h hv
    rw [pw] at o
    exact if_neg fun c => of_decide_eq_false o (by omega)
theorem even_has {n : Nat} {A C : List Nat} (pA : Plain A) (hA : Lt n A) (k : IsBasis (dualGen n A) C) : decide (sm ((n + 1) / 2) (fun k => Wb n A (1 + 2 * k)) = 0) = sp C (2 ^ n - 1) := by
  rw [k.span]
  cases c : sp (dualGen n A) (2 ^ n - 1) with
  | true => exact decide_eq_true ((even_row pA hA).mpr ((dual_sp pA hA (whole_lt n)).mp c))
  | false =>
    refine decide_eq_false fun z => ?_
    rw [(dual_sp pA hA (whole_lt n)).mpr ((even_row pA hA).mp z)] at c
    cases c

/-! ### what two rooms have in common -/
theorem sp_filter (f : Nat → Bool) : ∀ {C : List Nat} {v : Nat}, Plain C → sp C v = true → (∀ c, c ∈ C → f c = false → v.testBit c.log2 = false) → sp (C.filter f) v = true
  | [], v, _, h, _ => h
  | c :: r, v, hp, h, k => by
    have kr : ∀ d, d ∈ r → f d = false → v.testBit d.log2 = false := fun d hd => k d (List.mem_cons_of_mem _ hd)
    rw [List.filter_cons]
    rcases sp_cons.mp h with h | h
    · have ih := sp_filter f hp.tail h kr
      split
      · exact sp_cons.mpr (.inl ih)
      · exact ih
    · have o : ∀ d, d ∈ r → d.testBit c.log2 = false := fun d hd => (hp.head d hd).2
      have z := sp_off o h
      rw [Nat.testBit_xor, Nat.testBit_log2 (hp.nz c List.mem_cons_self)] at z
      have vc : v.testBit c.log2 = true := by
        cases q : v.testBit c.log2 with
        | true => rfl
        | false => rw [q] at z; cases z
      cases fc : f c with
      | false =>
        rw [k c List.mem_cons_self fc] at vc
        cases vc
      | true =>
        rw [if_pos rfl]
        refine sp_cons.mpr (.inr (sp_filter f hp.tail h fun d hd fd => ?_))
        rw [Nat.testBit_xor, kr d hd fd, (hp.head d hd).1]
        rfl
theorem two_lin (n : Nat) {a : Nat} (ha : a < 2 ^ n) : a * 2 ^ n + a = a ^^^ a * 2 ^ n := by
  rw [Nat.xor_comm]
  refine Nat.eq_of_testBit_eq fun i => ?_
  rw [Nat.xor_comm, mix_bit ha, Nat.mul_comm, Nat.testBit_two_pow_mul_add a ha]
theorem twice_map {n : Nat} {A : List Nat} (hA : Lt n A) : (A.map fun a => a * 2 ^ n + a) = A.map fun a => a ^^^ a * 2 ^ n := List.map_congr_left fun a ha => two_lin n (hA a ha)
theorem two_xor (n : Nat) : ∀ a b, a < 2 ^ n → b < 2 ^ n → (fun a : Nat => a ^^^ a * 2 ^ n) (a ^^^ b) = (fun a : Nat => a ^^^ a * 2 ^ n) a ^^^ (fun a : Nat => a ^^^ a * 2 ^ n) b := fun a b _ _ => by
  show (a ^^^ b) ^^^ (a ^^^ b) * 2 ^ n = (a ^^^ a * 2 ^ n) ^^^ (b ^^^ b * 2 ^ n)
  rw [shl_xor, Nat.xor_assoc, Nat.xor_assoc, ← Nat.xor_assoc b, ← Nat.xor_assoc (a * 2 ^ n), Nat.xor_comm b (a * 2 ^ n)]
theorem two_zero (n : Nat) : (fun a : Nat => a ^^^ a * 2 ^ n) 0 = 0 := by
  show 0 ^^^ 0 * 2 ^ n = 0
  rw [shl_zero] <;> rfl
theorem low_lt {n b : Nat} : low n b = true ↔ b < 2 ^ n := by
  unfold low
  rw [decide_eq_true_eq, Nat.div_eq_zero_iff_lt (Nat.two_pow_pos n)]
section
variable {n : Nat} {A B C : List Nat}
theorem low_Lt (n : Nat) (C : List Nat) : Lt n (C.filter (low n)) := fun c hc => low_lt.mp (List.mem_filter.mp hc).2
theorem common_sp (hA : Lt n A) (hB : Lt n B) (k : IsBasis (twice n A B) C) {v : Nat} (hv : v < 2 ^ n) : sp (C.filter (low n)) v = true ↔ sp A v = true ∧ sp B v = true := by
  have key : sp C v = true ↔ sp A v = true ∧ sp B v = true := by
    rw [k.span]
    unfold twice
    rw [twice_map hA, sp_app]
    constructor
    · rintro ⟨x, y, hx, hy, e⟩
      obtain ⟨a, ha, rfl⟩ := (sp_map (two_zero n) (two_xor n) hA).mp hx
      obtain ⟨b, hb, rfl⟩ := (sp_map (n := n) (shl_zero n) (fun a b _ _ => shl_xor n a b) hB).mp hy
      have la := sp_lt hA ha
      have e2 : v = a ^^^ (a ^^^ b) * 2 ^ n := by
        rw [e, shl_xor, Nat.xor_assoc]
      have d : v / 2 ^ n = 0 := (Nat.div_eq_zero_iff_lt (Nat.two_pow_pos n)).mpr hv
      rw [e2, mix_div la] at d
      have ab : a = b := by
        have t := xor_self2 a b
        rw [d, Nat.zero_xor] at t
        exact t.symm
      rw [d, shl_zero, Nat.xor_zero] at e2
      subst e2
      exact ⟨ha, by rw [ab]; exact hb⟩
    · rintro ⟨h1, h2⟩
      refine ⟨v ^^^ v * 2 ^ n, v * 2 ^ n, (sp_map (two_zero n) (two_xor n) hA).mpr ⟨v, h1, rfl⟩, (sp_map (n := n) (shl_zero n) (fun a b _ _ => shl_xor n a b) hB).mpr ⟨v, h2, rfl⟩, (xor_self2 _ _).symm⟩
  rw [← key]
  refine ⟨fun h => sp_le (fun c hc => sp_mem (List.mem_filter.mp hc).1) h, fun h => sp_filter (low n) k.plain h fun c hc hl => ?_⟩
  have ge : 2 ^ n ≤ c := Nat.le_of_not_lt fun z => by
    rw [low_lt.mpr z] at hl
    cases hl
  have hlog := (Nat.le_log2 (k.plain.nz c hc)).mpr ge
  exact Nat.testBit_lt_two_pow (Nat.lt_of_lt_of_le hv (Nat.pow_le_pow_right (by decide) hlog))
end
/-- sums: the common room's words times the total's are the product -/
theorem sum_count {n : Nat} {A B D T : List Nat} (iA : Ind A) (iB : Ind B) (iD : Ind D) (iT : Ind T) (hA : Lt n A) (hB : Lt n B) (hD : Lt n D) (hT : Lt n T)
    (kD : ∀ v, v < 2 ^ n → (sp D v = true ↔ sp A v = true ∧ sp B v = true)) (kT : ∀ v, sp T v = sp (A ++ B) v) :
    ((2 ^ D.length : Nat) : Int) * ((2 ^ T.length : Nat) : Int) = ((2 ^ A.length : Nat) : Int) * ((2 ^ B.length : Nat) : Int) := by
  have e1 : sm (2 ^ n) (fun t => sb A (fun a => sb B (fun b => if t = a ^^^ b then (1 : Int) else 0))) = ((2 ^ A.length : Nat) : Int) * ((2 ^ B.length : Nat) : Int) := by
    rw [← sb_sm A (2 ^ n) (fun a t => sb B (fun b => if t = a ^^^ b then (1 : Int) else 0))]
    have q : ∀ a, sp A a = true → sm (2 ^ n) (fun t => sb B (fun b => if t = a ^^^ b then (1 : Int) else 0)) = ((2 ^ B.length : Nat) : Int) * 1 := fun a ha => by
      rw [← sb_sm B (2 ^ n) (fun b t => if t = a ^^^ b then (1 : Int) else 0), Int.mul_one, ← sb_one B]
      exact sb_on fun b hb => sm_one (fun _ => 1) (xor_lt (sp_lt hA ha) (sp_lt hB hb))
    rw [sb_on q, sb_mul, sb_one, Int.mul_comm]
  have e0 : sb A (fun a => sb B (fun b => if b = a then (1 : Int) else 0)) = ((2 ^ D.length : Nat) : Int) := by
    have q : ∀ a, sp A a = true → sb B (fun b => if b = a then (1 : Int) else 0) = if sp B a = true then 1 else 0 := fun a ha => by
      rw [← sb_ind iB hB]
      have s := sm_one (m := 2 ^ n) (k := a) (fun v => if sp B v = true then (1 : Int) else 0) (sp_lt hA ha)
      rw [← s]
      refine sm_congr fun v _ => ?_
      by_cases c : v = a
      · rw [if_pos c, if_pos c]
      · rw [if_neg c, if_neg c]
        split <;> rfl
    rw [sb_on q, ← sb_ind iA hA, ← sb_one D, ← sb_ind iD hD]
    refine sm_congr fun v hv => ?_
    by_cases c : sp A v = true
    · rw [if_pos c]
      by_cases d : sp B v = true
      · rw [if_pos d, if_pos ((kD v hv).mpr ⟨c, d⟩)]
      · rw [if_neg d, if_neg fun z => d ((kD v hv).mp z).2]
    · rw [if_neg c, if_neg fun z => c ((kD v hv).mp z).1]
  have e2 : sm (2 ^ n) (fun t => sb A (fun a => sb B (fun b => if t = a ^^^ b then (1 : Int) else 0))) = sm (2 ^ n) (fun t => if sp T t = true then (fun _ => ((2 ^ D.length : Nat) : Int) * 1) t else 0) := by
    refine sm_congr fun t ht => ?_
    by_cases c : sp T t = true
    · rw [if_pos c]
      rw [kT] at c
      obtain ⟨x, y, hx, hy, rfl⟩ := sp_app.mp c
      show _ = _ * 1
      rw [Int.mul_one, ← e0, ← sb_shift hx]
      refine sb_congr fun a => ?_
      rw [← sb_shift hy]
      refine sb_congr fun b => ?_
      have iff1 : (x ^^^ y = a ^^^ x ^^^ (b ^^^ y)) ↔ b = a := by
        constructor
        · intro h
          have h2 : a ^^^ b = 0 := by
            have h3 : a ^^^ x ^^^ (b ^^^ y) = (a ^^^ b) ^^^ (x ^^^ y) := by
              rw [Nat.xor_assoc, Nat.xor_assoc, ← Nat.xor_assoc x, ← Nat.xor_assoc b, Nat.xor_comm x b]
            rw [h3] at h
            have h4 := xor_self2 (a ^^^ b) (x ^^^ y)
            rw [← h, Nat.xor_self] at h4
            exact h4.symm
          have t := xor_self2 b a
          rw [Nat.xor_comm b a, h2, Nat.zero_xor] at t
          exact t.symm
        · rintro rfl
          rw [Nat.xor_assoc, ← Nat.xor_assoc x, Nat.xor_comm x b, Nat.xor_assoc b, ← Nat.xor_assoc b, Nat.xor_self, Nat.zero_xor]
      by_cases c : b = a
      · rw [if_pos c, if_pos (iff1.mpr c)]
      · rw [if_neg c, if_neg fun z => c (iff1.mp z)]
    · rw [if_neg c]
      refine (sb_on (h := fun _ => 0) fun a ha => (sb_on (h := fun _ => 0) fun b hb => if_neg fun z => c ?_).trans (sb_nil B)).trans (sb_nil A)
      rw [kT]
      exact sp_app.mpr ⟨a, b, ha, hb, z⟩
  rw [← e1, e2, sb_ind iT hT, sb_mul, sb_one]
end Oc

set_option Elab.async false
set_option linter.all false
set_option maxRecDepth 100000
set_option maxHeartbeats 4000000
set_option autoImplicit false
namespace OcW
open PySem PySem.Spec PyProof.Rows L2 Evl
open C8 (Cal Met Mak pe_c pe_mk pe_mt InsC call_isC)
section
variable {P : Program} {w : World} {K : PySem.W.Frag} {mg : Str → Option Value} {base : Heap}
theorem t_keep {H H' : Hp} {x t : Addr} {u : HO} {xs : List V} (e : ExB x H H') (hx : H x = some u) (n1 : u ≠ .tup xs) (n2 : ∀ o, u ≠ .frz o (.tup xs)) (h : SqT K H t xs) : SqT K H' t xs := by
  rcases h with (h | ⟨o, h⟩) | h
  · refine .inl (.inl (e t _ (fun z => ?_) h))
    rw [z, hx] at h
    exact n1 (Option.some.inj h)
  · refine .inl (.inr ⟨o, e t _ (fun z => ?_) h⟩)
    rw [z, hx] at h
    exact n2 o (Option.some.inj h)
  · exact .inr h
theorem RoomAt.upB {H H' : Hp} {p r : Addr} {n : Nat} {B : List Nat} (e : ExB p H H') (hP : PotAt H p) (h : RoomAt K H r n B) : RoomAt K H' r n B := by
  obtain ⟨dx, t, h1, h2⟩ := h
  obtain ⟨a, b, hp, _⟩ := hP
  refine ⟨dx, t, e r _ (fun z => ?_) h1, t_keep e hp (fun z => nomatch z) (fun o z => nomatch z) h2⟩
  rw [z, hp] at h1
  cases h1
theorem PotAt.up {H H' : Hp} {p : Addr} (e : Ex H H') (h : PotAt H p) : PotAt H' p := by
  obtain ⟨a, b, hp, r⟩ := h
  exact ⟨a, b, e p _ hp, r⟩
theorem PotAt.ne {H : Hp} {p l : Addr} (h : PotAt H p) (n : H l = none) : l ≠ p := by
  obtain ⟨a, b, hp, r⟩ := h
  exact (ne_of_none hp n).symm
/-- a new room -/
theorem mk_room {H0 : Hp} {n : Nat} {a x dx : Addr} {W : List Nat} {Q : VK} {E : XK} (nx : H0 x = none) (nd : H0 dx = none) (h1 : 1 ≤ n) (h24 : n ≤ 24) (hA : H0 a = some (.lst (W.map nV))) (hl : W.length ≤ 48) (hlt : Oc.Lt n W)
    (q : ∀ (H' : Hp) (B : List Nat), Ex H0 H' → RoomAt K H' x n B → Oc.IsBasis W B → B.length ≤ W.length → Q .non H') :
    sp_initRB K [.ref x, nV n, .ref a] (upd (upd H0 dx (.own x)) x (.ins (aR K) dx [])) Q E := by
  have e0 : Ex H0 (upd (upd H0 dx (.own x)) x (.ins (aR K) dx [])) := ex_made nx nd
  refine ⟨x, dx, n, a, W, rfl, upd_same, h1, h24, e0 a _ hA, hl, hlt, fun H1 t B e1 hT hB hlB => ?_⟩
  have hx : H1 x = some (.ins (aR K) dx []) := e1 x _ upd_same
  refine q _ B (fun b o hb => ?_) ⟨dx, t, upd_same, t_keep ExB.put hx (fun z => nomatch z) (fun o z => nomatch z) hT⟩ hB hlB
  rw [upd_ne (ne_of_none hb nx)]
  exact e1 b _ (e0 b o hb)
theorem lfV_rev (m : Nat) (f : Nat → Int) : (lfV m f).reverse = ((Oc.lf m f).reverse).map V.int := by
  unfold lfV
  rw [List.map_reverse]
theorem odd_map {α β : Type} (g : α → β) (xs : List α) : oddAt (xs.map g) = (oddAt xs).map g := by
  unfold oddAt
  rw [List.length_map, List.map_filterMap]
  refine congrArg (fun h => List.filterMap h (List.range (xs.length / 2))) (funext fun k => ?_)
  rw [List.getElem?_map]
theorem fm_congr {α β : Type} {f g : α → Option β} : ∀ {l : List α}, (∀ x, x ∈ l → f x = g x) → l.filterMap f = l.filterMap g
  | [], _ => rfl
  | a :: r, h => by
    rw [List.filterMap_cons, List.filterMap_cons, h a List.mem_cons_self, fm_congr fun x hx => h x (List.mem_cons_of_mem _ hx)]
theorem odd_lf (m : Nat) (f : Nat → Int) : oddAt (Oc.lf m f) = Oc.lf (m / 2) (fun k => f (1 + 2 * k)) := by
  unfold oddAt
  rw [Oc.lf_len]
  show _ = (List.range (m / 2)).map fun k => f (1 + 2 * k)
  rw [← List.filterMap_eq_map]
  refine fm_congr fun k hk => ?_
  rw [List.mem_range] at hk
  exact Oc.lf_at f (show 1 + 2 * k < m by omega)
structure Held (K : PySem.W.Frag) (p r1 r2 r3 a b c : Addr) (n m : Nat) (A B C : List Nat) (H : Hp) : Prop where
  P : PotAt H p
  R1 : RoomAt K H r1 n A
  R2 : RoomAt K H r2 m B
  R3 : RoomAt K H r3 n C
  La : H a = some (.lst (lfV (n + 1) (Oc.Wb n A)))
  Lb : H b = some (.lst (lfV (m + 1) (Oc.Wb m B)))
  Lc : H c = some (.lst (lfV (n + 1) (Oc.Wb n C)))
theorem Held.up {p r1 r2 r3 a b c : Addr} {n m : Nat} {A B C : List Nat} {H H' : Hp} (e : Ex H H') (h : Held K p r1 r2 r3 a b c n m A B C H) : Held K p r1 r2 r3 a b c n m A B C H' :=
  ⟨h.P.up e, h.R1.up e, h.R2.up e, h.R3.up e, e a _ h.La, e b _ h.Lb, e c _ h.Lc⟩
theorem Held.upB {p r1 r2 r3 a b c : Addr} {n m : Nat} {A B C : List Nat} {H H' : Hp} (e : ExB p H H') (P : PotAt H' p) (na : a ≠ p) (nb : b ≠ p) (nc : c ≠ p) (h : Held K p r1 r2 r3 a b c n m A B C H) : Held K p r1 r2 r3 a b c n m A B C H' :=
  ⟨P, h.R1.upB e h.P, h.R2.upB e h.P, h.R3.upB e h.P, e a _ na h.La, e b _ nb h.Lb, e c _ nc h.Lc⟩
theorem Wb_top {n : Nat} {A : List Nat} (pA : Oc.Plain A) (lA : Oc.Lt n A) (hn : n ≤ 16) (i : Nat) (hi : i ≤ n) : -(2 ^ 64) < Oc.Wb n A i ∧ Oc.Wb n A i < 2 ^ 64 := by
  have h0 := Oc.Wb_nonneg (n := n) pA.ind lA i
  have h1 := Oc.sm_pos (m := n + 1) (g := Oc.Wb n A) (fun i _ => Oc.Wb_nonneg pA.ind lA i) (show i < n + 1 by omega)
  rw [Oc.Wb_total] at h1
  have hl := Oc.ind_len pA.ind lA
  have h2 : 2 ^ A.length ≤ 2 ^ 16 := Nat.pow_le_pow_right (by decide) (by omega)
  omega
theorem pow_bound {k : Nat} (h : k ≤ 16) : -(2 ^ 64) < ((2 ^ k : Nat) : Int) ∧ ((2 ^ k : Nat) : Int) < 2 ^ 64 := by
  have h2 : 2 ^ k ≤ 2 ^ 16 := Nat.pow_le_pow_right (by decide) h
  generalize 2 ^ k = x at h2 ⊢
  omega
theorem andQ {t u : TT} {σ : L2.St} {H : Hp} {Q : Bool → Hp → Prop} (k : ∀ Q : Bool → Hp → Prop, (∀ H', Ex H H' → Q false H') → tAnd t u σ H Q) (h : ∀ H', Ex H H' → Q false H') : tAnd t u σ H Q := k Q h
def sp_right : Sp := fun vs H Q _ => ∃ p : Addr, vs = [.ref p] ∧ PotAt H p ∧ ∀ H', ExB p H H' → Q (.bl true) H'
theorem sc__law_right : FnScope ["_law_pot_here", "_law_near", "_law_both", "_law_whole", "_law_with_all", "_law_at", "_law_places", "_law_many", "_law_far", "_law_last", "_law_one", "_law_two", "_law_three", "_law_common", "_law_total"] ["_law_pot_here"] (defScope (top 76)) := ⟨rfl, rfl, rfl, by decide +kernel, rfl, by decide +kernel, by decide +kernel⟩
theorem C__law_right (T : Top K mg) : Cal P w K mg base 10 "_law_right" sp_right [] := by
  refine cal_of (T.fn 46 _ rfl) sc__law_right (fun _ _ _ _ _ _ us hl => match us, hl with | [_], _ => rfl) (fun vs H Q E h => ?_) (fun cdv A outer s H vs Q E hr h => ?_)
  · obtain ⟨p, rfl, hP, q⟩ := h
    rfl
  obtain ⟨p, rfl, hP, q⟩ := h
  refine ⟨_, (pss_cons (ps_par (i := 6) (j := 7) (by rfl) sc__law_right.nd rfl rfl (by decide) rfl rfl (pa_cons (pe_op n_add (pe_nat 1) (pe_c (C__law_draw T) hr (by decide) rfl (pa_cons (pv 0) (pa_cons (pe_nat 8) pa_nil)))) (pa_cons (pe_op n_add (pe_nat 1) (pe_c (C__law_draw T) hr (by decide) rfl (pa_cons (pv 0) (pa_cons (pe_nat 8) pa_nil)))) pa_nil)) (by rfl)) (pss_cons (ps_set (i := 1) sc__law_right.nd rfl (.inl rfl) (pe_mk (M_Room_b T) hr (by decide) rfl (pa_cons (pv 6) (pa_cons (pe_c (C__law_words T) hr (by decide) rfl (pa_cons (pv 0) (pa_cons (pv 6) (pa_cons (pe_c (C__law_draw T) hr (by decide) rfl (pa_cons (pv 0) (pa_cons (pe_nat 5) pa_nil))) pa_nil)))) pa_nil)))) (pss_cons (ps_par (i := 8) (j := 9) (by rfl) sc__law_right.nd rfl rfl (by decide) rfl rfl (pa_cons (pe_mk (M_Room_b T) hr (by decide) rfl (pa_cons (pv 7) (pa_cons (pe_c (C__law_words T) hr (by decide) rfl (pa_cons (pv 0) (pa_cons (pv 7) (pa_cons (pe_c (C__law_draw T) hr (by decide) rfl (pa_cons (pv 0) (pa_cons (pe_nat 4) pa_nil))) pa_nil)))) pa_nil))) (pa_cons (pe_mk (M_Room_b T) hr (by decide) rfl (pa_cons (pv 6) (pa_cons (pe_c (C__law_words T) hr (by decide) rfl (pa_cons (pv 0) (pa_cons (pv 6) (pa_cons (pe_c (C__law_draw T) hr (by decide) rfl (pa_cons (pv 0) (pa_cons (pe_nat 4) pa_nil))) pa_nil)))) pa_nil))) pa_nil)) (by rfl)) (pss_cons (ps_par3 (i := 10) (j := 11) (l := 12) (by rfl) sc__law_right.nd rfl rfl rfl (by decide) (by decide) (by decide) rfl rfl rfl (pa_cons (pe_c (C_row T) hr (by decide) rfl (pa_cons (pv 1) pa_nil)) (pa_cons (pe_c (C_row T) hr (by decide) rfl (pa_cons (pv 8) pa_nil)) (pa_cons (pe_c (C_row T) hr (by decide) rfl (pa_cons (pv 9) pa_nil)) pa_nil))) (by rfl)) (pss_cons (ps_set (i := 2) sc__law_right.nd rfl (.inl rfl) (pe_c (C__law_times T) hr (by decide) rfl (pa_cons (pv 10) (pa_cons (pv 11) pa_nil)))) (pss_cons (ps_if (PW.pt (pw_or (pt_cmpR (op_neIs hr.units) (pe_c (C_row T) hr (by decide) rfl (pa_cons (pe_c (C_beside T) hr (by decide) rfl (pa_cons (pv 1) (pa_cons (pv 8) pa_nil))) pa_nil)) (pv 2) (nomark _)) (pw_or (pt_cmpR (op_neIs hr.units) (pe_ck (CK_row T) hr (by decide) rfl (pe_c (C_beside T) hr (by decide) rfl (pa_cons (pv 8) (pa_cons (pv 1) pa_nil)))) (pv 2) (nomark _)) (pw_or1 (pt_cmpR (op_neIs hr.units) (pe_c (C_changed T) hr (by decide) rfl (pa_cons (pv 2) pa_nil)) (pe_c (C__law_times T) hr (by decide) rfl (pa_cons (pe_c (C_changed T) hr (by decide) rfl (pa_cons (pv 10) pa_nil)) (pa_cons (pe_c (C_changed T) hr (by decide) rfl (pa_cons (pv 11) pa_nil)) pa_nil))) (nomark _)))))) (pss_one (ps_ret pe_bl)) pss_nil) (pss_cons (ps_if (pt_cmpR (op_neIs hr.units) (pe_c (C_row T) hr (by decide) rfl (pa_cons (pe_c (C_exchanged T) hr (by decide) rfl (pa_cons (pv 1) (pa_cons (pe_c (C__law_sequence T) hr (by decide) rfl (pa_cons (pv 0) (pa_cons (pv 6) pa_nil))) pa_nil))) pa_nil)) (pv 10) (nomark _)) (pss_one (ps_ret pe_bl)) pss_nil) (pss_cons (ps_set (i := 3) sc__law_right.nd rfl (.inl rfl) (pe_op n_sub (pe_op n_shl (pe_nat 1) (pv 6)) (pe_nat 1))) (pss_cons (ps_set (i := 4) sc__law_right.nd rfl (.inl rfl) (pe_c (C_row T) hr (by decide) rfl (pa_cons (pe_c (C_sum_room T) hr (by decide) rfl (pa_cons (pv 1) (pa_cons (pe_mk (M_Room_b T) hr (by decide) rfl (pa_cons (pv 6) (pa_cons (pe_lst (pa_cons (pv 3) pa_nil)) pa_nil))) pa_nil))) pa_nil))) (pss_cons (ps_if (PW.pt (pw_or (pt_cmpR (op_neIs hr.units) (pv 4) (pe_revL (pv 4)) (nomark _)) (pw_or1 (PW.pt (pw_and (pt_val (pe_mt (T_has T) hr (by decide) (pv 1) (pa_cons (pv 3) pa_nil))) (pw_and1 (pt_cmpR (op_neIs hr.units) (pv 10) (pe_revL (pv 10)) (nomark _)))))))) (pss_one (ps_ret pe_bl)) pss_nil) (pss_cons (ps_if (pt_cmpR op_ne (pe_cmpR op_eq (pe_callB (cr_sum rfl) (by rfl) (T.fr 11 _ rfl) (by decide +kernel) (pa_cons (pe_oddL (pv 10)) pa_nil)) pe_int (nomark _)) (pe_mt (T_has T) hr (by decide) (pe_c (C_contrary T) hr (by decide) rfl (pa_cons (pv 1) pa_nil)) (pa_cons (pv 3) pa_nil)) (nomark _)) (pss_one (ps_ret pe_bl)) pss_nil) (pss_cons (ps_par (i := 13) (j := 14) (by rfl) sc__law_right.nd rfl rfl (by decide) rfl rfl (pa_cons (pe_c (C_row T) hr (by decide) rfl (pa_cons (pe_c (C_common_room T) hr (by decide) rfl (pa_cons (pv 1) (pa_cons (pv 9) pa_nil))) pa_nil)) (pa_cons (pe_c (C_row T) hr (by decide) rfl (pa_cons (pe_c (C_sum_room T) hr (by decide) rfl (pa_cons (pv 1) (pa_cons (pv 9) pa_nil))) pa_nil)) pa_nil)) (by rfl)) (pss_cons (ps_for PassesOwn.never rfl (pi_range1 (by rfl) (T.fr 10 _ rfl) (pa_cons (pe_op n_add (pv 6) (pe_nat 1)) pa_nil)) (pg_name (i := 5) sc__law_right.nd rfl (.inl rfl)) (pss_one (ps_if (PW.pt (pw_or (pt_cmpR op_gt (pe_ix (r := rIxL K) ix_list (pv 13) (pv 5) (fun _ _ => rfl)) (pe_callB (call_min2 rfl) (by rfl) (T.fr 6 _ rfl) (by decide +kernel) (pa_cons (pe_ix (r := rIxL K) ix_list (pv 10) (pv 5) (fun _ _ => rfl)) (pa_cons (pe_ix (r := rIxL K) ix_list (pv 12) (pv 5) (fun _ _ => rfl)) pa_nil))) (nomark _)) (pw_or1 (pt_cmpR op_lt (pe_ix (r := rIxL K) ix_list (pv 14) (pv 5) (fun _ _ => rfl)) (pe_callB (call_max2 rfl) (by rfl) (T.fr 7 _ rfl) (by decide +kernel) (pa_cons (pe_ix (r := rIxL K) ix_list (pv 10) (pv 5) (fun _ _ => rfl)) (pa_cons (pe_ix (r := rIxL K) ix_list (pv 12) (pv 5) (fun _ _ => rfl)) pa_nil))) (nomark _))))) (pss_one (ps_ret pe_bl)) pss_nil))) (pss_one (ps_ret (pe_cmpR op_eq (pe_op op_mul (pe_callB (cr_sum rfl) (by rfl) (T.fr 11 _ rfl) (by decide +kernel) (pa_cons (pv 13) pa_nil)) (pe_callB (cr_sum rfl) (by rfl) (T.fr 11 _ rfl) (by decide +kernel) (pa_cons (pv 14) pa_nil))) (pe_op op_mul (pe_callB (cr_sum rfl) (by rfl) (T.fr 11 _ rfl) (by decide +kernel) (pa_cons (pv 10) pa_nil)) (pe_callB (cr_sum rfl) (by rfl) (T.fr 11 _ rfl) (by decide +kernel) (pa_cons (pv 12) pa_nil))) (nomark _))))))))))))))))), ?_⟩
  have eP : ∀ {H1 : Hp}, ExB p H H1 → ExB p H H1 := fun e => e
  refine ⟨_, rfl, p, 8, rfl, hP, by decide, by decide, fun d1 H1 e1 hP1 hd1 => ⟨1, d1, rfl, rfl, _, rfl, p, 8, rfl, hP1, by decide, by decide, fun d2 H2 e2 hP2 hd2 => ⟨1, d2, rfl, rfl, _, _, rfl, ?_⟩⟩⟩
  obtain ⟨n, hn⟩ : ∃ n, n = 1 + d1 := ⟨_, rfl⟩
  obtain ⟨m, hm⟩ : ∃ m, m = 1 + d2 := ⟨_, rfl⟩
  dsimp only
  rw [← hn, ← hm]
  refine ⟨_, rfl, _, rfl, _, rfl, _, rfl, p, 5, rfl, hP2, by decide, by decide, fun d3 H3 e3 hP3 hd3 => ⟨p, n, d3, rfl, hP3, by omega, by omega, by omega, fun l1 H4 W1 nl1 e4 hP4 hl1 hW1 lW1 => ?_⟩⟩
  intro r1 x1 nr1 nx1 ne1
  refine mk_room nr1 nx1 (by omega) (by omega) hl1 (by omega) lW1 fun H5 A e5 hr1 hA hlA => ⟨rfl, ?_⟩
  have hP5 := hP4.up e5
  have ltA := hA.lt lW1
  refine ⟨_, rfl, _, rfl, _, rfl, _, rfl, p, 4, rfl, hP5, by decide, by decide, fun d4 H6 e6 hP6 hd4 => ⟨p, m, d4, rfl, hP6, by omega, by omega, by omega, fun l2 H7 W2 nl2 e7 hP7 hl2 hW2 lW2 => ?_⟩⟩
  intro r2 x2 nr2 nx2 ne2
  refine mk_room nr2 nx2 (by omega) (by omega) hl2 (by omega) lW2 fun H8 B e8 hr2 hB hlB => ⟨rfl, ?_⟩
  have hP8 := hP7.up e8
  have ltB := hB.lt lW2
  refine ⟨_, rfl, _, rfl, _, rfl, _, rfl, p, 4, rfl, hP8, by decide, by decide, fun d5 H9 e9 hP9 hd5 => ⟨p, n, d5, rfl, hP9, by omega, by omega, by omega, fun l3 H10 W3 nl3 e10 hP10 hl3 hW3 lW3 => ?_⟩⟩
  intro r3 x3 nr3 nx3 ne3
  refine mk_room nr3 nx3 (by omega) (by omega) hl3 (by omega) lW3 fun H11 C e11 hr3 hC hlC => ⟨rfl, _, _, rfl, ?_⟩
  have hP11 := hP10.up e11
  have ltC := hC.lt lW3
  have hr2 := ((hr2.upB e9 hP8).upB e10 hP9).up e11
  have hr1 := (((((hr1.upB e6 hP5).upB e7 hP6).up e8).upB e9 hP8).upB e10 hP9).up e11
  have k0 : ExB p H H11 := e1.trans (e2.trans (e3.trans (e4.trans ((ExB.of e5).trans (e6.trans (e7.trans ((ExB.of e8).trans (e9.trans (e10.trans (ExB.of e11))))))))))
  clear e1 e2 e3 e4 e5 e6 e7 e8 e9 e10 e11 hP hP1 hP2 hP3 hP4 hP5 hP6 hP7 hP8 hP9 hP10 hl1 hl2 hl3
  -- the three rows
  refine ⟨_, rfl, r1, n, A, rfl, hr1, hA.plain, ltA, by omega, fun a H12 na e12 ha => ?_⟩
  refine ⟨_, rfl, r2, m, B, rfl, hr2.up e12, hB.plain, ltB, by omega, fun b H13 nb e13 hb => ?_⟩
  refine ⟨_, rfl, r3, n, C, rfl, (hr3.up e12).up e13, hC.plain, ltC, by omega, fun c H14 nc e14 hc => ⟨_, _, _, rfl, ?_⟩⟩
  have hd : Held K p r1 r2 r3 a b c n m A B C H14 := ⟨((hP11.up e12).up e13).up e14, ((hr1.up e12).up e13).up e14, ((hr2.up e12).up e13).up e14, ((hr3.up e12).up e13).up e14, e14 a _ (e13 a _ ha), e14 b _ hb, hc⟩
  have nap : a ≠ p := hP11.ne na
  have nbp : b ≠ p := (hP11.up e12).ne nb
  have ncp : c ≠ p := ((hP11.up e12).up e13).ne nc
  have k14 : ExB p H H14 := k0.trans (ExB.of ((e12.trans e13).trans e14))
  clear e12 e13 e14 ha hb hc hr1 hr2 hr3 hP11 k0
  have lA := Oc.ind_len hA.plain.ind ltA
  have lB := Oc.ind_len hB.plain.ind ltB
  have lC := Oc.ind_len hC.plain.ind ltC
  -- the product
  refine ⟨_, rfl, _, rfl, a, b, n, m, Oc.Wb n A, Oc.Wb m B, rfl, SqL.of hd.La, SqL.of hd.Lb, by omega, by omega, Wb_top hA.plain ltA (by omega), fun l H15 nl e15 hl => ?_⟩
  have hd := hd.up e15
  have pAB := Oc.bes_plain hA.plain hB.plain ltA
  have tAB := Oc.bes_lt ltA ltB
  have wAB := Oc.Wb_bes (n := m) (B := B) ltA
  rw [← wAB] at hl
  refine ⟨_, rfl, _, rfl, r1, r2, n, m, A, B, rfl, hd.R1, hd.R2, by omega, by omega, by omega, ltB, fun rb H16 e16 hrb => ⟨rb, n + m, bes n A B, rfl, hrb, pAB, tAB, by omega, fun q1 H17 n17 e17 hq1 => ?_⟩⟩
  have hd := (hd.up e16).up e17
  have hl := e17 l _ (e16 l _ hl)
  refine ⟨_, rfl, q1, l, _, _, rfl, rfl, SqL.of hq1, SqL.of hl, tst_nf rfl ?_⟩
  have k17 : ExB p H H17 := k14.trans (ExB.of ((e15.trans e16).trans e17))
  clear e15 e16 e17 k14 hrb hq1
  -- the other way round
  have pBA := Oc.bes_plain hB.plain hA.plain ltB
  have tBA := Oc.bes_lt ltB ltA
  refine ⟨_, rfl, _, rfl, r2, r1, m, n, B, A, rfl, hd.R2, hd.R1, by omega, by omega, by omega, ltA, fun rb H18 e18 hrb => ⟨rfl, rfl, rb, m + n, bes m B A, rfl, hrb, pBA, tBA, by omega, fun q1 H19 n19 e19 hq1 => ?_⟩⟩
  have hd := (hd.up e18).up e19
  have hl := e19 l _ (e18 l _ hl)
  have eBA : Oc.lf (m + n + 1) (Oc.Wb (m + n) (bes m B A)) = Oc.lf (n + m + 1) (Oc.Wb (n + m) (bes n A B)) := by
    rw [Oc.Wb_bes ltB, wAB, Oc.cv_comm (m + 1), Nat.add_comm m n]
  refine ⟨_, rfl, q1, l, _, _, rfl, rfl, SqL.of hq1, SqL.of hl, tst_nf eBA ?_⟩
  have k19 : ExB p H H19 := k17.trans (ExB.of (e18.trans e19))
  clear e18 e19 k17 hrb hq1
  -- the changed rows
  obtain ⟨A', hA'⟩ := Oc.basis_ex (Oc.dualGen n A)
  obtain ⟨B', hB'⟩ := Oc.basis_ex (Oc.dualGen m B)
  have ltA' := hA'.lt (Oc.dual_lt hA.plain ltA)
  have ltB' := hB'.lt (Oc.dual_lt hB.plain ltB)
  have pAB' := Oc.bes_plain hA'.plain hB'.plain ltA'
  have tAB' := Oc.bes_lt ltA' ltB'
  have wAB' := Oc.Wb_bes (n := m) (B := B') ltA'
  refine ⟨_, rfl, l, n + m, A.length + B.length, _, Oc.Wb (n + m) (bes n A' B'), rfl, hl, by omega, by omega, fun i _ => Oc.Wb_nonneg pAB.ind tAB i, Oc.Wb_first pAB.ind tAB, by omega, by omega, by rw [Oc.Wb_total, Oc.bes_len], fun j _ => ⟨Oc.Wb_nonneg pAB'.ind tAB' j, by rw [wAB, wAB']; exact Oc.es_bes hA.plain hB.plain ltA ltB hA' hB' j⟩, fun q1 H20 n20 e20 hq1 => ?_⟩
  have hd := hd.up e20
  refine ⟨_, rfl, a, n, A.length, _, Oc.Wb n A', rfl, hd.La, by omega, by omega, fun i _ => Oc.Wb_nonneg hA.plain.ind ltA i, Oc.Wb_first hA.plain.ind ltA, by omega, by omega, Oc.Wb_total n A, fun j _ => ⟨Oc.Wb_nonneg hA'.plain.ind ltA' j, Oc.es_one hA.plain ltA hA' j⟩, fun q2 H21 n21 e21 hq2 => ?_⟩
  have hd := hd.up e21
  refine ⟨_, rfl, b, m, B.length, _, Oc.Wb m B', rfl, hd.Lb, by omega, by omega, fun i _ => Oc.Wb_nonneg hB.plain.ind ltB i, Oc.Wb_first hB.plain.ind ltB, by omega, by omega, Oc.Wb_total m B, fun j _ => ⟨Oc.Wb_nonneg hB'.plain.ind ltB' j, Oc.es_one hB.plain ltB hB' j⟩, fun q3 H22 n22 e22 hq3 => ?_⟩
  refine ⟨q2, q3, n, m, Oc.Wb n A', Oc.Wb m B', rfl, SqL.of (e22 q2 _ hq2), SqL.of hq3, by omega, by omega, Wb_top hA'.plain ltA' (by omega), fun q4 H23 n23 e23 hq4 => ?_⟩
  have hd := (hd.up e22).up e23
  have hq1 := e23 q1 _ (e22 q1 _ (e21 q1 _ hq1))
  rw [← wAB'] at hq4
  refine ⟨q1, q4, _, _, rfl, rfl, SqL.of hq1, SqL.of hq4, tst_nf rfl ?_⟩
  have k23 : ExB p H H23 := k19.trans (ExB.of (((e20.trans e21).trans e22).trans e23))
  clear e20 e21 e22 e23 k19 hq1 hq2 hq3 hq4 hl
  -- places led to others
  refine ⟨_, rfl, _, rfl, _, rfl, p, n, rfl, hd.P, by omega, fun ls H24 S n24 e24 hP24 hls hS => ⟨r1, ls, n, A, S, rfl, hd.R1.upB e24 hd.P, hls, hS, by omega, ltA, by omega, fun rx H25 X e25 hrx hX hlX => ?_⟩⟩
  have hd := (hd.upB e24 hP24 nap nbp ncp).up e25
  obtain ⟨ltX, eX⟩ := Oc.Wb_led hS (by omega) hA.plain ltA hX
  refine ⟨rx, n, X, rfl, hrx, hX.plain, ltX, by omega, fun q1 H26 n26 e26 hq1 => ?_⟩
  have hd := hd.up e26
  rw [eX] at hq1
  refine ⟨_, rfl, q1, a, _, _, rfl, rfl, SqL.of hq1, SqL.of hd.La, tst_nf rfl ?_⟩
  have k26 : ExB p H H26 := k23.trans (e24.trans (ExB.of (e25.trans e26)))
  clear e24 e25 e26 k23 hq1 hls hrx
  -- the whole word
  refine ⟨_, rfl, 1, n, rfl, rfl, ⟨by decide, by omega⟩, 1 * 2 ^ n, 1, rfl, rfl, (by show 1 ≤ 1 * 2 ^ n; rw [Nat.one_mul]; exact Nat.two_pow_pos n), ?_⟩
  dsimp only
  rw [Nat.one_mul]
  have wl := Oc.whole_lt n
  refine ⟨_, rfl, _, rfl, _, rfl, small (show 1 ≤ 1000 by decide), fun l4 n4 => ?_⟩
  have e27 := Ex.new (o := .lst [nV (2 ^ n - 1)]) n4
  have hd := hd.up e27
  intro r4 x4 nr4 nx4 ne4
  have ltW : Oc.Lt n [2 ^ n - 1] := fun v hv => by rw [List.mem_singleton.mp hv]; exact wl
  refine mk_room nr4 nx4 (by omega) (by omega) (W := [2 ^ n - 1]) upd_same (show 1 ≤ 48 by decide) ltW fun H27 Y e28 hr4 hY hlY => ⟨rfl, ?_⟩
  have hd := hd.up e28
  have ltY := hY.lt ltW
  refine ⟨r1, r4, n, A, Y, rfl, hd.R1, hr4, by omega, Nat.le_trans hlY (show 1 ≤ 50 by decide), fun rz H28 Z e29 hrz hZ hlZ => ?_⟩
  have hd := hd.up e29
  have ltZ : Oc.Lt n Z := hZ.lt fun v hv => (List.mem_append.mp hv).elim (ltA v) (ltY v)
  have zw : Oc.sp Z (2 ^ n - 1) = true := by
    rw [hZ.span]
    refine Oc.sp_app.mpr ⟨0, _, Oc.sp_zero A, ?_, (Nat.zero_xor _).symm⟩
    rw [hY.span]
    exact Oc.sp_mem List.mem_cons_self
  refine ⟨rz, n, Z, rfl, hrz, hZ.plain, ltZ, by omega, fun z H29 nz e30 hz => ?_⟩
  have hd := hd.up e30
  have k29 : ExB p H H29 := k26.trans (ExB.of (((e27.trans e28).trans e29).trans e30))
  clear e27 e28 e29 e30 k26 hr4 hrz
  refine ⟨_, rfl, _, rfl, z, _, rfl, SqL.of hz, fun zr nzr => ?_⟩
  rw [lfV_rev]
  have e31 := Ex.new (o := .lst ((Oc.lf (n + 1) (Oc.Wb n Z)).reverse.map V.int)) nzr
  have hd := hd.up e31
  have k30 := k29.trans (ExB.of e31)
  refine ⟨z, zr, _, _, rfl, rfl, SqL.of (e31 z _ hz), SqL.of upd_same, tst_nf (Oc.row_sym zw).symm ?_⟩
  clear e31 k29 hz
  generalize hH : upd H29 zr (HO.lst ((Oc.lf (n + 1) (Oc.Wb n Z)).reverse.map V.int)) = H30 at hd k30 ⊢
  clear hH
  obtain ⟨dx1, t1, hr1, hT1⟩ := hd.R1
  refine andQ (fun Q' hQ => ?_) (fun H31 e31 => iteF ?_)
  · refine ⟨_, rfl, r1, dx1, _, rfl, hr1, fR_has n t1, _, rfl, r1, n, A, 2 ^ n - 1, rfl, ⟨dx1, t1, hr1, hT1⟩, wl, hA.plain, ?_⟩
    cases c : Oc.sp A (2 ^ n - 1) with
    | false => exact ⟨false, rfl, iteF (hQ H30 (Ex.refl _))⟩
    | true =>
      refine ⟨true, rfl, iteT ⟨_, rfl, _, rfl, a, _, rfl, SqL.of hd.La, fun ar nar => ?_⟩⟩
      rw [lfV_rev]
      have e31 := Ex.new (o := .lst ((Oc.lf (n + 1) (Oc.Wb n A)).reverse.map V.int)) nar
      exact ⟨a, ar, _, _, rfl, rfl, SqL.of (e31 a _ hd.La), SqL.of upd_same, false, by rw [decide_eq_true (Oc.row_sym c).symm]; rfl, hQ _ e31⟩
  have hd := hd.up e31
  have k31 := k30.trans (ExB.of e31)
  clear e31 hr1 hT1 k30
  obtain ⟨dx1, t1, hr1, hT1⟩ := hd.R1
  -- even rows
  refine ⟨_, rfl, a, _, rfl, SqL.of hd.La, fun ao nao => ?_⟩
  have e32 := Ex.new (o := .lst (oddAt (lfV (n + 1) (Oc.Wb n A)))) nao
  have eo : oddAt (lfV (n + 1) (Oc.Wb n A)) = (Oc.lf ((n + 1) / 2) fun k => Oc.Wb n A (1 + 2 * k)).map V.int := by
    unfold lfV
    rw [odd_map, odd_lf]
  rw [eo] at e32 ⊢
  have hd := hd.up e32
  refine ⟨ao, _, rfl, SqL.of upd_same, rfl, ?_⟩
  rw [Oc.sum_lf]
  refine ⟨_, rfl, r1, n, A, rfl, hd.R1, hA.plain, ltA, by omega, by omega, fun rd H33 D e33 hrd hD hlD => ?_⟩
  have hd := hd.up e33
  have k33 := k31.trans (ExB.of (e32.trans e33))
  obtain ⟨dx2, t2, hr2, hT2⟩ := hrd
  refine ⟨rd, dx2, _, rfl, hr2, fR_has n t2, _, rfl, rd, n, D, 2 ^ n - 1, rfl, ⟨dx2, t2, hr2, hT2⟩, wl, hD.plain, rfl, tst_nf ?_ ?_⟩
  · rw [← Oc.even_has hA.plain ltA hD]
    exact congrArg V.bl (decide_eq_decide.mpr ⟨fun z => V.int.inj z, fun z => congrArg V.int z⟩)
  clear e32 e33 k31 hr1 hT1 hr2 hT2
  -- what two rooms have in common, their sum
  refine ⟨_, rfl, _, rfl, r1, r3, n, A, C, rfl, hd.R1, hd.R3, by omega, by omega, by omega, ltA, ltC, fun G hG hlG rg H34 e34 hrg => ?_⟩
  have hd := hd.up e34
  have pG := hG.plain.filter (low n)
  have ltG := Oc.low_Lt n G
  refine ⟨rg, n, G.filter (low n), rfl, hrg, pG, ltG, by omega, fun g H35 ng e35 hg => ?_⟩
  have hd := hd.up e35
  refine ⟨_, rfl, _, rfl, r1, r3, n, A, C, rfl, hd.R1, hd.R3, by omega, by omega, fun rt H36 U e36 hrt hU hlU => ?_⟩
  have hd := hd.up e36
  have ltU : Oc.Lt n U := hU.lt fun v hv => (List.mem_append.mp hv).elim (ltA v) (ltC v)
  refine ⟨rt, n, U, rfl, hrt, hU.plain, ltU, by omega, fun u H37 nu e37 hu => ⟨_, _, rfl, ?_⟩⟩
  have hd := hd.up e37
  have hg := e37 g _ (e36 g _ hg)
  have k37 := k33.trans (ExB.of (((e34.trans e35).trans e36).trans e37))
  clear e34 e35 e36 e37 k33 hrg hrt
  have gs : ∀ v, v < 2 ^ n → (Oc.sp (G.filter (low n)) v = true ↔ Oc.sp A v = true ∧ Oc.sp C v = true) := fun v hv => Oc.common_sp ltA ltC hG hv
  have us : ∀ v, Oc.sp U v = Oc.sp (A ++ C) v := hU.span
  have g1 : ∀ j, Oc.Wb n (G.filter (low n)) j ≤ Oc.Wb n A j := Oc.Wb_le pG.ind hA.plain.ind ltG ltA fun v hv h => ((gs v hv).mp h).1
  have g2 : ∀ j, Oc.Wb n (G.filter (low n)) j ≤ Oc.Wb n C j := Oc.Wb_le pG.ind hC.plain.ind ltG ltC fun v hv h => ((gs v hv).mp h).2
  have u1 : ∀ j, Oc.Wb n A j ≤ Oc.Wb n U j := Oc.Wb_le hA.plain.ind hU.plain.ind ltA ltU fun v hv h => by
    rw [us]
    exact Oc.sp_app.mpr ⟨v, 0, h, Oc.sp_zero C, (Nat.xor_zero v).symm⟩
  have u2 : ∀ j, Oc.Wb n C j ≤ Oc.Wb n U j := Oc.Wb_le hC.plain.ind hU.plain.ind ltC ltU fun v hv h => by
    rw [us]
    exact Oc.sp_app.mpr ⟨0, v, Oc.sp_zero A, h, (Nat.zero_xor v).symm⟩
  have lG := Oc.ind_len pG.ind ltG
  have pl := pow_bound (show A.length ≤ 16 by omega)
  have pl2 := pow_bound (show (G.filter (low n)).length ≤ 16 by omega)
  refine ⟨_, rfl, n, 1, rfl, rfl, _, rfl, by omega, by dsimp only; omega, for_it (walk_rangeN (n := n + 1)) (fun i σ H' => ∃ y5 : Option V, σ = [some (.ref p), some (.ref r1), some (.ref l), some (nV (2 ^ n - 1)), some (.ref z), y5, some (nV n), some (nV m), some (.ref r2), some (.ref r3), some (.ref a), some (.ref b), some (.ref c), some (.ref g), some (.ref u)] ∧ H' = H37) ⟨none, rfl, rfl⟩ (fun _ _ _ _ _ => trivial) ?_ ?_⟩
  · rintro i x σ H2 H3 hi ⟨y5, rfl, rfl⟩ ⟨rfl, rfl⟩
    refine ⟨_, rfl, _, rfl, g, _, _, _, rfl, rfl, SqL.of hg, atI_lfV _ rfl hi, _, rfl, _, rfl, a, _, _, _, rfl, rfl, SqL.of hd.La, atI_lfV _ rfl hi, _, rfl, _, rfl, c, _, _, _, rfl, rfl, SqL.of hd.Lc, atI_lfV _ rfl hi, _, _, rfl, _, _, rfl, rfl, tst_f ?_ ?_⟩
    · have := g1 i
      have := g2 i
      split <;> omega
    refine ⟨_, rfl, _, rfl, u, _, _, _, rfl, rfl, SqL.of hu, atI_lfV _ rfl hi, _, rfl, _, rfl, a, _, _, _, rfl, rfl, SqL.of hd.La, atI_lfV _ rfl hi, _, rfl, _, rfl, c, _, _, _, rfl, rfl, SqL.of hd.Lc, atI_lfV _ rfl hi, _, _, rfl, _, _, rfl, rfl, tst_f ?_ ⟨_, rfl, rfl⟩⟩
    · have := u1 i
      have := u2 i
      split <;> omega
  · rintro σ H2 ⟨y5, rfl, rfl⟩
    refine ⟨_, rfl, g, _, rfl, SqL.of hg, _, rfl, u, _, rfl, SqL.of hu, ?_⟩
    rw [Oc.sum_lf, Oc.sum_lf, Oc.Wb_total, Oc.Wb_total]
    refine ⟨_, _, rfl, rfl, .inl pl2, _, rfl, a, _, rfl, SqL.of hd.La, _, rfl, c, _, rfl, SqL.of hd.Lc, ?_⟩
    rw [Oc.sum_lf, Oc.sum_lf, Oc.Wb_total, Oc.Wb_total]
    refine ⟨_, _, rfl, rfl, .inl pl, rfl, ?_⟩
    refine bl_t (Q := Q) ?_ (q _ k37)
    exact congrArg V.int (Oc.sum_count hA.plain.ind hC.plain.ind pG.ind hU.plain.ind ltA ltC ltG ltU gs us)
end
end OcW

set_option Elab.async false
set_option linter.all false
set_option maxRecDepth 100000
set_option maxHeartbeats 4000000
set_option autoImplicit false
namespace OcW
open PySem PySem.Spec PyProof.Rows L2 Evl
open C8 (Cal Met Mak pe_c pe_mk pe_mt InsC call_isC)
section
variable {P : Program} {w : World} {K : PySem.W.Frag} {mg : Str → Option Value} {base : Heap}
def sp_law (K : PySem.W.Frag) : Sp := fun vs H Q _ => ∃ (a : Addr) (ns : List Int), vs = [.ref a] ∧ SqL K H a (ns.map V.int) ∧ ∀ H', Ex H H' → Q (.bl true) H'
theorem sc_law : FnScope ["_law_script", "_law_k"] ["_law_script"] (defScope (top 77)) := ⟨rfl, rfl, rfl, by decide +kernel, rfl, by decide +kernel, by decide +kernel⟩
theorem fok_of {x : Str} {i : Nat} {N ps : List Str} {k : Nat} {sp : Sp} {fd : FuncData} (F : FunD K x x (defArgs (top i)) (defBody (top i)) (defScope (top i)) [] [] (He.ga K x) fd) (S : FnScope N ps (defScope (top i)))
    (len : ∀ vs H Q E, sp vs H Q E → vs.length = ps.length)
    (hbody : ∀ (cdv : Value) (A : Around) (outer : List Env) (s : Shared) (H : Hp) (vs : List V) (Q : VK) (E : XK), Room k (A.deeper (envOfC x (defScope (top i)) s.heap.objs.size (He.ga K x) cdv)) → sp vs H Q E →
      ∃ t, PSs (cxOf CX0 P w K mg base N x (defScope (top i)) (He.ga K x) cdv A outer s H E).nox (defBody (top i)) t ∧ t { nx := fun _ H' => Q .non H', rt := Q } (start N vs) H) : FnOk P w K mg base CX0 (k + 1) (He.ga K x) fd ps sp := by
  refine F.ok S len fun cdv A outer s H vs Q E hr h => ?_
  obtain ⟨t, h1, h2⟩ := hbody cdv A outer s H vs Q E hr h
  exact ⟨t, h1.nox, h2⟩
theorem O_law (T : Top K mg) {fd : FuncData} (F : FunD K "law" "law" (defArgs (top 77)) (defBody (top 77)) (defScope (top 77)) [] [] (He.ga K "law") fd) : FnOk P w K mg base CX0 11 (He.ga K "law") fd ["_law_script"] (sp_law K) := by
  refine fok_of F sc_law (fun vs H Q E h => ?_) (fun cdv A outer s H vs Q E hr h => ?_)
  · obtain ⟨a, ns, rfl, hA, q⟩ := h
    rfl
  obtain ⟨a, ns, rfl, hA, q⟩ := h
  refine ⟨_, (pss_cons (ps_for PassesOwn.never rfl (pi_range1 (by rfl) (T.fr 10 _ rfl) (pa_cons (pe_callB (call_max2 rfl) (by rfl) (T.fr 7 _ rfl) (by decide +kernel) (pa_cons pe_int (pa_cons (pe_callB (call_min2 rfl) (by rfl) (T.fr 6 _ rfl) (by decide +kernel) (pa_cons pe_int (pa_cons (pe_callB call_len_seq (by rfl) (T.fr 5 _ rfl) (by decide +kernel) (pa_cons (pv 0) pa_nil)) pa_nil))) pa_nil))) pa_nil)) (pg_name (i := 1) sc_law.nd rfl (.inl rfl)) (pss_one (ps_if (pt_not (pt_val (pe_c (C__law_right T) hr (by decide) rfl (pa_cons (pe_c (C__law_pot T) hr (by decide) rfl (pa_cons (pv 0) (pa_cons (pv 1) pa_nil))) pa_nil)))) (pss_one (ps_ret pe_bl)) pss_nil))) (pss_one (ps_ret pe_bl))), ?_⟩
  refine ⟨_, rfl, a, _, rfl, .inl hA, _, _, rfl, _, _, rfl, ?_⟩
  generalize hk : (if (if (((ns.map V.int).length : Nat) : Int) < 2 then (((ns.map V.int).length : Nat) : Int) else 2) > 1 then (if (((ns.map V.int).length : Nat) : Int) < 2 then (((ns.map V.int).length : Nat) : Int) else 2) else (1 : Int)) = k
  obtain ⟨n, rfl⟩ : ∃ n : Nat, k = (n : Int) := ⟨k.toNat, by split at hk <;> split at hk <;> omega⟩
  have hn : n ≤ 2 := by split at hk <;> split at hk <;> omega
  refine ⟨_, rfl, by omega, by omega, for_it (walk_rangeN (n := n)) (fun i σ H' => ∃ y1 : Option V, σ = [some (.ref a), y1] ∧ Ex H H') ⟨none, rfl, Ex.refl _⟩ (fun _ _ _ _ _ => trivial) ?_ ?_⟩
  · rintro i x σ H2 H3 hi ⟨y1, rfl, e⟩ ⟨rfl, rfl⟩
    refine ⟨_, rfl, _, rfl, a, ns, i, rfl, ex_l e hA, fun p H4 np e4 hP => ⟨p, rfl, hP, fun H5 e5 => ⟨true, rfl, iteF ⟨_, rfl, fun b o hb => ?_⟩⟩⟩⟩
    exact e5 b o (ne_of_none (e b o hb) np) (e4 b o (e b o hb))
  · rintro σ H2 ⟨y1, rfl, e⟩
    exact q _ e
end
end OcW

set_option Elab.async false
set_option linter.all false
set_option maxRecDepth 100000
set_option maxHeartbeats 4000000
set_option autoImplicit false
/-! ## the law -/
namespace OcH
open PySem PySem.Spec PyProof.Rows L2
theorem facts {P : Program} {w : World} {K : PySem.W.Frag} {h : Heap} {mg : Str → Option Value} {f : Addr} (X : K.In h) (G : h.Ns mainGlobals mg) (hfa : mg ("law" : Str) = some (.ref f)) (c : He.SaysX fa fn [] [] ex w h K) :
    ∃ fd : FuncData, (∀ (s : Shared) (v : Value), BindsTo s fd ⟨[v], []⟩ [("_law_script", v)]) ∧ ∀ base : Heap, K.In base → base.Ns mainGlobals mg → FnOk P w K mg base CX0 11 f fd ["_law_script"] (OcW.sp_law K) := by
  have T := top_of X G c
  obtain ⟨hm, fd, F⟩ := T.fn 47 _ rfl
  have e := hfa.symm.trans hm
  cases e
  have b := FunD.bindsA (ps := ["_law_script"]) F fun _ _ _ _ _ _ us hl => match us, hl with | [_], _ => rfl
  exact ⟨fd, fun s v => b s [v] rfl, fun base _ _ => OcW.O_law T F⟩
end OcH
open PySem PySem.W PySem.Calls PyProof.Rows
theorem PySem.Challenge.cw_owncontraries_k39_whole_rows_beside_and_holds : PySem.Challenge.rw_owncontraries_k39_whole_rows_beside_and.Holds := by
  w_on; o_law
  refine HandSHeadRun.head_any (r := OpenLaw.row PySem.Challenge.rw_owncontraries_k39_whole_rows_beside_and) (q := view (OpenLaw.row PySem.Challenge.rw_owncontraries_k39_whole_rows_beside_and).prog [77]) (H := OcH.hk) (ob := OcH.ob) (M := 6000) (loose := OcH.loose) (d := HandSHeadRun.topDef (OpenLaw.row PySem.Challenge.rw_owncontraries_k39_whole_rows_beside_and).prog 77) (kwd := []) OcH.ob_eq
    (by kernel_rfl) (fun s => by kernel_rfl) OcH.run (by kernel_rfl) (by kernel_rfl) (by kernel_rfl) (by rfl) (by first | assumption | decide +kernel) (by decide +kernel) ⟨rfl, rfl, rfl, rfl, rfl, by decide +kernel⟩ ?hw ?hc
  case hw => w_witness2
  case hc =>
    refine L2.walk_ofE (l := PySem.Challenge.rw_owncontraries_k39_whole_rows_beside_and) (n := 63) (k := 11) (x := "_law_script") (CX := L2.CX0) rfl (by decide) (by kernel_rfl) ⟨rfl, by decide, by decide⟩ ?F (fun _ _ _ _ z => z)
    intro w mg fa h Y G hmg0
    obtain ⟨K, KX, c⟩ := Y
    have hmg : mg ("law" : PySem.Str) = some (.ref fa) := by
      have e : (HandSHeadRun.topDef (OpenLaw.row PySem.Challenge.rw_owncontraries_k39_whole_rows_beside_and).prog 77).name = ("law" : PySem.Str) := by kernel_rfl
      rw [← e]
      exact hmg0
    obtain ⟨fd, hb, hF⟩ := OcH.facts (P := (PySem.Challenge.rw_owncontraries_k39_whole_rows_beside_and).prog) (w := w) KX G hmg c
    exact ⟨K, fd, OcW.sp_law K, KX, hb, fun H a ns hl _ hS => ⟨a, ns, rfl, hS, fun _ _ => rfl⟩, hF⟩

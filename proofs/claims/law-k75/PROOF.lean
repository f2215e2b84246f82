import PyProof.Rows.All
import HandS.ForMost
import HandS.TupAny
import HandS.TupMul
import HandS.Wide
import HandS.WideMore
import HandS.Deep
import HandS.Conv
import HandS.IsInst
import HandS.Walk
import HandS.Zip
import HandS.Style
import HandS.EndBits
import HandS.Exc
import HandS.ExcInit
import HandS.Lambda
import KE.GoesNew
import HandS.TryMany
import HandS.WordsExc
import HandS.Defaults
import HandS.Head0
import HandS.Head1
import HandS.Head2
import HandS.HeadEnd
import HandS.HeadHook1
import HandS.HeadHook2
import HandS.Star
import HandS.Rev
import HandS.SortRule
import KE.KExcInit
import KE.KExcMake
import HandS.Small
import PySem.Challenge.RW_keptrests_k75_whole_tables_and_points_ce
set_option Elab.async false
set_option linter.all false
set_option autoImplicit false
set_option maxRecDepth 100000
set_option maxHeartbeats 4000000
section
/-! DL 0: a tuple once, or not at all. -/
namespace DL
open PySem PySem.Spec L2 PyProof.Rows
theorem tuple_mul1 (l : Addr) (items : Array Value) (n : Nat) (dd : Option Addr) (sl : Array (Option Value)) (x : Int) (u : Tok) (c0 : (decide (x < -(2 ^ 63)) || decide (x ≥ 2 ^ 63)) = false) (c1 : (items.isEmpty || x == 1) = true) :
    Meets (Builtin.«tuple.__mul__» ⟨[.ref l, .int x u], []⟩) (fun _ R s => s.heap.get? l = some { cls := .type "tuple", dict := dd, data := .seq items n, slots := sl } ∧ R (.ok (.ret (Value.ref l))) s) :=
  .of_wp fun prog w A R s h => by
    obtain ⟨hp, g, d, tk, os⟩ := s
    obtain ⟨hl, h⟩ := h
    have f1 := AutoSeq1.idx_int
    have hT : Shared.TypeIs ⟨hp, g, d, tk, os⟩ (.ref l) "tuple" := ⟨_, hl, rfl⟩
    wp_walk using wpAny_loadPart' hl
    repeat (first
      | (refine wpAny_ite_false (decide_eq_false (by rw [c0]; exact Bool.false_ne_true)) ?_; wp_walk using wpAny_loadPart' hl)
      | (refine wpAny_ite_true (decide_eq_true c1) ?_; wp_walk using wpAny_loadPart' hl))
    exact ⟨_, rfl, h⟩
theorem tuple_mul0 (l : Addr) (items : Array Value) (n : Nat) (dd : Option Addr) (sl : Array (Option Value)) (x : Int) (u : Tok) (c0 : (decide (x < -(2 ^ 63)) || decide (x ≥ 2 ^ 63)) = false) (c1 : (items.isEmpty || x == 1) = false) (c2 : (decide (x ≤ 0) || items.isEmpty) = true) :
    Meets (Builtin.«tuple.__mul__» ⟨[.ref l, .int x u], []⟩) (fun _ R s => s.heap.get? l = some { cls := .type "tuple", dict := dd, data := .seq items n, slots := sl } ∧
      R (.ok (.ret (Value.ref s.heap.objs.size))) { s with heap := s.heap.push { cls := Value.type "tuple", data := Data.seq #[] }, toks := s.toks }) :=
  .of_wp fun prog w A R s h => by
    obtain ⟨hp, g, d, tk, os⟩ := s
    obtain ⟨hl, h⟩ := h
    have f1 := AutoSeq1.idx_int
    wp_walk using wpAny_loadPart' hl
    repeat (first
      | (refine wpAny_ite_false (decide_eq_false (by rw [c0]; exact Bool.false_ne_true)) ?_; wp_walk using wpAny_loadPart' hl)
      | (refine wpAny_ite_false (decide_eq_false (by rw [c1]; exact Bool.false_ne_true)) ?_; wp_walk using wpAny_loadPart' hl)
      | (refine wpAny_ite_true (decide_eq_true c2) ?_; wp_walk using wpAny_loadPart' hl)
      | (refine wpAny_ite_false (decide_eq_false (Nat.not_lt.mpr (Nat.zero_le _))) ?_; wp_walk using wpAny_loadPart' hl))
    exact ⟨_, rfl, h⟩
section
variable {X : Cx}
def rRepA (K : PySem.W.Frag) : R2 := fun x y H Q => ∃ l k xs, x = .ref l ∧ y = .int k ∧ SqT K H l xs ∧ -(2 ^ 63) ≤ k ∧ k ≤ 1000 ∧ xs.length ≤ 1000 ∧ (k = 1 ∨ xs = [] → Q (.ref l) H) ∧ (k ≤ 0 ∧ xs ≠ [] → ∀ p, H p = none → Q (.ref p) (upd H p (.tup []))) ∧
  (2 ≤ k ∧ xs ≠ [] → ∀ p, H p = none → Q (.ref p) (upd H p (.tup (List.replicate k.toNat xs).flatten)))
theorem op_repA : OpR X (binaryOp .Mult) (rRepA X.K) := by
  intro pins s σ H x y v u Q I rx ry h
  obtain ⟨l, k, xs, rfl, rfl, hT, hk0, hk1, hz, q1, q2, q3⟩ := h
  by_cases h3 : 2 ≤ k ∧ xs ≠ []
  · exact op_repT pins s σ H _ _ v u Q I rx ry ⟨l, k, xs, rfl, rfl, hT, h3.2, h3.1, hk1, hz, q3 h3⟩
  cases rx
  obtain ⟨t, rfl⟩ := ry
  obtain ⟨its, r, ⟨⟨cls, dd, data, sl⟩, ho, hc, n, hd⟩, hs⟩ := I.tuple hT
  simp only at hc hd
  subst hc hd
  have hle : its.length = xs.length := r.length.symm
  have c0 : (decide (k < -(2 ^ 63)) || decide (k ≥ 2 ^ 63)) = false := by
    rw [decide_eq_false (by omega), decide_eq_false (by omega)] <;> rfl
  by_cases hx : xs = []
  · have he : its = [] := List.eq_nil_of_length_eq_zero (by rw [hle, hx]; rfl)
    have c1 : (its.toArray.isEmpty || k == 1) = true := by rw [he]; rfl
    refine wpAny_binaryOp_repeat_ref (T := "tuple") (U := "int") (by decide) ⟨_, ho, rfl⟩ (fun s' => typeIs_int s' k t) noFill_tuple_mul PySem.F.fills_int_mul PySem.F.slot_int_rmul repeat_tuple PySem.F.slot_int_index.lookup
      (call_meets PySem.F.slot_int_rmul (typeIs_int s k t) PySem.F.entry_int_rmul (PySem.F.args_int_rmul_2 _ _) (int_rmul_tuple k t l its.toArray n dd sl)
        ⟨ho, rfl, ⟨_, ho, rfl⟩, call_meets PySem.F.slot_tuple_mul ⟨_, ho, rfl⟩ PySem.F.entry_tuple_mul (PySem.F.args_tuple_mul_2 _ _) (tuple_mul1 l its.toArray n dd sl k t c0 c1) ⟨ho, ?_⟩⟩)
    exact ⟨.ref l, H, I, rfl, q1 (.inr hx)⟩
  · by_cases hk : k = 1
    · have c1 : (its.toArray.isEmpty || k == 1) = true := by rw [hk]; exact Bool.or_true _
      refine wpAny_binaryOp_repeat_ref (T := "tuple") (U := "int") (by decide) ⟨_, ho, rfl⟩ (fun s' => typeIs_int s' k t) noFill_tuple_mul PySem.F.fills_int_mul PySem.F.slot_int_rmul repeat_tuple PySem.F.slot_int_index.lookup
        (call_meets PySem.F.slot_int_rmul (typeIs_int s k t) PySem.F.entry_int_rmul (PySem.F.args_int_rmul_2 _ _) (int_rmul_tuple k t l its.toArray n dd sl)
          ⟨ho, rfl, ⟨_, ho, rfl⟩, call_meets PySem.F.slot_tuple_mul ⟨_, ho, rfl⟩ PySem.F.entry_tuple_mul (PySem.F.args_tuple_mul_2 _ _) (tuple_mul1 l its.toArray n dd sl k t c0 c1) ⟨ho, ?_⟩⟩)
      exact ⟨.ref l, H, I, rfl, q1 (.inl hk)⟩
    · have hk' : k ≤ 0 := by
        rcases Int.lt_or_le 0 k with h | h
        · exact absurd ⟨by omega, hx⟩ h3
        · exact h
      have hi : its.toArray.isEmpty = false := by
        cases its with
        | nil => exact absurd (List.eq_nil_of_length_eq_zero hle.symm) hx
        | cons a b => rfl
      have c1 : (its.toArray.isEmpty || k == 1) = false := by
        rw [hi, Bool.false_or]
        exact beq_eq_false_iff_ne.mpr (by omega)
      have c2 : (decide (k ≤ 0) || its.toArray.isEmpty) = true := by rw [decide_eq_true hk']; rfl
      refine wpAny_binaryOp_repeat_ref (T := "tuple") (U := "int") (by decide) ⟨_, ho, rfl⟩ (fun s' => typeIs_int s' k t) noFill_tuple_mul PySem.F.fills_int_mul PySem.F.slot_int_rmul repeat_tuple PySem.F.slot_int_index.lookup
        (call_meets PySem.F.slot_int_rmul (typeIs_int s k t) PySem.F.entry_int_rmul (PySem.F.args_int_rmul_2 _ _) (int_rmul_tuple k t l its.toArray n dd sl)
          ⟨ho, rfl, ⟨_, ho, rfl⟩, call_meets PySem.F.slot_tuple_mul ⟨_, ho, rfl⟩ PySem.F.entry_tuple_mul (PySem.F.args_tuple_mul_2 _ _) (tuple_mul0 l its.toArray n dd sl k t c0 c1 c2) ⟨ho, ?_⟩⟩)
      refine ⟨.ref s.heap.objs.size, _, I.laid (t' := s.toks) (o := .tup []) (fun b ob q => Heap.get?_push_of_some _ q) (Nat.le_refl _) ?_, rfl, q2 ⟨hk', hx⟩ _ (I.hok.fresh (Nat.le_refl _))⟩
      exact ⟨Nat.zero_le _, [], .nil, IsTup.new _ _⟩
end
/-! a list taken apart -/
section
variable {prog : Program} {w : World} {A : Around} {E : Value → Shared → Prop} {s : Shared}
theorem draw_list {it t : Addr} {items : Array Value} (hne : t ≠ it) : ∀ (n i : Nat) (s : Shared) (Q : List Value → Shared → Prop), s.heap.IsListIter it t i → s.heap.IsList t items → i + n ≤ items.size →
    (∀ h' : Heap, h'.IsListIter it t (i + n) → Heap.SameBut it s.heap h' → Q ((items.toList.drop i).take n) { s with heap := h' }) → wpAny (model prog w) A (draw (.ref it) n) Q E s
  | 0, i, s, Q, hit, _, _, hQ => by
    show wpAny _ _ (pure []) Q E s
    exact wpAny_pure (by simpa using hQ s.heap hit (Heap.SameBut.refl ..))
  | n + 1, i, s, Q, hit, ht, hle, hQ => by
    have hlt : i < items.size := by omega
    show wpAny _ _ (pyNext (.ref it) >>= _) Q E s
    refine wpAny_bind (wpAny_pyNext_list_item hit ht (x := items[i]) (by simp [hlt]) fun h₁ hit₁ hs₁ => ?_)
    refine wpAny_bind (wpAny_holding (draw_list hne n (i + 1) _ _ hit₁ (ht.extBut hs₁.extBut hne) (by omega) fun h₂ hit₂ hs₂ => wpAny_pure ?_))
    have hd : items.toList.drop i = items[i] :: items.toList.drop (i + 1) := by simp [List.drop_eq_getElem_cons, hlt]
    have := hQ h₂ (by rw [show i + (n + 1) = i + 1 + n by omega]; exact hit₂) (hs₁.trans hs₂)
    rw [hd, List.take_succ_cons] at this
    exact this
theorem unpackItems_list {t : Addr} {items : Array Value} {Q : List Value → Shared → Prop} (hh : A.handled = none) (ht : s.heap.IsList t items)
    (hQ : ∀ h' : Heap, Heap.ExtBut s.heap.objs.size s.heap h' → Q items.toList { s with heap := h' }) : wpAny (model prog w) A (unpackItems (.ref t) items.size none) Q E s := by
  have hlt : t ≠ s.heap.objs.size := by obtain ⟨o, ho, _⟩ := ht; exact Nat.ne_of_lt (Heap.lt_size ho)
  unfold unpackItems
  refine wpAny_bind ?_
  · unfold notIterableAtAll
    refine wpAny_bind (wpAny_specialOf ht.typeIs slot_list_iter.lookup ?_)
    refine wpAny_pure ?_
    simp only [Bool.false_eq_true, if_false]
    refine wpAny_bind (wpAny_holding (wpAny_pyIter_list ht ?_))
    refine wpAny_bind (wpAny_holding (draw_list hlt items.size 0 _ _ ⟨_, Heap.get?_push_size _ rfl, rfl, rfl⟩ (ht.push _) (by omega) fun h₁ hit₁ hs₁ => ?_))
    have hall : List.take items.size (List.drop 0 items.toList) = items.toList := by
      rw [List.drop_zero]; exact List.take_of_length_le (by simp)
    rw [hall]
    rw [if_neg (by simp)]
    have ht₁ : h₁.IsList t items := (ht.push _).extBut hs₁.extBut hlt
    refine wpAny_bind (wpAny_holding (wpAny_pyNext_list_end hh hit₁ ht₁ (by simp) fun h₂ he₂ => ?_))
    simp only [Option.isSome_none, Bool.false_eq_true, if_false]
    refine wpAny_pure (hQ h₂ fun b o hb e => he₂ b o hb (hs₁.extBut b o hb (Heap.get?_push_of_some _ e)))
theorem assign_Tuple_list {env : Env} {elts : List Expr} {x1} {pos : Pos} {t : Addr} {items : Array Value} {Q : Unit → Shared → Prop} (hh : A.handled = none) (ht : s.heap.IsList t items)
    (hn : (assignEach elts env).length = items.size) (hstar : (assignEach elts env).findIdx? (·.1) = none)
    (h : ∀ h' : Heap, Heap.ExtBut s.heap.objs.size s.heap h' → wpAny (model prog w) A (assignInOrder ((assignEach elts env).map (·.2)) items.toList) Q E { s with heap := h' }) :
    wpAny (model prog w) A (assign (.Tuple elts x1 pos) env (.ref t)) Q E s := by
  rw [assign_Tuple]
  refine wpAny_bind (wpAny_standAt ?_)
  unfold unpack
  rw [hn, hstar]
  exact wpAny_bind (wpAny_holding (unpackItems_list hh ht h))
end
section
variable {X : Cx} {pos : Pos}
/-- (a, b, ..) = a list of that length -/
def gLstU (K : PySem.W.Frag) (n : Nat) (t : TGs) : TG := fun v σ H Q => ∃ a xs, v = .ref a ∧ SqL K H a xs ∧ xs.length = n ∧ t xs σ H Q
theorem pg_lstU {es : List Expr} {k : Nat} {t : TGs} {n : Nat} (hc : X.calm = true) (h : PGs X es t)
    (hn : (assignEach es X.env).length = n := by rfl) (hst : (assignEach es X.env).findIdx? (·.1) = none := by rfl) : PG X (.Tuple es k pos) (gLstU X.K n t) := by
  refine ⟨fun pins s σ H v u Q I r hw => ?_⟩
  obtain ⟨a, xs, e1, hq, hl, hw⟩ := hw
  subst e1
  cases r
  obtain ⟨its, rv, ht, hz⟩ := I.list hq
  refine assign_Tuple_list (I.ok.hd hc) ht.isList (by simp [hn, ← hl, rv.length]) hst fun h' hx => ?_
  have I1 : Inv X pins σ H { s with heap := h' } := I.kept (t' := s.toks) fun b o e => hx b o (Nat.ne_of_lt (Heap.lt_size e)) e
  exact h.run pins _ σ H xs _ Q I1 (by simpa using rv) hw
end
end DL

end
section
/-! DL 1: plain data over the abstract heap. -/
namespace DL
open PySem PySem.Spec L2

abbrev D := PyData
abbrev Fg := PySem.W.Frag

/-- data read off frozen objects -/
inductive DV (K : Fg) (F : Hp) : V → D → Prop
  | non : DV K F .non .none
  | bl (b : Bool) : DV K F (.bl b) (.bool b)
  | int (i : Int) : DV K F (.int i) (.int i)
  | str (x : Str) : DV K F (.str x) (.str x)
  | lst {a : Addr} {xs : List V} {ds : List D} (h : F a = some (.lst xs)) (l : xs.length = ds.length) (g : ∀ (i : Nat) x d, xs[i]? = some x → ds[i]? = some d → DV K F x d) : DV K F (.ref a) (.list ds)
  | tup {a : Addr} {xs : List V} {ds : List D} (h : SqT K F a xs) (l : xs.length = ds.length) (g : ∀ (i : Nat) x d, xs[i]? = some x → ds[i]? = some d → DV K F x d) : DV K F (.ref a) (.tuple ds)
  | dct {a : Addr} {kvs : List (Key × V)} {es : List (Str × D)} (h : F a = some (.dK kvs)) (l : kvs.length = es.length)
      (g : ∀ (i : Nat) (p : Key × V) (q : Str × D), kvs[i]? = some p → es[i]? = some q → p.1 = .inr q.1) (g2 : ∀ (i : Nat) (p : Key × V) (q : Str × D), kvs[i]? = some p → es[i]? = some q → DV K F p.2 q.2) : DV K F (.ref a) (.dict (es.map fun p => (.str p.1, p.2)))

/-- an exception: its class, what it keeps -/
structure Exc where
  cls : Str
  fs : List (Str × D)
/-- a value at hand -/
inductive Vl where
  /-- data that never changes any more -/
  | d (x : D)
  /-- a list of the frame's own, that may still change -/
  | loc (n : Nat)
  /-- an object that lives on -/
  | obj (n : Nat)
  /-- the law's script: read, never written -/
  | scr
  /-- the exception at hand -/
  | exc (x : Exc)

/-- a list of a frame's own: open, or frozen -/
inductive LO where
  | op (xs : List D) | fz (xs : List D)
/-- an object that lives on: a list that changes; an instance -/
inductive OO where
  | lst (xs : List D) | ins (c : Str) (fs : List (Str × Vl))
structure S where
  ls : List LO
  os : List OO
  sc : List D := []

/-- where all stands: the frozen part, the frames' lists, the objects, and lists that are being made -/
structure Wd where
  F : Hp
  la : List Addr
  oa : List Addr
  pv : List (Addr × List V)
  sc : Option Addr := none
  xa : Option (Addr × Exc) := none

def SubH (F F' : Hp) : Prop := ∀ a o, F a = some o → F' a = some o
structure Le (W W' : Wd) : Prop where
  F : SubH W.F W'.F
  la : W.la <+: W'.la
  oa : W.oa <+: W'.oa
  pv : W'.pv = W.pv
  sc : W'.sc = W.sc
  xa : W'.xa = W.xa
theorem Le.rfl' {W : Wd} : Le W W := ⟨fun _ _ h => h, List.prefix_refl _, List.prefix_refl _, rfl, rfl, rfl⟩
theorem Le.trans {W W1 W2 : Wd} (a : Le W W1) (b : Le W1 W2) : Le W W2 :=
  ⟨fun x o h => b.F x o (a.F x o h), a.la.trans b.la, a.oa.trans b.oa, b.pv.trans a.pv, b.sc.trans a.sc, b.xa.trans a.xa⟩
/-- .. whatever is being made -/
structure Le0 (W W' : Wd) : Prop where
  F : SubH W.F W'.F
  la : W.la <+: W'.la
  oa : W.oa <+: W'.oa
  sc : W'.sc = W.sc
  xa : W'.xa = W.xa
theorem Le.to0 {W W' : Wd} (l : Le W W') : Le0 W W' := ⟨l.F, l.la, l.oa, l.sc, l.xa⟩
theorem Le0.trans {W W1 W2 : Wd} (a : Le0 W W1) (b : Le0 W1 W2) : Le0 W W2 := ⟨fun x o h => b.F x o (a.F x o h), a.la.trans b.la, a.oa.trans b.oa, b.sc.trans a.sc, b.xa.trans a.xa⟩
theorem Le0.rfl' {W : Wd} : Le0 W W := ⟨fun _ _ h => h, List.prefix_refl _, List.prefix_refl _, rfl, rfl⟩
/-- a floor -/
structure Low (V W : Wd) : Prop where
  le : Le0 V W
  pv : V.pv <:+ W.pv
theorem Low.up {V W W' : Wd} (h : Low V W) (l : Le W W') : Low V W' := ⟨h.le.trans l.to0, by rw [l.pv]; exact h.pv⟩
theorem Low.rfl' {W : Wd} : Low W W := ⟨.rfl', List.suffix_refl _⟩
theorem Low.trans {W W1 W2 : Wd} (a : Low W W1) (b : Low W1 W2) : Low W W2 := ⟨a.le.trans b.le, a.pv.trans b.pv⟩
/-- what stands through a def: the floor of the worlds, the tables of code objects, the module's names, the exception that is handled -/
structure Fl where
  W : Wd
  tb : List (Addr × Str)
  mg : Str → Option Value
  xc : Option (Addr × Value × Option Addr) := none

theorem SubH.rd {F F' : Hp} (s : SubH F F') {a : Addr} {u : HO} (h : Rd F a u) : Rd F' a u := by
  rcases h with h | ⟨o, h⟩
  · exact .inl (s _ _ h)
  · exact .inr ⟨o, s _ _ h⟩
theorem SubH.sqL {K : Fg} {F F' : Hp} (s : SubH F F') {a : Addr} {xs : List V} (h : SqL K F a xs) : SqL K F' a xs := h.elim (fun h => .inl (s.rd h)) .inr
theorem SubH.sqT {K : Fg} {F F' : Hp} (s : SubH F F') {a : Addr} {xs : List V} (h : SqT K F a xs) : SqT K F' a xs := h.elim (fun h => .inl (s.rd h)) .inr
theorem DV.mono {K : Fg} {F F' : Hp} (s : SubH F F') {v : V} {d : D} (h : DV K F v d) : DV K F' v d := by
  induction h with
  | non => exact .non
  | bl b => exact .bl b
  | int i => exact .int i
  | str x => exact .str x
  | lst h l g ih => exact .lst (s _ _ h) l ih
  | tup h l g ih => exact .tup (s.sqT h) l ih
  | dct h l g g2 ih => exact .dct (s _ _ h) l g ih

/-- several -/
def DVs (K : Fg) (F : Hp) (xs : List V) (ds : List D) : Prop := xs.length = ds.length ∧ ∀ (i : Nat) x d, xs[i]? = some x → ds[i]? = some d → DV K F x d
theorem DVs.mono {K : Fg} {F F' : Hp} (s : SubH F F') {v : List V} {d : List D} (h : DVs K F v d) : DVs K F' v d := ⟨h.1, fun i x d a b => (h.2 i x d a b).mono s⟩
theorem DVs.nil {K : Fg} {F : Hp} : DVs K F [] [] := ⟨rfl, fun i x d h => by simp at h⟩
theorem DVs.cons {K : Fg} {F : Hp} {x d xs ds} (h : DV K F x d) (t : DVs K F xs ds) : DVs K F (x :: xs) (d :: ds) := by
  refine ⟨by simp [t.1], fun i y e a b => ?_⟩
  cases i with
  | zero => simp at a b; subst a; subst b; exact h
  | succ i => exact t.2 i y e (by simpa using a) (by simpa using b)
theorem DVs.app {K : Fg} {F : Hp} {xs ds ys es} (h : DVs K F xs ds) (t : DVs K F ys es) : DVs K F (xs ++ ys) (ds ++ es) := by
  refine ⟨by simp [h.1, t.1], fun i y e a b => ?_⟩
  by_cases hi : i < xs.length
  · rw [List.getElem?_append_left hi] at a
    rw [List.getElem?_append_left (by rw [← h.1]; exact hi)] at b
    exact h.2 i y e a b
  · rw [List.getElem?_append_right (by omega)] at a
    rw [List.getElem?_append_right (by rw [← h.1]; omega)] at b
    exact t.2 _ y e a (by rw [h.1]; exact b)
theorem DVs.get {K : Fg} {F : Hp} {xs ds} (h : DVs K F xs ds) {i : Nat} {d : D} (e : ds[i]? = some d) : ∃ x, xs[i]? = some x ∧ DV K F x d := by
  have hl : i < ds.length := (List.getElem?_eq_some_iff.mp e).1
  have : i < xs.length := by rw [h.1]; exact hl
  exact ⟨xs[i], by simp [this], h.2 i _ _ (by simp [this]) e⟩
theorem DVs.get' {K : Fg} {F : Hp} {xs ds} (h : DVs K F xs ds) {i : Nat} {x : V} (e : xs[i]? = some x) : ∃ d, ds[i]? = some d ∧ DV K F x d := by
  have hl : i < xs.length := (List.getElem?_eq_some_iff.mp e).1
  have : i < ds.length := by rw [← h.1]; exact hl
  exact ⟨ds[i], by simp [this], h.2 i _ _ e (by simp [this])⟩
theorem DVs.take {K : Fg} {F : Hp} {xs ds} (h : DVs K F xs ds) (n : Nat) : DVs K F (xs.take n) (ds.take n) := by
  refine ⟨by simp [h.1], fun i y e a b => ?_⟩
  rw [List.getElem?_take] at a b
  split at a
  · rw [if_pos ‹_›] at b; exact h.2 i y e a b
  · cases a
theorem DVs.drop {K : Fg} {F : Hp} {xs ds} (h : DVs K F xs ds) (n : Nat) : DVs K F (xs.drop n) (ds.drop n) := by
  refine ⟨by simp [h.1], fun i y e a b => ?_⟩
  rw [List.getElem?_drop] at a b
  exact h.2 _ y e a b
theorem DVs.set {K : Fg} {F : Hp} {xs ds x d} (h : DVs K F xs ds) (n : Nat) (g : DV K F x d) : DVs K F (xs.set n x) (ds.set n d) := by
  refine ⟨by simp [h.1], fun i y e a b => ?_⟩
  rw [List.getElem?_set] at a b
  by_cases hn : n = i
  · rw [if_pos hn] at a b
    split at a
    · rw [if_pos (by rw [← h.1]; assumption)] at b
      cases a; cases b; exact g
    · cases a
  · rw [if_neg hn] at a b; exact h.2 i y e a b

theorem DVs.inv_nil {K : Fg} {F : Hp} {xs : List V} (h : DVs K F xs []) : xs = [] := List.eq_nil_of_length_eq_zero (by simpa using h.1)
theorem DVs.inv_cons {K : Fg} {F : Hp} {xs : List V} {d ds} (h : DVs K F xs (d :: ds)) : ∃ x r, xs = x :: r ∧ DV K F x d ∧ DVs K F r ds := by
  cases xs with
  | nil => have := h.1; simp at this
  | cons x r =>
    refine ⟨x, r, rfl, h.2 0 x d rfl rfl, ?_⟩
    have h1 := h.1
    simp at h1
    exact ⟨h1, fun i y e a b => h.2 (i + 1) y e (by simpa using a) (by simpa using b)⟩

/-- what a value stands for -/
def VR (K : Fg) (W : Wd) (v : V) : Vl → Prop
  | .d x => DV K W.F v x
  | .loc n => ∃ a, W.la[n]? = some a ∧ v = .ref a
  | .obj n => ∃ a, W.oa[n]? = some a ∧ v = .ref a
  | .scr => ∃ a, W.sc = some a ∧ v = .ref a
  | .exc x => ∃ a, W.xa = some (a, x) ∧ v = .ref a
theorem pre_get {α : Type} {l l' : List α} (p : l <+: l') {n : Nat} {a : α} (h : l[n]? = some a) : l'[n]? = some a := by
  obtain ⟨t, rfl⟩ := p
  rw [List.getElem?_append_left (List.getElem?_eq_some_iff.mp h).1]; exact h
theorem VR.mono0 {K : Fg} {W W' : Wd} (l : Le0 W W') {v : V} {x : Vl} (h : VR K W v x) : VR K W' v x := by
  cases x with
  | d x => exact DV.mono l.F h
  | loc n => obtain ⟨a, h1, h2⟩ := h; exact ⟨a, pre_get l.la h1, h2⟩
  | obj n => obtain ⟨a, h1, h2⟩ := h; exact ⟨a, pre_get l.oa h1, h2⟩
  | scr => obtain ⟨a, h1, h2⟩ := h; exact ⟨a, l.sc.trans h1, h2⟩
  | exc x => obtain ⟨a, h1, h2⟩ := h; exact ⟨a, l.xa.trans h1, h2⟩
theorem VR.mono {K : Fg} {W W' : Wd} (l : Le W W') {v : V} {x : Vl} (h : VR K W v x) : VR K W' v x := VR.mono0 l.to0 h
def VRs (K : Fg) (W : Wd) : List V → List Vl → Prop := Paired fun v x => VR K W v x
theorem VRs.mono {K : Fg} {W W' : Wd} (l : Le W W') : ∀ {vs : List V} {xs : List Vl}, VRs K W vs xs → VRs K W' vs xs
  | _, _, .nil => .nil
  | _, _, .cons r t => .cons (VR.mono l r) (VRs.mono l t)

/-- a frame's slots -/
def VO (K : Fg) (W : Wd) : Option V → Option Vl → Prop
  | _, none => True
  | some v, some x => VR K W v x
  | none, some _ => False
abbrev Rho := List (Option Vl)
def RS (K : Fg) (W : Wd) (σ : St) (ρ : Rho) : Prop := σ.length = ρ.length ∧ ∀ (i : Nat) x, ρ[i]? = some (some x) → ∃ v, σ[i]? = some (some v) ∧ VR K W v x
theorem RS.mono {K : Fg} {W W' : Wd} (l : Le W W') {σ : St} {ρ : Rho} (h : RS K W σ ρ) : RS K W' σ ρ := ⟨h.1, fun i x e => let ⟨v, a, b⟩ := h.2 i x e; ⟨v, a, VR.mono l b⟩⟩
theorem RS.set {K : Fg} {W : Wd} {σ : St} {ρ : Rho} (h : RS K W σ ρ) (i : Nat) {v : V} {x : Vl} (r : VR K W v x) : RS K W (σ.set i (some v)) (ρ.set i (some x)) := by
  refine ⟨by simp [h.1], fun j y e => ?_⟩
  rw [List.getElem?_set] at e
  by_cases hn : i = j
  · rw [if_pos hn] at e
    split at e
    · cases e
      refine ⟨v, ?_, r⟩
      rw [List.getElem?_set, if_pos hn, if_pos (by rw [h.1]; assumption)]
    · cases e
  · rw [if_neg hn] at e
    obtain ⟨v', a, b⟩ := h.2 j y e
    exact ⟨v', by rw [List.getElem?_set, if_neg hn]; exact a, b⟩
def wipeR (ρ : Rho) : List Nat → Rho
  | [] => ρ
  | v :: vs => (wipeR ρ vs).set v none
theorem RS.wipe {K : Fg} {W : Wd} {σ : St} {ρ : Rho} (h : RS K W σ ρ) : ∀ vs : List Nat, RS K W (L2.wipe σ vs) (wipeR ρ vs)
  | [] => h
  | v :: vs => by
    have ih := RS.wipe h vs
    refine ⟨by simp [L2.wipe, wipeR, ih.1], fun j y e => ?_⟩
    unfold wipeR at e
    rw [List.getElem?_set] at e
    by_cases hn : v = j
    · rw [if_pos hn] at e; split at e <;> cases e
    · rw [if_neg hn] at e
      obtain ⟨v', a, b⟩ := ih.2 j y e
      exact ⟨v', by unfold L2.wipe; rw [List.getElem?_set, if_neg hn]; exact a, b⟩
theorem RS.wiped {K : Fg} {W : Wd} {σ : St} {ρ : Rho} (h : RS K W σ ρ) (vs : List Nat) : RS K W σ (wipeR ρ vs) := by
  refine ⟨?_, fun j y e => h.2 j y ?_⟩
  · have : ∀ vs : List Nat, (wipeR ρ vs).length = ρ.length := fun vs => by
      induction vs with
      | nil => rfl
      | cons v vs ih => simp [wipeR, ih]
    rw [this]; exact h.1
  · induction vs with
    | nil => exact e
    | cons v vs ih =>
      unfold wipeR at e
      rw [List.getElem?_set] at e
      split at e
      · split at e <;> cases e
      · exact ih e

def LOk (K : Fg) (F : Hp) (H : Hp) (a : Addr) : LO → Prop
  | .op ds => F a = none ∧ ∃ xs, H a = some (.lst xs) ∧ DVs K F xs ds
  | .fz ds => ∃ xs, F a = some (.lst xs) ∧ DVs K F xs ds
/-- what an object keeps: data, other objects -/
def Keeps (x : Vl) : Prop := ∀ n, x ≠ .loc n
def FsOk (K : Fg) (W : Wd) (vs : List (Str × V)) (fs : List (Str × Vl)) : Prop := (∀ f x, fs.lookup f = some x → Keeps x ∧ ∃ v, vs.lookup f = some v ∧ VR K W v x) ∧ ∀ f, fs.lookup f = none → vs.lookup f = none
theorem FsOk.mono {K : Fg} {W W' : Wd} (l : Le0 W W') {vs : List (Str × V)} {fs : List (Str × Vl)} (h : FsOk K W vs fs) : FsOk K W' vs fs := ⟨fun f x e => let ⟨a, v, b, c⟩ := h.1 f x e; ⟨a, v, b, VR.mono0 l c⟩, h.2⟩
def OOk (K : Fg) (mg : Str → Option Value) (W : Wd) (H : Hp) (a : Addr) : OO → Prop
  | .lst ds => W.F a = none ∧ ∃ xs, H a = some (.lst xs) ∧ DVs K W.F xs ds
  | .ins c fs => W.F a = none ∧ ∃ C dx vs, mg c = some (.ref C) ∧ H a = some (.ins C dx vs) ∧ FsOk K W vs fs
theorem LOk.keep {K : Fg} {F F' H H' : Hp} {a : Addr} {o : LO} (h : LOk K F H a o) (kF : F' a = F a) (kH : ∀ u, H a = some u → H' a = some u) (l : SubH F F') : LOk K F' H' a o := by
  cases o with
  | op ds => obtain ⟨q, xs, q1, q2⟩ := h; exact ⟨kF.trans q, xs, kH _ q1, q2.mono l⟩
  | fz ds => obtain ⟨xs, q1, q2⟩ := h; exact ⟨xs, kF.trans q1, q2.mono l⟩
theorem OOk.keep {K : Fg} {mg : Str → Option Value} {W W' : Wd} {H H' : Hp} {a : Addr} {o : OO} (h : OOk K mg W H a o) (kF : W'.F a = W.F a) (kH : ∀ u, H a = some u → H' a = some u) (l : Le0 W W') : OOk K mg W' H' a o := by
  cases o with
  | lst ds => obtain ⟨q, xs, q1, q2⟩ := h; exact ⟨kF.trans q, xs, kH _ q1, q2.mono l.F⟩
  | ins c fs => obtain ⟨q, C, dx, vs, q1, q2, q3⟩ := h; exact ⟨kF.trans q, C, dx, vs, q1, kH _ q2, q3.mono l⟩
/-- a thing that may be written -/
def Mutb (o : Option HO) : Prop := o = none ∨ (∃ ys, o = some (.lst ys)) ∨ ∃ C dx fs, o = some (.ins C dx fs)
/-- an exception as it stands: its class, its dict -/
def XVal (K : Fg) (mg : Str → Option Value) (F H : Hp) (x : Exc) (cls : Value) (d : Option Addr) : Prop := ∃ C, mg x.cls = some (.ref C) ∧ cls = .ref C ∧
  ((x.fs = [] ∧ d = none) ∨ ∃ a vs, d = some a ∧ H a = some (.xd vs) ∧ ∀ f y, x.fs.lookup f = some y → ∃ v, vs.lookup f = some v ∧ DV K F v y)
theorem XVal.keep {K : Fg} {mg : Str → Option Value} {F F' H H' : Hp} {x : Exc} {cls : Value} {d : Option Addr} (h : XVal K mg F H x cls d) (l : SubH F F') (k : ∀ a vs, H a = some (.xd vs) → H' a = some (.xd vs)) : XVal K mg F' H' x cls d := by
  obtain ⟨C, h1, h2, h3⟩ := h
  refine ⟨C, h1, h2, h3.imp id ?_⟩
  rintro ⟨a, vs, e1, e2, e3⟩
  exact ⟨a, vs, e1, k _ _ e2, fun f y e => let ⟨v, a, b⟩ := e3 f y e; ⟨v, a, DV.mono l b⟩⟩
theorem upd_keep {H : Hp} {p : Addr} {u o : HO} {b : Addr} (hp : Mutb (H p)) (h : H b = some o) (n : (∀ ys, o ≠ .lst ys) ∧ ∀ C dx fs, o ≠ .ins C dx fs) : upd H p u b = some o := by
  rw [upd_ne]
  · exact h
  · rintro rfl
    rcases hp with z | ⟨ys, z⟩ | ⟨C, dx, fs, z⟩
    · rw [z] at h; cases h
    · rw [z] at h; cases h; exact n.1 _ rfl
    · rw [z] at h; cases h; exact n.2 _ _ _ rfl
theorem tabs_put {T : List (Addr × Str)} {H : Hp} {p : Addr} {u : HO} (t : LamX.Tabs T H) (hp : Mutb (H p)) : LamX.Tabs T (upd H p u) := fun q hq => by
  obtain ⟨ps, h1, h2, h3⟩ := t q hq
  refine ⟨ps, upd_keep hp h1 ⟨fun _ z => (by cases z), fun _ _ _ z => (by cases z)⟩, h2, fun pos cv hc => ?_⟩
  obtain ⟨c, e1, e2⟩ := h3 pos cv hc
  refine ⟨c, e1, upd_keep hp e2 ⟨fun _ z => ?_, fun _ _ _ z => ?_⟩⟩ <;> (unfold LamX.CodeO at z; cases z)
/-- the script at a: known, or one of the module's own -/
def ScOk (K : Fg) (H : Hp) (a : Addr) (xs : List V) : Prop := (∃ o, H a = some (.frz o (.lst xs))) ∨
  ∃ (o : Obj) (its : Array Value) (n : Nat), K.lookup a = some o ∧ o.cls = .type "list" ∧ o.dict = none ∧ o.data = .seq its n ∧ its.size ≤ sizeLine ∧ Vals xs its.toList
theorem ScOk.keep {K : Fg} {H H' : Hp} {a : Addr} {xs : List V} (h : ScOk K H a xs) (k : ∀ o, H a = some (.frz o (.lst xs)) → H' a = some (.frz o (.lst xs))) : ScOk K H' a xs :=
  h.elim (fun ⟨o, e⟩ => .inl ⟨o, k o e⟩) .inr
theorem ScOk.sq {K : Fg} {H : Hp} {a : Addr} {xs : List V} (h : ScOk K H a xs) : SqL K H a xs := h.elim (fun ⟨o, e⟩ => .inl (.inr ⟨o, e⟩)) .inr
theorem ScOk.put {K : Fg} {H : Hp} {a p : Addr} {xs : List V} {u : HO} (h : ScOk K H a xs) (hp : Mutb (H p)) : ScOk K (upd H p u) a xs := h.keep fun o e => upd_keep hp e ⟨fun _ z => (by cases z), fun _ _ _ z => (by cases z)⟩
theorem XVal.put {K : Fg} {mg : Str → Option Value} {F F' H : Hp} {x : Exc} {cls : Value} {d : Option Addr} {p : Addr} {u : HO} (h : XVal K mg F H x cls d) (l : SubH F F') (hp : Mutb (H p)) : XVal K mg F' (upd H p u) x cls d := h.keep l fun a vs e => upd_keep hp e ⟨fun _ z => (by cases z), fun _ _ _ z => (by cases z)⟩
/-- how the heap bears the state -/
structure Rp (K : Fg) (Fy : Fl) (W : Wd) (H : Hp) (s : S) : Prop where
  sub : SubH W.F H
  ll : W.la.length = s.ls.length
  l : ∀ (n : Nat) a o, W.la[n]? = some a → s.ls[n]? = some o → LOk K W.F H a o
  ol : W.oa.length = s.os.length
  o : ∀ (n : Nat) a o, W.oa[n]? = some a → s.os[n]? = some o → OOk K Fy.mg W H a o
  p : ∀ q ∈ W.pv, W.F q.1 = none ∧ H q.1 = some (.lst q.2)
  nd : (W.la ++ W.oa ++ W.pv.map (·.1)).Nodup
  x : ∀ a, W.xa = some a → ∃ cls d, Fy.xc = some (a.1, cls, d) ∧ XVal K Fy.mg W.F H a.2 cls d
  s : ∀ a, W.sc = some a → ∃ xs, ScOk K H a xs ∧ DVs K W.F xs s.sc
  low : Low Fy.W W
  tb : LamX.Tabs Fy.tb H

abbrev DQ := Vl → S → Prop
abbrev DX := Exc → S → Prop
abbrev DTE := Rho → S → DQ → Prop
abbrev DTT := Rho → S → (Bool → S → Prop) → Prop
abbrev DTA := Rho → S → (List Vl → S → Prop) → Prop
abbrev Spec := List Vl → S → DQ → DX → Prop

/-- the reading over the heap that a reading over data gives -/
def hE (K : Fg) (Fy : Fl) (t : DTE) : TE := fun σ H Q => ∃ W ρ s Q1, Rp K Fy W H s ∧ RS K W σ ρ ∧ t ρ s Q1 ∧ ∀ d s' v H' W', Q1 d s' → Le W W' → Rp K Fy W' H' s' → VR K W' v d → Q v H'
def hT (K : Fg) (Fy : Fl) (t : DTT) : TT := fun σ H Q => ∃ W ρ s Q1, Rp K Fy W H s ∧ RS K W σ ρ ∧ t ρ s Q1 ∧ ∀ b s' H' W', Q1 b s' → Le W W' → Rp K Fy W' H' s' → Q b H'
def hA (K : Fg) (Fy : Fl) (n : Nat) (t : DTA) : TA := fun σ H Q => ∃ W ρ s Q1, Rp K Fy W H s ∧ RS K W σ ρ ∧ t ρ s Q1 ∧ ∀ ds s' vs H' W', Q1 ds s' → Le W W' → Rp K Fy W' H' s' → VRs K W' vs ds → vs.length = n → Q vs H'
theorem PE.imp {X : Cx} {e : Expr} {t u : TE} (h : PE X e t) (i : ∀ σ H Q, u σ H Q → t σ H Q) : PE X e u := ⟨fun pins s σ H Q I q => h.run pins s σ H Q I (i _ _ _ q)⟩
theorem PT.imp {X : Cx} {e : Expr} {t u : TT} (h : PT X e t) (i : ∀ σ H Q, u σ H Q → t σ H Q) : PT X e u := ⟨fun pins s σ H Q I q => h.run pins s σ H Q I (i _ _ _ q)⟩
theorem PW.imp {X : Cx} {e : Expr} {t u : TT} (h : PW X e t) (i : ∀ σ H Q, u σ H Q → t σ H Q) : PW X e u := ⟨fun wh pins s σ H Q I q => h.run wh pins s σ H Q I (i _ _ _ q)⟩
theorem PA.imp {X : Cx} {e : List Expr} {t u : TA} (h : PA X e t) (i : ∀ σ H Q, u σ H Q → t σ H Q) : PA X e u := ⟨fun pos pins s σ H Q I q => h.run pos pins s σ H Q I (i _ _ _ q)⟩
theorem PS.imp {X : Cx} {e : Stmt} {t u : TS} (h : PS X e t) (i : ∀ D σ H, u D σ H → t D σ H) : PS X e u := ⟨fun pins s σ H D I q => h.run pins s σ H D I (i _ _ _ q)⟩
theorem PSs.imp {X : Cx} {e : List Stmt} {t u : TS} (h : PSs X e t) (i : ∀ D σ H, u D σ H → t D σ H) : PSs X e u := ⟨fun pins s σ H D I q => h.run pins s σ H D I (i _ _ _ q)⟩
theorem PG.imp {X : Cx} {e : Expr} {t u : TG} (h : PG X e t) (i : ∀ v σ H Q, u v σ H Q → t v σ H Q) : PG X e u := ⟨fun pins s σ H v w Q I r q => h.run pins s σ H v w Q I r (i _ _ _ _ q)⟩
theorem PI.imp {X : Cx} {tg e : Expr} {t u : TI} (h : PI X tg e t) (i : ∀ σ H Q, u σ H Q → t σ H Q) : PI X tg e u := ⟨fun pins s σ H Q I q => h.run pins s σ H Q I (i _ _ _ q)⟩

/-! ### the world grows -/
section
variable {K : Fg} {Fy : Fl} {W : Wd} {H : Hp} {s : S}
theorem Rp.lookNone (h : Rp K Fy W H s) {p : Addr} (hp : H p = none) : W.F p = none := by
  cases e : W.F p with
  | none => rfl
  | some o => rw [h.sub p o e] at hp; cases hp
theorem Rp.laMut (h : Rp K Fy W H s) {n : Nat} {a : Addr} (e1 : W.la[n]? = some a) : ∃ xs, H a = some (.lst xs) := by
  have : n < s.ls.length := by rw [← h.ll]; exact (List.getElem?_eq_some_iff.mp e1).1
  have := h.l n a s.ls[n] e1 (by simp [this])
  cases e : s.ls[n] with
  | op ds => rw [e] at this; obtain ⟨_, xs, q, _⟩ := this; exact ⟨xs, q⟩
  | fz ds => rw [e] at this; obtain ⟨xs, q, _⟩ := this; exact ⟨xs, h.sub _ _ q⟩
theorem Rp.oaMut (h : Rp K Fy W H s) {n : Nat} {a : Addr} (e1 : W.oa[n]? = some a) : W.F a = none ∧ ((∃ xs, H a = some (.lst xs)) ∨ ∃ C dx fs, H a = some (.ins C dx fs)) := by
  have : n < s.os.length := by rw [← h.ol]; exact (List.getElem?_eq_some_iff.mp e1).1
  have := h.o n a s.os[n] e1 (by simp [this])
  cases e : s.os[n] with
  | lst ds => rw [e] at this; obtain ⟨z, xs, q, _⟩ := this; exact ⟨z, .inl ⟨xs, q⟩⟩
  | ins c fs => rw [e] at this; obtain ⟨z, C, dx, vs, _, q, _⟩ := this; exact ⟨z, .inr ⟨C, dx, vs, q⟩⟩
theorem Rp.notIn (h : Rp K Fy W H s) {p : Addr} (hp : H p = none) : p ∉ W.la ++ W.oa ++ W.pv.map (·.1) := by
  intro hm
  rcases List.mem_append.mp hm with hm | hm
  · rcases List.mem_append.mp hm with hm | hm
    · obtain ⟨n, hn⟩ := List.getElem?_of_mem hm
      obtain ⟨xs, q⟩ := h.laMut hn
      rw [q] at hp; cases hp
    · obtain ⟨n, hn⟩ := List.getElem?_of_mem hm
      rcases (h.oaMut hn).2 with ⟨xs, q⟩ | ⟨C, dx, fs, q⟩
      · rw [q] at hp; cases hp
      · rw [q] at hp; cases hp
  · obtain ⟨q, hq, rfl⟩ := List.mem_map.mp hm
    have := (h.p q hq).2
    rw [this] at hp; cases hp

/-- the heap changed elsewhere, and the frozen part grew by new objects -/
theorem Rp.grow (h : Rp K Fy W H s) {F' H' : Hp} (k : ∀ a o, H a = some o → H' a = some o) (sF : SubH W.F F') (sub : SubH F' H')
    (fr : ∀ a, a ∈ W.la ++ W.oa ++ W.pv.map (·.1) → F' a = W.F a) : Rp K Fy { W with F := F' } H' s where
  sub := sub
  ll := h.ll
  l := fun n a o e1 e2 => (h.l n a o e1 e2).keep (fr a (List.mem_append_left _ (List.mem_append_left _ (List.mem_of_getElem? e1)))) (k a) sF
  ol := h.ol
  o := fun n a o e1 e2 => (h.o n a o e1 e2).keep (fr a (List.mem_append_left _ (List.mem_append_right _ (List.mem_of_getElem? e1)))) (k a) ⟨sF, List.prefix_refl _, List.prefix_refl _, rfl, rfl⟩
  p := fun q hq => ⟨(fr q.1 (List.mem_append_right _ (List.mem_map.mpr ⟨q, hq, rfl⟩))).trans (h.p q hq).1, k _ _ (h.p q hq).2⟩
  nd := h.nd
  s := fun a e => let ⟨xs, h1, h2⟩ := h.s a e; ⟨xs, h1.keep fun o q => k _ _ q, h2.mono sF⟩
  x := fun a e => let ⟨cls, d, h1, h2⟩ := h.x a e; ⟨cls, d, h1, h2.keep sF fun b vs q => k _ _ q⟩
  low := h.low.up ⟨sF, List.prefix_refl _, List.prefix_refl _, rfl, rfl, rfl⟩
  tb := LamX.Tabs.ext h.tb k
/-- a new frozen object -/
theorem Rp.fresh (h : Rp K Fy W H s) {p : Addr} (hp : H p = none) (o : HO) : Rp K Fy { W with F := upd W.F p o } (upd H p o) s ∧ Le W { W with F := upd W.F p o } := by
  have nF := h.lookNone hp
  have sF : SubH W.F (upd W.F p o) := fun a u e => by rw [upd_ne (ne_of_none e nF)]; exact e
  refine ⟨h.grow (fun a u e => by rw [upd_ne (ne_of_none e hp)]; exact e) sF (fun a u e => ?_) fun a hm => ?_, ⟨sF, List.prefix_refl _, List.prefix_refl _, rfl, rfl, rfl⟩⟩
  · by_cases ha : a = p
    · subst ha; rw [upd_same] at e ⊢; exact e
    · rw [upd_ne ha] at e ⊢; exact h.sub _ _ e
  · exact upd_ne fun e => h.notIn hp (e ▸ hm)
/-- another floor -/
theorem Rp.floor (h : Rp K Fy W H s) {V' : Wd} (l : Low V' W) : Rp K { Fy with W := V' } W H s := ⟨h.sub, h.ll, h.l, h.ol, h.o, h.p, h.nd, h.x, h.s, l, h.tb⟩
/-- what was being made above the floor is let go -/
theorem Rp.drop (h : Rp K Fy W H s) {P : List (Addr × List V)} (hs : P <:+ W.pv) (hl : Fy.W.pv <:+ P) : Rp K Fy { W with pv := P } H s :=
  ⟨h.sub, h.ll, h.l, h.ol, fun n a o e1 e2 => (h.o n a o e1 e2).keep rfl (fun _ e => e) ⟨fun _ _ e => e, List.prefix_refl _, List.prefix_refl _, rfl, rfl⟩, fun q hq => h.p q (hs.subset hq),
    h.nd.sublist (List.Sublist.append (List.Sublist.refl _) (hs.sublist.map _)), h.x, h.s, ⟨⟨h.low.le.F, h.low.le.la, h.low.le.oa, h.low.le.sc, h.low.le.xa⟩, hl⟩, h.tb⟩
end
end DL

end
section
/-! DL 2: a small language over plain data, and what it does. -/
namespace DL
open PySem PySem.Spec L2

inductive BOp where | add | sub | mul | fdiv | mod | pow
  deriving DecidableEq
inductive COp where | eq | ne | lt | le | gt | ge | isIn | notIn | isN | notN
  deriving DecidableEq
inductive TyN where | int | bool | str | tuple | list | dict
  deriving DecidableEq
inductive BI where | len | abs | int | isi (t : TyN) | all | any | sum | max2 | min2 | repr | tuple | list | divmod | str
  deriving DecidableEq
/-- what becomes of a new list: never changed, the frame's own, an object that lives on -/
inductive Pol where | fz | loc | perm
  deriving DecidableEq

inductive E : Type 1 where
  | var (i : Nat) | cI (i : Int) | cB (b : Bool) | cN | cS (x : Str)
  | glob (x : Str) (d : Int)
  | bin (op : BOp) (a b : E)
  | neg (a : E) | not (a : E) | and (a b : E) | or (a b : E)
  | cmp (op : COp) (a b : E) | ch2 (o1 o2 : COp) (a b c : E) | ch3 (o1 o2 o3 : COp) (a b c d : E)
  | ite (c a b : E)
  | tup (xs : E) | lst (p : Pol) (xs : E) | dict0
  | catL (p : Pol) (a b : E) | repL (p : Pol) (a b : E) | lstOf (p : Pol) (a : E)
  | nil | cons (e es : E)
  | ix (a b : E) | slc (a lo hi : E) | rev (a : E)
  | call (f : Str) (sp : Spec) (es : E)
  | callK (f : Str) (ps ns : List Str) (sp : Spec) (es : E)
  | bi (b : BI) (es : E)
  | comp (tg it c elt : E) (own : List (Str × Nat))
  | iVal (e : E) | iR1 (a : E) | iR2 (a b : E) | iEn (a : E) | iZip (a b : E)
  | tN (i : Nat) | tT (ts : E) | tL (ts : E) | tS (a b : E)
  | star (e es : E) | iRev (a : E) | lRng (a : E) | srt (a : E)
  | compL (tg it c elt : E) (own : List (Str × Nat))
  | comp2 (tg it c tg1 it1 c1 elt : E) (own : List (Str × Nat)) (vs1 : List Nat)
  | mIdx (a b : E) | mCnt (a b : E)
  | isX (tab : Str → Bool) (e : E) | fldX (f : Str) (e : E)
  | lamc (f : Str) (tsp : (S → DQ → DX → Prop) → S → DQ → Prop) (m : E)

inductive C : Type 1 where
  | done
  | asg (tg e : E) (k : C)
  | par (is : List Nat) (es : E) (k : C)
  | lc (i : Nat) (e : E) (k : C)
  | expr (e : E) (k : C)
  | app (t e : E) (k : C)
  | ext (t e : E) (k : C)
  | pop (t : E) (k : C)
  | iff (c : E) (a b k : C)
  | for (tg it : E) (b k : C)
  | whl (c : E) (b k : C)
  | ret (e : E) (k : C)
  | nev (k : C)
  | rse (c : Str) (fs : List Str) (es : E)

/-! ### values -/
def asD : Vl → S → Option D
  | .d x, _ => some x
  | .loc n, s => match s.ls[n]? with
    | some (.op xs) => some (.list xs)
    | some (.fz xs) => some (.list xs)
    | none => none
  | .obj n, s => match s.os[n]? with
    | some (.lst xs) => some (.list xs)
    | _ => none
  | .scr, s => some (.list s.sc)
  | .exc _, _ => none
/-- .. but for what is only read -/
def asT : Vl → S → Option D
  | .d x, _ => some x
  | .loc n, s => match s.ls[n]? with
    | some (.op xs) => some (.list xs)
    | some (.fz xs) => some (.list xs)
    | none => none
  | .obj n, s => match s.os[n]? with
    | some (.lst xs) => some (.list xs)
    | _ => none
  | .scr, _ => none
  | .exc _, _ => none
/-- in the place of data: a list of the frame's own is frozen -/
def frz : Vl → S → (D → S → Prop) → Prop
  | .d x, s, K => K x s
  | .loc n, s, K => match s.ls[n]? with
    | some (.op xs) => K (.list xs) { s with ls := s.ls.set n (.fz xs) }
    | some (.fz xs) => K (.list xs) s
    | none => False
  | .obj _, _, _ => False
  | .scr, _, _ => False
  | .exc _, _, _ => False
def frzs : List Vl → S → (List D → S → Prop) → Prop
  | [], s, K => K [] s
  | x :: xs, s, K => frz x s fun d s => frzs xs s fun ds s => K (d :: ds) s

/-! ### operators -/
def intBound (i : Int) : Prop := i.natAbs.log2 < 9000
def arith (op : BOp) (i j : Int) (Q : D → Prop) : Prop := match op with
  | .add => Q (.int (i + j))
  | .sub => Q (.int (i - j))
  | .mul => (CMul i j ∨ CMulW i j) ∧ Q (.int (i * j))
  | .fdiv => j ≠ 0 ∧ j.natAbs.log2 < 9000 ∧ Q (.int (i.fdiv j))
  | .mod => j ≠ 0 ∧ Q (.int (i.fmod j))
  | .pow => CPow i j ∧ Q (.int (i ^ j.toNat))
def binD (op : BOp) (x y : D) (Q : D → Prop) : Prop := match op, x, y with
  | op, .int i, .int j => arith op i j Q
  | .add, .str a, .str b => a.length + b.length ≤ sizeLine ∧ Q (.str (a ++ b))
  | .add, .list a, .list b => a.length + b.length ≤ sizeLine ∧ Q (.list (a ++ b))
  | .add, .tuple a, .tuple b => a.length + b.length ≤ sizeLine ∧ Q (.tuple (a ++ b))
  | .mul, .list a, .int k => -(2 ^ 63) ≤ k ∧ k < 2 ^ 63 ∧ a.length * k.toNat ≤ sizeLine ∧ Q (.list (List.replicate k.toNat a).flatten)
  | .mul, .tuple a, .int k => -(2 ^ 63) ≤ k ∧ k ≤ 1000 ∧ a.length ≤ 1000 ∧ Q (.tuple (List.replicate k.toNat a).flatten)
  | _, _, _ => False
/-- a comparison of data -/
def cmpD (op : COp) (x y : D) (Q : Bool → Prop) : Prop := match op, x, y with
  | .lt, .int i, .int j => Q (decide (i < j))
  | .le, .int i, .int j => Q (decide (i ≤ j))
  | .gt, .int i, .int j => Q (decide (j < i))
  | .ge, .int i, .int j => Q (decide (j ≤ i))
  | .eq, x, y => (∃ a b, x = .str a ∧ y = .str b ∧ Q (decide (a = b))) ∨ (SeqAt.shaped x = true ∧ SeqAt.shaped y = true ∧ Q (PyData.eqv x y))
  | .ne, x, y => (∃ a b, x = .str a ∧ y = .str b ∧ Q (!decide (a = b))) ∨ (SeqAt.shaped x = true ∧ SeqAt.shaped y = true ∧ Q (!PyData.eqv x y))
  | .isIn, x, .list ys => SeqAt.shaped x = true ∧ SeqAt.shaped (.list ys) = true ∧ Q (ys.any fun z => PyData.eqv z x)
  | .notIn, x, .list ys => SeqAt.shaped x = true ∧ SeqAt.shaped (.list ys) = true ∧ Q (!ys.any fun z => PyData.eqv z x)
  | .isIn, .int i, .tuple ys => ∃ zs : List Int, ys = zs.map .int ∧ Q (decide (i ∈ zs))
  | .isIn, .str i, .tuple ys => ∃ zs : List Str, ys = zs.map .str ∧ Q (decide (i ∈ zs))
  | _, _, _ => False
def isNon : Vl → Bool
  | .d .none => true
  | _ => false
def cmpV (op : COp) (x y : Vl) (s : S) (Q : Bool → S → Prop) : Prop := match op with
  | .isN => y = .d .none ∧ Q (isNon x) s
  | .notN => y = .d .none ∧ Q (!isNon x) s
  | op => ∃ a b, asD x s = some a ∧ asD y s = some b ∧ cmpD op a b fun c => Q c s
def tyOf : D → Option TyN
  | .none => none | .bool _ => some .bool | .int _ => some .int | .str _ => some .str | .list _ => some .list | .tuple _ => some .tuple | .dict _ => some .dict
def isiD (t : TyN) (x : D) : Bool := match t, x with
  | .int, .int _ => true | .int, .bool _ => true | .bool, .bool _ => true | .str, .str _ => true | .tuple, .tuple _ => true | .list, .list _ => true | .dict, .dict _ => true
  | _, _ => false
def boolsOf : List D → Option (List Bool)
  | [] => some []
  | .bool b :: r => (boolsOf r).map (b :: ·)
  | _ => none
def intsOf : List D → Option (List Int)
  | [] => some []
  | .int b :: r => (intsOf r).map (b :: ·)
  | _ => none
/-- a built-in -/
def biD (b : BI) (xs : List D) (Q : D → Prop) : Prop := match b, xs with
  | .len, [.list ys] => Q (.int ys.length)
  | .len, [.tuple ys] => Q (.int ys.length)
  | .len, [.str z] => z.length ≤ sizeLine ∧ Q (.int z.length)
  | .abs, [.int i] => Q (.int (if i < 0 then -i else i))
  | .int, [.int i] => Q (.int i)
  | .int, [.bool k] => Q (.int (if k then 1 else 0))
  | .isi t, [x] => Q (.bool (isiD t x))
  | .all, [.list ys] => ∃ bs, boolsOf ys = some bs ∧ Q (.bool (bs.all id))
  | .any, [.list ys] => ∃ bs, boolsOf ys = some bs ∧ Q (.bool (bs.any id))
  | .sum, [.list ys] => ∃ is, intsOf ys = some is ∧ Q (.int is.sum)
  | .max2, [.int i, .int j] => Q (.int (if j > i then j else i))
  | .min2, [.int i, .int j] => Q (.int (if j < i then j else i))
  | .repr, [x] => x.showable = true ∧ x.hasDict = false ∧ x.shown.length ≤ sizeLine ∧ x.depth ≤ 100 ∧ Q (.str x.shown)
  | .tuple, [.list ys] => Q (.tuple ys)
  | .tuple, [.tuple ys] => Q (.tuple ys)
  | .list, [.list ys] => Q (.list ys)
  | .list, [.tuple ys] => Q (.list ys)
  | .divmod, [.int i, .int j] => j ≠ 0 ∧ j.natAbs.log2 < 9000 ∧ Q (.tuple [.int (i.fdiv j), .int (i.fmod j)])
  | .str, [.int i] => i.natAbs.log2 < 1920 ∧ Q (.str (toString i))
  | _, _ => False
def asDs : List Vl → S → Option (List D)
  | [], _ => some []
  | x :: xs, s => (asD x s).bind fun d => (asDs xs s).map (d :: ·)
def ixD (x y : D) (Q : D → Prop) : Prop := match x, y with
  | .list xs, .int i => ∃ v, atI xs i = some v ∧ Q v
  | .tuple xs, .int i => ∃ v, atI xs i = some v ∧ Q v
  | _, _ => False
def cutD {α : Type} (xs : List α) (lo hi : Option Int) : List α := List.take (HT.sIx xs.length xs.length hi - HT.sIx xs.length 0 lo) (List.drop (HT.sIx xs.length 0 lo) xs)
def slcD (x : D) (lo hi : Option Int) (Q : D → Prop) : Prop := match x with
  | .list xs => Q (.list (cutD xs lo hi))
  | .tuple xs => Q (.tuple (cutD xs lo hi))
  | _ => False
def revD (x : D) (Q : D → Prop) : Prop := match x with
  | .list xs => Q (.list xs.reverse)
  | .tuple xs => Q (.tuple xs.reverse)
  | _ => False
def optI : Vl → (Option Int → Prop) → Prop
  | .d (.int i), K => K (some i)
  | _, _ => False
/-- a new list -/
def newL (p : Pol) (ds : List D) (s : S) (Q : DQ) : Prop := ds.length ≤ sizeLine ∧ match p with
  | .fz => Q (.d (.list ds)) s
  | .loc => Q (.loc s.ls.length) { s with ls := s.ls ++ [.op ds] }
  | .perm => Q (.obj s.os.length) { s with os := s.os ++ [.lst ds] }
/-- the list at hand is changed -/
def chgL (x : Vl) (s : S) (f : List D → (List D → Prop) → Prop) (Q : S → Prop) : Prop := match x with
  | .loc n => match s.ls[n]? with
    | some (.op xs) => f xs fun ys => Q { s with ls := s.ls.set n (.op ys) }
    | _ => False
  | .obj n => match s.os[n]? with
    | some (.lst xs) => f xs fun ys => Q { s with os := s.os.set n (.lst ys) }
    | _ => False
  | _ => False
/-- what a walked value asks at each turn -/
def guard (x : Vl) (xs : List D) (s : S) : Prop := match x with
  | .d _ => True
  | .loc n => s.ls[n]? = some (.op xs) ∨ s.ls[n]? = some (.fz xs)
  | .obj n => s.os[n]? = some (.lst xs)
  | .scr => s.sc = xs
  | .exc _ => False
def itemsOf : D → Option (List D)
  | .list xs => some xs
  | .tuple xs => some xs
  | _ => none
def permK (ps ns : List Str) (ds : List Vl) : List Vl := ps.map fun p => ((ns.zip ds).lookup p).getD (.d .none)

abbrev EX := Exc → Rho → S → Prop
abbrev DIt := List D → (S → Prop) → S → Prop
/-- a loop's turns -/
def loopD (G : S → Prop) (step : D → Rho → S → (Rho → S → Prop) → Prop) (fin : Rho → S → Prop) : List D → Rho → S → Prop
  | [], ρ, s => G s ∧ fin ρ s
  | x :: xs, ρ, s => G s ∧ step x ρ s fun ρ s => loopD G step fin xs ρ s
def compD (G : S → Prop) (step : D → S → (Option D → S → Prop) → Prop) (K : List D → S → Prop) : List D → List D → S → Prop
  | [], acc, s => G s ∧ K acc s
  | x :: xs, acc, s => G s ∧ step x s fun y s => match y with
    | some d => acc.length < sizeLine ∧ compD G step K xs (acc ++ [d]) s
    | none => compD G step K xs acc s
/-- two lists of turns, one within the other -/
def compD2 (G : S → Prop) (step : D → List D → S → (List D → S → Prop) → Prop) (K : List D → S → Prop) : List D → List D → S → Prop
  | [], acc, s => G s ∧ K acc s
  | x :: xs, acc, s => G s ∧ step x acc s fun acc s => compD2 G step K xs acc s
def pairD (p : Int × Int) : D := .tuple [.int p.1, .int p.2]
/-- by the first, then by the second -/
def leP (p q : Int × Int) : Prop := p.1 < q.1 ∨ (p.1 = q.1 ∧ p.2 ≤ q.2)
def rangeD (lo : Int) : Nat → List D
  | 0 => []
  | n + 1 => .int lo :: rangeD (lo + 1) n
def enumD (i : Int) : List D → List D
  | [] => []
  | x :: xs => .tuple [.int i, x] :: enumD (i + 1) xs
def zipD : List D → List D → List D
  | x :: xs, y :: ys => .tuple [x, y] :: zipD xs ys
  | _, _ => []

mutual
/-- an expression -/
def rdE (Ex : EX) : E → DTE
  | .var i, ρ, s, Q => ∃ x, ρ[i]? = some (some x) ∧ Q x s
  | .cI i, _, s, Q => Q (.d (.int i)) s
  | .cB b, _, s, Q => Q (.d (.bool b)) s
  | .cN, _, s, Q => Q (.d .none) s
  | .cS x, _, s, Q => Q (.d (.str x)) s
  | .glob _ i, _, s, Q => Q (.d (.int i)) s
  | .bin op a b, ρ, s, Q => rdE Ex a ρ s fun x s => rdE Ex b ρ s fun y s => ∃ u v, asT x s = some u ∧ asT y s = some v ∧ binD op u v fun d => Q (.d d) s
  | .neg a, ρ, s, Q => rdE Ex a ρ s fun x s => ∃ i, x = .d (.int i) ∧ Q (.d (.int (-i))) s
  | .not a, ρ, s, Q => rdT Ex a ρ s fun b s => Q (.d (.bool (!b))) s
  | .and a b, ρ, s, Q => rdE Ex a ρ s fun x s => ∃ c, x = .d (.bool c) ∧ if c = true then rdE Ex b ρ s Q else Q (.d (.bool false)) s
  | .or a b, ρ, s, Q => rdE Ex a ρ s fun x s => ∃ c, x = .d (.bool c) ∧ if c = true then Q (.d (.bool true)) s else rdE Ex b ρ s Q
  | .cmp op a b, ρ, s, Q => rdE Ex a ρ s fun x s => rdE Ex b ρ s fun y s => cmpV op x y s fun c s => Q (.d (.bool c)) s
  | .ch2 o1 o2 a b c, ρ, s, Q => rdE Ex a ρ s fun x s => rdE Ex b ρ s fun y s => cmpV o1 x y s fun k s => if k = true then rdE Ex c ρ s fun z s => cmpV o2 y z s fun k s => Q (.d (.bool k)) s else Q (.d (.bool false)) s
  | .ch3 o1 o2 o3 a b c d, ρ, s, Q => rdE Ex a ρ s fun x s => rdE Ex b ρ s fun y s => cmpV o1 x y s fun k s => if k = true then rdE Ex c ρ s fun z s => cmpV o2 y z s fun k s =>
      if k = true then rdE Ex d ρ s fun w s => cmpV o3 z w s fun k s => Q (.d (.bool k)) s else Q (.d (.bool false)) s else Q (.d (.bool false)) s
  | .ite c a b, ρ, s, Q => rdT Ex c ρ s fun k s => if k = true then rdE Ex a ρ s Q else rdE Ex b ρ s Q
  | .tup xs, ρ, s, Q => rdL Ex xs ρ s fun vs s => frzs vs s fun ds s => ds.length ≤ sizeLine ∧ Q (.d (.tuple ds)) s
  | .lst p xs, ρ, s, Q => rdL Ex xs ρ s fun vs s => frzs vs s fun ds s => newL p ds s Q
  | .dict0, _, s, Q => Q (.d (.dict [])) s
  | .catL p a b, ρ, s, Q => rdE Ex a ρ s fun x s => rdE Ex b ρ s fun y s => ∃ xs ys, asT x s = some (.list xs) ∧ asT y s = some (.list ys) ∧ newL p (xs ++ ys) s Q
  | .repL p a b, ρ, s, Q => rdE Ex a ρ s fun x s => rdE Ex b ρ s fun y s => ∃ (xs : List D) (k : Int), asT x s = some (.list xs) ∧ y = .d (.int k) ∧ (-(2 ^ 63) ≤ k ∧ k < 2 ^ 63) ∧ newL p (List.replicate k.toNat xs).flatten s Q
  | .lstOf p a, ρ, s, Q => rdE Ex a ρ s fun x s => ∃ d xs, asD x s = some d ∧ itemsOf d = some xs ∧ newL p xs s Q
  | .nil, _, _, _ => False
  | .cons _ _, _, _, _ => False
  | .ix a b, ρ, s, Q => rdE Ex a ρ s fun x s => rdE Ex b ρ s fun y s => ∃ u v, asD x s = some u ∧ asD y s = some v ∧ ixD u v fun d => Q (.d d) s
  | .slc a lo hi, ρ, s, Q => rdE Ex a ρ s fun x s => rdO Ex lo ρ s fun i s => rdO Ex hi ρ s fun j s => ∃ u, asD x s = some u ∧ slcD u i j fun d => Q (.d d) s
  | .rev a, ρ, s, Q => rdE Ex a ρ s fun x s => ∃ u, asD x s = some u ∧ revD u fun d => Q (.d d) s
  | .call _ sp es, ρ, s, Q => rdL Ex es ρ s fun vs s => sp vs s Q fun x s => Ex x ρ s
  | .callK _ ps ns sp es, ρ, s, Q => rdL Ex es ρ s fun vs s => sp (permK ps ns vs) s Q fun x s => Ex x ρ s
  | .bi b es, ρ, s, Q => rdL Ex es ρ s fun vs s => ∃ ds, asDs vs s = some ds ∧ biD b ds fun d => Q (.d d) s
  | .comp tg it c elt own, ρ, s, Q => rdI Ex it ρ s fun xs G s =>
      compD G (fun x s K => rdG (fun _ _ _ => False) tg (.d x) (wipeR ρ (own.map (·.2))) s fun ρ s => rdT (fun _ _ _ => False) c ρ s fun b s =>
        if b = true then rdE (fun _ _ _ => False) elt ρ s fun v s => frz v s fun d s => K (some d) s else K none s) (fun ds s => Q (.d (.list ds)) s) xs [] s
  | .iVal _, _, _, _ => False
  | .iR1 _, _, _, _ => False
  | .iR2 _ _, _, _, _ => False
  | .iEn _, _, _, _ => False
  | .iZip _ _, _, _, _ => False
  | .tN _, _, _, _ => False
  | .tT _, _, _, _ => False
  | .tL _, _, _, _ => False
  | .tS _ _, _, _, _ => False
  | .star _ _, _, _, _ => False
  | .iRev _, _, _, _ => False
  | .lRng a, ρ, s, Q => rdE Ex a ρ s fun x s => ∃ n : Int, x = .d (.int n) ∧ (0 ≤ n ∧ n ≤ 16777216) ∧ Q (.d (.list (rangeD 0 n.toNat))) s
  | .srt a, ρ, s, Q => rdE Ex a ρ s fun x s => ∃ ps : List (Int × Int), asD x s = some (.list (ps.map pairD)) ∧ ∀ qs : List (Int × Int), qs.Perm ps → qs.Pairwise leP → Q (.d (.list (qs.map pairD))) s
  | .compL tg it c elt own, ρ, s, Q => rdI Ex it ρ s fun xs G s =>
      compD G (fun x s K => rdG (fun _ _ _ => False) tg (.d x) (wipeR ρ (own.map (·.2))) s fun ρ s => rdT (fun _ _ _ => False) c ρ s fun b s =>
        if b = true then rdE (fun _ _ _ => False) elt ρ s fun v s => frz v s fun d s => K (some d) s else K none s) (fun ds s => Q (.loc s.ls.length) { s with ls := s.ls ++ [.op ds] }) xs [] s
  | .comp2 tg it c tg1 it1 c1 elt own vs1, ρ, s, Q => rdI Ex it ρ s fun xs G s =>
      compD2 G (fun x acc s K => rdG (fun _ _ _ => False) tg (.d x) (wipeR ρ (own.map (·.2))) s fun ρ s => rdT (fun _ _ _ => False) c ρ s fun b s => if b = true then
        rdI (fun _ _ _ => False) it1 ρ s fun ys G1 s => compD G1 (fun y s K' => rdG (fun _ _ _ => False) tg1 (.d y) (wipeR ρ vs1) s fun ρ s => rdT (fun _ _ _ => False) c1 ρ s fun b s =>
          if b = true then rdE (fun _ _ _ => False) elt ρ s fun v s => frz v s fun d s => K' (some d) s else K' none s) K ys acc s
        else K acc s) (fun ds s => Q (.d (.list ds)) s) xs [] s
  | .mIdx a b, ρ, s, Q => rdE Ex a ρ s fun x s => rdE Ex b ρ s fun y s => ∃ (bs : List Bool) (c : Bool) (j : Nat), asD x s = some (.list (bs.map .bool)) ∧ y = .d (.bool c) ∧ bs[j]? = some c ∧ (∀ m z, m < j → bs[m]? = some z → z ≠ c) ∧ Q (.d (.int j)) s
  | .mCnt a b, ρ, s, Q => rdE Ex a ρ s fun x s => rdE Ex b ρ s fun y s => ∃ (bs : List Bool) (c : Bool), asD x s = some (.list (bs.map .bool)) ∧ y = .d (.bool c) ∧ Q (.d (.int (bs.count c : Nat))) s
  | .isX tab e, ρ, s, Q => rdE Ex e ρ s fun x s => ∃ z, x = .exc z ∧ Q (.d (.bool (tab z.cls))) s
  | .fldX f e, ρ, s, Q => rdE Ex e ρ s fun x s => ∃ z d, x = .exc z ∧ z.fs.lookup f = some d ∧ Q (.d d) s
  | .lamc _ tsp m, ρ, s, Q => tsp (fun s Q' X' => rdE (fun x _ s => X' x s) m ρ s Q') s Q
/-- a test -/
def rdT (Ex : EX) : E → DTT
  | .not a, ρ, s, Q => rdT Ex a ρ s fun b s => Q (!b) s
  | .and a b, ρ, s, Q => rdT Ex a ρ s fun c s => if c = true then rdT Ex b ρ s Q else Q false s
  | .or a b, ρ, s, Q => rdT Ex a ρ s fun c s => if c = true then Q true s else rdT Ex b ρ s Q
  | .cB b, _, s, Q => Q b s
  | .cmp op a b, ρ, s, Q => rdE Ex a ρ s fun x s => rdE Ex b ρ s fun y s => cmpV op x y s Q
  | .ch2 o1 o2 a b c, ρ, s, Q => rdE Ex a ρ s fun x s => rdE Ex b ρ s fun y s => cmpV o1 x y s fun k s => if k = true then rdE Ex c ρ s fun z s => cmpV o2 y z s Q else Q false s
  | .ch3 o1 o2 o3 a b c d, ρ, s, Q => rdE Ex a ρ s fun x s => rdE Ex b ρ s fun y s => cmpV o1 x y s fun k s => if k = true then rdE Ex c ρ s fun z s => cmpV o2 y z s fun k s =>
      if k = true then rdE Ex d ρ s fun w s => cmpV o3 z w s Q else Q false s else Q false s
  | .call _ sp es, ρ, s, Q => rdL Ex es ρ s fun vs s => sp vs s (fun x s => ∃ b, x = .d (.bool b) ∧ Q b s) fun x s => Ex x ρ s
  | .bi b es, ρ, s, Q => rdL Ex es ρ s fun vs s => ∃ ds, asDs vs s = some ds ∧ biD b ds fun d => ∃ b, d = .bool b ∧ Q b s
  | .var i, ρ, s, Q => ∃ b, ρ[i]? = some (some (.d (.bool b))) ∧ Q b s
  | _, _, _, _ => False
/-- arguments -/
def rdL (Ex : EX) : E → DTA
  | .nil, _, s, Q => Q [] s
  | .cons e es, ρ, s, Q => rdE Ex e ρ s fun x s => rdL Ex es ρ s fun xs s => Q (x :: xs) s
  | .star e es, ρ, s, Q => rdE Ex e ρ s fun x s => ∃ d xs, asD x s = some d ∧ itemsOf d = some xs ∧ rdL Ex es ρ s fun ys s => Q (xs.map .d ++ ys) s
  | _, _, _, _ => False
/-- a slice's end -/
def rdO (Ex : EX) : E → Rho → S → (Option Int → S → Prop) → Prop
  | .nil, _, s, Q => Q none s
  | .cons e _, ρ, s, Q => rdE Ex e ρ s fun x s => ∃ i, x = .d (.int i) ∧ Q (some i) s
  | _, _, _, _ => False
/-- what is walked -/
def rdI (Ex : EX) : E → Rho → S → DIt → Prop
  | .iVal e, ρ, s, K => rdE Ex e ρ s fun x s => ∃ d xs, asD x s = some d ∧ itemsOf d = some xs ∧ K xs (guard x xs) s
  | .iR1 a, ρ, s, K => rdE Ex a ρ s fun x s => ∃ j : Int, x = .d (.int j) ∧ -(2 ^ 62) ≤ j ∧ j < 2 ^ 62 ∧ K (rangeD 0 j.toNat) (fun _ => True) s
  | .iR2 a b, ρ, s, K => rdE Ex a ρ s fun x s => rdE Ex b ρ s fun y s => ∃ i j : Int, x = .d (.int i) ∧ y = .d (.int j) ∧ (-(2 ^ 62) ≤ i ∧ i < 2 ^ 62 ∧ -(2 ^ 62) ≤ j ∧ j < 2 ^ 62) ∧ K (rangeD i (j - i).toNat) (fun _ => True) s
  | .iEn a, ρ, s, K => rdE Ex a ρ s fun x s => ∃ d xs, asD x s = some d ∧ itemsOf d = some xs ∧ xs.length < 2 ^ 62 ∧ K (enumD 0 xs) (guard x xs) s
  | .iZip a b, ρ, s, K => rdE Ex a ρ s fun x s => rdE Ex b ρ s fun y s => ∃ d xs e ys, asD x s = some d ∧ itemsOf d = some xs ∧ asD y s = some e ∧ itemsOf e = some ys ∧ (∀ zs, d = .list zs → e = .list ys) ∧ K (zipD xs ys) (fun s => guard x xs s ∧ guard y ys s) s
  | .iRev a, ρ, s, K => rdE Ex a ρ s fun x s => ∃ xs, asD x s = some (.list xs) ∧ K xs.reverse (guard x xs) s
  | _, _, _, _ => False
/-- a target -/
def rdG (Ex : EX) : E → Vl → Rho → S → (Rho → S → Prop) → Prop
  | .tN i, v, ρ, s, K => K (ρ.set i (some v)) s
  | .tT ts, v, ρ, s, K => ∃ xs, v = .d (.tuple xs) ∧ rdGs Ex ts xs ρ s K
  | .tL ts, v, ρ, s, K => ∃ xs, v = .d (.list xs) ∧ rdGs Ex ts xs ρ s K
  | .tS a b, v, ρ, s, K => rdE Ex a ρ s fun x s => rdE Ex b ρ s fun y s => frz v s fun d s => ∃ i : Int, y = .d (.int i) ∧ chgL x s (fun xs R => ∃ j, ixN xs.length i = some j ∧ R (xs.set j d)) fun s => K ρ s
  | _, _, _, _, _ => False
def rdGs (Ex : EX) : E → List D → Rho → S → (Rho → S → Prop) → Prop
  | .nil, xs, ρ, s, K => xs = [] ∧ K ρ s
  | .cons t ts, xs, ρ, s, K => ∃ x r, xs = x :: r ∧ rdG Ex t (.d x) ρ s fun ρ s => rdGs Ex ts r ρ s K
  | _, _, _, _, _ => False
end

/-- what is wanted behind a block -/
structure DE where
  nx : Rho → S → Prop
  rt : DQ
  bk : Rho → S → Prop := fun _ _ => False
  ct : Rho → S → Prop := fun _ _ => False
def setS : Rho → List Nat → List Vl → Rho
  | ρ, i :: is, v :: vs => setS (ρ.set i (some v)) is vs
  | ρ, _, _ => ρ
def whileD (test : Rho → S → (Bool → S → Prop) → Prop) (body : (Rho → S → Prop) → Rho → S → Prop) (fin : Rho → S → Prop) : Nat → Rho → S → Prop
  | 0, _, _ => False
  | n + 1, ρ, s => test ρ s fun b s => if b = true then body (whileD test body fin n) ρ s else fin ρ s

def rdC (Ex : EX) : C → DE → Rho → S → Prop
  | .done, X, ρ, s => X.nx ρ s
  | .asg tg e k, X, ρ, s => rdE Ex e ρ s fun x s => rdG Ex tg x ρ s fun ρ s => rdC Ex k X ρ s
  | .par is es k, X, ρ, s => rdL Ex es ρ s fun vs s => rdC Ex k X (setS ρ is vs) s
  | .lc i e k, X, ρ, s => rdE Ex e ρ s fun x s => rdC Ex k X (ρ.set i (some x)) s
  | .expr e k, X, ρ, s => rdE Ex e ρ s fun _ s => rdC Ex k X ρ s
  | .app t e k, X, ρ, s => rdE Ex t ρ s fun x s => (∃ zs, asT x s = some (.list zs)) ∧ rdE Ex e ρ s fun y s => frz y s fun d s => chgL x s (fun xs R => xs.length < sizeLine ∧ R (xs ++ [d])) fun s => rdC Ex k X ρ s
  | .ext t e k, X, ρ, s => rdE Ex t ρ s fun x s => (∃ zs, asT x s = some (.list zs)) ∧ rdE Ex e ρ s fun y s => ∃ ys, asT y s = some (.list ys) ∧ chgL x s (fun xs R => xs.length + ys.length < sizeLine ∧ R (xs ++ ys)) fun s => rdC Ex k X ρ s
  | .pop t k, X, ρ, s => rdE Ex t ρ s fun x s => chgL x s (fun xs R => xs ≠ [] ∧ R xs.dropLast) fun s => rdC Ex k X ρ s
  | .iff c a b k, X, ρ, s => rdT Ex c ρ s fun z s => if z = true then rdC Ex a { X with nx := rdC Ex k X } ρ s else rdC Ex b { X with nx := rdC Ex k X } ρ s
  | .for tg it b k, X, ρ, s => rdI Ex it ρ s fun xs G s =>
      loopD G (fun x ρ s K => rdG Ex tg (.d x) ρ s fun ρ s => rdC Ex b { X with nx := K, ct := K, bk := rdC Ex k X } ρ s) (rdC Ex k X) xs ρ s
  | .whl c b k, X, ρ, s => ∃ n, whileD (fun ρ s K => rdT Ex c ρ s K) (fun K ρ s => rdC Ex b { X with nx := K, ct := K, bk := rdC Ex k X } ρ s) (rdC Ex k X) n ρ s
  | .ret e _, X, ρ, s => rdE Ex e ρ s X.rt
  | .nev _, _, _, _ => False
  | .rse c fs es, _, ρ, s => rdL Ex es ρ s fun vs s => frzs vs s fun ds s => ds.length = fs.length ∧ Ex ⟨c, fs.zip ds⟩ ρ s

def cutS (m : Nat) (s : S) : S := { s with ls := s.ls.take m }
/-- a def hands back: its own lists go, one that is handed back is frozen -/
def retD (m : Nat) (x : Vl) (s : S) (Q : DQ) : Prop := match x with
  | .loc n => if n < m then Q (.loc n) (cutS m s) else match s.ls[n]? with
    | some (.op xs) => Q (.d (.list xs)) (cutS m s)
    | some (.fz xs) => Q (.d (.list xs)) (cutS m s)
    | none => False
  | x => Q x (cutS m s)
def startD (n : Nat) (vs : List Vl) : Rho := vs.map some ++ List.replicate (n - vs.length) none
/-- a def: n slots, its body -/
def rdF (n : Nat) (c : C) (vs : List Vl) (s : S) (Q : DQ) (Ex : DX) : Prop :=
  rdC (fun x _ s' => Ex x (cutS s.ls.length s')) c { nx := fun _ s' => Q (.d .none) (cutS s.ls.length s'), rt := fun x s' => retD s.ls.length x s' Q } (startD n vs) s
end DL

end
section
/-! DL 3: values and operators over the heap. -/
namespace DL
open PySem PySem.Spec L2

section
variable {K : Fg} {Fy : Fl} {W : Wd} {H : Hp} {s : S} {v : V} {x : Vl} {d : D} {ds : List D}

theorem DV.mono' {F F' : Hp} (h : DV K F v d) (s : SubH F F') : DV K F' v d := DV.mono s h
theorem get_len {α β : Type} {l : List α} {m : List β} (h : l.length = m.length) {n : Nat} {b : β} (e : m[n]? = some b) : ∃ a, l[n]? = some a := by
  have : n < l.length := by rw [h]; exact (List.getElem?_eq_some_iff.mp e).1
  exact ⟨l[n], by simp [this]⟩

/-- a list at hand that is tracked -/
theorem asT_list (r : Rp K Fy W H s) (h : VR K W v x) (e : asT x s = some (.list ds)) : ∃ a xs, v = .ref a ∧ H a = some (.lst xs) ∧ DVs K W.F xs ds := by
  cases x with
  | d y =>
    simp only [asT, Option.some.injEq] at e
    subst e
    cases (show DV K W.F v (.list ds) from h) with
    | lst h1 l g => exact ⟨_, _, rfl, r.sub _ _ h1, l, g⟩
  | loc n =>
    obtain ⟨a, h1, rfl⟩ := h
    cases q : s.ls[n]? with
    | none => simp [asT, q] at e
    | some o =>
      have k := r.l n a o h1 q
      cases o with
      | op xs =>
        simp only [asT, q, Option.some.injEq, PyData.list.injEq] at e
        subst e
        obtain ⟨_, ys, z, zz⟩ := k
        exact ⟨a, ys, rfl, z, zz⟩
      | fz xs =>
        simp only [asT, q, Option.some.injEq, PyData.list.injEq] at e
        subst e
        obtain ⟨ys, z, zz⟩ := k
        exact ⟨a, ys, rfl, r.sub _ _ z, zz⟩
  | obj n =>
    obtain ⟨a, h1, rfl⟩ := h
    cases q : s.os[n]? with
    | none => simp [asT, q] at e
    | some o =>
      have k := r.o n a o h1 q
      cases o with
      | lst xs =>
        simp only [asT, q, Option.some.injEq, PyData.list.injEq] at e
        subst e
        obtain ⟨_, ys, z, zz⟩ := k
        exact ⟨a, ys, rfl, z, zz⟩
      | ins c fs => simp [asT, q] at e
  | scr => simp [asT] at e
  | exc x => simp [asT] at e
/-- a list at hand -/
theorem asD_list (r : Rp K Fy W H s) (h : VR K W v x) (e : asD x s = some (.list ds)) : ∃ a xs, v = .ref a ∧ SqL K H a xs ∧ DVs K W.F xs ds := by
  cases x with
  | exc x => simp [asD] at e
  | scr =>
    obtain ⟨a, h1, rfl⟩ := h
    simp only [asD, Option.some.injEq, PyData.list.injEq] at e
    obtain ⟨xs, h2, h3⟩ := r.s a h1
    exact ⟨a, xs, rfl, h2.sq, e ▸ h3⟩
  | obj n =>
    obtain ⟨a, xs, e1, e2, e3⟩ := asT_list r h (show asT (.obj n) s = _ from e)
    exact ⟨a, xs, e1, .inl (.inl e2), e3⟩
  | d y =>
    obtain ⟨a, xs, e1, e2, e3⟩ := asT_list r h (show asT (.d y) s = _ from e)
    exact ⟨a, xs, e1, .inl (.inl e2), e3⟩
  | loc n =>
    obtain ⟨a, xs, e1, e2, e3⟩ := asT_list r h (show asT (.loc n) s = _ from e)
    exact ⟨a, xs, e1, .inl (.inl e2), e3⟩
/-- anything else is data -/
theorem asD_d (e : asD x s = some d) (n : ∀ xs, d ≠ .list xs) : x = .d d := by
  cases x with
  | d y => simp only [asD, Option.some.injEq] at e; rw [e]
  | loc m =>
    simp only [asD] at e
    split at e <;> first | (cases e; exact absurd rfl (n _)) | cases e
  | obj m =>
    simp only [asD] at e
    split at e <;> first | (cases e; exact absurd rfl (n _)) | cases e
  | scr =>
    simp only [asD, Option.some.injEq] at e
    exact absurd e.symm (n _)
  | exc x => simp [asD] at e
theorem asT_asD (e : asT x s = some d) : asD x s = some d := by
  cases x with
  | d y => exact e
  | loc m => exact e
  | obj m => exact e
  | scr => simp [asT] at e
  | exc x => simp [asT] at e
theorem VR.tup (r : Rp K Fy W H s) (h : VR K W v (.d (.tuple ds))) : ∃ a xs, v = .ref a ∧ SqT K H a xs ∧ SqT K W.F a xs ∧ DVs K W.F xs ds := by
  cases (show DV K W.F v (.tuple ds) from h) with
  | tup h1 l g => exact ⟨_, _, rfl, r.sub.sqT h1, h1, l, g⟩
theorem VR.int {i : Int} (h : VR K W v (.d (.int i))) : v = .int i := by cases (show DV K W.F v (.int i) from h); rfl
theorem VR.bl {i : Bool} (h : VR K W v (.d (.bool i))) : v = .bl i := by cases (show DV K W.F v (.bool i) from h); rfl
theorem VR.str {i : Str} (h : VR K W v (.d (.str i))) : v = .str i := by cases (show DV K W.F v (.str i) from h); rfl
theorem VR.non (h : VR K W v (.d .none)) : v = .non := by cases (show DV K W.F v .none from h); rfl
theorem asD_int {i : Int} (h : VR K W v x) (e : asD x s = some (.int i)) : v = .int i := by
  have q := asD_d e (by intro xs z; cases z); subst q; exact VR.int h
theorem asD_str {i : Str} (h : VR K W v x) (e : asD x s = some (.str i)) : v = .str i := by
  have q := asD_d e (by intro xs z; cases z); subst q; exact VR.str h
theorem asD_bl {i : Bool} (h : VR K W v x) (e : asD x s = some (.bool i)) : v = .bl i := by
  have q := asD_d e (by intro xs z; cases z); subst q; exact VR.bl h
theorem asD_tup (r : Rp K Fy W H s) (h : VR K W v x) (e : asD x s = some (.tuple ds)) : ∃ a xs, v = .ref a ∧ SqT K H a xs ∧ SqT K W.F a xs ∧ DVs K W.F xs ds := by
  have q := asD_d e (by intro xs z; cases z); subst q; exact VR.tup r h

/-- data as the library's readers take it -/
theorem dpall_of {K : Fg} {F : Hp} : ∀ {xs : List V} {ds : List D}, xs.length = ds.length → (∀ (i : Nat) x d, xs[i]? = some x → ds[i]? = some d → Dp K F x d) → DpAll K F xs ds
  | [], [], _, _ => .nil
  | [], _ :: _, l, _ => by simp at l
  | _ :: _, [], l, _ => by simp at l
  | x :: xs, d :: ds, l, g => .cons (g 0 x d rfl rfl) (dpall_of (by simpa using l) fun i y e a b => g (i + 1) y e (by simpa using a) (by simpa using b))
theorem hasDictAll_get {ds : List D} (h : PyData.hasDictAll ds = false) : ∀ (i : Nat) d, ds[i]? = some d → d.hasDict = false := by
  induction ds with
  | nil => intro i d e; simp at e
  | cons x xs ih =>
    have h' : x.hasDict = false ∧ PyData.hasDictAll xs = false := by simpa [PyData.hasDictAll] using h
    intro i d e
    cases i with
    | zero => simp at e; subst e; exact h'.1
    | succ i => exact ih h'.2 i d (by simpa using e)
theorem DV.dp {F : Hp} (h : DV K F v d) : d.hasDict = false → Dp K F v d := by
  induction h with
  | non => intro _; exact .non
  | bl b => intro _; exact .bl b
  | int i => intro _; exact .int i
  | str z => intro _; exact .str z
  | lst h l g ih => intro n; exact .lst (.inl (.inl h)) (dpall_of l fun i y e a b => ih i y e a b (hasDictAll_get (by simpa [PyData.hasDict] using n) i e b))
  | tup h l g ih => intro n; exact .tup h (dpall_of l fun i y e a b => ih i y e a b (hasDictAll_get (by simpa [PyData.hasDict] using n) i e b))
  | dct h l g g2 ih => intro n; simp [PyData.hasDict] at n
theorem asD_dp (r : Rp K Fy W H s) (h : VR K W v x) (e : asD x s = some d) (n : d.hasDict = false) : Dp K H v d := by
  by_cases hl : ∃ xs, d = .list xs
  · obtain ⟨xs, rfl⟩ := hl
    obtain ⟨a, ys, rfl, h1, h2⟩ := asD_list r h e
    exact .lst h1 (dpall_of h2.1 fun i y z a b => ((h2.2 i y z a b).mono' r.sub).dp (hasDictAll_get (by simpa [PyData.hasDict] using n) i z b))
  · have q := asD_d e (fun xs z => hl ⟨xs, z⟩)
    subst q
    exact ((show DV K W.F v d from h).mono' r.sub).dp n
end

/-! ### what is wanted behind -/
def Post (K : Fg) (Fy : Fl) (W : Wd) (Q1 : DQ) (Q : VK) : Prop := ∀ d s' v H' W', Q1 d s' → Le W W' → Rp K Fy W' H' s' → VR K W' v d → Q v H'
def PostB (K : Fg) (Fy : Fl) (W : Wd) (Q1 : Bool → S → Prop) (Q : Bool → Hp → Prop) : Prop := ∀ d s' H' W', Q1 d s' → Le W W' → Rp K Fy W' H' s' → Q d H'
theorem Post.le {K : Fg} {Fy : Fl} {W W' : Wd} {Q1 : DQ} {Q : VK} (h : Post K Fy W Q1 Q) (l : Le W W') : Post K Fy W' Q1 Q := fun d s' v H' W2 q l2 => h d s' v H' W2 q (l.trans l2)
abbrev G2 := Vl → Vl → S → DQ → Prop
/-- two values -/
def hR (K : Fg) (Fy : Fl) (g : G2) : R2 := fun v u H Q => ∃ W s x y Q1, Rp K Fy W H s ∧ VR K W v x ∧ VR K W u y ∧ g x y s Q1 ∧ Post K Fy W Q1 Q
def hU (K : Fg) (Fy : Fl) (g : Vl → S → DQ → Prop) : V → Hp → VK → Prop := fun v H Q => ∃ W s x Q1, Rp K Fy W H s ∧ VR K W v x ∧ g x s Q1 ∧ Post K Fy W Q1 Q
def hN (K : Fg) (Fy : Fl) (g : List Vl → S → DQ → Prop) : List V → Hp → VK → Prop := fun vs H Q => ∃ W s xs Q1, Rp K Fy W H s ∧ VRs K W vs xs ∧ g xs s Q1 ∧ Post K Fy W Q1 Q
/-- an expression, then more -/
theorem hE_bind {K : Fg} {Fy : Fl} {t : DTE} {σ : L2.St} {H : Hp} {Q : VK} {W : Wd} {ρ : Rho} {s : S} {Q1 : DQ} (r : Rp K Fy W H s) (rs : RS K W σ ρ) (h : t ρ s Q1)
    (k : ∀ d s' v H' W', Q1 d s' → Le W W' → Rp K Fy W' H' s' → VR K W' v d → RS K W' σ ρ → Q v H') : hE K Fy t σ H Q :=
  ⟨W, ρ, s, Q1, r, rs, h, fun d s' v H' W' q l r' v' => k d s' v H' W' q l r' v' (rs.mono l)⟩
theorem hT_bind {K : Fg} {Fy : Fl} {t : DTT} {σ : L2.St} {H : Hp} {Q : Bool → Hp → Prop} {W : Wd} {ρ : Rho} {s : S} {Q1 : Bool → S → Prop} (r : Rp K Fy W H s) (rs : RS K W σ ρ) (h : t ρ s Q1)
    (k : ∀ d s' H' W', Q1 d s' → Le W W' → Rp K Fy W' H' s' → RS K W' σ ρ → Q d H') : hT K Fy t σ H Q :=
  ⟨W, ρ, s, Q1, r, rs, h, fun d s' H' W' q l r' => k d s' H' W' q l r' (rs.mono l)⟩
theorem hA_bind {K : Fg} {Fy : Fl} {n : Nat} {t : DTA} {σ : L2.St} {H : Hp} {Q : List V → Hp → Prop} {W : Wd} {ρ : Rho} {s : S} {Q1 : List Vl → S → Prop} (r : Rp K Fy W H s) (rs : RS K W σ ρ) (h : t ρ s Q1)
    (k : ∀ d s' v H' W', Q1 d s' → Le W W' → Rp K Fy W' H' s' → VRs K W' v d → RS K W' σ ρ → v.length = n → Q v H') : hA K Fy n t σ H Q :=
  ⟨W, ρ, s, Q1, r, rs, h, fun d s' v H' W' q l r' v' z => k d s' v H' W' q l r' v' (rs.mono l) z⟩
theorem hE_op {K : Fg} {Fy : Fl} {g : G2} {ta tb : DTE} {σ : L2.St} {H : Hp} {Q : VK} (h : hE K Fy (fun ρ s Q => ta ρ s fun x s => tb ρ s fun y s => g x y s Q) σ H Q) : tOp (hR K Fy g) (hE K Fy ta) (hE K Fy tb) σ H Q := by
  obtain ⟨W, ρ, s, Q1, r, rs, ht, hp⟩ := h
  refine hE_bind r rs ht fun x s1 v H1 W1 q1 l1 r1 v1 rs1 => hE_bind r1 rs1 q1 fun y s2 u H2 W2 q2 l2 r2 v2 rs2 => ?_
  exact ⟨W2, s2, x, y, Q1, r2, VR.mono l2 v1, v2, q2, fun d s' v H' W' q l r' v' => hp d s' v H' W' q (l1.trans (l2.trans l)) r' v'⟩
theorem hE_un {K : Fg} {Fy : Fl} {g : Vl → S → DQ → Prop} {ta : DTE} {σ : L2.St} {H : Hp} {Q : VK} (h : hE K Fy (fun ρ s Q => ta ρ s fun x s => g x s Q) σ H Q) : tUn (hU K Fy g) (hE K Fy ta) σ H Q := by
  obtain ⟨W, ρ, s, Q1, r, rs, ht, hp⟩ := h
  exact hE_bind r rs ht fun x s1 v H1 W1 q1 l1 r1 v1 rs1 => ⟨W1, s1, x, Q1, r1, v1, q1, fun d s' v H' W' q l r' v' => hp d s' v H' W' q (l1.trans l) r' v'⟩
theorem hE_cb {K : Fg} {Fy : Fl} {n : Nat} {g : List Vl → S → DQ → Prop} {ta : DTA} {σ : L2.St} {H : Hp} {Q : VK} (h : hE K Fy (fun ρ s Q => ta ρ s fun x s => g x s Q) σ H Q) : tCB (hN K Fy g) (hA K Fy n ta) σ H Q := by
  obtain ⟨W, ρ, s, Q1, r, rs, ht, hp⟩ := h
  exact hA_bind r rs ht fun x s1 v H1 W1 q1 l1 r1 v1 rs1 _ => ⟨W1, s1, x, Q1, r1, v1, q1, fun d s' v H' W' q l r' v' => hp d s' v H' W' q (l1.trans l) r' v'⟩

/-! ### ends: a scalar, a new list, a new tuple -/
section
variable {K : Fg} {Fy : Fl} {W : Wd} {H : Hp} {s : S} {Q1 : DQ} {Q : VK}
theorem Post.int (h : Post K Fy W Q1 Q) (r : Rp K Fy W H s) {i : Int} (q : Q1 (.d (.int i)) s) : Q (.int i) H := h _ _ _ _ _ q .rfl' r (show DV K W.F _ _ from .int i)
theorem Post.bl (h : Post K Fy W Q1 Q) (r : Rp K Fy W H s) {i : Bool} (q : Q1 (.d (.bool i)) s) : Q (.bl i) H := h _ _ _ _ _ q .rfl' r (show DV K W.F _ _ from .bl i)
theorem Post.str (h : Post K Fy W Q1 Q) (r : Rp K Fy W H s) {i : Str} (q : Q1 (.d (.str i)) s) : Q (.str i) H := h _ _ _ _ _ q .rfl' r (show DV K W.F _ _ from .str i)
theorem Post.non (h : Post K Fy W Q1 Q) (r : Rp K Fy W H s) (q : Q1 (.d .none) s) : Q .non H := h _ _ _ _ _ q .rfl' r (show DV K W.F _ _ from .non)
theorem Post.newL (h : Post K Fy W Q1 Q) (r : Rp K Fy W H s) {xs : List V} {ds : List D} (x : DVs K W.F xs ds) (q : Q1 (.d (.list ds)) s) : ∀ p, H p = none → Q (.ref p) (upd H p (.lst xs)) := fun p hp => by
  obtain ⟨r', l⟩ := r.fresh hp (.lst xs)
  exact h _ _ _ _ _ q l r' (show DV K (upd W.F p _) _ _ from .lst upd_same x.1 fun i y e a b => (x.2 i y e a b).mono' l.F)
theorem Post.newT (h : Post K Fy W Q1 Q) (r : Rp K Fy W H s) {xs : List V} {ds : List D} (x : DVs K W.F xs ds) (q : Q1 (.d (.tuple ds)) s) : ∀ p, H p = none → Q (.ref p) (upd H p (.tup xs)) := fun p hp => by
  obtain ⟨r', l⟩ := r.fresh hp (.tup xs)
  exact h _ _ _ _ _ q l r' (show DV K (upd W.F p _) _ _ from .tup (.inl (.inl upd_same)) x.1 fun i y e a b => (x.2 i y e a b).mono' l.F)
theorem Post.oldT (h : Post K Fy W Q1 Q) (r : Rp K Fy W H s) {a : Addr} {xs : List V} {ds : List D} (t : SqT K W.F a xs) (x : DVs K W.F xs ds) (q : Q1 (.d (.tuple ds)) s) : Q (.ref a) H :=
  h _ _ _ _ _ q .rfl' r (show DV K W.F _ _ from .tup t x.1 x.2)
theorem Post.dv (h : Post K Fy W Q1 Q) (r : Rp K Fy W H s) {v : V} {d : D} (t : DV K W.F v d) (q : Q1 (.d d) s) : Q v H := h _ _ _ _ _ q .rfl' r t
end

/-! ### + - * // % ** -/
def bopS : BOp → Operator
  | .add => .Add | .sub => .Sub | .mul => .Mult | .fdiv => .FloorDiv | .mod => .Mod | .pow => .Pow
def gBin (op : BOp) : G2 := fun x y s Q => ∃ u v, asT x s = some u ∧ asT y s = some v ∧ binD op u v fun d => Q (.d d) s
theorem DVs.rep {K : Fg} {F : Hp} {xs ds} (h : DVs K F xs ds) : ∀ n : Nat, DVs K F (List.replicate n xs).flatten (List.replicate n ds).flatten
  | 0 => DVs.nil
  | n + 1 => by rw [List.replicate_succ, List.replicate_succ, List.flatten_cons, List.flatten_cons]; exact h.app (DVs.rep h n)
section
variable {X : Cx} {Fy : Fl}
theorem op_fdivZ : OpR X (binaryOp .FloorDiv) (rI (fun _ j => j ≠ 0 ∧ j.natAbs.log2 < 9000) fun i j => .int (i.fdiv j)) := opI fun i j _ _ _ _ _ hc q =>
  PyProof.Rows.floordiv_int hc.1 q (.inl (PyProof.noPylong_of_log2 hc.2))
theorem hop_arith (op : BOp) {pins : List (Addr × Obj)} {s : Shared} {σ : L2.St} {H : Hp} {v u : Value} {i j : Int} {Q : VK} (I : Inv X pins σ H s) (rx : RelV (.int i) v) (ry : RelV (.int j) u)
    (h : arith op i j fun d => ∃ k, d = .int k ∧ Q (.int k) H) : wpAny (model X.prog X.w) X.A (binaryOp (bopS op) v u) (EP X pins σ Q) X.xe s := by
  cases op with
  | add => obtain ⟨k, e, q⟩ := h; cases e; exact op_add pins s σ H _ _ v u Q I rx ry ⟨i, j, rfl, rfl, q⟩
  | sub => obtain ⟨k, e, q⟩ := h; cases e; exact op_sub pins s σ H _ _ v u Q I rx ry ⟨i, j, rfl, rfl, q⟩
  | mul =>
    obtain ⟨c, k, e, q⟩ := h
    cases e
    rcases c with c | c
    · exact op_mul pins s σ H _ _ v u Q I rx ry ⟨i, j, rfl, rfl, c, q⟩
    · exact op_mulW pins s σ H _ _ v u Q I rx ry ⟨i, j, rfl, rfl, c, q⟩
  | fdiv => obtain ⟨c, c2, k, e, q⟩ := h; cases e; exact op_fdivZ pins s σ H _ _ v u Q I rx ry ⟨i, j, rfl, rfl, ⟨c, c2⟩, q⟩
  | mod => obtain ⟨c, k, e, q⟩ := h; cases e; exact op_modN pins s σ H _ _ v u Q I rx ry ⟨i, j, rfl, rfl, c, q⟩
  | pow => obtain ⟨c, k, e, q⟩ := h; cases e; exact op_pow pins s σ H _ _ v u Q I rx ry ⟨i, j, rfl, rfl, c, q⟩
theorem arith_imp {op : BOp} {i j : Int} {Q Q' : D → Prop} (h : arith op i j Q) (k : ∀ z, Q (.int z) → Q' (.int z)) : arith op i j Q' := by
  cases op with
  | add => exact k _ h
  | sub => exact k _ h
  | mul => exact ⟨h.1, k _ h.2⟩
  | fdiv => exact ⟨h.1, h.2.1, k _ h.2.2⟩
  | mod => exact ⟨h.1, k _ h.2⟩
  | pow => exact ⟨h.1, k _ h.2⟩
theorem rep_cases {ds : List D} {k : Int} (h : k = 1 ∨ ds = []) : (List.replicate k.toNat ds).flatten = ds := by
  rcases h with h | h
  · rw [h]; simp
  · rw [h]; simp
theorem rep_zero {ds : List D} {k : Int} (h : k ≤ 0) : (List.replicate k.toNat ds).flatten = [] := by
  rw [Int.toNat_eq_zero.mpr h]; rfl
theorem hop_bin (op : BOp) : OpR X (binaryOp (bopS op)) (hR X.K Fy (gBin op)) := by
  intro pins s σ H v u v' u' Q I rv ru h
  obtain ⟨W, t, x, y, Q1, r, rx, ry, ⟨d, e, hd, he, hb⟩, hp⟩ := h
  have ii : ∀ i j, d = .int i → e = .int j → arith op i j (fun d => Q1 (.d d) t) → wpAny (model X.prog X.w) X.A (binaryOp (bopS op) v' u') (EP X pins σ Q) X.xe s := fun i j e1 e2 q => by
    subst e1; subst e2
    have := asD_int rx (asT_asD hd); subst this
    have := asD_int ry (asT_asD he); subst this
    exact hop_arith op I rv ru (arith_imp q fun z q => ⟨z, rfl, hp.int r q⟩)
  unfold binD at hb
  split at hb
  · exact ii _ _ rfl rfl hb
  · have := asD_str rx (asT_asD hd); subst this
    have := asD_str ry (asT_asD he); subst this
    exact op_add_str pins s σ H _ _ v' u' Q I rv ru ⟨_, _, rfl, rfl, hb.1, hp.str r hb.2⟩
  · obtain ⟨a, xs, rfl, h1, h2⟩ := asT_list r rx hd
    obtain ⟨b, ys, rfl, h3, h4⟩ := asT_list r ry he
    exact op_cat pins s σ H _ _ v' u' Q I rv ru ⟨a, b, xs, ys, rfl, rfl, h1, h3, by rw [h2.1, h4.1]; exact hb.1, hp.newL r (h2.app h4) hb.2⟩
  · obtain ⟨a, xs, rfl, h1, f1, h2⟩ := asD_tup r rx (asT_asD hd)
    obtain ⟨b, ys, rfl, h3, f3, h4⟩ := asD_tup r ry (asT_asD he)
    refine op_catA pins s σ H _ _ v' u' Q I rv ru ⟨a, b, xs, ys, rfl, rfl, h1, h3, by rw [h2.1, h4.1]; exact hb.1, fun z => ?_, fun _ z => ?_, fun _ _ => hp.newT r (h2.app h4) hb.2⟩
    · subst z
      have := List.eq_nil_of_length_eq_zero (show List.length _ = 0 by rw [← h2.1]; rfl)
      rename_i dd ee
      rw [this] at hb
      exact hp.oldT r f3 h4 hb.2
    · subst z
      have := List.eq_nil_of_length_eq_zero (show List.length _ = 0 by rw [← h4.1]; rfl)
      rw [this, List.append_nil] at hb
      exact hp.oldT r f1 h2 hb.2
  · obtain ⟨a, xs, rfl, h1, h2⟩ := asT_list r rx hd
    have := asD_int ry (asT_asD he); subst this
    exact op_rep pins s σ H _ _ v' u' Q I rv ru ⟨a, _, xs, rfl, rfl, h1, hb.1, hb.2.1, by rw [h2.1]; exact hb.2.2.1, hp.newL r (h2.rep _) hb.2.2.2⟩
  · obtain ⟨a, xs, rfl, h1, f1, h2⟩ := asD_tup r rx (asT_asD hd)
    have := asD_int ry (asT_asD he); subst this
    refine op_repA pins s σ H _ _ v' u' Q I rv ru ⟨a, _, xs, rfl, rfl, h1, hb.1, hb.2.1, by rw [h2.1]; exact hb.2.2.1, fun z => ?_, fun z => ?_, fun _ => hp.newT r (h2.rep _) hb.2.2.2⟩
    · have q := hb.2.2.2
      rw [rep_cases (z.imp id fun z => List.eq_nil_of_length_eq_zero (by rw [← h2.1, z]; rfl))] at q
      exact hp.oldT r f1 h2 q
    · have q := hb.2.2.2
      rw [rep_zero z.1] at q
      exact hp.newT r .nil q
  · exact hb.elim
end
end DL

end
section
/-! DL 4: comparisons, built-ins, subscripts, new lists. -/
namespace DL
open PySem PySem.Spec L2

/-! ### comparisons -/
def copS : COp → CmpOp
  | .eq => .Eq | .ne => .NotEq | .lt => .Lt | .le => .LtE | .gt => .Gt | .ge => .GtE | .isIn => .In | .notIn => .NotIn | .isN => .Is | .notN => .IsNot
def gCmp (o : COp) : G2 := fun x y s Q => cmpV o x y s fun c s => Q (.d (.bool c)) s
theorem cmpD_imp {o : COp} {x y : D} {Q Q' : Bool → Prop} (h : cmpD o x y Q) (k : ∀ c, Q c → Q' c) : cmpD o x y Q' := by
  unfold cmpD at h ⊢
  split at h <;> first
    | exact k _ h
    | exact ⟨h.1, h.2.1, k _ h.2.2⟩
    | exact (let ⟨z, a, b⟩ := h; ⟨z, a, k _ b⟩)
    | exact (match h with | .inl ⟨p, q, e1, e2, h⟩ => .inl ⟨p, q, e1, e2, k _ h⟩ | .inr h => .inr ⟨h.1, h.2.1, k _ h.2.2⟩)
    | exact h.elim
theorem cmpV_imp {o : COp} {x y : Vl} {s : S} {Q Q' : Bool → S → Prop} (h : cmpV o x y s Q) (k : ∀ c s, Q c s → Q' c s) : cmpV o x y s Q' := by
  cases o with
  | isN => exact ⟨h.1, k _ _ h.2⟩
  | notN => exact ⟨h.1, k _ _ h.2⟩
  | _ => exact (let ⟨a, b, e1, e2, q⟩ := h; ⟨a, b, e1, e2, cmpD_imp q fun c => k c s⟩)
def tyName : TyN → String
  | .int => "int" | .bool => "bool" | .str => "str" | .tuple => "tuple" | .list => "list" | .dict => "dict"
theorem noDict {d : D} (h : SeqAt.shaped d = true) : d.hasDict = false := by
  have h' : (d.canLay0 && decide (d.depth ≤ 64)) = true := h
  simp only [Bool.and_eq_true] at h'
  exact PyData.hasDict_of_canLay d h'.1
theorem inV_int (i : Int) (zs : List Int) : inV (.int i) (zs.map V.int) = decide (i ∈ zs) := by
  unfold inV
  induction zs with
  | nil => rfl
  | cons z zs ih =>
    rw [List.map_cons, List.any_cons, ih]
    by_cases h : z = i
    · subst h; simp [eqV]
    · have : ¬ i = z := fun e => h e.symm
      simp [eqV, h, this]
theorem inV_str (i : Str) (zs : List Str) : inV (.str i) (zs.map V.str) = decide (i ∈ zs) := by
  unfold inV
  induction zs with
  | nil => rfl
  | cons z zs ih =>
    rw [List.map_cons, List.any_cons, ih]
    by_cases h : z = i
    · subst h; simp [eqV]
    · have : ¬ i = z := fun e => h e.symm
      simp [eqV, h, this]
theorem DVs.ints {K : Fg} {F : Hp} : ∀ {zs : List Int} {xs : List V}, DVs K F xs (zs.map .int) → xs = zs.map V.int
  | [], xs, h => by have := h.inv_nil; subst this; rfl
  | z :: zs, xs, h => by
    obtain ⟨x, r, rfl, h1, h2⟩ := DVs.inv_cons h
    cases h1
    rw [DVs.ints h2]; rfl
theorem DVs.strs {K : Fg} {F : Hp} : ∀ {zs : List Str} {xs : List V}, DVs K F xs (zs.map .str) → xs = zs.map V.str
  | [], xs, h => by have := h.inv_nil; subst this; rfl
  | z :: zs, xs, h => by
    obtain ⟨x, r, rfl, h1, h2⟩ := DVs.inv_cons h
    cases h1
    rw [DVs.strs h2]; rfl
theorem DVs.bls {K : Fg} {F : Hp} : ∀ {zs : List D} {bs : List Bool} {xs : List V}, boolsOf zs = some bs → DVs K F xs zs → xs = bs.map V.bl
  | [], bs, xs, e, h => by
    have := h.inv_nil; subst this
    simp [boolsOf] at e; subst e; rfl
  | z :: zs, bs, xs, e, h => by
    obtain ⟨x, r, rfl, h1, h2⟩ := DVs.inv_cons h
    cases z with
    | bool b =>
      simp only [boolsOf] at e
      cases q : boolsOf zs with
      | none => rw [q] at e; cases e
      | some cs =>
        rw [q] at e
        cases e
        cases h1
        rw [DVs.bls q h2]; rfl
    | _ => simp [boolsOf] at e
theorem DVs.its {K : Fg} {F : Hp} : ∀ {zs : List D} {bs : List Int} {xs : List V}, intsOf zs = some bs → DVs K F xs zs → xs = bs.map V.int
  | [], bs, xs, e, h => by
    have := h.inv_nil; subst this
    simp [intsOf] at e; subst e; rfl
  | z :: zs, bs, xs, e, h => by
    obtain ⟨x, r, rfl, h1, h2⟩ := DVs.inv_cons h
    cases z with
    | int b =>
      simp only [intsOf] at e
      cases q : intsOf zs with
      | none => rw [q] at e; cases e
      | some cs =>
        rw [q] at e
        cases e
        cases h1
        rw [DVs.its q h2]; rfl
    | _ => simp [intsOf] at e
theorem allflat_int (zs : List Int) : (zs.map V.int).all flatV = true := by simp [flatV]
theorem allflat_str (zs : List Str) : (zs.map V.str).all flatV = true := by simp [flatV]
section
variable {X : Cx} {Fy : Fl} {k : Nat}
theorem VR.isNon {K : Fg} {W : Wd} {v : V} {x : Vl} (h : VR K W v x) : decide (v = .non) = isNon x := by
  cases x with
  | d y =>
    have h' : DV K W.F v y := h
    cases h' <;> rfl
  | loc n => obtain ⟨a, _, rfl⟩ := h; rfl
  | obj n => obtain ⟨a, _, rfl⟩ := h; rfl
  | scr => obtain ⟨a, _, rfl⟩ := h; rfl
  | exc x => obtain ⟨a, _, rfl⟩ := h; rfl
theorem hop_cmp (hr : Room k X.A) (o : COp) : OpR X (compareOp (copS o)) (hR X.K Fy (gCmp o)) := by
  intro pins s σ H v u v' u' Q I rv ru h
  obtain ⟨W, t, x, y, Q1, r, rx, ry, hb, hp⟩ := h
  have main : (∃ a b, asD x t = some a ∧ asD y t = some b ∧ cmpD o a b fun c => Q1 (.d (.bool c)) t) → wpAny (model X.prog X.w) X.A (compareOp (copS o) v' u') (EP X pins σ Q) X.xe s := by
    rintro ⟨d, e, hd, he, hb⟩
    unfold cmpD at hb
    split at hb
    · have := asD_int rx hd; subst this
      have := asD_int ry he; subst this
      exact op_lt pins s σ H _ _ v' u' Q I rv ru ⟨_, _, rfl, rfl, hp.bl r hb⟩
    · have := asD_int rx hd; subst this
      have := asD_int ry he; subst this
      exact op_le pins s σ H _ _ v' u' Q I rv ru ⟨_, _, rfl, rfl, hp.bl r hb⟩
    · have := asD_int rx hd; subst this
      have := asD_int ry he; subst this
      exact op_gt pins s σ H _ _ v' u' Q I rv ru ⟨_, _, rfl, rfl, hp.bl r hb⟩
    · have := asD_int rx hd; subst this
      have := asD_int ry he; subst this
      exact op_ge pins s σ H _ _ v' u' Q I rv ru ⟨_, _, rfl, rfl, hp.bl r hb⟩
    · rcases hb with ⟨p, q, rfl, rfl, hb⟩ | hb
      · have := asD_str rx hd; subst this
        have := asD_str ry he; subst this
        exact op_eq pins s σ H _ _ v' u' Q I rv ru ⟨rfl, by simpa using hp.bl r hb⟩
      · exact op_eqD hr.units pins s σ H _ _ v' u' Q I rv ru ⟨_, _, asD_dp r rx hd (noDict hb.1), asD_dp r ry he (noDict hb.2.1), hb.1, hb.2.1, hp.bl r hb.2.2⟩
    · rcases hb with ⟨p, q, rfl, rfl, hb⟩ | hb
      · have := asD_str rx hd; subst this
        have := asD_str ry he; subst this
        exact op_ne pins s σ H _ _ v' u' Q I rv ru ⟨rfl, by simpa using hp.bl r hb⟩
      · exact op_neD hr.units pins s σ H _ _ v' u' Q I rv ru ⟨_, _, asD_dp r rx hd (noDict hb.1), asD_dp r ry he (noDict hb.2.1), hb.1, hb.2.1, hp.bl r hb.2.2⟩
    · exact op_inD (by have := hr.un; omega) pins s σ H _ _ v' u' Q I rv ru ⟨_, _, asD_dp r rx hd (noDict hb.1), asD_dp r ry he (noDict hb.2.1), hb.1, hb.2.1, hp.bl r hb.2.2⟩
    · exact op_notInD (by have := hr.un; omega) pins s σ H _ _ v' u' Q I rv ru ⟨_, _, asD_dp r rx hd (noDict hb.1), asD_dp r ry he (noDict hb.2.1), hb.1, hb.2.1, hp.bl r hb.2.2⟩
    · obtain ⟨zs, e1, q⟩ := hb
      rw [e1] at he
      have := asD_int rx hd; subst this
      obtain ⟨a, xs, rfl, h1, f1, h2⟩ := asD_tup r ry he
      have := h2.ints; subst this
      refine op_in_seq pins s σ H _ _ v' u' Q I rv ru ⟨a, _, rfl, .inr h1, rfl, allflat_int zs, ?_⟩
      rw [inV_int]; exact hp.bl r q
    · obtain ⟨zs, e1, q⟩ := hb
      rw [e1] at he
      have := asD_str rx hd; subst this
      obtain ⟨a, xs, rfl, h1, f1, h2⟩ := asD_tup r ry he
      have := h2.strs; subst this
      refine op_in_seq pins s σ H _ _ v' u' Q I rv ru ⟨a, _, rfl, .inr h1, rfl, allflat_str zs, ?_⟩
      rw [inV_str]; exact hp.bl r q
    · exact hb.elim
  cases o with
  | isN =>
    obtain ⟨rfl, q⟩ := hb
    have := VR.non ry; subst this
    exact op_isN pins s σ H _ _ v' u' Q I rv ru ⟨rfl, by rw [VR.isNon rx]; exact hp.bl r q⟩
  | notN =>
    obtain ⟨rfl, q⟩ := hb
    have := VR.non ry; subst this
    exact op_notN pins s σ H _ _ v' u' Q I rv ru ⟨rfl, by rw [VR.isNon rx]; exact hp.bl r q⟩
  | _ => exact main hb
end

/-! ### built-ins -/
def biId : BI → Value
  | .len => .builtin "len" | .abs => .builtin "abs" | .int => .type "int" | .isi _ => .builtin "isinstance" | .all => .builtin "all" | .any => .builtin "any" | .sum => .builtin "sum"
  | .max2 => .builtin "max" | .min2 => .builtin "min" | .repr => .builtin "repr" | .tuple => .type "tuple" | .list => .type "list" | .divmod => .builtin "divmod" | .str => .type "str"
def gBi (b : BI) : List Vl → S → DQ → Prop := fun xs s Q => ∃ ds, asDs xs s = some ds ∧ biD b ds fun d => Q (.d d) s
theorem asDs_one {xs : List Vl} {s : S} {d : D} (h : asDs xs s = some [d]) : ∃ x, xs = [x] ∧ asD x s = some d := by
  cases xs with
  | nil => simp [asDs] at h
  | cons x r =>
    simp only [asDs] at h
    cases e : asD x s with
    | none => rw [e] at h; simp at h
    | some d1 =>
      rw [e] at h
      cases e2 : asDs r s with
      | none => rw [e2] at h; simp at h
      | some ds =>
        rw [e2] at h
        simp at h
        obtain ⟨rfl, rfl⟩ := h
        cases r with
        | nil => exact ⟨x, rfl, e⟩
        | cons y r =>
          simp only [asDs] at e2
          cases e3 : asD y s with
          | none => rw [e3] at e2; simp at e2
          | some d3 =>
            rw [e3] at e2
            cases e4 : asDs r s with
            | none => rw [e4] at e2; simp at e2
            | some ds => rw [e4] at e2; simp at e2
theorem asDs_cons {xs : List Vl} {s : S} {d : D} {ds : List D} (h : asDs xs s = some (d :: ds)) : ∃ x r, xs = x :: r ∧ asD x s = some d ∧ asDs r s = some ds := by
  cases xs with
  | nil => simp [asDs] at h
  | cons x r =>
    simp only [asDs] at h
    cases e : asD x s with
    | none => rw [e] at h; simp at h
    | some d1 =>
      rw [e] at h
      cases e2 : asDs r s with
      | none => rw [e2] at h; simp at h
      | some ds' =>
        rw [e2] at h
        simp at h
        obtain ⟨rfl, rfl⟩ := h
        exact ⟨x, r, rfl, e, e2⟩
theorem VRs.one {K : Fg} {W : Wd} {vs : List V} {x : Vl} (h : VRs K W vs [x]) : ∃ v, vs = [v] ∧ VR K W v x := by
  cases h with
  | cons r t => cases t; exact ⟨_, rfl, r⟩
theorem VRs.two {K : Fg} {W : Wd} {vs : List V} {x y : Vl} (h : VRs K W vs [x, y]) : ∃ v u, vs = [v, u] ∧ VR K W v x ∧ VR K W u y := by
  cases h with
  | cons r t => cases t with | cons r2 t => cases t; exact ⟨_, _, rfl, r, r2⟩
section
variable {X : Cx} {Fy : Fl} {k : Nat}
theorem hb_repr (hr : Room k X.A) (hg : X.A.guards = some []) {pins : List (Addr × Obj)} {s : Shared} {σ : L2.St} {H : Hp} {v : V} {u : Value} {d : D} {Q : VK} (I : Inv X pins σ H s) (rv : RelV v u) (p : Dp X.K H v d)
    (h1 : d.showable = true) (h2 : d.hasDict = false) (h3 : d.shown.length ≤ sizeLine) (h4 : d.depth ≤ 100) (q : Q (.str d.shown) H) : wpAny (model X.prog X.w) X.A (call (.builtin "repr") [u]) (EP X pins σ Q) X.xe s := by
  obtain ⟨as, rd⟩ := Dp.reads I d v u p rv
  have hu := hr.un
  cases p with
  | non =>
    have e : u = Value.none := rv
    subst e
    exact PySem.P.repr_of_none ⟨.str _, H, I.tok _, ⟨_, rfl⟩, by simpa [PyData.shown] using q⟩
  | bl b =>
    have e : u = Value.bool b := rv
    subst e
    exact PySem.P.repr_of_bool ⟨.str _, H, I.tok _, ⟨_, rfl⟩, by cases b <;> simpa [PyData.shown] using q⟩
  | int i =>
    obtain ⟨t, rfl⟩ := rv
    refine PySem.P.repr_of_int (by simpa [PyData.showable] using h1) ⟨.str _, H, I.tok _, ⟨_, rfl⟩, ?_⟩
    simpa [PyData.shown] using q
  | str x =>
    obtain ⟨t, rfl⟩ := rv
    exact PySem.P.repr_of_str ⟨.str _, H, I.tok _, ⟨_, rfl⟩, by simpa [PyData.shown] using q⟩ (by simpa [PyData.shown] using h3)
  | lst ha hb =>
    cases rv
    exact repr_of_reads' rd h1 (noDict_hsm' h2) hg (by omega) (fun b o e => e) (fun h' u tk hk => ⟨.str _, H, I.kept hk, ⟨_, rfl⟩, q⟩) h3
  | tup ha hb =>
    cases rv
    exact repr_of_reads' rd h1 (noDict_hsm' h2) hg (by omega) (fun b o e => e) (fun h' u tk hk => ⟨.str _, H, I.kept hk, ⟨_, rfl⟩, q⟩) h3
where
  noDict_hsm' {d : D} {as : List Addr} (h : d.hasDict = false) : d.hasDict = true → sysModules ∉ as := PyData.noDict_hsm h
theorem kt_non : ∀ t, kitB "NoneType" (tyName t) = some (isiD t .none) := by intro t; cases t <;> decide +kernel
theorem kt_bl : ∀ t, kitB "bool" (tyName t) = some (isiD t (.bool true)) := by intro t; cases t <;> decide +kernel
theorem kt_int : ∀ t, kitB "int" (tyName t) = some (isiD t (.int 0)) := by intro t; cases t <;> decide +kernel
theorem kt_str : ∀ t, kitB "str" (tyName t) = some (isiD t (.str ⟨#[]⟩)) := by intro t; cases t <;> decide +kernel
theorem kt_list : ∀ t, kitB "list" (tyName t) = some (isiD t (.list [])) := by intro t; cases t <;> decide +kernel
theorem kt_tuple : ∀ t, kitB "tuple" (tyName t) = some (isiD t (.tuple [])) := by intro t; cases t <;> decide +kernel
theorem kt_dict : ∀ t, kitB "dict" (tyName t) = some (isiD t (.dict [])) := by intro t; cases t <;> decide +kernel
theorem dv_ty {K : Fg} {H : Hp} {v : V} {d : D} (h : DV K H v d) (t : TyN) : ∃ ty : String, TyX K H v (.type ty) ∧ kitB ty (tyName t) = some (isiD t d) := by
  cases h with
  | non => exact ⟨_, .base .non, kt_non t⟩
  | bl b => exact ⟨_, .base (.bl b), by have q := kt_bl t; cases t <;> exact q⟩
  | int i => exact ⟨_, .base (.int i), by have q := kt_int t; cases t <;> exact q⟩
  | str x => exact ⟨_, .base (.str x), by have q := kt_str t; cases t <;> exact q⟩
  | lst h l g => exact ⟨_, .base (.lst h), by have q := kt_list t; cases t <;> exact q⟩
  | tup h l g =>
    rcases h with (h | ⟨o, h⟩) | ⟨o, its, n, h1, h2, _⟩
    · exact ⟨_, .base (.tup h), by have q := kt_tuple t; cases t <;> exact q⟩
    · exact ⟨_, .fTuple h, by have q := kt_tuple t; cases t <;> exact q⟩
    · exact ⟨_, .kTuple h1 h2, by have q := kt_tuple t; cases t <;> exact q⟩
  | dct h l g => exact ⟨_, .base (.dK h), by have q := kt_dict t; cases t <;> exact q⟩
theorem asD_ty {K : Fg} {Fy : Fl} {W : Wd} {H : Hp} {s : S} {v : V} {x : Vl} {d : D} (r : Rp K Fy W H s) (h : VR K W v x) (e : asD x s = some d) (t : TyN) : ∃ ty : String, TyX K H v (.type ty) ∧ kitB ty (tyName t) = some (isiD t d) := by
  by_cases hl : ∃ xs, d = .list xs
  · obtain ⟨xs, rfl⟩ := hl
    obtain ⟨a, ys, rfl, h1, h2⟩ := asD_list r h e
    rcases h1 with (h1 | ⟨o, h1⟩) | ⟨o, its, n, h1, h2, _⟩
    · exact ⟨_, .base (.lst h1), by have q := kt_list t; cases t <;> exact q⟩
    · exact ⟨_, .base (.frz h1), by have q := kt_list t; cases t <;> exact q⟩
    · exact ⟨_, .kList h1 h2, by have q := kt_list t; cases t <;> exact q⟩
  · have q := asD_d e (fun xs z => hl ⟨xs, z⟩)
    subst q
    exact dv_ty (DV.mono' h r.sub) t
/-- the class that isinstance asks for stands behind the value -/
def biArgs (b : BI) (vs : List V) : List V := match b with
  | .isi t => vs ++ [.ty (tyName t)]
  | _ => vs
theorem hop_bi (hr : Room k X.A) (hg : X.A.guards = some []) (hc : X.calm = true) (b : BI) : CallR X (biId b) (fun zs H Q => ∃ vs, zs = biArgs b vs ∧ hN X.K Fy (gBi b) vs H Q) := by
  intro pins s σ H zs us Q I rv h
  obtain ⟨vs, rfl, W, t, xs, Q1, r, rxs, ⟨ds, hd, hb⟩, hp⟩ := h
  unfold biD at hb
  split at hb
  · obtain ⟨x, rfl, e⟩ := asDs_one hd
    obtain ⟨v, rfl, rx⟩ := rxs.one
    obtain ⟨a, ys, rfl, h1, h2⟩ := asD_list r rx e
    exact call_len pins s σ H _ us Q I rv ⟨_, ys.length, rfl, .inl ⟨ys, h1, rfl⟩, hp.int r (by rw [h2.1]; exact hb)⟩
  · obtain ⟨x, rfl, e⟩ := asDs_one hd
    obtain ⟨v, rfl, rx⟩ := rxs.one
    obtain ⟨a, ys, rfl, h1, _, h2⟩ := asD_tup r rx e
    exact call_len pins s σ H _ us Q I rv ⟨_, ys.length, rfl, .inr ⟨ys, h1, rfl⟩, hp.int r (by rw [h2.1]; exact hb)⟩
  · obtain ⟨x, rfl, e⟩ := asDs_one hd
    obtain ⟨v, rfl, rx⟩ := rxs.one
    have := asD_str rx e; subst this
    exact call_len pins s σ H _ us Q I rv ⟨_, _, rfl, ⟨hb.1, rfl⟩, hp.int r hb.2⟩
  · obtain ⟨x, rfl, e⟩ := asDs_one hd
    obtain ⟨v, rfl, rx⟩ := rxs.one
    have := asD_int rx e; subst this
    exact call_abs pins s σ H _ us Q I rv ⟨_, rfl, hp.int r hb⟩
  · obtain ⟨x, rfl, e⟩ := asDs_one hd
    obtain ⟨v, rfl, rx⟩ := rxs.one
    have := asD_int rx e; subst this
    exact call_int1 pins s σ H _ us Q I rv (.inl ⟨_, rfl, hp.int r hb⟩)
  · obtain ⟨x, rfl, e⟩ := asDs_one hd
    obtain ⟨v, rfl, rx⟩ := rxs.one
    have := asD_bl rx e; subst this
    exact call_int1 pins s σ H _ us Q I rv (.inr ⟨_, rfl, hp.int r hb⟩)
  · rename_i ty x
    obtain ⟨y, rfl, e⟩ := asDs_one hd
    obtain ⟨v, rfl, rx⟩ := rxs.one
    obtain ⟨tn, h1, h2⟩ := asD_ty r rx e ty
    exact call_isi pins s σ H _ us Q I rv ⟨v, _, _, _, _, rfl, .ty _, h1, kit_ty h2, hp.bl r hb⟩
  · obtain ⟨x, rfl, e⟩ := asDs_one hd
    obtain ⟨v, rfl, rx⟩ := rxs.one
    obtain ⟨a, ys, rfl, h1, h2⟩ := asD_list r rx e
    obtain ⟨bs, hbs, q⟩ := hb
    have := DVs.bls hbs h2; subst this
    exact cr_all hc pins s σ H _ us Q I rv ⟨a, bs, rfl, h1, hp.bl r q⟩
  · obtain ⟨x, rfl, e⟩ := asDs_one hd
    obtain ⟨v, rfl, rx⟩ := rxs.one
    obtain ⟨a, ys, rfl, h1, h2⟩ := asD_list r rx e
    obtain ⟨bs, hbs, q⟩ := hb
    have := DVs.bls hbs h2; subst this
    exact cr_any hc pins s σ H _ us Q I rv ⟨a, bs, rfl, h1, hp.bl r q⟩
  · obtain ⟨x, rfl, e⟩ := asDs_one hd
    obtain ⟨v, rfl, rx⟩ := rxs.one
    obtain ⟨a, ys, rfl, h1, h2⟩ := asD_list r rx e
    obtain ⟨bs, hbs, q⟩ := hb
    have := DVs.its hbs h2; subst this
    exact cr_sum hc pins s σ H _ us Q I rv ⟨a, bs, rfl, h1, hp.int r q⟩
  · obtain ⟨x, y, rfl, e, hd⟩ := asDs_cons hd
    obtain ⟨y, rfl, e2⟩ := asDs_one hd
    obtain ⟨v, u, rfl, rx, ry⟩ := rxs.two
    have := asD_int rx e; subst this
    have := asD_int ry e2; subst this
    exact call_max2 hc pins s σ H _ us Q I rv ⟨_, _, rfl, hp.int r hb⟩
  · obtain ⟨x, y, rfl, e, hd⟩ := asDs_cons hd
    obtain ⟨y, rfl, e2⟩ := asDs_one hd
    obtain ⟨v, u, rfl, rx, ry⟩ := rxs.two
    have := asD_int rx e; subst this
    have := asD_int ry e2; subst this
    exact call_min2 hc pins s σ H _ us Q I rv ⟨_, _, rfl, hp.int r hb⟩
  · obtain ⟨x, rfl, e⟩ := asDs_one hd
    obtain ⟨v, rfl, rx⟩ := rxs.one
    obtain ⟨u, rfl, ru⟩ := vals1 rv
    exact hb_repr hr hg I ru (asD_dp r rx e hb.2.1) hb.1 hb.2.1 hb.2.2.1 hb.2.2.2.1 (hp.str r hb.2.2.2.2)
  · obtain ⟨x, rfl, e⟩ := asDs_one hd
    obtain ⟨v, rfl, rx⟩ := rxs.one
    obtain ⟨a, ys, rfl, h1, h2⟩ := asD_list r rx e
    exact call_tuple_of pins s σ H _ us Q I rv ⟨a, ys, rfl, .inl ⟨h1, hp.newT r h2 hb⟩⟩
  · obtain ⟨x, rfl, e⟩ := asDs_one hd
    obtain ⟨v, rfl, rx⟩ := rxs.one
    obtain ⟨a, ys, rfl, h1, f1, h2⟩ := asD_tup r rx e
    exact call_tuple_of pins s σ H _ us Q I rv ⟨a, ys, rfl, .inr ⟨h1, hp.oldT r f1 h2 hb⟩⟩
  · obtain ⟨x, rfl, e⟩ := asDs_one hd
    obtain ⟨v, rfl, rx⟩ := rxs.one
    obtain ⟨a, ys, rfl, h1, h2⟩ := asD_list r rx e
    exact call_list_of pins s σ H _ us Q I rv ⟨a, ys, rfl, .inl h1, hp.newL r h2 hb⟩
  · obtain ⟨x, rfl, e⟩ := asDs_one hd
    obtain ⟨v, rfl, rx⟩ := rxs.one
    obtain ⟨a, ys, rfl, h1, f1, h2⟩ := asD_tup r rx e
    exact call_list_of pins s σ H _ us Q I rv ⟨a, ys, rfl, .inr h1, hp.newL r h2 hb⟩
  · obtain ⟨x, y, rfl, e, hd⟩ := asDs_cons hd
    obtain ⟨y, rfl, e2⟩ := asDs_one hd
    obtain ⟨v, u, rfl, rx, ry⟩ := rxs.two
    have := asD_int rx e; subst this
    have := asD_int ry e2; subst this
    obtain ⟨u1, u2, rfl, ⟨t1, rfl⟩, ⟨t2, rfl⟩⟩ := vals2 rv
    refine PyProof.Rows.divmod_int hb.1 ?_ (.inl (PyProof.noPylong_of_log2 hb.2.1))
    have hn : H s.heap.objs.size = none := I.hok.fresh (Nat.le_refl _)
    refine ⟨.ref s.heap.objs.size, _, ?_, rfl, hp.newT r (xs := [.int _, .int _]) (.cons (.int _) (.cons (.int _) .nil)) hb.2.2 _ hn⟩
    refine I.laid (fun b o e => Heap.get?_push_of_some _ e) (Nat.le_refl _) ⟨by simp only [List.length_cons, List.length_nil]; rw [sizeLine_eq]; decide, [.int _ s.toks, .int _ (s.toks + 1)], .cons ⟨_, rfl⟩ (.cons ⟨_, rfl⟩ .nil), ?_⟩
    exact ⟨_, Heap.get?_push_size s.heap rfl, rfl, 0, rfl⟩
  · obtain ⟨x, rfl, e⟩ := asDs_one hd
    obtain ⟨v, rfl, rx⟩ := rxs.one
    have := asD_int rx e; subst this
    exact call_str_int pins s σ H _ us Q I rv ⟨_, rfl, hb.1, hp.str r hb.2⟩
  · exact hb.elim

/-! ### subscripts, slices -/
def gIx : G2 := fun x y s Q => ∃ u v, asD x s = some u ∧ asD y s = some v ∧ ixD u v fun d => Q (.d d) s
theorem DVs.atI {K : Fg} {F : Hp} {xs ds} (h : DVs K F xs ds) {i : Int} {d : D} (e : L2.atI ds i = some d) : ∃ x, L2.atI xs i = some x ∧ DV K F x d := by
  unfold L2.atI at e ⊢
  rw [h.1]
  cases q : ixN ds.length i with
  | none => rw [q] at e; cases e
  | some j => rw [q] at e; exact h.get e
theorem hop_ix : IxR X (hR X.K Fy gIx) := by
  intro value slice pins s σ H v u v' u' Q I rv ru h hs
  obtain ⟨W, t, x, y, Q1, r, rx, ry, ⟨d, e, hd, he, hb⟩, hp⟩ := h
  unfold ixD at hb
  split at hb
  · obtain ⟨a, ys, rfl, h1, h2⟩ := asD_list r rx hd
    have := asD_int ry he; subst this
    obtain ⟨z, e, q⟩ := hb
    obtain ⟨w, hw, dw⟩ := h2.atI e
    exact ix_list value slice pins s σ H _ _ v' u' Q I rv ru ⟨a, ys, _, w, rfl, rfl, h1, hw, hp.dv r dw q⟩ hs
  · obtain ⟨a, ys, rfl, h1, _, h2⟩ := asD_tup r rx hd
    have := asD_int ry he; subst this
    obtain ⟨z, e, q⟩ := hb
    obtain ⟨w, hw, dw⟩ := h2.atI e
    exact ix_tup value slice pins s σ H _ _ v' u' Q I rv ru ⟨a, ys, _, w, rfl, rfl, h1, hw, hp.dv r dw q⟩ hs
  · exact hb.elim
def hS (K : Fg) (Fy : Fl) (g : Vl → Option Int → Option Int → S → DQ → Prop) : V → Option Int → Option Int → Hp → VK → Prop := fun v lo hi H Q => ∃ W s x Q1, Rp K Fy W H s ∧ VR K W v x ∧ g x lo hi s Q1 ∧ Post K Fy W Q1 Q
def gSlc : Vl → Option Int → Option Int → S → DQ → Prop := fun x i j s Q => ∃ u, asD x s = some u ∧ slcD u i j fun d => Q (.d d) s
theorem cut_eq {K : Fg} {F : Hp} {xs ds} (h : DVs K F xs ds) (lo hi : Option Int) : DVs K F (cutV xs lo hi) (cutD ds lo hi) := by
  unfold cutV cutD
  rw [h.1]
  exact (h.drop _).take _
theorem cutD_all {α : Type} (xs : List α) (lo hi : Option Int) (h : HT.sIx xs.length 0 lo = 0 ∧ HT.sIx xs.length xs.length hi = xs.length) : cutD xs lo hi = xs := by
  unfold cutD
  rw [h.1, h.2, List.drop_zero, Nat.sub_zero, List.take_length]
theorem hop_slc : SlR X (hS X.K Fy gSlc) := by
  intro pins s σ H v v' vl vu lo hi sl Q I rv hs pl pu h
  obtain ⟨W, t, x, Q1, r, rx, ⟨d, hd, hb⟩, hp⟩ := h
  unfold slcD at hb
  split at hb
  · obtain ⟨a, ys, rfl, h1, h2⟩ := asD_list r rx hd
    exact sl_list pins s σ H _ v' vl vu lo hi sl Q I rv hs pl pu ⟨a, ys, rfl, h1, hp.newL r (cut_eq h2 lo hi) hb⟩
  · obtain ⟨a, ys, rfl, h1, f1, h2⟩ := asD_tup r rx hd
    refine sl_tupA pins s σ H _ v' vl vu lo hi sl Q I rv hs pl pu ⟨a, ys, rfl, h1, fun e => ?_, fun _ => hp.newT r (cut_eq h2 lo hi) hb⟩
    rw [cutD_all _ lo hi (by rw [← h2.1]; exact e)] at hb
    exact hp.oldT r f1 h2 hb
  · exact hb.elim
end
end DL

end
section
/-! DL 5: displays, targets, statements, loops, comprehensions. -/
namespace DL
open PySem PySem.Spec L2

theorem nd_mid {a : Addr} {l m : List Addr} : (l ++ a :: m).Nodup ↔ (a :: (l ++ m)).Nodup := List.perm_middle.nodup_iff

/-! ### freezing -/
section
variable {K : Fg} {Fy : Fl} {W : Wd} {H : Hp} {s : S}
theorem nodup_get {l : List Addr} (h : l.Nodup) {i j : Nat} {a : Addr} (x : l[i]? = some a) (y : l[j]? = some a) : i = j := by
  obtain ⟨h1, e1⟩ := List.getElem?_eq_some_iff.mp x
  obtain ⟨h2, e2⟩ := List.getElem?_eq_some_iff.mp y
  exact (List.getElem_inj h).mp (e1.trans e2.symm)
theorem Rp.ndl (h : Rp K Fy W H s) : W.la.Nodup := (List.nodup_append.mp (List.nodup_append.mp h.nd).1).1
theorem Rp.ndo (h : Rp K Fy W H s) : W.oa.Nodup := (List.nodup_append.mp (List.nodup_append.mp h.nd).1).2.1
theorem Rp.lo (h : Rp K Fy W H s) {a b : Addr} (x : a ∈ W.la) (y : b ∈ W.oa) : a ≠ b := (List.nodup_append.mp (List.nodup_append.mp h.nd).1).2.2 a x b y
theorem Rp.lp (h : Rp K Fy W H s) {a b : Addr} (x : a ∈ W.la) (y : b ∈ W.pv.map (·.1)) : a ≠ b := (List.nodup_append.mp h.nd).2.2 a (List.mem_append_left _ x) b y
theorem Rp.op (h : Rp K Fy W H s) {a b : Addr} (x : a ∈ W.oa) (y : b ∈ W.pv.map (·.1)) : a ≠ b := (List.nodup_append.mp h.nd).2.2 a (List.mem_append_right _ x) b y
theorem Rp.ndp (h : Rp K Fy W H s) : (W.pv.map (·.1)).Nodup := (List.nodup_append.mp h.nd).2.1
/-- the frozen part gets a list of the frame's own -/
theorem Rp.freeze (h : Rp K Fy W H s) {n : Nat} {a : Addr} {ds : List D} (e1 : W.la[n]? = some a) (e2 : s.ls[n]? = some (.op ds)) {xs : List V} (hx : H a = some (.lst xs)) (hd : DVs K W.F xs ds) (hf : W.F a = none) :
    Rp K Fy { W with F := upd W.F a (.lst xs) } H { s with ls := s.ls.set n (.fz ds) } ∧ Le W { W with F := upd W.F a (.lst xs) } := by
  have sF : SubH W.F (upd W.F a (.lst xs)) := fun b u e => by rw [upd_ne (ne_of_none e hf)]; exact e
  have ma := List.mem_of_getElem? e1
  have lW : Le W { W with F := upd W.F a (.lst xs) } := ⟨sF, List.prefix_refl _, List.prefix_refl _, rfl, rfl, rfl⟩
  refine ⟨⟨fun b u e => ?_, by simp [h.ll], fun m b o f1 f2 => ?_, h.ol, fun m b o f1 f2 => ?_, fun q hq => ?_, h.nd, fun b e => let ⟨c, d, h1, h2⟩ := h.x b e; ⟨c, d, h1, h2.keep sF fun _ _ q => q⟩, fun b e => let ⟨ys, h1, h2⟩ := h.s b e; ⟨ys, h1, h2.mono sF⟩, h.low.up lW, h.tb⟩, lW⟩
  · by_cases hb : b = a
    · subst hb
      have e' : some (HO.lst xs) = some u := by rw [← e]; exact upd_same.symm
      rw [hx]; exact e'
    · exact h.sub b u (by rw [← e]; exact (upd_ne hb).symm)
  · have f2' : (s.ls.set n (.fz ds))[m]? = some o := f2
    by_cases hm : n = m
    · subst hm
      rw [List.getElem?_set_self (by rw [← h.ll]; exact (List.getElem?_eq_some_iff.mp e1).1)] at f2'
      cases f2'
      have f1' : W.la[n]? = some b := f1
      rw [e1] at f1'; cases f1'
      exact ⟨xs, upd_same, hd.mono sF⟩
    · rw [List.getElem?_set_ne hm] at f2'
      have hb : b ≠ a := fun z => hm (nodup_get h.ndl e1 (z ▸ f1))
      exact (h.l m b o f1 f2').keep (upd_ne hb) (fun _ e => e) sF
  · have hb : b ≠ a := fun z => h.lo ma (List.mem_of_getElem? f1) z.symm
    exact (h.o m b o f1 f2).keep (upd_ne hb) (fun _ e => e) lW.to0
  · have hb : q.1 ≠ a := fun z => h.lp ma (List.mem_map.mpr ⟨q, hq, rfl⟩) z.symm
    exact ⟨(upd_ne hb).trans (h.p q hq).1, (h.p q hq).2⟩
theorem frz_ok (r : Rp K Fy W H s) {v : V} {x : Vl} (h : VR K W v x) {Q : D → S → Prop} (q : frz x s Q) : ∃ d s' W', Q d s' ∧ Le W W' ∧ Rp K Fy W' H s' ∧ DV K W'.F v d := by
  cases x with
  | d y => exact ⟨y, s, W, q, .rfl', r, h⟩
  | loc n =>
    obtain ⟨a, e1, rfl⟩ := h
    cases e : s.ls[n]? with
    | none => simp [frz, e] at q
    | some o =>
      have k := r.l n a o e1 e
      cases o with
      | op ds =>
        simp only [frz, e] at q
        obtain ⟨hf, xs, hx, hd⟩ := k
        obtain ⟨r', l⟩ := r.freeze e1 e hx hd hf
        exact ⟨_, _, _, q, l, r', .lst upd_same hd.1 fun i y z a b => (hd.2 i y z a b).mono' l.F⟩
      | fz ds =>
        simp only [frz, e] at q
        obtain ⟨xs, hx, hd⟩ := k
        exact ⟨_, _, _, q, .rfl', r, .lst hx hd.1 hd.2⟩
  | obj n => exact q.elim
  | scr => exact q.elim
  | exc x => exact q.elim
theorem frzs_ok : ∀ {xs : List Vl} {vs : List V} {W : Wd} {s : S} {Q : List D → S → Prop}, Rp K Fy W H s → VRs K W vs xs → frzs xs s Q → ∃ ds s' W', Q ds s' ∧ Le W W' ∧ Rp K Fy W' H s' ∧ DVs K W'.F vs ds
  | [], _, W, s, Q, r, h, q => by cases h; exact ⟨[], s, W, q, .rfl', r, .nil⟩
  | x :: xs, _, W, s, Q, r, h, q => by
    cases h with
    | cons h1 h2 =>
      obtain ⟨d, s1, W1, q1, l1, r1, d1⟩ := frz_ok r h1 q
      obtain ⟨ds, s2, W2, q2, l2, r2, d2⟩ := frzs_ok r1 (VRs.mono l1 h2) q1
      exact ⟨d :: ds, s2, W2, q2, l1.trans l2, r2, .cons (d1.mono' l2.F) d2⟩

/-! ### a list that is changed -/
theorem Rp.pushL (h : Rp K Fy W H s) {p : Addr} (hp : H p = none) {xs : List V} {ds : List D} (x : DVs K W.F xs ds) :
    Rp K Fy { W with la := W.la ++ [p] } (upd H p (.lst xs)) { s with ls := s.ls ++ [.op ds] } ∧ Le W { W with la := W.la ++ [p] } := by
  have np := h.notIn hp
  have nF := h.lookNone hp
  have k : ∀ b u, H b = some u → upd H p (.lst xs) b = some u := fun b u e => by rw [upd_ne (ne_of_none e hp)]; exact e
  have lW : Le W { W with la := W.la ++ [p] } := ⟨fun _ _ e => e, List.prefix_append _ _, List.prefix_refl _, rfl, rfl, rfl⟩
  refine ⟨⟨fun b u e => k _ _ (h.sub b u e), by simp [h.ll], fun m b o f1 f2 => ?_, h.ol, fun m b o f1 f2 => (h.o m b o f1 f2).keep rfl (k b) lW.to0, fun q hq => ⟨(h.p q hq).1, k _ _ (h.p q hq).2⟩, ?_,
    fun b e => let ⟨c, d, h1, h2⟩ := h.x b e; ⟨c, d, h1, h2.put (fun _ _ e => e) (.inl hp)⟩, fun b e => let ⟨ys, h1, h2⟩ := h.s b e; ⟨ys, h1.put (.inl hp), h2⟩, h.low.up lW, tabs_put h.tb (.inl hp)⟩, lW⟩
  · have f1' : (W.la ++ [p])[m]? = some b := f1
    have f2' : (s.ls ++ [LO.op ds])[m]? = some o := f2
    by_cases hm : m < W.la.length
    · rw [List.getElem?_append_left hm] at f1'
      rw [List.getElem?_append_left (by rw [← h.ll]; exact hm)] at f2'
      exact (h.l m b o f1' f2').keep rfl (k b) fun _ _ e => e
    · have hl : m = W.la.length := by
        have h1 := (List.getElem?_eq_some_iff.mp f1').1
        simp at h1; omega
      subst hl
      rw [List.getElem?_append_right (Nat.le_refl _), Nat.sub_self] at f1'
      rw [h.ll, List.getElem?_append_right (Nat.le_refl _), Nat.sub_self] at f2'
      cases f1'; cases f2'
      exact ⟨nF, xs, upd_same, x⟩
  · show (W.la ++ [p] ++ W.oa ++ W.pv.map (·.1)).Nodup
    have e : W.la ++ [p] ++ W.oa ++ W.pv.map (·.1) = W.la ++ p :: (W.oa ++ W.pv.map (·.1)) := by simp
    rw [e]
    have nd := h.nd
    rw [List.append_assoc] at nd np
    exact nd_mid.mpr (List.nodup_cons.mpr ⟨np, nd⟩)
/-- an object more -/
theorem Rp.pushG (h : Rp K Fy W H s) {p : Addr} (hp : H p = none) {u : HO} {o : OO} (x : OOk K Fy.mg { W with oa := W.oa ++ [p] } (upd H p u) p o) :
    Rp K Fy { W with oa := W.oa ++ [p] } (upd H p u) { s with os := s.os ++ [o] } ∧ Le W { W with oa := W.oa ++ [p] } := by
  have np := h.notIn hp
  have nF := h.lookNone hp
  have k : ∀ b v, H b = some v → upd H p u b = some v := fun b v e => by rw [upd_ne (ne_of_none e hp)]; exact e
  have lW : Le W { W with oa := W.oa ++ [p] } := ⟨fun _ _ e => e, List.prefix_refl _, List.prefix_append _ _, rfl, rfl, rfl⟩
  refine ⟨⟨fun b v e => k _ _ (h.sub b v e), h.ll, fun m b o f1 f2 => (h.l m b o f1 f2).keep rfl (k b) fun _ _ e => e, by simp [h.ol], fun m b o' f1 f2 => ?_, fun q hq => ⟨(h.p q hq).1, k _ _ (h.p q hq).2⟩, ?_,
    fun b e => let ⟨c, d, h1, h2⟩ := h.x b e; ⟨c, d, h1, h2.put (fun _ _ e => e) (.inl hp)⟩, fun b e => let ⟨ys, h1, h2⟩ := h.s b e; ⟨ys, h1.put (.inl hp), h2⟩, h.low.up lW, tabs_put h.tb (.inl hp)⟩, lW⟩
  · have f1' : (W.oa ++ [p])[m]? = some b := f1
    have f2' : (s.os ++ [o])[m]? = some o' := f2
    by_cases hm : m < W.oa.length
    · rw [List.getElem?_append_left hm] at f1'
      rw [List.getElem?_append_left (by rw [← h.ol]; exact hm)] at f2'
      exact (h.o m b o' f1' f2').keep rfl (k b) lW.to0
    · have hl : m = W.oa.length := by
        have h1 := (List.getElem?_eq_some_iff.mp f1').1
        simp at h1; omega
      subst hl
      rw [List.getElem?_append_right (Nat.le_refl _), Nat.sub_self] at f1'
      rw [h.ol, List.getElem?_append_right (Nat.le_refl _), Nat.sub_self] at f2'
      cases f1'; cases f2'
      exact x
  · show (W.la ++ (W.oa ++ [p]) ++ W.pv.map (·.1)).Nodup
    have e : W.la ++ (W.oa ++ [p]) ++ W.pv.map (·.1) = (W.la ++ W.oa) ++ p :: (W.pv.map (·.1)) := by simp
    rw [e]
    exact nd_mid.mpr (List.nodup_cons.mpr ⟨np, h.nd⟩)
theorem Rp.pushO (h : Rp K Fy W H s) {p : Addr} (hp : H p = none) {xs : List V} {ds : List D} (x : DVs K W.F xs ds) :
    Rp K Fy { W with oa := W.oa ++ [p] } (upd H p (.lst xs)) { s with os := s.os ++ [.lst ds] } ∧ Le W { W with oa := W.oa ++ [p] } :=
  h.pushG hp ⟨h.lookNone hp, xs, upd_same, x⟩
/-- an object is written -/
theorem Rp.setO (h : Rp K Fy W H s) {n : Nat} {a : Addr} (e1 : W.oa[n]? = some a) {u : HO} {o : OO} (x : OOk K Fy.mg W (upd H a u) a o) : Rp K Fy W (upd H a u) { s with os := s.os.set n o } := by
  have ma := List.mem_of_getElem? e1
  obtain ⟨hf, hm⟩ := h.oaMut e1
  have mu : Mutb (H a) := .inr hm
  have k : ∀ b v, b ≠ a → H b = some v → upd H a u b = some v := fun b v n e => by rw [upd_ne n]; exact e
  refine ⟨fun b v z => by rw [upd_ne (ne_of_none z hf)]; exact h.sub b v z, h.ll, fun m b o f1 f2 => ?_, by simp [h.ol], fun m b o' f1 f2 => ?_, fun p hp => ?_, h.nd,
    fun b e => let ⟨c, d, h1, h2⟩ := h.x b e; ⟨c, d, h1, h2.put (fun _ _ e => e) mu⟩, fun b e => let ⟨ys, h1, h2⟩ := h.s b e; ⟨ys, h1.put mu, h2⟩, h.low, tabs_put h.tb mu⟩
  · have hb : b ≠ a := fun z => h.lo (List.mem_of_getElem? f1) ma z
    exact (h.l m b o f1 f2).keep rfl (fun v e => k b v hb e) fun _ _ e => e
  · have f2' : (s.os.set n o)[m]? = some o' := f2
    by_cases hm : n = m
    · subst hm
      rw [List.getElem?_set_self (by rw [← h.ol]; exact (List.getElem?_eq_some_iff.mp e1).1)] at f2'
      cases f2'
      rw [e1] at f1; cases f1
      exact x
    · rw [List.getElem?_set_ne hm] at f2'
      have hb : b ≠ a := fun z => hm (nodup_get h.ndo e1 (z ▸ f1))
      exact (h.o m b o' f1 f2').keep rfl (fun v e => k b v hb e) .rfl'
  · have hb : p.1 ≠ a := fun z => h.op ma (List.mem_map.mpr ⟨p, hp, rfl⟩) z.symm
    exact ⟨(h.p p hp).1, (upd_ne hb).trans (h.p p hp).2⟩
/-- a tracked list is written -/
theorem Rp.chg (h : Rp K Fy W H s) {v : V} {x : Vl} (hv : VR K W v x) {f : List D → (List D → Prop) → Prop} {Q : S → Prop} (q : chgL x s f Q) :
    ∃ a xs ds, v = .ref a ∧ H a = some (.lst xs) ∧ DVs K W.F xs ds ∧ ∃ Q' : List D → Prop, f ds Q' ∧ ∀ ys es, DVs K W.F ys es → Q' es → ∃ s', Q s' ∧ Rp K Fy W (upd H a (.lst ys)) s' := by
  cases x with
  | d y => exact q.elim
  | scr => exact q.elim
  | exc x => exact q.elim
  | loc n =>
    obtain ⟨a, e1, rfl⟩ := hv
    cases e : s.ls[n]? with
    | none => simp [chgL, e] at q
    | some o =>
      have k := h.l n a o e1 e
      cases o with
      | fz ds => simp [chgL, e] at q
      | op ds =>
        simp only [chgL, e] at q
        obtain ⟨hf, xs, hx, hd⟩ := k
        refine ⟨a, xs, ds, rfl, hx, hd, _, q, fun ys es hy q' => ⟨_, q', ?_⟩⟩
        have ma := List.mem_of_getElem? e1
        have mu : Mutb (H a) := .inr (.inl ⟨_, hx⟩)
        refine ⟨fun b u z => ?_, by simp [h.ll], fun m b o f1 f2 => ?_, h.ol, fun m b o f1 f2 => ?_, fun p hp => ?_, h.nd, fun b e => let ⟨c, d, h1, h2⟩ := h.x b e; ⟨c, d, h1, h2.put (fun _ _ e => e) mu⟩, fun b e => let ⟨zs, h1, h2⟩ := h.s b e; ⟨zs, h1.put mu, h2⟩, h.low, tabs_put h.tb mu⟩
        · rw [upd_ne (ne_of_none z hf)]; exact h.sub b u z
        · have f2' : (s.ls.set n (.op es))[m]? = some o := f2
          by_cases hm : n = m
          · subst hm
            rw [List.getElem?_set_self (by rw [← h.ll]; exact (List.getElem?_eq_some_iff.mp e1).1)] at f2'
            cases f2'
            rw [e1] at f1; cases f1
            exact ⟨hf, ys, upd_same, hy⟩
          · rw [List.getElem?_set_ne hm] at f2'
            have hb : b ≠ a := fun z => hm (nodup_get h.ndl e1 (z ▸ f1))
            exact (h.l m b o f1 f2').keep rfl (fun v e => (upd_ne hb).trans e) fun _ _ e => e
        · have hb : b ≠ a := fun z => h.lo ma (List.mem_of_getElem? f1) z.symm
          exact (h.o m b o f1 f2).keep rfl (fun v e => (upd_ne hb).trans e) .rfl'
        · have hb : p.1 ≠ a := fun z => h.lp ma (List.mem_map.mpr ⟨p, hp, rfl⟩) z.symm
          exact ⟨(h.p p hp).1, (upd_ne hb).trans (h.p p hp).2⟩
  | obj n =>
    obtain ⟨a, e1, rfl⟩ := hv
    cases e : s.os[n]? with
    | none => simp [chgL, e] at q
    | some o =>
      have k := h.o n a o e1 e
      cases o with
      | ins c fs => simp [chgL, e] at q
      | lst ds =>
        simp only [chgL, e] at q
        obtain ⟨hf, xs, hx, hd⟩ := k
        exact ⟨a, xs, ds, rfl, hx, hd, _, q, fun ys es hy q' => ⟨_, q', h.setO e1 ⟨hf, ys, upd_same, hy⟩⟩⟩
/-- the lists that are being made -/
theorem Rp.pvPush (h : Rp K Fy W H s) {p : Addr} (hp : H p = none) (xs : List V) : Rp K Fy { W with pv := (p, xs) :: W.pv } (upd H p (.lst xs)) s := by
  have np := h.notIn hp
  have nF := h.lookNone hp
  have k : ∀ b u, H b = some u → upd H p (.lst xs) b = some u := fun b u e => by rw [upd_ne (ne_of_none e hp)]; exact e
  refine ⟨fun b u e => k _ _ (h.sub b u e), h.ll, fun m b o f1 f2 => (h.l m b o f1 f2).keep rfl (k b) fun _ _ e => e, h.ol, fun m b o f1 f2 => (h.o m b o f1 f2).keep rfl (k b) ⟨fun _ _ e => e, List.prefix_refl _, List.prefix_refl _, rfl, rfl⟩, fun q hq => ?_, ?_,
    fun b e => let ⟨c, d, h1, h2⟩ := h.x b e; ⟨c, d, h1, h2.put (fun _ _ e => e) (.inl hp)⟩, fun b e => let ⟨ys, h1, h2⟩ := h.s b e; ⟨ys, h1.put (.inl hp), h2⟩, ⟨⟨h.low.le.F, h.low.le.la, h.low.le.oa, h.low.le.sc, h.low.le.xa⟩, h.low.pv.trans (List.suffix_cons _ _)⟩, tabs_put h.tb (.inl hp)⟩
  · rcases List.mem_cons.mp hq with rfl | hq
    · exact ⟨nF, upd_same⟩
    · exact ⟨(h.p q hq).1, k _ _ (h.p q hq).2⟩
  · show (W.la ++ W.oa ++ p :: W.pv.map (·.1)).Nodup
    exact nd_mid.mpr (List.nodup_cons.mpr ⟨np, h.nd⟩)
theorem Rp.pvSet {p : Addr} {xs : List V} {P : List (Addr × List V)} (h : Rp K Fy { W with pv := (p, xs) :: P } H s) (hP : Fy.W.pv <:+ P) (ys : List V) : Rp K Fy { W with pv := (p, ys) :: P } (upd H p (.lst ys)) s := by
  have hF : W.F p = none := (h.p (p, xs) (.head _)).1
  have ndp : (p :: P.map (·.1)).Nodup := h.ndp
  have k : ∀ b u, b ≠ p → H b = some u → upd H p (.lst ys) b = some u := fun b u n e => by rw [upd_ne n]; exact e
  have mu : Mutb (H p) := .inr (.inl ⟨_, (h.p (p, xs) (.head _)).2⟩)
  refine ⟨fun b u e => k _ _ (ne_of_none e hF) (h.sub b u e), h.ll, fun m b o f1 f2 => ?_, h.ol, fun m b o f1 f2 => ?_, fun q hq => ?_, h.nd,
    fun b e => let ⟨c, d, h1, h2⟩ := h.x b e; ⟨c, d, h1, h2.put (fun _ _ e => e) mu⟩, fun b e => let ⟨zs, h1, h2⟩ := h.s b e; ⟨zs, h1.put mu, h2⟩, ⟨⟨h.low.le.F, h.low.le.la, h.low.le.oa, h.low.le.sc, h.low.le.xa⟩, hP.trans (List.suffix_cons _ _)⟩, tabs_put h.tb mu⟩
  · have hb : b ≠ p := h.lp (List.mem_of_getElem? f1) (.head _)
    exact (h.l m b o f1 f2).keep rfl (fun v e => k b v hb e) fun _ _ e => e
  · have hb : b ≠ p := h.op (List.mem_of_getElem? f1) (.head _)
    exact (h.o m b o f1 f2).keep rfl (fun v e => k b v hb e) ⟨fun _ _ e => e, List.prefix_refl _, List.prefix_refl _, rfl, rfl⟩
  · have hq' : q ∈ (p, ys) :: P := hq
    rcases List.mem_cons.mp hq' with rfl | hq'
    · exact ⟨hF, upd_same⟩
    · have hb : q.1 ≠ p := fun z => (List.nodup_cons.mp ndp).1 (z ▸ List.mem_map.mpr ⟨q, hq', rfl⟩)
      exact ⟨(h.p q (.tail _ hq')).1, k _ _ hb (h.p q (.tail _ hq')).2⟩
/-- one is made: it is frozen -/
theorem Rp.pvPop {p : Addr} {xs : List V} {P : List (Addr × List V)} (h : Rp K Fy { W with pv := (p, xs) :: P } H s) (hP : Fy.W.pv <:+ P) : Rp K Fy { W with F := upd W.F p (.lst xs), pv := P } H s ∧ SubH W.F (upd W.F p (.lst xs)) := by
  have hF : W.F p = none := (h.p (p, xs) (.head _)).1
  have hH : H p = some (.lst xs) := (h.p (p, xs) (.head _)).2
  have ndp : (p :: P.map (·.1)).Nodup := h.ndp
  have sF : SubH W.F (upd W.F p (.lst xs)) := fun b u e => by rw [upd_ne (ne_of_none e hF)]; exact e
  have lo := h.low.le
  refine ⟨⟨fun b u e => ?_, h.ll, fun m b o f1 f2 => ?_, h.ol, fun m b o f1 f2 => ?_, fun q hq => ?_, ?_, fun b e => let ⟨c, d, h1, h2⟩ := h.x b e; ⟨c, d, h1, h2.keep sF fun _ _ e => e⟩, fun b e => let ⟨zs, h1, h2⟩ := h.s b e; ⟨zs, h1, h2.mono sF⟩,
    ⟨⟨fun b u e => sF _ _ (lo.F _ _ e), lo.la, lo.oa, lo.sc, lo.xa⟩, hP⟩, h.tb⟩, sF⟩
  · by_cases hb : b = p
    · subst hb
      have e' : some (HO.lst xs) = some u := by rw [← e]; exact upd_same.symm
      rw [hH]; exact e'
    · exact h.sub b u (by rw [← e]; exact (upd_ne hb).symm)
  · have hb : b ≠ p := h.lp (List.mem_of_getElem? f1) (.head _)
    exact (h.l m b o f1 f2).keep (upd_ne hb) (fun _ e => e) sF
  · have hb : b ≠ p := h.op (List.mem_of_getElem? f1) (.head _)
    exact (h.o m b o f1 f2).keep (upd_ne hb) (fun _ e => e) ⟨sF, List.prefix_refl _, List.prefix_refl _, rfl, rfl⟩
  · have hb : q.1 ≠ p := fun z => (List.nodup_cons.mp ndp).1 (z ▸ List.mem_map.mpr ⟨q, hq, rfl⟩)
    exact ⟨(upd_ne hb).trans (h.p q (.tail _ hq)).1, (h.p q (.tail _ hq)).2⟩
  · have nd := h.nd
    have nd' : (W.la ++ W.oa ++ p :: P.map (·.1)).Nodup := nd
    exact (List.nodup_cons.mp (nd_mid.mp nd')).2
end
end DL

end
section
/-! DL 6: readings of displays, targets, statements, loops, comprehensions. -/
namespace DL
open PySem PySem.Spec L2
abbrev St := L2.St

section
variable {K : Fg} {Fy : Fl}
theorem hE_tup {n : Nat} {ta : DTA} {σ : St} {H : Hp} {Q : VK} (h : hE K Fy (fun ρ s Q => ta ρ s fun vs s => frzs vs s fun ds s => ds.length ≤ sizeLine ∧ Q (.d (.tuple ds)) s) σ H Q) : tTup (hA K Fy n ta) σ H Q := by
  obtain ⟨W, ρ, s, Q1, r, rs, ht, hp⟩ := h
  refine hA_bind r rs ht fun x s1 v H1 W1 q1 l1 r1 v1 rs1 _ => ?_
  obtain ⟨ds, s2, W2, q2, l2, r2, d2⟩ := frzs_ok r1 v1 q1
  have hp2 : Post K Fy W2 Q1 Q := fun d s' v H' W' q l r' v' => hp d s' v H' W' q (l1.trans (l2.trans l)) r' v'
  exact ⟨by rw [d2.1]; exact q2.1, hp2.newT r2 d2 q2.2⟩
theorem hE_lst {n : Nat} {p : Pol} {ta : DTA} {σ : St} {H : Hp} {Q : VK} (h : hE K Fy (fun ρ s Q => ta ρ s fun vs s => frzs vs s fun ds s => newL p ds s Q) σ H Q) : tLst (hA K Fy n ta) σ H Q := by
  obtain ⟨W, ρ, s, Q1, r, rs, ht, hp⟩ := h
  refine hA_bind r rs ht fun x s1 v H1 W1 q1 l1 r1 v1 rs1 _ => ?_
  obtain ⟨ds, s2, W2, q2, l2, r2, d2⟩ := frzs_ok r1 v1 q1
  have hp2 : Post K Fy W2 Q1 Q := fun d s' v H' W' q l r' v' => hp d s' v H' W' q (l1.trans (l2.trans l)) r' v'
  refine ⟨by rw [d2.1]; exact q2.1, ?_⟩
  cases p with
  | fz => exact hp2.newL r2 d2 q2.2
  | loc =>
    intro p hn
    obtain ⟨r3, l3⟩ := r2.pushL hn d2
    refine hp2 _ _ _ _ _ q2.2 l3 r3 ⟨p, ?_, rfl⟩
    show (W2.la ++ [p])[s2.ls.length]? = some p
    rw [← r2.ll]; simp
  | perm =>
    intro p hn
    obtain ⟨r3, l3⟩ := r2.pushO hn d2
    refine hp2 _ _ _ _ _ q2.2 l3 r3 ⟨p, ?_, rfl⟩
    show (W2.oa ++ [p])[s2.os.length]? = some p
    rw [← r2.ol]; simp
theorem hA_nil {σ : St} {H : Hp} {Q : List V → Hp → Prop} (h : hA K Fy 0 (fun ρ s Q => Q [] s) σ H Q) : tNil σ H Q := by
  obtain ⟨W, ρ, s, Q1, r, rs, ht, hp⟩ := h
  exact hp _ _ _ _ _ ht .rfl' r .nil rfl
theorem hA_cons {n : Nat} {te : DTE} {ta : DTA} {σ : St} {H : Hp} {Q : List V → Hp → Prop} (h : hA K Fy (n + 1) (fun ρ s Q => te ρ s fun x s => ta ρ s fun xs s => Q (x :: xs) s) σ H Q) : tCons (hE K Fy te) (hA K Fy n ta) σ H Q := by
  obtain ⟨W, ρ, s, Q1, r, rs, ht, hp⟩ := h
  refine hE_bind r rs ht fun x s1 v H1 W1 q1 l1 r1 v1 rs1 => hA_bind r1 rs1 q1 fun xs s2 vs H2 W2 q2 l2 r2 v2 rs2 z => ?_
  exact hp _ _ _ _ _ q2 (l1.trans l2) r2 (.cons (VR.mono l2 v1) v2) (by simp [z])
/-- a name -/
theorem hE_var {i : Nat} {σ : St} {H : Hp} {Q : VK} (h : hE K Fy (fun ρ s Q => ∃ x, ρ[i]? = some (some x) ∧ Q x s) σ H Q) : tVar i σ H Q := by
  obtain ⟨W, ρ, s, Q1, r, rs, ⟨x, e, q⟩, hp⟩ := h
  obtain ⟨v, e2, r2⟩ := rs.2 i x e
  exact ⟨v, e2, hp _ _ _ _ _ q .rfl' r r2⟩
theorem hE_c {v : V} {d : D} (hv : ∀ F, DV K F v d) {σ : St} {H : Hp} {Q : VK} (h : hE K Fy (fun ρ s Q => Q (.d d) s) σ H Q) : tC v σ H Q := by
  obtain ⟨W, ρ, s, Q1, r, rs, q, hp⟩ := h
  exact hp _ _ _ _ _ q .rfl' r (hv _)
theorem hE_dict {σ : St} {H : Hp} {Q : VK} (h : hE K Fy (fun ρ s Q => Q (.d (.dict [])) s) σ H Q) : tDNewK σ H Q := by
  obtain ⟨W, ρ, s, Q1, r, rs, q, hp⟩ := h
  intro p hn
  obtain ⟨r', l⟩ := r.fresh hn (.dK [])
  exact hp _ _ _ _ _ q l r' (show DV K (upd W.F p _) _ (.dict (([] : List (Str × D)).map fun p => (.str p.1, p.2))) from .dct upd_same rfl (fun i p q a b => by simp at a) (fun i p q a b => by simp at a))
theorem hE_not {t : DTT} {σ : St} {H : Hp} {Q : VK} (h : hE K Fy (fun ρ s Q => t ρ s fun b s => Q (.d (.bool (!b))) s) σ H Q) : (hT K Fy t) σ H fun b H1 => Q (.bl (!b)) H1 := by
  obtain ⟨W, ρ, s, Q1, r, rs, ht, hp⟩ := h
  exact hT_bind r rs ht fun b s1 H1 W1 q l r1 rs1 => hp _ _ _ _ _ q l r1 (show DV K W1.F _ _ from .bl _)
theorem hE_and {ta tb : DTE} {σ : St} {H : Hp} {Q : VK} (h : hE K Fy (fun ρ s Q => ta ρ s fun x s => ∃ c, x = .d (.bool c) ∧ if c = true then tb ρ s Q else Q (.d (.bool false)) s) σ H Q) : tAndV (hE K Fy ta) (hE K Fy tb) σ H Q := by
  obtain ⟨W, ρ, s, Q1, r, rs, ht, hp⟩ := h
  refine hE_bind r rs ht fun x s1 v H1 W1 q1 l1 r1 v1 rs1 => ?_
  obtain ⟨c, rfl, q⟩ := q1
  refine ⟨c, VR.bl v1, ?_⟩
  cases c with
  | true => exact ⟨W1, ρ, s1, Q1, r1, rs1, q, fun d s' v H' W' q l r' v' => hp d s' v H' W' q (l1.trans l) r' v'⟩
  | false => exact hp _ _ _ _ _ q l1 r1 (show DV K W1.F _ _ from .bl _)
theorem hE_or {ta tb : DTE} {σ : St} {H : Hp} {Q : VK} (h : hE K Fy (fun ρ s Q => ta ρ s fun x s => ∃ c, x = .d (.bool c) ∧ if c = true then Q (.d (.bool true)) s else tb ρ s Q) σ H Q) : tOrV (hE K Fy ta) (hE K Fy tb) σ H Q := by
  obtain ⟨W, ρ, s, Q1, r, rs, ht, hp⟩ := h
  refine hE_bind r rs ht fun x s1 v H1 W1 q1 l1 r1 v1 rs1 => ?_
  obtain ⟨c, rfl, q⟩ := q1
  refine ⟨c, VR.bl v1, ?_⟩
  cases c with
  | true => exact hp _ _ _ _ _ q l1 r1 (show DV K W1.F _ _ from .bl _)
  | false => exact ⟨W1, ρ, s1, Q1, r1, rs1, q, fun d s' v H' W' q l r' v' => hp d s' v H' W' q (l1.trans l) r' v'⟩
theorem hE_ite {tc : DTT} {ta tb : DTE} {σ : St} {H : Hp} {Q : VK} (h : hE K Fy (fun ρ s Q => tc ρ s fun k s => if k = true then ta ρ s Q else tb ρ s Q) σ H Q) : tIf (hT K Fy tc) (hE K Fy ta) (hE K Fy tb) σ H Q := by
  obtain ⟨W, ρ, s, Q1, r, rs, ht, hp⟩ := h
  refine hT_bind r rs ht fun c s1 H1 W1 q1 l1 r1 rs1 => ?_
  have hp1 : ∀ d s' v H' W', Q1 d s' → Le W1 W' → Rp K Fy W' H' s' → VR K W' v d → Q v H' := fun d s' v H' W' q l r' v' => hp d s' v H' W' q (l1.trans l) r' v'
  cases c with
  | true => exact ⟨W1, ρ, s1, Q1, r1, rs1, q1, hp1⟩
  | false => exact ⟨W1, ρ, s1, Q1, r1, rs1, q1, hp1⟩
/-- tests -/
theorem hT_not {t : DTT} {σ : St} {H : Hp} {Q : Bool → Hp → Prop} (h : hT K Fy (fun ρ s Q => t ρ s fun b s => Q (!b) s) σ H Q) : tNot (hT K Fy t) σ H Q := by
  obtain ⟨W, ρ, s, Q1, r, rs, ht, hp⟩ := h
  exact hT_bind r rs ht fun b s1 H1 W1 q l r1 rs1 => hp _ _ _ _ q l r1
theorem hT_and {ta tb : DTT} {σ : St} {H : Hp} {Q : Bool → Hp → Prop} (h : hT K Fy (fun ρ s Q => ta ρ s fun c s => if c = true then tb ρ s Q else Q false s) σ H Q) : tAnd (hT K Fy ta) (hT K Fy tb) σ H Q := by
  obtain ⟨W, ρ, s, Q1, r, rs, ht, hp⟩ := h
  refine hT_bind r rs ht fun c s1 H1 W1 q1 l1 r1 rs1 => ?_
  cases c with
  | true => exact ⟨W1, ρ, s1, Q1, r1, rs1, q1, fun d s' H' W' q l r' => hp d s' H' W' q (l1.trans l) r'⟩
  | false => exact hp _ _ _ _ q1 l1 r1
theorem hT_or {ta tb : DTT} {σ : St} {H : Hp} {Q : Bool → Hp → Prop} (h : hT K Fy (fun ρ s Q => ta ρ s fun c s => if c = true then Q true s else tb ρ s Q) σ H Q) : tOr (hT K Fy ta) (hT K Fy tb) σ H Q := by
  obtain ⟨W, ρ, s, Q1, r, rs, ht, hp⟩ := h
  refine hT_bind r rs ht fun c s1 H1 W1 q1 l1 r1 rs1 => ?_
  cases c with
  | true => exact hp _ _ _ _ q1 l1 r1
  | false => exact ⟨W1, ρ, s1, Q1, r1, rs1, q1, fun d s' H' W' q l r' => hp d s' H' W' q (l1.trans l) r'⟩
/-- a value that is a bool, as a test -/
theorem hT_val {te : DTE} {t : DTT} (k : ∀ ρ s Q, t ρ s Q → te ρ s fun x s => ∃ b, x = .d (.bool b) ∧ Q b s) {σ : St} {H : Hp} {Q : Bool → Hp → Prop} (h : hT K Fy t σ H Q) : tB (hE K Fy te) σ H Q := by
  obtain ⟨W, ρ, s, Q1, r, rs, ht, hp⟩ := h
  refine hE_bind r rs (k _ _ _ ht) fun x s1 v H1 W1 q1 l1 r1 v1 rs1 => ?_
  obtain ⟨b, rfl, q⟩ := q1
  exact ⟨b, VR.bl v1, hp _ _ _ _ q l1 r1⟩
/-- a comparison as a test -/
theorem hT_cmp {o : COp} {ta tb : DTE} {σ : St} {H : Hp} {Q : Bool → Hp → Prop} (h : hT K Fy (fun ρ s Q => ta ρ s fun x s => tb ρ s fun y s => cmpV o x y s Q) σ H Q) : tTest (tOp (hR K Fy (gCmp o)) (hE K Fy ta) (hE K Fy tb)) σ H Q := by
  obtain ⟨W, ρ, s, Q1, r, rs, ht, hp⟩ := h
  refine hE_bind r rs ht fun x s1 v H1 W1 q1 l1 r1 v1 rs1 => hE_bind r1 rs1 q1 fun y s2 u H2 W2 q2 l2 r2 v2 rs2 => ?_
  refine ⟨W2, s2, x, y, fun d s => ∃ b, d = .d (.bool b) ∧ Q1 b s, r2, VR.mono l2 v1, v2, cmpV_imp q2 fun c s q => ⟨c, rfl, q⟩, fun d s' v H' W' q l r' v' => ?_⟩
  obtain ⟨b, rfl, q⟩ := q
  exact ⟨b, VR.bl v', hp _ _ _ _ q (l1.trans (l2.trans l)) r'⟩
/-- a subscript, a slice -/
def hO (K : Fg) (Fy : Fl) (t : Rho → S → (Option Int → S → Prop) → Prop) : TO := fun σ H Q => ∃ W ρ s Q1, Rp K Fy W H s ∧ RS K W σ ρ ∧ t ρ s Q1 ∧ ∀ b s' H' W', Q1 b s' → Le W W' → Rp K Fy W' H' s' → Q b H'
theorem hO_none {σ : St} {H : Hp} {Q : Option Int → Hp → Prop} (h : hO K Fy (fun ρ s Q => Q none s) σ H Q) : tNoPart σ H Q := by
  obtain ⟨W, ρ, s, Q1, r, rs, ht, hp⟩ := h
  exact hp _ _ _ _ ht .rfl' r
theorem hO_some {te : DTE} {σ : St} {H : Hp} {Q : Option Int → Hp → Prop} (h : hO K Fy (fun ρ s Q => te ρ s fun x s => ∃ i, x = .d (.int i) ∧ Q (some i) s) σ H Q) : tPart (hE K Fy te) σ H Q := by
  obtain ⟨W, ρ, s, Q1, r, rs, ht, hp⟩ := h
  refine hE_bind r rs ht fun x s1 v H1 W1 q1 l1 r1 v1 rs1 => ?_
  obtain ⟨i, rfl, q⟩ := q1
  exact ⟨i, VR.int v1, hp _ _ _ _ q l1 r1⟩
theorem hE_slc {ta : DTE} {tl th : Rho → S → (Option Int → S → Prop) → Prop} {σ : St} {H : Hp} {Q : VK}
    (h : hE K Fy (fun ρ s Q => ta ρ s fun x s => tl ρ s fun i s => th ρ s fun j s => ∃ u, asD x s = some u ∧ slcD u i j fun d => Q (.d d) s) σ H Q) : tSl (hS K Fy gSlc) (hE K Fy ta) (hO K Fy tl) (hO K Fy th) σ H Q := by
  obtain ⟨W, ρ, s, Q1, r, rs, ht, hp⟩ := h
  refine hE_bind r rs ht fun x s1 v H1 W1 q1 l1 r1 v1 rs1 => ⟨W1, ρ, s1, _, r1, rs1, q1, fun i s2 H2 W2 q2 l2 r2 => ⟨W2, ρ, s2, _, r2, rs1.mono l2, q2, fun j s3 H3 W3 q3 l3 r3 => ?_⟩⟩
  exact ⟨W3, s3, x, Q1, r3, VR.mono (l2.trans l3) v1, q3, fun d s' v H' W' q l r' v' => hp d s' v H' W' q (l1.trans (l2.trans (l3.trans l))) r' v'⟩
theorem hE_rev {ta : DTE} {σ : St} {H : Hp} {Q : VK} (h : hE K Fy (fun ρ s Q => ta ρ s fun x s => ∃ xs, asD x s = some (.list xs) ∧ Q (.d (.list xs.reverse)) s) σ H Q) : tRevL K (hE K Fy ta) σ H Q := by
  obtain ⟨W, ρ, s, Q1, r, rs, ht, hp⟩ := h
  refine hE_bind r rs ht fun x s1 v H1 W1 q1 l1 r1 v1 rs1 => ?_
  obtain ⟨ds, e, q⟩ := q1
  obtain ⟨a, xs, rfl, h1, h2⟩ := asD_list r1 v1 e
  have hp2 : Post K Fy W1 Q1 Q := fun d s' v H' W' q l r' v' => hp d s' v H' W' q (l1.trans l) r' v'
  refine ⟨a, xs, rfl, h1, hp2.newL r1 ⟨by simp [h2.1], fun i y e a b => ?_⟩ q⟩
  have hi : i < xs.length := by have := (List.getElem?_eq_some_iff.mp a).1; simpa using this
  rw [List.getElem?_reverse hi] at a
  rw [List.getElem?_reverse (by rw [← h2.1]; exact hi)] at b
  rw [← h2.1] at b
  exact h2.2 _ y e a b

/-! ### targets -/
def OnlyS (sl : List Nat) (σ σ' : St) : Prop := σ'.length = σ.length ∧ ∀ j, j ∉ sl → σ'[j]? = σ[j]?
theorem OnlyS.rfl' {sl : List Nat} {σ : St} : OnlyS sl σ σ := ⟨rfl, fun _ _ => rfl⟩
theorem OnlyS.trans {sl : List Nat} {σ σ1 σ2 : St} (a : OnlyS sl σ σ1) (b : OnlyS sl σ1 σ2) : OnlyS sl σ σ2 := ⟨b.1.trans a.1, fun j h => (b.2 j h).trans (a.2 j h)⟩
theorem OnlyS.sub {sl sl' : List Nat} {σ σ1 : St} (a : OnlyS sl σ σ1) (h : ∀ i ∈ sl, i ∈ sl') : OnlyS sl' σ σ1 := ⟨a.1, fun j hj => a.2 j fun z => hj (h j z)⟩
abbrev DTG := Vl → Rho → S → (Rho → S → Prop) → Prop
def PostR (K : Fg) (Fy : Fl) (W : Wd) (sl : List Nat) (σ : St) (Q1 : Rho → S → Prop) (Q : St → Hp → Prop) : Prop := ∀ ρ' s' σ' H' W', Q1 ρ' s' → Le W W' → Rp K Fy W' H' s' → RS K W' σ' ρ' → OnlyS sl σ σ' → Q σ' H'
theorem PostR.step {W W1 : Wd} {sl : List Nat} {σ σ1 : St} {Q1 : Rho → S → Prop} {Q : St → Hp → Prop} (h : PostR K Fy W sl σ Q1 Q) (l : Le W W1) (o : OnlyS sl σ σ1) : PostR K Fy W1 sl σ1 Q1 Q := fun ρ' s' σ' H' W' q l' r rs oo => h ρ' s' σ' H' W' q (l.trans l') r rs (o.trans oo)
def hG (K : Fg) (Fy : Fl) (sl : List Nat) (t : DTG) : TG := fun v σ H Q => ∃ W ρ s x Q1, Rp K Fy W H s ∧ RS K W σ ρ ∧ VR K W v x ∧ t x ρ s Q1 ∧ PostR K Fy W sl σ Q1 Q
def hGs (K : Fg) (Fy : Fl) (sl : List Nat) (t : List D → Rho → S → (Rho → S → Prop) → Prop) : TGs := fun vs σ H Q => ∃ W ρ s ds Q1, Rp K Fy W H s ∧ RS K W σ ρ ∧ DVs K W.F vs ds ∧ t ds ρ s Q1 ∧ PostR K Fy W sl σ Q1 Q
theorem hG_name {i : Nat} {sl : List Nat} (hi : i ∈ sl) {v : V} {σ : St} {H : Hp} {Q : St → Hp → Prop} (h : hG K Fy sl (fun v ρ s K => K (ρ.set i (some v)) s) v σ H Q) : gName i v σ H Q := by
  obtain ⟨W, ρ, s, x, Q1, r, rs, rv, q, hp⟩ := h
  exact hp _ _ _ _ _ q .rfl' r (rs.set i rv) ⟨by simp, fun j hj => by rw [List.getElem?_set_ne]; rintro rfl; exact hj hi⟩
theorem hGs_nil {sl : List Nat} {vs : List V} {σ : St} {H : Hp} {Q : St → Hp → Prop} (h : hGs K Fy sl (fun xs ρ s K => xs = [] ∧ K ρ s) vs σ H Q) : gNil vs σ H Q := by
  obtain ⟨W, ρ, s, x, Q1, r, rs, rv, ⟨e, q⟩, hp⟩ := h
  subst e
  exact ⟨rv.inv_nil, hp _ _ _ _ _ q .rfl' r rs .rfl'⟩
theorem hGs_cons {sl : List Nat} {t : DTG} {ts : List D → Rho → S → (Rho → S → Prop) → Prop} {vs : List V} {σ : St} {H : Hp} {Q : St → Hp → Prop}
    (h : hGs K Fy sl (fun xs ρ s K => ∃ x r, xs = x :: r ∧ t (.d x) ρ s fun ρ s => ts r ρ s K) vs σ H Q) : gCons (hG K Fy sl t) (hGs K Fy sl ts) vs σ H Q := by
  obtain ⟨W, ρ, s, x, Q1, r, rs, rv, ⟨d, ds, e, q⟩, hp⟩ := h
  subst e
  obtain ⟨v, vr, rfl, h1, h2⟩ := rv.inv_cons
  refine ⟨v, vr, rfl, W, ρ, s, .d d, _, r, rs, h1, q, fun ρ' s' σ' H' W' q' l r' rs' o => ?_⟩
  exact ⟨W', ρ', s', ds, Q1, r', rs', h2.mono l.F, q', hp.step l o⟩
theorem hG_tup {sl : List Nat} {n : Nat} {ts : List D → Rho → S → (Rho → S → Prop) → Prop} (hn : ∀ xs ρ s Q, ts xs ρ s Q → xs.length = n) {v : V} {σ : St} {H : Hp} {Q : St → Hp → Prop}
    (h : hG K Fy sl (fun v ρ s K => ∃ xs, v = .d (.tuple xs) ∧ ts xs ρ s K) v σ H Q) : gTup K n (hGs K Fy sl ts) v σ H Q := by
  obtain ⟨W, ρ, s, x, Q1, r, rs, rv, ⟨xs, e, q⟩, hp⟩ := h
  subst e
  obtain ⟨a, ys, rfl, h1, _, h2⟩ := VR.tup r rv
  exact ⟨a, ys, rfl, h1, h2.1.trans (hn _ _ _ _ q), W, ρ, s, xs, Q1, r, rs, h2, q, hp⟩
theorem hG_lstU {sl : List Nat} {n : Nat} {ts : List D → Rho → S → (Rho → S → Prop) → Prop} (hn : ∀ xs ρ s Q, ts xs ρ s Q → xs.length = n) {v : V} {σ : St} {H : Hp} {Q : St → Hp → Prop}
    (h : hG K Fy sl (fun v ρ s K => ∃ xs, v = .d (.list xs) ∧ ts xs ρ s K) v σ H Q) : gLstU K n (hGs K Fy sl ts) v σ H Q := by
  obtain ⟨W, ρ, s, x, Q1, r, rs, rv, ⟨xs, e, q⟩, hp⟩ := h
  subst e
  obtain ⟨a, ys, rfl, h1, h2⟩ := asD_list r rv rfl
  exact ⟨a, ys, rfl, h1, h2.1.trans (hn _ _ _ _ q), W, ρ, s, xs, Q1, r, rs, h2, q, hp⟩
theorem hG_sub {sl : List Nat} {ta tb : DTE} {v : V} {σ : St} {H : Hp} {Q : St → Hp → Prop}
    (h : hG K Fy sl (fun v ρ s K => ta ρ s fun x s => tb ρ s fun y s => frz v s fun d s => ∃ i : Int, y = .d (.int i) ∧ chgL x s (fun xs R => ∃ j, ixN xs.length i = some j ∧ R (xs.set j d)) fun s => K ρ s) v σ H Q) : gSub (hE K Fy ta) (hE K Fy tb) rSetL v σ H Q := by
  obtain ⟨W, ρ, s, x, Q1, r, rs, rv, q, hp⟩ := h
  refine hE_bind r rs q fun y s1 u H1 W1 q1 l1 r1 v1 rs1 => hE_bind r1 rs1 q1 fun z s2 w H2 W2 q2 l2 r2 v2 rs2 => ?_
  obtain ⟨d, s3, W3, q3, l3, r3, d3⟩ := frz_ok r2 (VR.mono (l1.trans l2) rv) q2
  obtain ⟨i, rfl, q3⟩ := q3
  obtain ⟨a, xs, ds, rfl, hx, hd, Q', ⟨j, hj, q'⟩, k⟩ := r3.chg (VR.mono (l2.trans l3) v1) q3
  obtain ⟨s4, q4, r4⟩ := k (xs.set j v) (ds.set j d) (hd.set j d3) q'
  exact ⟨a, xs, i, j, rfl, VR.int v2, hx, by rw [hd.1]; exact hj, hp _ _ _ _ _ q4 (l1.trans (l2.trans l3)) r4 (rs2.mono l3) .rfl'⟩

/-! ### statements -/
structure PostE (K : Fg) (Fy : Fl) (W : Wd) (X : DE) (D : Ends) : Prop where
  nx : ∀ ρ' s' σ' H' W', X.nx ρ' s' → Le W W' → Rp K Fy W' H' s' → RS K W' σ' ρ' → D.nx σ' H'
  rt : Post K Fy W X.rt D.rt
  bk : ∀ ρ' s' σ' H' W', X.bk ρ' s' → Le W W' → Rp K Fy W' H' s' → RS K W' σ' ρ' → D.bk σ' H'
  ct : ∀ ρ' s' σ' H' W', X.ct ρ' s' → Le W W' → Rp K Fy W' H' s' → RS K W' σ' ρ' → D.ct σ' H'
theorem PostE.le {W W1 : Wd} {X : DE} {D : Ends} (h : PostE K Fy W X D) (l : Le W W1) : PostE K Fy W1 X D :=
  ⟨fun a b c d e q l' => h.nx a b c d e q (l.trans l'), h.rt.le l, fun a b c d e q l' => h.bk a b c d e q (l.trans l'), fun a b c d e q l' => h.ct a b c d e q (l.trans l')⟩
abbrev DTS := DE → Rho → S → Prop
def hC (K : Fg) (Fy : Fl) (t : DTS) : TS := fun D σ H => ∃ W ρ s X, Rp K Fy W H s ∧ RS K W σ ρ ∧ t X ρ s ∧ PostE K Fy W X D
theorem hC_done {D : Ends} {σ : St} {H : Hp} (h : hC K Fy (fun X ρ s => X.nx ρ s) D σ H) : tNext D σ H := by
  obtain ⟨W, ρ, s, X, r, rs, q, hp⟩ := h
  exact hp.nx _ _ _ _ _ q .rfl' r rs
theorem hC_asg {sl : List Nat} {te : DTE} {tg : DTG} {tk : DTS} {D : Ends} {σ : St} {H : Hp} (h : hC K Fy (fun X ρ s => te ρ s fun x s => tg x ρ s fun ρ s => tk X ρ s) D σ H) : tSeq (tAsg (hE K Fy te) (hG K Fy sl tg)) (hC K Fy tk) D σ H := by
  obtain ⟨W, ρ, s, X, r, rs, q, hp⟩ := h
  refine hE_bind r rs q fun x s1 v H1 W1 q1 l1 r1 v1 rs1 => ⟨W1, ρ, s1, x, _, r1, rs1, v1, q1, fun ρ' s' σ' H' W' q' l r' rs' _ => ?_⟩
  exact ⟨W', ρ', s', X, r', rs', q', hp.le (l1.trans l)⟩
theorem hC_expr {te : DTE} {tk : DTS} {D : Ends} {σ : St} {H : Hp} (h : hC K Fy (fun X ρ s => te ρ s fun _ s => tk X ρ s) D σ H) : tSeq (tDrop (hE K Fy te)) (hC K Fy tk) D σ H := by
  obtain ⟨W, ρ, s, X, r, rs, q, hp⟩ := h
  exact hE_bind r rs q fun x s1 v H1 W1 q1 l1 r1 v1 rs1 => ⟨W1, ρ, s1, X, r1, rs1, q1, hp.le l1⟩
theorem hC_ret {te : DTE} {D : Ends} {σ : St} {H : Hp} {u : TS} (h : hC K Fy (fun X ρ s => te ρ s X.rt) D σ H) : tSeq (tRet (hE K Fy te)) u D σ H := by
  obtain ⟨W, ρ, s, X, r, rs, q, hp⟩ := h
  exact ⟨W, ρ, s, X.rt, r, rs, q, hp.rt⟩
theorem hC_if {tc : DTT} {ta tb tk : DTS} {D : Ends} {σ : St} {H : Hp} (h : hC K Fy (fun X ρ s => tc ρ s fun z s => if z = true then ta { X with nx := tk X } ρ s else tb { X with nx := tk X } ρ s) D σ H) :
    tSeq (tIfS (hT K Fy tc) (hC K Fy ta) (hC K Fy tb)) (hC K Fy tk) D σ H := by
  obtain ⟨W, ρ, s, X, r, rs, q, hp⟩ := h
  refine hT_bind r rs q fun z s1 H1 W1 q1 l1 r1 rs1 => ?_
  have hp1 : PostE K Fy W1 { X with nx := tk X } { D with nx := hC K Fy tk D } := ⟨fun ρ' s' σ' H' W' q l r' rs' => ⟨W', ρ', s', X, r', rs', q, hp.le (l1.trans l)⟩, hp.rt.le l1, (hp.le l1).bk, (hp.le l1).ct⟩
  cases z with
  | true => exact ⟨W1, ρ, s1, _, r1, rs1, q1, hp1⟩
  | false => exact ⟨W1, ρ, s1, _, r1, rs1, q1, hp1⟩
theorem setS_rs {W : Wd} : ∀ {is : List Nat} {vs : List V} {xs : List Vl} {σ : St} {ρ : Rho}, RS K W σ ρ → VRs K W vs xs → vs.length = is.length →
    RS K W ((is.zip vs).foldl (fun σ p => σ.set p.1 (some p.2)) σ) (setS ρ is xs)
  | [], [], _, _, _, h, r, _ => by cases r; exact h
  | [], _ :: _, _, _, _, _, _, e => by simp at e
  | _ :: _, [], _, _, _, _, _, e => by simp at e
  | i :: is, v :: vs, _, σ, ρ, h, r, e => by
    cases r with
    | cons r1 r2 =>
      have q := setS_rs (is := is) (vs := vs) (h.set i r1) r2 (by simpa using e)
      exact q
theorem hC_par {i j : Nat} {ta : DTA} {tk : DTS} {D : Ends} {σ : St} {H : Hp} (h : hC K Fy (fun X ρ s => ta ρ s fun vs s => tk X (setS ρ [i, j] vs) s) D σ H) : tSeq (tPar i j (hA K Fy 2 ta)) (hC K Fy tk) D σ H := by
  obtain ⟨W, ρ, s, X, r, rs, q, hp⟩ := h
  refine hA_bind r rs q fun xs s1 vs H1 W1 q1 l1 r1 v1 rs1 e => ?_
  match vs, e with
  | [v, w], _ => exact ⟨v, w, rfl, W1, _, s1, X, r1, setS_rs (is := [i, j]) rs1 v1 rfl, q1, hp.le l1⟩

/-! ### lists that change -/
theorem asT_sq {W : Wd} {H : Hp} {s : S} {v : V} {x : Vl} {zs : List D} (r : Rp K Fy W H s) (h : VR K W v x) (e : asT x s = some (.list zs)) : ∃ a xs, v = .ref a ∧ SqL K H a xs := by
  obtain ⟨a, xs, e1, e2, _⟩ := asT_list r h e
  exact ⟨a, xs, e1, .inl (.inl e2)⟩
theorem hC_app {tt te : DTE} {tk : DTS} {D : Ends} {σ : St} {H : Hp}
    (h : hC K Fy (fun X ρ s => tt ρ s fun x s => (∃ zs, asT x s = some (.list zs)) ∧ te ρ s fun y s => frz y s fun d s => chgL x s (fun xs R => xs.length < sizeLine ∧ R (xs ++ [d])) fun s => tk X ρ s) D σ H) :
    tSeq (tDrop (tBM K "list" rAppend (hE K Fy tt) (tCons (hE K Fy te) tNil))) (hC K Fy tk) D σ H := by
  obtain ⟨W, ρ, s, X, r, rs, q, hp⟩ := h
  refine hE_bind r rs q fun x s1 v H1 W1 q1 l1 r1 v1 rs1 => ?_
  obtain ⟨⟨zs, e⟩, q1⟩ := q1
  obtain ⟨a0, xs0, rfl, e0⟩ := asT_sq r1 v1 e
  refine ⟨.inl ⟨rfl, xs0, e0⟩, hE_bind r1 rs1 q1 fun y s2 u H2 W2 q2 l2 r2 v2 rs2 => ?_⟩
  obtain ⟨d, s3, W3, q3, l3, r3, d3⟩ := frz_ok r2 v2 q2
  obtain ⟨a, xs, ds, ea, hx, hd, Q', ⟨hl, q'⟩, k⟩ := r3.chg (VR.mono (l2.trans l3) v1) q3
  obtain ⟨s4, q4, r4⟩ := k (xs ++ [u]) (ds ++ [d]) (hd.app (.cons d3 .nil)) q'
  cases ea
  exact ⟨a0, xs, u, rfl, rfl, hx, by rw [hd.1]; exact hl, W3, ρ, s4, X, r4, rs2.mono l3, q4, hp.le (l1.trans (l2.trans l3))⟩
theorem hC_ext {tt te : DTE} {tk : DTS} {D : Ends} {σ : St} {H : Hp}
    (h : hC K Fy (fun X ρ s => tt ρ s fun x s => (∃ zs, asT x s = some (.list zs)) ∧ te ρ s fun y s => ∃ ys, asT y s = some (.list ys) ∧ chgL x s (fun xs R => xs.length + ys.length < sizeLine ∧ R (xs ++ ys)) fun s => tk X ρ s) D σ H) :
    tSeq (tDrop (tBM K "list" rExtend (hE K Fy tt) (tCons (hE K Fy te) tNil))) (hC K Fy tk) D σ H := by
  obtain ⟨W, ρ, s, X, r, rs, q, hp⟩ := h
  refine hE_bind r rs q fun x s1 v H1 W1 q1 l1 r1 v1 rs1 => ?_
  obtain ⟨⟨zs, e⟩, q1⟩ := q1
  obtain ⟨a0, xs0, rfl, e0⟩ := asT_sq r1 v1 e
  refine ⟨.inl ⟨rfl, xs0, e0⟩, hE_bind r1 rs1 q1 fun y s2 u H2 W2 q2 l2 r2 v2 rs2 => ?_⟩
  obtain ⟨ys, ey, q3⟩ := q2
  obtain ⟨b, us, rfl, hb, hbd⟩ := asT_list r2 v2 ey
  obtain ⟨a, xs, ds, ea, hx, hd, Q', ⟨hl, q'⟩, k⟩ := r2.chg (VR.mono l2 v1) q3
  obtain ⟨s4, q4, r4⟩ := k (xs ++ us) (ds ++ ys) (hd.app hbd) q'
  cases ea
  exact ⟨a0, b, xs, us, rfl, rfl, hx, hb, by rw [hd.1, hbd.1]; omega, W2, ρ, s4, X, r4, rs2, q4, hp.le (l1.trans l2)⟩
theorem hC_pop {tt : DTE} {tk : DTS} {D : Ends} {σ : St} {H : Hp}
    (h : hC K Fy (fun X ρ s => tt ρ s fun x s => chgL x s (fun xs R => xs ≠ [] ∧ R xs.dropLast) fun s => tk X ρ s) D σ H) :
    tSeq (tDrop (tBM0 K "list" rPop (hE K Fy tt))) (hC K Fy tk) D σ H := by
  obtain ⟨W, ρ, s, X, r, rs, q, hp⟩ := h
  refine hE_bind r rs q fun x s1 v H1 W1 q1 l1 r1 v1 rs1 => ?_
  obtain ⟨a, xs, ds, rfl, hx, hd, Q', ⟨hl, q'⟩, k⟩ := r1.chg v1 q1
  obtain ⟨s4, q4, r4⟩ := k xs.dropLast ds.dropLast ⟨by simp [hd.1], fun i y e a b => by
    rw [List.getElem?_dropLast] at a b
    split at a
    · rw [if_pos (by rw [← hd.1]; assumption)] at b; exact hd.2 i y e a b
    · cases a⟩ q'
  have hpos : 0 < xs.length := by
    rw [hd.1]
    exact List.length_pos_iff.mpr hl
  exact ⟨.inl ⟨rfl, xs, .inl (.inl hx)⟩, a, xs, xs[xs.length - 1]'(by omega), rfl, rfl, hx, by rw [List.getElem?_eq_getElem], W1, ρ, s4, X, r4, rs1, q4, hp.le l1⟩

/-! ### loops -/
structure ItOk (K : Fg) (Fy : Fl) (W : Wd) (J : It) (xs : List D) (G : S → Prop) : Prop where
  go : ∀ i H W1 s, Le0 W W1 → Rp K Fy W1 H s → G s → i < xs.length → J.go i H
  yld : ∀ i H W1 s, Le0 W W1 → Rp K Fy W1 H s → G s → i < xs.length → ∀ x H', J.yld i H x H' → ∃ W2 d, Le W1 W2 ∧ Rp K Fy W2 H' s ∧ xs[i]? = some d ∧ DV K W2.F x d
  stop : ∀ H W1 s, Le0 W W1 → Rp K Fy W1 H s → G s → J.stop xs.length H
def hI (K : Fg) (Fy : Fl) (t : Rho → S → DIt → Prop) : TI := fun σ H R => ∃ W ρ s K1, Rp K Fy W H s ∧ RS K W σ ρ ∧ t ρ s K1 ∧ ∀ xs G s' H' W' J, K1 xs G s' → Le W W' → Rp K Fy W' H' s' → ItOk K Fy W' J xs G → R J H'
theorem hC_for {sl : List Nat} {ti : Rho → S → DIt → Prop} {tg : DTG} {tb tk : DTS} {D : Ends} {σ : St} {H : Hp}
    (h : hC K Fy (fun X ρ s => ti ρ s fun xs G s => loopD G (fun x ρ s K => tg (.d x) ρ s fun ρ s => tb { X with nx := K, ct := K, bk := tk X } ρ s) (tk X) xs ρ s) D σ H) :
    tSeq (tFor (hI K Fy ti) (hG K Fy sl tg) (hC K Fy tb)) (hC K Fy tk) D σ H := by
  obtain ⟨W, ρ, s, X, r, rs, q, hp⟩ := h
  refine ⟨W, ρ, s, _, r, rs, q, fun xs G s1 H1 W1 J q1 l1 r1 it => ?_⟩
  refine ⟨fun i m σ H => m = xs.length - i ∧ i ≤ xs.length ∧ ∃ W2 ρ s, Le W1 W2 ∧ Rp K Fy W2 H s ∧ RS K W2 σ ρ ∧ loopD G (fun x ρ s K => tg (.d x) ρ s fun ρ s => tb { X with nx := K, ct := K, bk := tk X } ρ s) (tk X) (xs.drop i) ρ s,
    ⟨xs.length, by simp, Nat.zero_le _, W1, ρ, s1, .rfl', r1, rs.mono l1, by simpa using q1⟩, ?_⟩
  rintro i m σ H ⟨rfl, hi, W2, ρ2, s2, l2, r2, rs2, q2⟩
  by_cases hlt : i < xs.length
  · rw [List.drop_eq_getElem_cons hlt] at q2
    obtain ⟨g2, q2⟩ := q2
    refine .inr ⟨it.go i H W2 s2 l2.to0 r2 g2 hlt, fun σ' H' => ∃ W2 ρ s, Le W1 W2 ∧ Rp K Fy W2 H' s ∧ RS K W2 σ' ρ ∧ loopD G (fun x ρ s K => tg (.d x) ρ s fun ρ s => tb { X with nx := K, ct := K, bk := tk X } ρ s) (tk X) (xs.drop (i + 1)) ρ s,
      fun σ' H' hN => ⟨xs.length - (i + 1), by omega, rfl, hlt, hN⟩, fun x H' y => ?_⟩
    obtain ⟨W3, d, l3, r3, e3, d3⟩ := it.yld i H W2 s2 l2.to0 r2 g2 hlt x H' y
    have e4 : xs[i] = d := by simpa [hlt] using e3
    subst e4
    refine ⟨W3, ρ2, s2, .d xs[i], _, r3, rs2.mono l3, d3, q2, fun ρ' s' σ' H'' W' q' l r' rs' _ => ?_⟩
    refine ⟨W', ρ', s', _, r', rs', q', ⟨fun a b c d e q l' r'' rs'' => ?_, ?_, fun a b c d e q l' r'' rs'' => ?_, fun a b c d e q l' r'' rs'' => ?_⟩⟩
    · exact ⟨e, a, b, l2.trans (l3.trans (l.trans l')), r'', rs'', q⟩
    · exact hp.rt.le (l1.trans (l2.trans (l3.trans l)))
    · exact ⟨e, a, b, X, r'', rs'', q, hp.le (l1.trans (l2.trans (l3.trans (l.trans l'))))⟩
    · exact ⟨e, a, b, l2.trans (l3.trans (l.trans l')), r'', rs'', q⟩
  · have e : i = xs.length := by omega
    subst e
    rw [List.drop_length] at q2
    exact .inl ⟨it.stop H W2 s2 l2.to0 r2 q2.1, W2, ρ2, s2, X, r2, rs2, q2.2, hp.le (l1.trans l2)⟩
theorem hC_while {tc : DTT} {tb tk : DTS} {D : Ends} {σ : St} {H : Hp}
    (h : hC K Fy (fun X ρ s => ∃ n, whileD (fun ρ s K => tc ρ s K) (fun K ρ s => tb { X with nx := K, ct := K, bk := tk X } ρ s) (tk X) n ρ s) D σ H) : tSeq (tWhile (hT K Fy tc) (hC K Fy tb)) (hC K Fy tk) D σ H := by
  obtain ⟨W, ρ, s, X, r, rs, ⟨n, q⟩, hp⟩ := h
  refine ⟨fun m σ H => ∃ W1 ρ s, Le W W1 ∧ Rp K Fy W1 H s ∧ RS K W1 σ ρ ∧ whileD (fun ρ s K => tc ρ s K) (fun K ρ s => tb { X with nx := K, ct := K, bk := tk X } ρ s) (tk X) m ρ s, ⟨n, W, ρ, s, .rfl', r, rs, q⟩, ?_⟩
  rintro m σ H ⟨W1, ρ1, s1, l1, r1, rs1, q1⟩
  cases m with
  | zero => exact q1.elim
  | succ m =>
    refine hT_bind r1 rs1 q1 fun b s2 H2 W2 q2 l2 r2 rs2 => ?_
    cases b with
    | false => exact ⟨W2, ρ1, s2, X, r2, rs2, q2, hp.le (l1.trans l2)⟩
    | true =>
      refine ⟨fun σ' H' => ∃ W1 ρ s, Le W W1 ∧ Rp K Fy W1 H' s ∧ RS K W1 σ' ρ ∧ whileD (fun ρ s K => tc ρ s K) (fun K ρ s => tb { X with nx := K, ct := K, bk := tk X } ρ s) (tk X) m ρ s, fun σ' H' hN => ⟨m, Nat.lt_succ_self m, hN⟩, ?_⟩
      refine ⟨W2, ρ1, s2, _, r2, rs2, q2, ⟨fun a b c d e q l' r'' rs'' => ?_, hp.rt.le (l1.trans l2), fun a b c d e q l' r'' rs'' => ?_, fun a b c d e q l' r'' rs'' => ?_⟩⟩
      · exact ⟨e, a, b, l1.trans (l2.trans l'), r'', rs'', q⟩
      · exact ⟨e, a, b, X, r'', rs'', q, hp.le (l1.trans (l2.trans l'))⟩
      · exact ⟨e, a, b, l1.trans (l2.trans l'), r'', rs'', q⟩
end
end DL

end
section
/-! DL 7: comprehensions; what is walked. -/
namespace DL
open PySem PySem.Spec L2

theorem wipe_get (σ : St) (vs : List Nat) (j : Nat) : (L2.wipe σ vs)[j]? = if j ∈ vs ∧ j < σ.length then some none else σ[j]? := by
  induction vs with
  | nil => simp [L2.wipe]
  | cons v vs ih =>
    unfold L2.wipe
    rw [List.getElem?_set, L2.wipe_length]
    by_cases h : v = j
    · subst h
      rw [if_pos rfl]
      by_cases hl : v < σ.length
      · rw [if_pos hl, if_pos ⟨List.mem_cons_self, hl⟩]
      · rw [if_neg hl, if_neg (fun z => hl z.2), List.getElem?_eq_none (by omega)]
    · rw [if_neg h, ih]
      have : (j ∈ v :: vs) ↔ j ∈ vs := by
        constructor
        · intro z; rcases List.mem_cons.mp z with z | z
          · exact absurd z.symm h
          · exact z
        · exact fun z => List.mem_cons_of_mem _ z
      simp only [this]
theorem wipe_only {σ σ2 : St} {sl vs : List Nat} (h : OnlyS sl (L2.wipe σ vs) σ2) (hs : ∀ i ∈ sl, i ∈ vs) : L2.wipe σ2 vs = L2.wipe σ vs := by
  apply List.ext_getElem?
  intro j
  have hl : σ2.length = σ.length := by rw [h.1, L2.wipe_length]
  rw [wipe_get, wipe_get, hl]
  by_cases hj : j ∈ vs ∧ j < σ.length
  · rw [if_pos hj, if_pos hj]
  · rw [if_neg hj, if_neg hj]
    by_cases hv : j ∈ vs
    · have : σ.length ≤ j := by
        rcases Nat.lt_or_ge j σ.length with z | z
        · exact absurd ⟨hv, z⟩ hj
        · exact z
      rw [List.getElem?_eq_none (by omega), List.getElem?_eq_none this]
    · rw [h.2 j (fun z => hv (hs j z)), wipe_get, if_neg (fun z => hv z.1)]

section
variable {K : Fg} {Fy : Fl}
abbrev cStep (tg : DTG) (tc : DTT) (te : DTE) (ρ : Rho) : D → S → (Option D → S → Prop) → Prop := fun x s K => tg (.d x) ρ s fun ρ s => tc ρ s fun b s => if b = true then te ρ s fun v s => frz v s fun d s => K (some d) s else K none s
/-- a list that is made becomes the frame's own -/
theorem Rp.pvLoc {Fy : Fl} {W : Wd} {H : Hp} {s : S} {p : Addr} {xs : List V} {ds : List D} {P : List (Addr × List V)} (h : Rp K Fy { W with pv := (p, xs) :: P } H s) (hP : Fy.W.pv <:+ P) (x : DVs K W.F xs ds) : Rp K Fy { W with la := W.la ++ [p], pv := P } H { s with ls := s.ls ++ [.op ds] } := by
  have hF : W.F p = none := (h.p (p, xs) (.head _)).1
  have hH : H p = some (.lst xs) := (h.p (p, xs) (.head _)).2
  have lo := h.low.le
  have l0 : Le0 { W with pv := (p, xs) :: P } { W with la := W.la ++ [p], pv := P } := ⟨fun _ _ e => e, List.prefix_append _ _, List.prefix_refl _, rfl, rfl⟩
  have ll : W.la.length = s.ls.length := h.ll
  refine ⟨h.sub, by simp [ll], fun m b o f1 f2 => ?_, h.ol, fun m b o f1 f2 => (h.o m b o f1 f2).keep rfl (fun _ e => e) l0, fun q hq => h.p q (.tail _ hq), ?_, h.x, h.s, ⟨lo.trans l0, hP⟩, h.tb⟩
  · have f1' : (W.la ++ [p])[m]? = some b := f1
    have f2' : (s.ls ++ [LO.op ds])[m]? = some o := f2
    by_cases hm : m < W.la.length
    · rw [List.getElem?_append_left hm] at f1'
      rw [List.getElem?_append_left (by rw [← ll]; exact hm)] at f2'
      exact h.l m b o f1' f2'
    · have hl : m = W.la.length := by
        have h1 := (List.getElem?_eq_some_iff.mp f1').1
        simp at h1; omega
      subst hl
      rw [List.getElem?_append_right (Nat.le_refl _), Nat.sub_self] at f1'
      rw [ll, List.getElem?_append_right (Nat.le_refl _), Nat.sub_self] at f2'
      cases f1'; cases f2'
      exact ⟨hF, xs, hH, x⟩
  · show (W.la ++ [p] ++ W.oa ++ P.map (·.1)).Nodup
    have nd : (W.la ++ W.oa ++ p :: P.map (·.1)).Nodup := h.nd
    have e : W.la ++ [p] ++ W.oa ++ P.map (·.1) = W.la ++ p :: (W.oa ++ P.map (·.1)) := by simp
    rw [e]
    have n2 := nd_mid.mp nd
    rw [List.append_assoc] at n2
    exact nd_mid.mpr n2
/-- what becomes of it -/
def newC (p : Bool) (ds : List D) (s : S) (Q : DQ) : Prop := if p = true then Q (.loc s.ls.length) { s with ls := s.ls ++ [.op ds] } else Q (.d (.list ds)) s
theorem hE_lcG (p : Bool) {sl vs : List Nat} (hs : ∀ i ∈ sl, i ∈ vs) {ti : Rho → S → DIt → Prop} {tg : DTG} {tc : DTT} {te : DTE} {σ : St} {H : Hp} {Q : VK}
    (h : hE K Fy (fun ρ s Q => ti ρ s fun xs G s => compD G (cStep tg tc te (wipeR ρ vs)) (fun ds s => newC p ds s Q) xs [] s) σ H Q) : tLc (hI K Fy ti) (hG K Fy sl tg) (hT K Fy tc) (hE K Fy te) vs σ H Q := by
  obtain ⟨W, ρ, s, Q1, r, rs, q, hp⟩ := h
  refine ⟨W, ρ, s, _, r, rs, q, fun xs G s1 H1 W0 J q1 l1 r1 it => fun D hD => ?_⟩
  have hP : Fy.W.pv <:+ W0.pv := r1.low.pv
  refine ⟨fun i m H => m = xs.length - i ∧ i ≤ xs.length ∧ ∃ W1 s accV acc, Le W0 W1 ∧ Rp K Fy { W1 with pv := (D, accV) :: W0.pv } H s ∧ DVs K W1.F accV acc ∧ compD G (cStep tg tc te (wipeR ρ vs)) (fun ds s => newC p ds s Q1) (xs.drop i) acc s,
    ⟨xs.length, by simp, Nat.zero_le _, W0, s1, [], [], .rfl', r1.pvPush hD [], .nil, by simpa using q1⟩, ?_⟩
  rintro i m H ⟨rfl, hi, W1, s2, accV, acc, l2, r2, da, q2⟩
  have l20 : Le0 W0 { W1 with pv := (D, accV) :: W0.pv } := ⟨l2.F, l2.la, l2.oa, l2.sc, l2.xa⟩
  by_cases hlt : i < xs.length
  · rw [List.drop_eq_getElem_cons hlt] at q2
    obtain ⟨g2, q2⟩ := q2
    refine .inr ⟨it.go i H _ s2 l20 r2 g2 hlt, fun H' => ∃ W1 s accV acc, Le W0 W1 ∧ Rp K Fy { W1 with pv := (D, accV) :: W0.pv } H' s ∧ DVs K W1.F accV acc ∧ compD G (cStep tg tc te (wipeR ρ vs)) (fun ds s => newC p ds s Q1) (xs.drop (i + 1)) acc s,
      fun H' hN => ⟨xs.length - (i + 1), by omega, rfl, hlt, hN⟩, fun x H' y => ?_⟩
    obtain ⟨W3, d, l3, r3, e3, d3⟩ := it.yld i H _ s2 l20 r2 g2 hlt x H' y
    have e4 : xs[i] = d := by simpa [hlt] using e3
    subst e4
    have lW : ∀ {W' : Wd}, Le W3 W' → W'.pv = (D, accV) :: W0.pv ∧ Le W0 { W' with pv := W0.pv } ∧ SubH W1.F W'.F := fun {W'} l => by
      refine ⟨l.pv.trans l3.pv, ⟨fun a o e => l.F _ _ (l3.F _ _ (l2.F _ _ e)), l2.la.trans (l3.la.trans l.la), l2.oa.trans (l3.oa.trans l.oa), rfl, l.sc.trans (l3.sc.trans l2.sc), l.xa.trans (l3.xa.trans l2.xa)⟩, fun a o e => l.F _ _ (l3.F _ _ e)⟩
    have r1' : RS K W3 (L2.wipe σ vs) (wipeR ρ vs) := ⟨((rs.mono l1).wipe vs).1, fun j z e => by
      obtain ⟨v, a, b⟩ := ((rs.mono l1).wipe vs).2 j z e
      refine ⟨v, a, ?_⟩
      have := VR.mono (W := W0) (W' := { W1 with pv := W0.pv }) ⟨l2.F, l2.la, l2.oa, rfl, l2.sc, l2.xa⟩ b
      have l3' : Le { W1 with pv := (D, accV) :: W0.pv } W3 := l3
      cases z with
      | d y => exact (show DV K W1.F v y from this).mono' l3.F
      | loc n => obtain ⟨a, h1, h2⟩ := this; exact ⟨a, pre_get l3'.la h1, h2⟩
      | obj n => obtain ⟨a, h1, h2⟩ := this; exact ⟨a, pre_get l3'.oa h1, h2⟩
      | scr => obtain ⟨a, h1, h2⟩ := this; exact ⟨a, l3'.sc.trans h1, h2⟩
      | exc x => obtain ⟨a, h1, h2⟩ := this; exact ⟨a, l3'.xa.trans h1, h2⟩⟩
    refine ⟨W3, wipeR ρ vs, s2, .d xs[i], _, r3, r1', d3, q2, fun ρ' s' σ' H'' W' q' l r' rs' oo => ⟨wipe_only oo hs, ?_⟩⟩
    refine ⟨W', ρ', s', _, r', rs', q', fun b s4 H4 W4 q4 l4 r4 => ?_⟩
    cases b with
    | false =>
      rw [if_neg Bool.false_ne_true] at q4 ⊢
      obtain ⟨e5, l5, s5⟩ := lW (l.trans l4)
      refine ⟨{ W4 with pv := W0.pv }, s4, accV, acc, l5, ?_, da.mono s5, q4⟩
      rw [show ({ ({ W4 with pv := W0.pv } : Wd) with pv := (D, accV) :: W0.pv } : Wd) = W4 by rw [← e5]]
      exact r4
    | true =>
      rw [if_pos rfl] at q4 ⊢
      refine ⟨W4, ρ', s4, _, r4, rs'.mono l4, q4, fun z s5 v H5 W5 q5 l5 r5 v5 => ?_⟩
      obtain ⟨d6, s6, W6, q6, l6, r6, d6'⟩ := frz_ok r5 v5 q5
      obtain ⟨e7, l7, s7⟩ := lW (l.trans (l4.trans (l5.trans l6)))
      have e8 : W6 = { ({ W6 with pv := W0.pv } : Wd) with pv := (D, accV) :: W0.pv } := by rw [← e7]
      have r7 : Rp K Fy { ({ W6 with pv := W0.pv } : Wd) with pv := (D, accV) :: W0.pv } H5 s6 := by rw [← e8]; exact r6
      obtain ⟨z1, z2⟩ := q6
      have hl : accV.length = acc.length := da.1
      exact ⟨accV, (r7.p (D, accV) (.head _)).2, by rw [hl]; exact z1, { W6 with pv := W0.pv }, s6, accV ++ [v], acc ++ [d6], l7, r7.pvSet hP _, (da.mono s7).app (.cons d6' .nil), z2⟩
  · have e : i = xs.length := by omega
    subst e
    rw [List.drop_length] at q2
    obtain ⟨g2, q2⟩ := q2
    refine .inl ⟨it.stop H _ s2 l20 r2 g2, ?_⟩
    cases p with
    | true =>
      have q3 : Q1 (.loc s2.ls.length) { s2 with ls := s2.ls ++ [.op acc] } := q2
      have r3 := r2.pvLoc (W := W1) hP da
      refine hp _ _ _ _ { W1 with la := W1.la ++ [D], pv := W0.pv } q3 (l1.trans ⟨l2.F, l2.la.trans (List.prefix_append _ _), l2.oa, rfl, l2.sc, l2.xa⟩) r3 ⟨D, ?_, rfl⟩
      show (W1.la ++ [D])[s2.ls.length]? = some D
      have ll : W1.la.length = s2.ls.length := r2.ll
      rw [← ll]; simp
    | false =>
      have q3 : Q1 (.d (.list acc)) s2 := q2
      obtain ⟨r3, sF⟩ := r2.pvPop hP
      refine hp _ _ _ _ { W1 with F := upd W1.F D (.lst accV), pv := W0.pv } q3 (l1.trans ⟨fun a o e => sF _ _ (l2.F _ _ e), l2.la, l2.oa, rfl, l2.sc, l2.xa⟩) r3 ?_
      show DV K (upd W1.F D _) _ _
      exact .lst upd_same da.1 fun i y z a b => (da.2 i y z a b).mono' sF
theorem hE_lc {sl vs : List Nat} (hs : ∀ i ∈ sl, i ∈ vs) {ti : Rho → S → DIt → Prop} {tg : DTG} {tc : DTT} {te : DTE} {σ : St} {H : Hp} {Q : VK}
    (h : hE K Fy (fun ρ s Q => ti ρ s fun xs G s => compD G (cStep tg tc te (wipeR ρ vs)) (fun ds s => Q (.d (.list ds)) s) xs [] s) σ H Q) : tLc (hI K Fy ti) (hG K Fy sl tg) (hT K Fy tc) (hE K Fy te) vs σ H Q := hE_lcG false hs h
theorem hE_lcL {sl vs : List Nat} (hs : ∀ i ∈ sl, i ∈ vs) {ti : Rho → S → DIt → Prop} {tg : DTG} {tc : DTT} {te : DTE} {σ : St} {H : Hp} {Q : VK}
    (h : hE K Fy (fun ρ s Q => ti ρ s fun xs G s => compD G (cStep tg tc te (wipeR ρ vs)) (fun ds s => Q (.loc s.ls.length) { s with ls := s.ls ++ [.op ds] }) xs [] s) σ H Q) : tLc (hI K Fy ti) (hG K Fy sl tg) (hT K Fy tc) (hE K Fy te) vs σ H Q := hE_lcG true hs h

/-! ### what is walked -/
theorem guard_list {W : Wd} {H : Hp} {s : S} {v : V} {x : Vl} {xs : List D} (r : Rp K Fy W H s) (h : VR K W v x) (e : asD x s = some (.list xs)) :
    ∃ a, v = .ref a ∧ (∃ ys, SqL K H a ys) ∧ ∀ W1 H1 s1, Le0 W W1 → Rp K Fy W1 H1 s1 → guard x xs s1 → ∃ ys, SqL K H1 a ys ∧ DVs K W1.F ys xs := by
  obtain ⟨a, ys, rfl, h1, h2⟩ := asD_list r h e
  refine ⟨a, rfl, ⟨ys, h1⟩, fun W1 H1 s1 l r1 g => ?_⟩
  cases x with
  | d y =>
    simp only [asD, Option.some.injEq] at e
    subst e
    obtain ⟨b, zs, e1, e2, e3⟩ := asD_list r1 (v := .ref a) (x := .d (.list xs)) (show DV K W1.F _ _ from (show DV K W.F _ _ from h).mono' l.F) rfl
    cases e1
    exact ⟨zs, e2, e3⟩
  | loc n =>
    obtain ⟨b, e1, e2⟩ := h
    cases e2
    have e1' := pre_get l.la e1
    rcases g with g | g
    · obtain ⟨_, zs, q1, q2⟩ := r1.l n a _ e1' g
      exact ⟨zs, .inl (.inl q1), q2⟩
    · obtain ⟨zs, q1, q2⟩ := r1.l n a _ e1' g
      exact ⟨zs, .inl (.inl (r1.sub _ _ q1)), q2⟩
  | obj n =>
    obtain ⟨b, e1, e2⟩ := h
    cases e2
    have e1' := pre_get l.oa e1
    obtain ⟨_, zs, q1, q2⟩ := r1.o n a _ e1' g
    exact ⟨zs, .inl (.inl q1), q2⟩
  | scr =>
    obtain ⟨b, e1, e2⟩ := h
    cases e2
    obtain ⟨zs, q1, q2⟩ := r1.s a (l.sc.trans e1)
    exact ⟨zs, q1.sq, g ▸ q2⟩
  | exc x => simp [asD] at e
theorem guard_tup {W : Wd} {H : Hp} {s : S} {v : V} {x : Vl} {xs : List D} (r : Rp K Fy W H s) (h : VR K W v x) (e : asD x s = some (.tuple xs)) :
    ∃ a, v = .ref a ∧ (∃ ys, SqT K H a ys) ∧ ∀ W1 H1 s1, Le0 W W1 → Rp K Fy W1 H1 s1 → guard x xs s1 → ∃ ys, SqT K H1 a ys ∧ DVs K W1.F ys xs := by
  obtain ⟨a, ys, rfl, h1, f1, h2⟩ := asD_tup r h e
  exact ⟨a, rfl, ⟨ys, h1⟩, fun W1 H1 s1 l r1 g => ⟨ys, r1.sub.sqT (l.F.sqT f1), h2.mono l.F⟩⟩
/-- over a walk of the layer's -/
theorem it_ok {W : Wd} {J : It} {xs : List D} {G : S → Prop} {n : Nat} {Gv : List V → Hp → Prop} {Y : List V → Nat → Hp → V → Hp → Prop} (hn : n = xs.length)
    (hg : ∀ W1 H s, Le0 W W1 → Rp K Fy W1 H s → G s → ∃ ys, Gv ys H ∧ Walk J n (Gv ys) (Y ys) ∧ ∀ i x H', i < n → Y ys i H x H' → ∃ W2 d, Le W1 W2 ∧ Rp K Fy W2 H' s ∧ xs[i]? = some d ∧ DV K W2.F x d) : ItOk K Fy W J xs G where
  go := fun i H W1 s l r g hi => by obtain ⟨ys, h1, w, _⟩ := hg W1 H s l r g; exact w.goes i H (by rw [hn]; exact hi) h1
  yld := fun i H W1 s l r g hi x H' y => by obtain ⟨ys, h1, w, k⟩ := hg W1 H s l r g; exact k i x H' (by rw [hn]; exact hi) (w.yields i H x H' (by rw [hn]; exact hi) h1 y)
  stop := fun H W1 s l r g => by obtain ⟨ys, h1, w, _⟩ := hg W1 H s l r g; rw [← hn]; exact w.stops H h1
theorem it_list {W : Wd} {a : Addr} {xs : List D} {G : S → Prop} (h : ∀ W1 H1 s1, Le0 W W1 → Rp K Fy W1 H1 s1 → G s1 → ∃ ys, SqL K H1 a ys ∧ DVs K W1.F ys xs) : ItOk K Fy W (Itl K a) xs G :=
  it_ok (Gv := fun ys H => SqL K H a ys) (Y := YAt) rfl fun W1 H s l r g => by
    obtain ⟨ys, h1, h2⟩ := h W1 H s l r g
    refine ⟨ys, h1, by rw [← h2.1]; exact walk_list, fun i x H' hi y => ?_⟩
    obtain ⟨rfl, e⟩ := y
    obtain ⟨d, e2, dv⟩ := h2.get' e
    exact ⟨W1, d, .rfl', r, e2, dv⟩
theorem it_tup {W : Wd} {a : Addr} {xs : List D} {G : S → Prop} (h : ∀ W1 H1 s1, Le0 W W1 → Rp K Fy W1 H1 s1 → G s1 → ∃ ys, SqT K H1 a ys ∧ DVs K W1.F ys xs) : ItOk K Fy W (Itt K a) xs G :=
  it_ok (Gv := fun ys H => SqT K H a ys) (Y := YAt) rfl fun W1 H s l r g => by
    obtain ⟨ys, h1, h2⟩ := h W1 H s l r g
    refine ⟨ys, h1, by rw [← h2.1]; exact walk_tup, fun i x H' hi y => ?_⟩
    obtain ⟨rfl, e⟩ := y
    obtain ⟨d, e2, dv⟩ := h2.get' e
    exact ⟨W1, d, .rfl', r, e2, dv⟩
theorem rangeD_len (lo : Int) (n : Nat) : (rangeD lo n).length = n := by
  induction n generalizing lo with
  | zero => rfl
  | succ n ih => simp [rangeD, ih]
theorem rangeD_get : ∀ (lo : Int) (n i : Nat), i < n → (rangeD lo n)[i]? = some (.int (lo + i))
  | _, 0, _, h => by omega
  | lo, n + 1, 0, _ => by simp [rangeD]
  | lo, n + 1, i + 1, h => by
    simp only [rangeD, List.getElem?_cons_succ]
    rw [rangeD_get (lo + 1) n i (by omega)]
    congr 2
    omega
theorem it_range {W : Wd} {lo : Int} {n : Nat} : ItOk K Fy W (Itr lo n) (rangeD lo n) (fun _ => True) :=
  it_ok (n := n) (Gv := fun _ _ => True) (Y := fun _ => YFn fun i => .int (lo + i)) (rangeD_len lo n).symm fun W1 H s l r g => ⟨[], trivial, walk_range, fun i x H' hi y => by
    obtain ⟨rfl, rfl⟩ := y
    exact ⟨W1, _, .rfl', r, rangeD_get lo n i hi, .int _⟩⟩
theorem enumD_len (i : Int) (xs : List D) : (enumD i xs).length = xs.length := by
  induction xs generalizing i with
  | nil => rfl
  | cons x xs ih => simp [enumD, ih]
theorem enumD_get : ∀ (k : Int) (xs : List D) (i : Nat) (d : D), xs[i]? = some d → (enumD k xs)[i]? = some (.tuple [.int (k + i), d])
  | _, [], i, d, h => by simp at h
  | k, x :: xs, 0, d, h => by
    have e : x = d := by simpa using h
    subst e
    simp [enumD]
  | k, x :: xs, i + 1, d, h => by
    simp only [enumD, List.getElem?_cons_succ]
    rw [enumD_get (k + 1) xs i d (by simpa using h)]
    have e : k + 1 + (i : Int) = k + ((i + 1 : Nat) : Int) := by omega
    rw [e]
theorem zipD_len : ∀ (xs ys : List D), (zipD xs ys).length = min xs.length ys.length
  | [], _ => by simp [zipD]
  | _ :: _, [] => by simp [zipD]
  | x :: xs, y :: ys => by simp [zipD, zipD_len xs ys]
theorem zipD_get : ∀ (xs ys : List D) (i : Nat) (d e : D), xs[i]? = some d → ys[i]? = some e → (zipD xs ys)[i]? = some (.tuple [d, e])
  | [], _, i, d, e, h, _ => by simp at h
  | _ :: _, [], i, d, e, _, h => by simp at h
  | x :: xs, y :: ys, 0, d, e, h, h2 => by
    have e1 : x = d := by simpa using h
    have e2 : y = e := by simpa using h2
    subst e1; subst e2
    simp [zipD]
  | x :: xs, y :: ys, i + 1, d, e, h, h2 => by
    simp only [zipD, List.getElem?_cons_succ]
    exact zipD_get xs ys i d e (by simpa using h) (by simpa using h2)
theorem pair_ok {W1 : Wd} {H : Hp} {s : S} (r : Rp K Fy W1 H s) {T : Addr} (hT : H T = none) {x y : V} {d e : D} (dx : DV K W1.F x d) (dy : DV K W1.F y e) :
    ∃ W2, Le W1 W2 ∧ Rp K Fy W2 (upd H T (.tup [x, y])) s ∧ DV K W2.F (.ref T) (.tuple [d, e]) := by
  obtain ⟨r', l⟩ := r.fresh hT (.tup [x, y])
  refine ⟨_, l, r', ?_⟩
  have t : DVs K W1.F [x, y] [d, e] := .cons dx (.cons dy .nil)
  exact .tup (.inl (.inl upd_same)) t.1 fun i z w a b => (t.2 i z w a b).mono' l.F
theorem it_enum {W : Wd} {a : Addr} {xs : List D} {G : S → Prop} (h : ∀ W1 H1 s1, Le0 W W1 → Rp K Fy W1 H1 s1 → G s1 → ∃ ys, SqL K H1 a ys ∧ DVs K W1.F ys xs) : ItOk K Fy W (Ite K a) (enumD 0 xs) G :=
  it_ok (n := xs.length) (Gv := fun ys H => SqL K H a ys) (Y := fun ys => YPair (fun i => some (.int (i : Nat))) (fun i => ys[i]?)) (enumD_len 0 xs).symm fun W1 H s l r g => by
    obtain ⟨ys, h1, h2⟩ := h W1 H s l r g
    refine ⟨ys, h1, by rw [← h2.1]; exact walk_enum, fun i x H' hi y => ?_⟩
    obtain ⟨T, u, v, rfl, hT, rfl, e1, e2⟩ := y
    cases e1
    obtain ⟨d, e3, dv⟩ := h2.get' e2
    obtain ⟨W2, l2, r2, d2⟩ := pair_ok r hT (DV.int (i : Int)) dv
    exact ⟨W2, _, l2, r2, by rw [enumD_get 0 xs i d e3, Int.zero_add], d2⟩
theorem it_zip {W : Wd} {a b : Addr} {xs ys : List D} {G : S → Prop} (h : ∀ W1 H1 s1, Le0 W W1 → Rp K Fy W1 H1 s1 → G s1 → (∃ us, SqL K H1 a us ∧ DVs K W1.F us xs) ∧ ∃ us, SqL K H1 b us ∧ DVs K W1.F us ys) : ItOk K Fy W (Itz K a b) (zipD xs ys) G where
  go := fun i H W1 s l r g hi => by
    obtain ⟨⟨us, h1, h2⟩, vs, h3, h4⟩ := h W1 H s l r g
    rw [zipD_len] at hi
    have i1 : i < us.length := by rw [h2.1]; omega
    have i2 : i < vs.length := by rw [h4.1]; omega
    exact ⟨us, vs, us[i], vs[i], h1, h3, by simp [i1], by simp [i2]⟩
  yld := fun i H W1 s l r g hi x H' y => by
    obtain ⟨⟨us, h1, h2⟩, vs, h3, h4⟩ := h W1 H s l r g
    obtain ⟨T, x1, x2, rfl, hT, rfl, f1, f2⟩ := y
    obtain ⟨d, e1, d1⟩ := h2.get' (f1 us h1)
    obtain ⟨e, e2, d2⟩ := h4.get' (f2 vs h3)
    obtain ⟨W2, l2, r2, d3⟩ := pair_ok r hT d1 d2
    exact ⟨W2, _, l2, r2, zipD_get xs ys i d e e1 e2, d3⟩
  stop := fun H W1 s l r g => by
    obtain ⟨⟨us, h1, h2⟩, vs, h3, h4⟩ := h W1 H s l r g
    exact ⟨us, vs, h1, h3, by rw [zipD_len, h2.1, h4.1]; omega⟩
theorem it_zipT {W : Wd} {a b : Addr} {xs ys : List D} {G : S → Prop} (h : ∀ W1 H1 s1, Le0 W W1 → Rp K Fy W1 H1 s1 → G s1 → (∃ us, SqT K H1 a us ∧ DVs K W1.F us xs) ∧ ∃ us, SqT K H1 b us ∧ DVs K W1.F us ys) : ItOk K Fy W (RZ.ItzT K a b) (zipD xs ys) G where
  go := fun i H W1 s l r g hi => by
    obtain ⟨⟨us, h1, h2⟩, vs, h3, h4⟩ := h W1 H s l r g
    rw [zipD_len] at hi
    have i1 : i < us.length := by rw [h2.1]; omega
    have i2 : i < vs.length := by rw [h4.1]; omega
    exact ⟨us, vs, us[i], vs[i], h1, h3, by simp [i1], by simp [i2]⟩
  yld := fun i H W1 s l r g hi x H' y => by
    obtain ⟨⟨us, h1, h2⟩, vs, h3, h4⟩ := h W1 H s l r g
    obtain ⟨T, x1, x2, rfl, hT, rfl, f1, f2⟩ := y
    obtain ⟨d, e1, d1⟩ := h2.get' (f1 us h1)
    obtain ⟨e, e2, d2⟩ := h4.get' (f2 vs h3)
    obtain ⟨W2, l2, r2, d3⟩ := pair_ok r hT d1 d2
    exact ⟨W2, _, l2, r2, zipD_get xs ys i d e e1 e2, d3⟩
  stop := fun H W1 s l r g => by
    obtain ⟨⟨us, h1, h2⟩, vs, h3, h4⟩ := h W1 H s l r g
    exact ⟨us, vs, h1, h3, by rw [zipD_len, h2.1, h4.1]; omega⟩
end
end DL

end
section
/-! DL 8: enumerate of a tuple, zip of a tuple and a list. -/
namespace DL
open PySem PySem.Spec L2
open PySem.Sem (wp)

/-- enumerate(v), v a tuple: its two new cells -/
theorem meets_enum1 (l : Addr) (its : Array Value) : Meets (Builtin.«enumerate.__new__» ⟨[.type "enumerate", .ref l], []⟩) (fun _ R s => s.heap.IsTuple l its ∧
    R (.ok (.ret (.ref (s.heap.push { cls := .type "tuple_iterator", data := .fields #[.ref l, .int 0 0] }).objs.size)))
      { s with heap := (s.heap.push { cls := .type "tuple_iterator", data := .fields #[.ref l, .int 0 0] }).push { cls := .type "enumerate", data := .fields #[.none, .bool false, .ref s.heap.objs.size, rawInt 0, .none, .none] } }) :=
  .of_wp fun prog w A R s ⟨ht, h⟩ => by
    obtain ⟨hp, g, d, tk, os⟩ := s
    have sb := sub_enumerate
    obtain ⟨o, ho, hc, n, hd⟩ := id ht
    have q1 : ∀ {A' : Around} {E : Value → Shared → Prop} {Q : Value → Shared → Prop}, Q (.ref hp.objs.size) ⟨hp.push { cls := .type "tuple_iterator", data := .fields #[.ref l, .int 0 0] }, g, d, tk, os⟩ → wpAny (model prog w) A' (pyIter (.ref l)) Q E ⟨hp, g, d, tk, os⟩ :=
      fun q => wpAny_pyIter_tuple (s := ⟨hp, g, d, tk, os⟩) ht q
    wp_walk using AutoSeq1.wpAny_loadPart' ho
    refine wpAny_stack_any fun st => wpAny_pure ?_
    split
    · rename_i c _ _ _ _ _
      cases (c == Value.type "enumerate")
      · wp_walk using AutoSeq1.wpAny_loadPart' ho, q1
        exact ⟨_, rfl, h⟩
      · wp_walk using AutoSeq1.wpAny_loadPart' ho, q1
        exact ⟨_, rfl, h⟩
    · wp_walk using AutoSeq1.wpAny_loadPart' ho, q1
      exact ⟨_, rfl, h⟩
theorem call_enum_tuple {prog : Program} {w : World} {A : Around} {E : Value → Shared → Prop} {s : Shared} {l : Addr} {its : Array Value} {Q : Value → Shared → Prop} (ht : s.heap.IsTuple l its)
    (h : ∀ h', IsEnum h' (s.heap.objs.size + 1) s.heap.objs.size 0 .none → h'.IsTupleIter s.heap.objs.size l 0 → (∀ b o, s.heap.get? b = some o → h'.get? b = some o) → Q (.ref (s.heap.objs.size + 1)) { s with heap := h' }) :
    wpAny (model prog w) A (call (.type "enumerate") [.ref l]) Q E s := by
  refine callType_new F.called_enumerate (by decide) (F.typeCall_enumerate_1 _) (F.newCall_enumerate_1 _) (fun obj => F.args_object_init_2 obj _) F.entry_enumerate_new (meets_enum1 l its) ⟨ht, ?_⟩
  have hz : (s.heap.push { cls := .type "tuple_iterator", data := .fields #[.ref l, .int 0 0] }).objs.size = s.heap.objs.size + 1 := Heap.size_push ..
  show _ ∧ _
  rw [hz]
  have he : IsEnum ((s.heap.push { cls := .type "tuple_iterator", data := .fields #[.ref l, .int 0 0] }).push { cls := .type "enumerate", data := .fields #[.none, .bool false, .ref s.heap.objs.size, rawInt 0, .none, .none] }) (s.heap.objs.size + 1) s.heap.objs.size 0 .none := by
    have z := Heap.get?_push_size (s.heap.push { cls := .type "tuple_iterator", data := .fields #[.ref l, .int 0 0] }) (o := { cls := .type "enumerate", data := .fields #[.none, .bool false, .ref s.heap.objs.size, rawInt 0, .none, .none] }) rfl
    rw [hz] at z; exact z
  exact ⟨⟨_, he, rfl⟩, h _ he ⟨_, Heap.get?_push_of_some _ (Heap.get?_push_size _ rfl), rfl, rfl⟩ fun b o x => Heap.get?_push_of_some _ (Heap.get?_push_of_some _ x)⟩

def IteT (K : Fg) (a : Addr) : It :=
  ⟨fun i H => ∃ xs x, SqT K H a xs ∧ xs[i]? = some x, fun i H v H' => ∃ T x, v = .ref T ∧ H T = none ∧ H' = upd H T (.tup [.int (i : Nat), x]) ∧ ∀ xs, SqT K H a xs → xs[i]? = some x, fun i H => ∃ xs, SqT K H a xs ∧ xs.length = i⟩
theorem turn_enumT {P : Program} {w : World} {K : Fg} {elts : List Expr} {kk : Nat} {tpos : Pos} (a e it : Addr) (hae : a ≠ e) (hai : a ≠ it) (hei : e ≠ it) :
    Turn P w K (.Tuple elts kk tpos) (IteT K a) [e, it] e (fun i h => (∃ old, IsEnum h e it ((i : Nat) : Int) old) ∧ h.IsTupleIter it a i) where
  mem := by simp
  obj := fun i h st b hb => by
    obtain ⟨⟨old, he⟩, ⟨o, ho, hc, hd⟩⟩ := st
    rcases List.mem_cons.mp hb with rfl | hb
    · exact ⟨_, he, fun v q => nomatch q⟩
    · have z : b = it := by simpa using hb
      subst z
      exact ⟨o, ho, fun v q => by rw [hd] at q; cases q⟩
  keep := fun i h h' st k => ⟨st.1.imp fun old he => k e (by simp) _ he, st.2.at fun o q => k it (by simp) o q⟩
  item := by
    intro X hP hw hK hc i pins s σ H E I hf st hg
    subst hP hw hK
    obtain ⟨xs, x, hq, hx⟩ := hg
    obtain ⟨its, rv, p, hz⟩ := I.tuple hq
    obtain ⟨u, hu, ru⟩ := rv.get hx
    have D := Draws.tuple (prog := X.prog) (w := X.w) (A := X.A.in1) (I.ok.hd hc) it a hai its.toArray
    have G := GoesN.enumFrom (elts := elts) (x1 := kk) (pos := tpos) 0 D e hei (by simp [hei, Ne.symm hae]) (by simp)
    have hi : i < its.toArray.size := by
      have := (List.getElem?_eq_some_iff.mp hu).1
      simpa using this
    have st' : (∃ old, IsEnum s.heap e it (0 + (i : Int)) old) ∧ s.heap.IsTupleIter it a i ∧ s.heap.IsTuple a its.toArray := ⟨by rw [Int.zero_add]; exact st.1, st.2, p⟩
    refine wpAny_mono (G.goes i s _ E hi st' fun v h' tk hY st2 hk htk => ?_) (fun r s1 h1 => h1) fun _ _ z => z
    obtain ⟨T, t, y, rfl, hT, hy, hTt⟩ := hY
    have ey : y = u := by
      have z : its.toArray[i]? = some u := by simpa using hu
      rw [z] at hy; exact (Option.some.inj hy).symm
    subst ey
    obtain ⟨o, ho, hoc, n, hod⟩ := id hTt
    rw [Int.zero_add] at hod
    have new : ObjOk X.prog X.w (upd H T (.tup [.int (i : Nat), x])) h' T (.tup [.int (i : Nat), x]) := ⟨by show 2 ≤ sizeLine; decide, [.int i t, y], .cons ⟨_, rfl⟩ (.cons ru .nil), ⟨o, ho, hoc, n, hod⟩⟩
    have I1 : Inv X pins σ (upd H T (.tup [.int (i : Nat), x])) { s with heap := h', toks := tk } := I.turnedNew (ch := [e, it]) (fun b ob hb q => hk b ob hb q) hf hT new
    refine ⟨.ref T, _, I1, rfl, ⟨T, x, rfl, I.hok.fresh hT, rfl, fun ys hy => by rw [I.tuple_inj hy hq]; exact hx⟩, ⟨?_, st2.2.1⟩, fun b hb => ?_⟩
    · obtain ⟨old, he⟩ := st2.1
      rw [Int.zero_add] at he
      exact ⟨old, he⟩
    · have hb' : b < s.heap.objs.size := by
        rcases List.mem_cons.mp hb with rfl | hb
        · obtain ⟨old, he⟩ := st.1; exact Heap.lt_size he
        · have z : b = it := by simpa using hb
          subst z
          obtain ⟨o, ho, _⟩ := st.2; exact Heap.lt_size ho
      rw [upd_ne (Nat.ne_of_lt (Nat.lt_of_lt_of_le hb' hT))]
      exact (hf b hb).1
  done := by
    intro X hP hw hK hc i pins s σ H E I hf st hg
    subst hP hw hK
    obtain ⟨xs, hq, hx⟩ := hg
    obtain ⟨its, rv, p, hz⟩ := I.tuple hq
    have D := Draws.tuple (prog := X.prog) (w := X.w) (A := X.A.in1) (I.ok.hd hc) it a hai its.toArray
    have G := GoesN.enumFrom (elts := elts) (x1 := kk) (pos := tpos) 0 D e hei (by simp [hei, Ne.symm hae]) (by simp)
    have hi : its.toArray.size = i := by rw [← hx, rv.length]; simp
    have st' : (∃ old, IsEnum s.heap e it (0 + ((its.toArray.size : Nat) : Int)) old) ∧ s.heap.IsTupleIter it a its.toArray.size ∧ s.heap.IsTuple a its.toArray := ⟨by rw [Int.zero_add, hi]; exact st.1, by rw [hi]; exact st.2, p⟩
    exact wpAny_mono (G.stops s (fun s1 => Inv X pins σ H s1) E st' fun h' tk hk htk => I.turnedL (t' := tk) (ch := [e, it]) (fun b o hb q => hk b o hb q) hf) (fun r s1 h1 => h1) fun _ _ z => z
  self := fun A i s Q E st h => let ⟨⟨_, he⟩, _⟩ := st; wpAny_pyIter_enum he h
def iEnumT (K : Fg) (ta : TA) : TI := fun σ H R => ta σ H fun vs H1 => ∃ a xs, vs = [.ref a] ∧ SqT K H1 a xs ∧ R (IteT K a) H1
theorem pi_enumT {X : Cx} {e : Expr} {ta : TA} {p pos tpos : Pos} {elts : List Expr} {kk : Nat} (hg : Gl X "enumerate") (hm : X.mg "enumerate" = none) (ha : PA X [e] ta) (hs : starEach [e] X.env = [(false, eval e X.env)]) :
    PI X (.Tuple elts kk tpos) (.Call (.Name "enumerate" p) [e] [] pos) (iEnumT X.K ta) := by
  refine ⟨fun pins s σ H R I h => ?_⟩
  refine PyProof.Rows.Call_ (ld_blt I hg hm PyProof.Rows.boot_enumerate (PyProof.Rows.callWith_type1 (thn (ha.run pos pins s σ H _ I h) fun us s1 ⟨vs, H1, I1, r1, a, xs, ex, hq, q⟩ => ?_) hs rfl))
  subst ex
  cases r1 with
  | cons r rr =>
    cases rr
    cases r
    obtain ⟨its, rv, p', hz⟩ := I1.tuple hq
    have hal : a < s1.heap.objs.size := by obtain ⟨o, ho, _⟩ := p'; exact Heap.lt_size ho
    refine call_enum_tuple (show s1.heap.IsTuple a its.toArray from p') fun h' he hit hk => wpAny_pyIter_enum he ?_
    have I2 : Inv X pins σ H1 { s1 with heap := h' } := I1.kept (t' := s1.toks) hk
    refine ⟨s1.heap.objs.size + 1, [s1.heap.objs.size + 1, s1.heap.objs.size], _, _, H1, rfl, I2, turn_enumT a (s1.heap.objs.size + 1) s1.heap.objs.size (Nat.ne_of_lt (Nat.lt_succ_of_lt hal)) (Nat.ne_of_lt hal) (Nat.succ_ne_self _), ⟨⟨.none, he⟩, hit⟩, fun b hb => ?_, q⟩
    have hle : s1.heap.objs.size ≤ b := by
      rcases List.mem_cons.mp hb with z | z
      · rw [z]; exact Nat.le_add_right _ _
      · have z : b = s1.heap.objs.size := by simpa using z
        rw [z]; exact Nat.le_refl _
    exact I1.fpOk hle (I1.hok.fresh hle)
theorem it_enumT {K : Fg} {Fy : Fl} {W : Wd} {a : Addr} {xs : List D} {G : S → Prop} (h : ∀ W1 H1 s1, Le0 W W1 → Rp K Fy W1 H1 s1 → G s1 → ∃ ys, SqT K H1 a ys ∧ DVs K W1.F ys xs) : ItOk K Fy W (IteT K a) (enumD 0 xs) G where
  go := fun i H W1 s l r g hi => by
    obtain ⟨ys, h1, h2⟩ := h W1 H s l r g
    rw [enumD_len, ← h2.1] at hi
    exact ⟨ys, ys[i], h1, by simp [hi]⟩
  yld := fun i H W1 s l r g hi x H' y => by
    obtain ⟨ys, h1, h2⟩ := h W1 H s l r g
    obtain ⟨T, x, rfl, hT, rfl, f⟩ := y
    obtain ⟨d, e3, dv⟩ := h2.get' (f ys h1)
    obtain ⟨W2, l2, r2, d2⟩ := pair_ok r hT (DV.int (i : Int)) dv
    exact ⟨W2, _, l2, r2, by rw [enumD_get 0 xs i d e3, Int.zero_add], d2⟩
  stop := fun H W1 s l r g => by
    obtain ⟨ys, h1, h2⟩ := h W1 H s l r g
    exact ⟨ys, h1, by rw [enumD_len, h2.1]⟩

/-! ### zip of a tuple and a list -/
def ItzM (K : Fg) (a b : Addr) : It :=
  ⟨fun i H => ∃ (xs ys : List V) (x y : V), SqT K H a xs ∧ SqL K H b ys ∧ xs[i]? = some x ∧ ys[i]? = some y,
    fun i H v H' => ∃ T x y, v = .ref T ∧ H T = none ∧ H' = upd H T (.tup [x, y]) ∧ (∀ xs, SqT K H a xs → xs[i]? = some x) ∧ ∀ ys, SqL K H b ys → ys[i]? = some y,
    fun i H => ∃ xs ys : List V, SqT K H a xs ∧ SqL K H b ys ∧ min xs.length ys.length = i⟩
theorem turn_zipM {P : Program} {w : World} {K : Fg} {elts : List Expr} {kk : Nat} {tpos : Pos} {a b z TI TO i1 i2 : Addr} (S : ZipSep2 z TI TO i1 i2 [i1, a] [i2, b]) (ha : a ≠ i1) (hb : b ≠ i2) :
    Turn P w K (.Tuple elts kk tpos) (ItzM K a b) [z, TI, TO, i1, i2] z (fun i h => IsZip h z TI TO .none ∧ IsTupOf2 h TI (.ref i1) (.ref i2) ∧ (∃ a1 a2, IsTupOf2 h TO a1 a2) ∧ h.IsTupleIter i1 a i ∧ h.IsListIter i2 b i) where
  mem := by simp
  obj := fun i h st c hc => by
    obtain ⟨hz, hTI, ⟨x, y, hTO⟩, ⟨o1, e1, _, d1⟩, ⟨o2, e2, _, d2⟩⟩ := st
    have e' : c = z ∨ c = TI ∨ c = TO ∨ c = i1 ∨ c = i2 := by simpa using hc
    rcases e' with rfl | rfl | rfl | rfl | rfl
    · exact ⟨_, hz, fun v q => nomatch q⟩
    · exact ⟨_, hTI, fun v q => nomatch q⟩
    · exact ⟨_, hTO, fun v q => nomatch q⟩
    · exact ⟨o1, e1, fun v q => by rw [d1] at q; cases q⟩
    · exact ⟨o2, e2, fun v q => by rw [d2] at q; cases q⟩
  keep := fun i h h' st k => by
    obtain ⟨hz, hTI, ⟨x, y, hTO⟩, h1, h2⟩ := st
    exact ⟨k z (by simp) _ hz, k TI (by simp) _ hTI, ⟨x, y, k TO (by simp) _ hTO⟩, h1.at fun o q => k i1 (by simp) o q, h2.at fun o q => k i2 (by simp) o q⟩
  item := by
    intro X hP hw hK hc i pins s σ H E I hf st hg
    subst hP hw hK
    obtain ⟨hz, hTI, hTO, h1, h2⟩ := st
    obtain ⟨xs, ys, x, y, hqx, hqy, hx, hy⟩ := hg
    obtain ⟨its, rv, p, _⟩ := I.tuple hqx
    obtain ⟨its2, rv2, p2, _⟩ := I.list hqy
    obtain ⟨u, hu, ru⟩ := rv.get hx
    obtain ⟨u2, hu2, ru2⟩ := rv2.get hy
    have D1 := Draws.tuple (prog := X.prog) (w := X.w) (A := X.A.in1) (I.ok.hd hc) i1 a ha its.toArray
    have D2 := Draws.list (prog := X.prog) (w := X.w) (A := X.A.in1) (I.ok.hd hc) i2 b hb its2.toArray
    have G := GoesN.zip2 (elts := elts) (x1 := kk) (pos := tpos) S D1 D2
    have hi1 : i < its.length := (List.getElem?_eq_some_iff.mp hu).1
    have hi2 : i < its2.length := (List.getElem?_eq_some_iff.mp hu2).1
    refine wpAny_mono (G.goes i s _ E (by simp only [List.size_toArray]; omega) ⟨hz, hTI, hTO, ⟨h1, p⟩, h2, p2.isList⟩ fun v h' tk hY st2 hk htk => ?_) (fun r s1 h1 => h1) fun _ _ z => z
    obtain ⟨T, y1, y2, rfl, hT, hy1, hy2, hTt⟩ := hY
    have ey : y1 = u := by
      have q : its.toArray[i]? = some u := by simpa using hu
      rw [q] at hy1; exact (Option.some.inj hy1).symm
    have ey2 : y2 = u2 := by
      have q : its2.toArray[i]? = some u2 := by simpa using hu2
      rw [q] at hy2; exact (Option.some.inj hy2).symm
    subst ey ey2
    obtain ⟨o, ho, hoc, n, hod⟩ := id hTt
    have new : ObjOk X.prog X.w (upd H T (.tup [x, y])) h' T (.tup [x, y]) := ⟨by show 2 ≤ sizeLine; decide, [y1, y2], .cons ru (.cons ru2 .nil), ⟨o, ho, hoc, n, hod⟩⟩
    have I1 : Inv X pins σ (upd H T (.tup [x, y])) { s with heap := h', toks := tk } := I.turnedNew (ch := [z, TI, TO, i1, i2]) (fun c ob hb q => hk c ob (fun m => hb (by
      have e' : c = z ∨ c = TO ∨ c = i1 ∨ c = i2 := by simpa using m
      rcases e' with q | q | q | q <;> simp [q])) q) hf hT new
    have old : ∀ c ∈ [z, TI, TO, i1, i2], c < s.heap.objs.size := fun c hcm => by
      have e' : c = z ∨ c = TI ∨ c = TO ∨ c = i1 ∨ c = i2 := by simpa using hcm
      obtain ⟨a1, a2, hTO⟩ := hTO
      obtain ⟨o1, e1, _⟩ := h1
      obtain ⟨o2, e2, _⟩ := h2
      rcases e' with rfl | rfl | rfl | rfl | rfl
      · exact Heap.lt_size hz
      · exact Heap.lt_size hTI
      · exact Heap.lt_size hTO
      · exact Heap.lt_size e1
      · exact Heap.lt_size e2
    refine ⟨.ref T, _, I1, rfl, ⟨T, x, y, rfl, I.hok.fresh hT, rfl, fun l hl => by rw [I.tuple_inj hl hqx]; exact hx, fun l hl => by rw [I.list_inj hl hqy]; exact hy⟩, ⟨st2.1, st2.2.1, st2.2.2.1, st2.2.2.2.1.1, st2.2.2.2.2.1⟩, fun c hcm => ?_⟩
    rw [upd_ne (Nat.ne_of_lt (Nat.lt_of_lt_of_le (old c hcm) hT))]
    exact (hf c hcm).1
  done := by
    intro X hP hw hK hc i pins s σ H E I hf st hg
    subst hP hw hK
    obtain ⟨hz, hTI, hTO, h1, h2⟩ := st
    obtain ⟨xs, ys, hqx, hqy, hm⟩ := hg
    obtain ⟨its, rv, p, _⟩ := I.tuple hqx
    obtain ⟨its2, rv2, p2, _⟩ := I.list hqy
    have D1 := Draws.tuple (prog := X.prog) (w := X.w) (A := X.A.in1) (I.ok.hd hc) i1 a ha its.toArray
    have D2 := Draws.list (prog := X.prog) (w := X.w) (A := X.A.in1) (I.ok.hd hc) i2 b hb its2.toArray
    have G := GoesN.zip2 (elts := elts) (x1 := kk) (pos := tpos) S D1 D2
    have hi : min its.toArray.size its2.toArray.size = i := by simp only [List.size_toArray]; rw [← rv.length, ← rv2.length]; exact hm
    rw [hi] at G
    exact wpAny_mono (G.stops s (fun s1 => Inv X pins σ H s1) E ⟨hz, hTI, hTO, ⟨h1, p⟩, h2, p2.isList⟩ fun h' tk hk htk => I.turnedL (t' := tk) (ch := [z, TI, TO, i1, i2]) (fun c o hb q => hk c o (fun m => hb (by
      have e' : c = z ∨ c = TO ∨ c = i1 ∨ c = i2 := by simpa using m
      rcases e' with q | q | q | q <;> simp [q])) q) hf) (fun r s1 h1 => h1) fun _ _ z => z
  self := fun A i s Q E st h => wpAny_pyIter_zip st.1 h
def iZipM (K : Fg) (ta : TA) : TI := fun σ H R => ta σ H fun vs H1 => ∃ a b xs ys, vs = [.ref a, .ref b] ∧ SqT K H1 a xs ∧ SqL K H1 b ys ∧ R (ItzM K a b) H1
theorem pi_zipM {X : Cx} {e e2 : Expr} {ta : TA} {p pos tpos : Pos} {elts : List Expr} {kk : Nat} (hg : Gl X "zip") (hm : X.mg "zip" = none) (ha : PA X [e, e2] ta)
    (hs : starEach [e, e2] X.env = (false, eval e X.env) :: starEach [e2] X.env) (hpl : (backTo pos (starEach [e2] X.env)).any (·.1) = false) :
    PI X (.Tuple elts kk tpos) (.Call (.Name "zip" p) [e, e2] [] pos) (iZipM X.K ta) := by
  refine ⟨fun pins s σ H R I h => ?_⟩
  refine PyProof.Rows.Call_ (ld_blt I hg hm PyProof.Rows.boot_zip (PyProof.Rows.callWith_type1 (thn (ha.run pos pins s σ H _ I h) fun us s1 ⟨vs, H1, I1, r1, a, b, xs, ys, ex, hqx, hqy, q⟩ => ?_) hs hpl))
  subst ex
  cases r1 with
  | cons r rr =>
    cases rr with
    | cons r' rr =>
      cases rr
      cases r
      cases r'
      obtain ⟨its, rv, p1, _⟩ := I1.tuple hqx
      obtain ⟨its2, rv2, p2, _⟩ := I1.list hqy
      have la : a < s1.heap.objs.size := by obtain ⟨o, ho, _⟩ := p1; exact Heap.lt_size ho
      have lb : b < s1.heap.objs.size := p2.lt
      refine zip_begins2 (begins_tuple a its.toArray) (begins_list b its2.toArray) p1 p2.isList fun h' hz hTI hTO h1 h2 hsz hk => wpAny_pyIter_zip hz ?_
      have I2 : Inv X pins σ H1 { s1 with heap := h' } := I1.kept (t' := s1.toks) hk
      refine ⟨s1.heap.objs.size + 4, [s1.heap.objs.size + 4, s1.heap.objs.size + 2, s1.heap.objs.size + 3, s1.heap.objs.size, s1.heap.objs.size + 1], _, _, H1, rfl, I2,
        turn_zipM (zip_sep2 (N := s1.heap.objs.size) (fp1 := [a]) (fp2 := [b]) (by simpa using la) (by simpa using lb)) (Nat.ne_of_lt la) (Nat.ne_of_lt (Nat.lt_succ_of_lt lb)), ⟨hz, hTI, ⟨_, _, hTO⟩, ⟨_, h1, rfl, rfl⟩, ⟨_, h2, rfl, rfl⟩⟩, fun c hcm => ?_, q⟩
      have hle : s1.heap.objs.size ≤ c := by
        have e' : c = s1.heap.objs.size + 4 ∨ c = s1.heap.objs.size + 2 ∨ c = s1.heap.objs.size + 3 ∨ c = s1.heap.objs.size ∨ c = s1.heap.objs.size + 1 := by simpa using hcm
        rcases e' with z | z | z | z | z
        · rw [z]; exact Nat.le_add_right _ _
        · rw [z]; exact Nat.le_add_right _ _
        · rw [z]; exact Nat.le_add_right _ _
        · rw [z]; exact Nat.le_refl _
        · rw [z]; exact Nat.le_add_right _ _
      exact I1.fpOk hle (I1.hok.fresh hle)
theorem it_zipM {K : Fg} {Fy : Fl} {W : Wd} {a b : Addr} {xs ys : List D} {G : S → Prop} (h : ∀ W1 H1 s1, Le0 W W1 → Rp K Fy W1 H1 s1 → G s1 → (∃ us, SqT K H1 a us ∧ DVs K W1.F us xs) ∧ ∃ us, SqL K H1 b us ∧ DVs K W1.F us ys) : ItOk K Fy W (ItzM K a b) (zipD xs ys) G where
  go := fun i H W1 s l r g hi => by
    obtain ⟨⟨us, h1, h2⟩, vs, h3, h4⟩ := h W1 H s l r g
    rw [zipD_len] at hi
    have i1 : i < us.length := by rw [h2.1]; omega
    have i2 : i < vs.length := by rw [h4.1]; omega
    exact ⟨us, vs, us[i], vs[i], h1, h3, by simp [i1], by simp [i2]⟩
  yld := fun i H W1 s l r g hi x H' y => by
    obtain ⟨⟨us, h1, h2⟩, vs, h3, h4⟩ := h W1 H s l r g
    obtain ⟨T, x1, x2, rfl, hT, rfl, f1, f2⟩ := y
    obtain ⟨d, e1, d1⟩ := h2.get' (f1 us h1)
    obtain ⟨e, e2, d2⟩ := h4.get' (f2 vs h3)
    obtain ⟨W2, l2, r2, d3⟩ := pair_ok r hT d1 d2
    exact ⟨W2, _, l2, r2, zipD_get xs ys i d e e1 e2, d3⟩
  stop := fun H W1 s l r g => by
    obtain ⟨⟨us, h1, h2⟩, vs, h3, h4⟩ := h W1 H s l r g
    exact ⟨us, vs, h1, h3, by rw [zipD_len, h2.1, h4.1]⟩
end DL

end
section
/-! DL 9: what is walked, by data. -/
namespace DL
open PySem PySem.Spec L2
section
variable {X : Cx} {Fy : Fl} {tg : Expr}
theorem itemsOf_some {d : D} {xs : List D} (h : itemsOf d = some xs) : d = .list xs ∨ d = .tuple xs := by
  cases d <;> simp [itemsOf] at h
  · exact .inl (by rw [h])
  · exact .inr (by rw [h])
theorem pi_val {e : Expr} {te : DTE} (he : PE X e (hE X.K Fy te)) : PI X tg e (hI X.K Fy (fun ρ s K => te ρ s fun x s => ∃ d xs, asD x s = some d ∧ itemsOf d = some xs ∧ K xs (guard x xs) s)) := by
  refine ⟨fun pins s σ H R I ⟨W, ρ, t, K1, r, rs, ht, hp⟩ => ?_⟩
  have hw : hE X.K Fy te σ H (fun v H1 => ∃ W1 t1 x, Le W W1 ∧ Rp X.K Fy W1 H1 t1 ∧ VR X.K W1 v x ∧ ∃ d xs, asD x t1 = some d ∧ itemsOf d = some xs ∧ K1 xs (guard x xs) t1) := hE_bind r rs ht fun x s1 v H1 W1 q1 l1 r1 v1 _ => ⟨W1, s1, x, l1, r1, v1, q1⟩
  refine thn (he.run pins s σ H _ I hw) fun v s1 ⟨z, H1, I1, rz, W1, t1, x, l1, r1, v1, d, xs, hd, hi, k⟩ => ?_
  rcases itemsOf_some hi with rfl | rfl
  · obtain ⟨a, rfl, ⟨ys, hq⟩, hg⟩ := guard_list r1 v1 hd
    cases rz
    obtain ⟨its, rv, p, hz⟩ := I1.list hq
    refine wpAny_pyIter_list p.isList ?_
    refine ⟨s1.heap.objs.size, [s1.heap.objs.size], _, _, H1, rfl, I1.kept (t' := s1.toks) fun b o e => Heap.get?_push_of_some _ e, turn_list a _, ⟨_, Heap.get?_push_size _ rfl, rfl, rfl⟩, fun b hb => ?_, hp _ _ _ _ _ _ k l1 r1 (it_list hg)⟩
    have e : b = s1.heap.objs.size := by simpa using hb
    subst e
    exact I1.fpOk (Nat.le_refl _) (I1.hok.fresh (Nat.le_refl _))
  · obtain ⟨a, rfl, ⟨ys, hq⟩, hg⟩ := guard_tup r1 v1 hd
    cases rz
    obtain ⟨its, rv, p, hz⟩ := I1.tuple hq
    refine wpAny_pyIter_tuple (show s1.heap.IsTuple a its.toArray from p) ?_
    refine ⟨s1.heap.objs.size, [s1.heap.objs.size], _, _, H1, rfl, I1.kept (t' := s1.toks) fun b o e => Heap.get?_push_of_some _ e, turn_tuple a _, ⟨_, Heap.get?_push_size _ rfl, rfl, rfl⟩, fun b hb => ?_, hp _ _ _ _ _ _ k l1 r1 (it_tup hg)⟩
    have e : b = s1.heap.objs.size := by simpa using hb
    subst e
    exact I1.fpOk (Nat.le_refl _) (I1.hok.fresh (Nat.le_refl _))
theorem hI_r1 {K : Fg} {Fy : Fl} {te : DTE} {σ : St} {H : Hp} {R : It → Hp → Prop} (h : hI K Fy (fun ρ s K => te ρ s fun x s => ∃ j : Int, x = .d (.int j) ∧ -(2 ^ 62) ≤ j ∧ j < 2 ^ 62 ∧ K (rangeD 0 j.toNat) (fun _ => True) s) σ H R) : iRng1 (tCons (hE K Fy te) tNil) σ H R := by
  obtain ⟨W, ρ, s, K1, r, rs, ht, hp⟩ := h
  refine hE_bind r rs ht fun x s1 v H1 W1 q1 l1 r1 v1 rs1 => ?_
  obtain ⟨j, rfl, h1, h2, k⟩ := q1
  have := VR.int v1; subst this
  exact ⟨j, rfl, h1, h2, hp _ _ _ _ _ _ k l1 r1 it_range⟩
theorem hI_r2 {K : Fg} {Fy : Fl} {ta tb : DTE} {σ : St} {H : Hp} {R : It → Hp → Prop}
    (h : hI K Fy (fun ρ s K => ta ρ s fun x s => tb ρ s fun y s => ∃ i j : Int, x = .d (.int i) ∧ y = .d (.int j) ∧ (-(2 ^ 62) ≤ i ∧ i < 2 ^ 62 ∧ -(2 ^ 62) ≤ j ∧ j < 2 ^ 62) ∧ K (rangeD i (j - i).toNat) (fun _ => True) s) σ H R) : iRng2 (tCons (hE K Fy ta) (tCons (hE K Fy tb) tNil)) σ H R := by
  obtain ⟨W, ρ, s, K1, r, rs, ht, hp⟩ := h
  refine hE_bind r rs ht fun x s1 v H1 W1 q1 l1 r1 v1 rs1 => hE_bind r1 rs1 q1 fun y s2 u H2 W2 q2 l2 r2 v2 rs2 => ?_
  obtain ⟨i, j, rfl, rfl, b, k⟩ := q2
  have := VR.int v1; subst this
  have := VR.int v2; subst this
  exact ⟨i, j, rfl, b, hp _ _ _ _ _ _ k (l1.trans l2) r2 it_range⟩
end
section
variable {X : Cx} {Fy : Fl} {elts : List Expr} {kk : Nat} {tpos p pos : Pos}
theorem pi_en {e : Expr} {te : DTE} (hg : Gl X "enumerate") (hm : X.mg "enumerate" = none) (he : PE X e (hE X.K Fy te)) (hs : starEach [e] X.env = (false, eval e X.env) :: starEach [] X.env) (hs0 : starEach [] X.env = []) :
    PI X (.Tuple elts kk tpos) (.Call (.Name "enumerate" p) [e] [] pos) (hI X.K Fy (fun ρ s K => te ρ s fun x s => ∃ d xs, asD x s = some d ∧ itemsOf d = some xs ∧ xs.length < 2 ^ 62 ∧ K (enumD 0 xs) (guard x xs) s)) := by
  refine ⟨fun pins s σ H R I ⟨W, ρ, t, K1, r, rs, ht, hp⟩ => ?_⟩
  have hw : tCons (hE X.K Fy te) tNil σ H (fun vs H1 => ∃ v W1 t1 x, vs = [v] ∧ Le W W1 ∧ Rp X.K Fy W1 H1 t1 ∧ VR X.K W1 v x ∧ ∃ d xs, asD x t1 = some d ∧ itemsOf d = some xs ∧ xs.length < 2 ^ 62 ∧ K1 (enumD 0 xs) (guard x xs) t1) :=
    hE_bind r rs ht fun x s1 v H1 W1 q1 l1 r1 v1 _ => ⟨v, W1, s1, x, rfl, l1, r1, v1, q1⟩
  refine PyProof.Rows.Call_ (ld_blt I hg hm PyProof.Rows.boot_enumerate (PyProof.Rows.callWith_type1 (thn ((pa_cons he pa_nil hs).run pos pins s σ H _ I hw) fun us s1 ⟨vs, H1, I1, r1, v, W1, t1, x, ex, l1, r1', v1, d, xs, hd, hi, hl, k⟩ => ?_) (by rw [hs, hs0]) (by rw [hs0]; rfl)))
  subst ex
  obtain ⟨u, rfl, ru⟩ := vals1 r1
  rcases itemsOf_some hi with rfl | rfl
  · obtain ⟨a, rfl, ⟨ys, hq⟩, hgd⟩ := guard_list r1' v1 hd
    cases ru
    obtain ⟨its, rv, p', hz⟩ := I1.list hq
    refine call_enumerate_list p'.isList fun h' he' hit hsz hk => wpAny_pyIter_enum he' ?_
    refine ⟨s1.heap.objs.size + 1, [s1.heap.objs.size + 1, s1.heap.objs.size], _, _, H1, rfl, I1.kept (t' := s1.toks) hk, turn_enum a (s1.heap.objs.size + 1) s1.heap.objs.size, ⟨⟨.none, he'⟩, hit, Nat.succ_ne_self _⟩, fun b hb => ?_, hp _ _ _ _ _ _ k l1 r1' (it_enum hgd)⟩
    have hle : s1.heap.objs.size ≤ b := by
      rcases List.mem_cons.mp hb with z | z
      · rw [z]; exact Nat.le_add_right _ _
      · have z : b = s1.heap.objs.size := by simpa using z
        rw [z]; exact Nat.le_refl _
    exact I1.fpOk hle (I1.hok.fresh hle)
  · obtain ⟨a, rfl, ⟨ys, hq⟩, hgd⟩ := guard_tup r1' v1 hd
    cases ru
    obtain ⟨its, rv, p', hz⟩ := I1.tuple hq
    have hal : a < s1.heap.objs.size := by obtain ⟨o, ho, _⟩ := p'; exact Heap.lt_size ho
    refine call_enum_tuple (show s1.heap.IsTuple a its.toArray from p') fun h' he' hit hk => wpAny_pyIter_enum he' ?_
    refine ⟨s1.heap.objs.size + 1, [s1.heap.objs.size + 1, s1.heap.objs.size], _, _, H1, rfl, I1.kept (t' := s1.toks) hk, turn_enumT a (s1.heap.objs.size + 1) s1.heap.objs.size (Nat.ne_of_lt (Nat.lt_succ_of_lt hal)) (Nat.ne_of_lt hal) (Nat.succ_ne_self _), ⟨⟨.none, he'⟩, hit⟩, fun b hb => ?_, hp _ _ _ _ _ _ k l1 r1' (it_enumT hgd)⟩
    have hle : s1.heap.objs.size ≤ b := by
      rcases List.mem_cons.mp hb with z | z
      · rw [z]; exact Nat.le_add_right _ _
      · have z : b = s1.heap.objs.size := by simpa using z
        rw [z]; exact Nat.le_refl _
    exact I1.fpOk hle (I1.hok.fresh hle)
theorem five_fresh {pins : List (Addr × Obj)} {s1 : Shared} {σ : St} {H1 : Hp} (I1 : Inv X pins σ H1 s1) : ∀ c ∈ [s1.heap.objs.size + 4, s1.heap.objs.size + 2, s1.heap.objs.size + 3, s1.heap.objs.size, s1.heap.objs.size + 1], FpOk X pins H1 c := fun c hcm => by
  have hle : s1.heap.objs.size ≤ c := by
    have e' : c = s1.heap.objs.size + 4 ∨ c = s1.heap.objs.size + 2 ∨ c = s1.heap.objs.size + 3 ∨ c = s1.heap.objs.size ∨ c = s1.heap.objs.size + 1 := by simpa using hcm
    rcases e' with z | z | z | z | z
    · rw [z]; exact Nat.le_add_right _ _
    · rw [z]; exact Nat.le_add_right _ _
    · rw [z]; exact Nat.le_add_right _ _
    · rw [z]; exact Nat.le_refl _
    · rw [z]; exact Nat.le_add_right _ _
  exact I1.fpOk hle (I1.hok.fresh hle)
/-- zip, where the second is a list if the first one is -/
theorem pi_zp {e e2 : Expr} {ta tb : DTE} (hg : Gl X "zip") (hm : X.mg "zip" = none) (ha : PA X [e, e2] (tCons (hE X.K Fy ta) (tCons (hE X.K Fy tb) tNil))) (hs : starEach [e, e2] X.env = (false, eval e X.env) :: starEach [e2] X.env) (hpl : (backTo pos (starEach [e2] X.env)).any (·.1) = false) :
    PI X (.Tuple elts kk tpos) (.Call (.Name "zip" p) [e, e2] [] pos) (hI X.K Fy (fun ρ s K => ta ρ s fun x s => tb ρ s fun y s => ∃ d xs e ys, asD x s = some d ∧ itemsOf d = some xs ∧ asD y s = some e ∧ itemsOf e = some ys ∧ (∀ zs, d = .list zs → e = .list ys) ∧ K (zipD xs ys) (fun s => guard x xs s ∧ guard y ys s) s)) := by
  refine ⟨fun pins s σ H R I ⟨W, ρ, t, K1, r, rs, ht, hp⟩ => ?_⟩
  have hw : tCons (hE X.K Fy ta) (tCons (hE X.K Fy tb) tNil) σ H (fun vs H1 => ∃ v u W1 t1 x y, vs = [v, u] ∧ Le W W1 ∧ Rp X.K Fy W1 H1 t1 ∧ VR X.K W1 v x ∧ VR X.K W1 u y ∧ ∃ d xs e ys, asD x t1 = some d ∧ itemsOf d = some xs ∧ asD y t1 = some e ∧ itemsOf e = some ys ∧ (∀ zs, d = .list zs → e = .list ys) ∧ K1 (zipD xs ys) (fun s => guard x xs s ∧ guard y ys s) t1) :=
    hE_bind r rs ht fun x s1 v H1 W1 q1 l1 r1 v1 rs1 => hE_bind r1 rs1 q1 fun y s2 u H2 W2 q2 l2 r2 v2 rs2 => ⟨v, u, W2, s2, x, y, rfl, l1.trans l2, r2, VR.mono l2 v1, v2, q2⟩
  refine PyProof.Rows.Call_ (ld_blt I hg hm PyProof.Rows.boot_zip (PyProof.Rows.callWith_type1 (thn (ha.run pos pins s σ H _ I hw) fun us s1 ⟨vs, H1, I1, r1, v, u, W1, t1, x, y, ex, l1, r1', v1, v2, d, xs, e, ys, hd, hi, he, hj, hc, k⟩ => ?_) hs hpl))
  subst ex
  obtain ⟨u1, u2, rfl, ru, ru2⟩ := vals2 r1
  rcases itemsOf_some hi with rfl | rfl
  · have e1 := hc _ rfl
    subst e1
    obtain ⟨a, rfl, ⟨zs, hq⟩, hgd⟩ := guard_list r1' v1 hd
    obtain ⟨b, rfl, ⟨ws, hq2⟩, hgd2⟩ := guard_list r1' v2 he
    cases ru; cases ru2
    obtain ⟨its, rv, p1, _⟩ := I1.list hq
    obtain ⟨its2, rv2, p2, _⟩ := I1.list hq2
    refine call_zip_2 p1.isList p2.isList fun h' hz hTI hTO h1 h2 hsz hk => wpAny_pyIter_zip hz ?_
    exact ⟨s1.heap.objs.size + 4, [s1.heap.objs.size + 4, s1.heap.objs.size + 2, s1.heap.objs.size + 3, s1.heap.objs.size, s1.heap.objs.size + 1], _, _, H1, rfl, I1.kept (t' := s1.toks) hk, turn_zip (PySem.W.ktu_apart s1.heap.objs.size a b p1.lt p2.lt), ⟨hz, hTI, ⟨_, _, hTO⟩, h1, h2⟩, five_fresh I1,
      hp _ _ _ _ _ _ k l1 r1' (it_zip fun W1 H1 s1 l r g => ⟨hgd W1 H1 s1 l r g.1, hgd2 W1 H1 s1 l r g.2⟩)⟩
  · obtain ⟨a, rfl, ⟨zs, hq⟩, hgd⟩ := guard_tup r1' v1 hd
    rcases itemsOf_some hj with rfl | rfl
    · obtain ⟨b, rfl, ⟨ws, hq2⟩, hgd2⟩ := guard_list r1' v2 he
      cases ru; cases ru2
      obtain ⟨its, rv, p1, _⟩ := I1.tuple hq
      obtain ⟨its2, rv2, p2, _⟩ := I1.list hq2
      have la : a < s1.heap.objs.size := by obtain ⟨o, ho, _⟩ := p1; exact Heap.lt_size ho
      have lb : b < s1.heap.objs.size := p2.lt
      refine zip_begins2 (begins_tuple a its.toArray) (begins_list b its2.toArray) p1 p2.isList fun h' hz hTI hTO h1 h2 hsz hk => wpAny_pyIter_zip hz ?_
      exact ⟨s1.heap.objs.size + 4, [s1.heap.objs.size + 4, s1.heap.objs.size + 2, s1.heap.objs.size + 3, s1.heap.objs.size, s1.heap.objs.size + 1], _, _, H1, rfl, I1.kept (t' := s1.toks) hk,
        turn_zipM (zip_sep2 (N := s1.heap.objs.size) (fp1 := [a]) (fp2 := [b]) (by simpa using la) (by simpa using lb)) (Nat.ne_of_lt la) (Nat.ne_of_lt (Nat.lt_succ_of_lt lb)), ⟨hz, hTI, ⟨_, _, hTO⟩, ⟨_, h1, rfl, rfl⟩, ⟨_, h2, rfl, rfl⟩⟩, five_fresh I1,
        hp _ _ _ _ _ _ k l1 r1' (it_zipM fun W1 H1 s1 l r g => ⟨hgd W1 H1 s1 l r g.1, hgd2 W1 H1 s1 l r g.2⟩)⟩
    · obtain ⟨b, rfl, ⟨ws, hq2⟩, hgd2⟩ := guard_tup r1' v2 he
      cases ru; cases ru2
      obtain ⟨its, rv, p1, _⟩ := I1.tuple hq
      obtain ⟨its2, rv2, p2, _⟩ := I1.tuple hq2
      have la : a < s1.heap.objs.size := by obtain ⟨o, ho, _⟩ := p1; exact Heap.lt_size ho
      have lb : b < s1.heap.objs.size := by obtain ⟨o, ho, _⟩ := p2; exact Heap.lt_size ho
      refine RZ.call_zipT (show s1.heap.IsTuple a its.toArray from p1) (show s1.heap.IsTuple b its2.toArray from p2) fun h' hz hTI hTO h1 h2 hsz hk => wpAny_pyIter_zip hz ?_
      exact ⟨s1.heap.objs.size + 4, [s1.heap.objs.size + 4, s1.heap.objs.size + 2, s1.heap.objs.size + 3, s1.heap.objs.size, s1.heap.objs.size + 1], _, _, H1, rfl, I1.kept (t' := s1.toks) hk, RZ.turn_zipT (PySem.W.ktu_apart s1.heap.objs.size a b la lb), ⟨hz, hTI, ⟨_, _, hTO⟩, h1, h2⟩, five_fresh I1,
        hp _ _ _ _ _ _ k l1 r1' (it_zipT fun W1 H1 s1 l r g => ⟨hgd W1 H1 s1 l r g.1, hgd2 W1 H1 s1 l r g.2⟩)⟩
end
end DL

end
section
/-! DL 10: defs and their calls, where nothing is being shown (guards). -/
namespace DL
open PySem PySem.Spec L2
open PyProof.Rows (envOfC)

/-- a def's promise, asked only where no text of a list is being made -/
structure FnG (P : Program) (w : World) (K : Fg) (mg : Str → Option Value) (base : Heap) (CX : CXT) (k : Nat) (f : Addr) (fd : FuncData) (ps : List Str) (sp : Sp) : Prop where
  run : ∀ (A : Around) (outer : List Env) (s : Shared) (H : Hp) (args : Args) (us : List Value) (vs : List V) (Q : VK) (E : XK), A.guards = some [] → Room k A → Env0 P w K mg base A outer s H → BindsTo s fd args (ps.zip us) →
    vs.length = ps.length → Vals vs us → sp vs H Q E → codeAny (model P w) A (.call (.ref f) args) (CR CX outer P w H s Q E) s
theorem FnG.mono {P : Program} {w : World} {K : Fg} {mg : Str → Option Value} {base : Heap} {CX : CXT} {j k : Nat} {f : Addr} {fd : FuncData} {ps : List Str} {sp : Sp} (F : FnG P w K mg base CX j f fd ps sp) (h : j ≤ k) : FnG P w K mg base CX k f fd ps sp :=
  ⟨fun A outer s H args us vs Q E hg hr => F.run A outer s H args us vs Q E hg (hr.mono h)⟩
section
variable {X : Cx} {Fy : Fl} {CX : CXT} {k : Nat} {f : Addr} {fd : FuncData} {ps : List Str} {sp : Sp} {E : XK} {x : Str} {p pos : Pos} {e : Expr} {es : List Expr} {t : TA}
theorem run_g {pins : List (Addr × Obj)} {σ : St} {H : Hp} {s : Shared} {Q : VK} {us us' : List Value} {kw : List (Str × Value)} {vs : List V} (F : FnG X.prog X.w X.K X.mg X.base CX k f fd ps sp) (hr : Room k X.A) (hg : X.A.guards = some []) (hb : bindArgs fd ⟨us, kw⟩ = pure (ps.zip us')) (hx : Passes CX X E)
    (I : Inv X pins σ H s) (hl : vs.length = ps.length) (r : Vals vs us') (h : sp vs H Q E) : wpAny (model X.prog X.w) X.A (call (.ref f) us kw) (EP X pins σ Q) X.xe s := by
  refine wpAny_call (codeAny_mono (F.run X.A X.stack s H ⟨us, kw⟩ us' vs Q E hg hr I.env0 (.of_eq hb) hl r h) fun z s' hq => ?_)
  cases z with
  | error e => exact hx pins σ H s e s' I hq
  | ok fl =>
    cases fl with
    | ret u => exact Inv.after I hq
    | _ => exact hq.elim
/-- f(e, ..) by the promise -/
theorem pe_callG (F : FnG X.prog X.w X.K X.mg X.base CX k f fd ps sp) (hr : Room k X.A) (hgd : X.A.guards = some []) (hg : Gl X x) (hm : X.mg x = some (.ref f)) (hk : PySem.W.keepIn X.K (.ref f) = true) (hb : ∀ us : List Value, us.length = ps.length → bindArgs fd ⟨us, []⟩ = pure (ps.zip us)) (hx : Passes CX X E)
    (ha : PA X (e :: es) t) (hdb : (x == ("__debug__" : Str)) = false) (he : starEach (e :: es) X.env = (false, eval e X.env) :: starEach es X.env) (hpl : (backTo pos (starEach es X.env)).any (·.1) = false) :
    PE X (.Call (.Name x p) (e :: es) [] pos) (fun σ H Q => t σ H fun vs H1 => vs.length = ps.length ∧ sp vs H1 Q E) := ⟨fun pins s σ H Q I h =>
  wpAny_Call_Name_kw (ld_glob I hg hm (PySem.W.callWith_K (h₀ := X.base) I.ok.mod.kin hk (thn (ha.run pos pins s σ H _ I h) fun us s1 ⟨vs, H1, I1, r, hl, q⟩ => ⟨I1.kIn, run_g F hr hgd (hb us (by rw [← r.length]; exact hl)) hx I1 hl r q⟩) he hpl) hdb)⟩
def permV (ps ks : List Str) (ws : List Value) : List Value := ps.map fun p => ((ks.zip ws).lookup p).getD .none
def permW (ps ks : List Str) (ws : List V) : List V := ps.map fun p => ((ks.zip ws).lookup p).getD .non
theorem lookup_rel {ks : List Str} {p : Str} : ∀ {vs : List V} {us : List Value}, Vals vs us → RelV (((ks.zip vs).lookup p).getD .non) (((ks.zip us).lookup p).getD .none) := by
  induction ks with
  | nil => intro vs us _; exact rfl
  | cons k ks ih =>
    intro vs us r
    cases r with
    | nil => exact rfl
    | cons r1 r2 =>
      rw [List.zip_cons_cons, List.zip_cons_cons, List.lookup_cons, List.lookup_cons]
      cases p == k with
      | true => exact r1
      | false => exact ih r2
theorem permW_rel {ps ks : List Str} {vs : List V} {us : List Value} (r : Vals vs us) : Vals (permW ps ks vs) (permV ps ks us) := by
  induction ps with
  | nil => exact .nil
  | cons p ps ih => exact .cons (lookup_rel r) ih
theorem lookup_vr {K : Fg} {W : Wd} {ks : List Str} {p : Str} : ∀ {vs : List V} {xs : List Vl}, VRs K W vs xs → VR K W (((ks.zip vs).lookup p).getD .non) (((ks.zip xs).lookup p).getD (.d .none)) := by
  induction ks with
  | nil => intro vs us _; exact (show DV K W.F _ _ from .non)
  | cons k ks ih =>
    intro vs us r
    cases r with
    | nil => exact (show DV K W.F _ _ from .non)
    | cons r1 r2 =>
      rw [List.zip_cons_cons, List.zip_cons_cons, List.lookup_cons, List.lookup_cons]
      cases p == k with
      | true => exact r1
      | false => exact ih r2
theorem permW_vr {K : Fg} {W : Wd} {ps ks : List Str} {vs : List V} {xs : List Vl} (r : VRs K W vs xs) : VRs K W (permW ps ks vs) (permK ps ks xs) := by
  unfold permW permK
  induction ps with
  | nil => exact .nil
  | cons p ps ih => exact .cons (lookup_vr r) ih
/-- f(k = v, ..) -/
theorem pe_callGK {kws : List Keyword} {tk : TA} {ks : List Str} (F : FnG X.prog X.w X.K X.mg X.base CX k f fd ps sp) (hr : Room k X.A) (hgd : X.A.guards = some []) (hg : Gl X x) (hm : X.mg x = some (.ref f)) (hk : PySem.W.keepIn X.K (.ref f) = true)
    (hb : ∀ us : List Value, us.length = ks.length → bindArgs fd ⟨[], ks.zip us⟩ = pure (ps.zip (permV ps ks us))) (hx : Passes CX X E) (hkw : PK X kws tk) (hdb : (x == ("__debug__" : Str)) = false)
    (hall : (backToKw pos (keywordEach kws X.env)).all (·.1.isSome) = true) (hks : (backToKw pos (keywordEach kws X.env)).filterMap (·.1) = ks)
    (hpl : ((backTo pos (starEach [] X.env)).any (·.1) || (backToKw pos (keywordEach kws X.env)).any (·.1.isNone)) = false) :
    PE X (.Call (.Name x p) [] kws pos) (fun σ H Q => tk σ H fun vs H1 => vs.length = ks.length ∧ sp (permW ps ks vs) H1 Q E) := ⟨fun pins s σ H Q I h =>
  wpAny_Call_Name_kw (ld_glob I hg hm (PySem.W.callWith_KW0 (h₀ := X.base) I.ok.mod.kin hk hall (thn (hkw.run pos pins s σ H _ I h) fun us s1 ⟨vs, H1, I1, r, hl, q⟩ => ⟨I1.kIn, by
    rw [hks]
    exact run_g F hr hgd (hb us (by rw [← r.length]; exact hl)) hx I1 (by simp [permW]) (permW_rel r) q⟩) hpl) hdb)⟩
end
/-- a def of the text keeps a promise if its body does -/
theorem fnG_of {CX : CXT} {P : Program} {w : World} {K : Fg} {mg : Str → Option Value} {base : Heap} {k : Nat} {f : Addr} {name qual : Str} {params : Arguments} {body : List Stmt} {scope : Scope} {dV kV doc pm cdv ct oc : Value} {an od : Option Addr}
    {osl : Array (Option Value)} {N ps : List Str} {sp : Sp} (lk : K.lookup f = some ⟨oc, od, .func (PySem.W.fnOf name qual params body scope dV kV doc pm an cdv ct), osl⟩) (hcd : PySem.W.codeIn K cdv qual = true) (S : FnScope N ps scope)
    (hbody : ∀ (A : Around) (outer : List Env) (s : Shared) (H : Hp) (vs : List V) (Q : VK) (E : XK), A.guards = some [] → Room k (A.deeper (envOfC qual scope s.heap.objs.size f cdv)) → vs.length = ps.length → sp vs H Q E →
      ∃ t, PSs (cxOf CX P w K mg base N qual scope f cdv A outer s H E) body t ∧ t { nx := fun _ H' => Q .non H', rt := Q } (start N vs) H) :
    FnG P w K mg base CX (k + 1) f (PySem.W.fnOf name qual params body scope dV kV doc pm an cdv ct) ps sp := ⟨fun A outer s H args us vs Q E hg hr e0 hb hl r hsp => by
  have old : ∀ b o, base.get? b = some o → s.heap.get? b = some o := fun b o e => (e0.bs b o e).1
  have KX : K.In s.heap := e0.mod.kin.keeps old
  have kinds : ∀ y ∈ ps.zip us, scope.names.lookup y.1 = some .local ∨ (scope.names.lookup y.1 = some .cell ∧ ((cellsFrom (s.heap.objs.size + 1) scope.names []).lookup y.1).isSome = true) := fun ⟨n, v⟩ hy =>
    (S.par n (List.of_mem_zip hy).1).elim .inl fun q => .inr ⟨q, PySem.W.cellsFrom_some _ _ _ (.inl q)⟩
  refine codeAny_call_function hr.depth (KX _ _ lk) rfl S.co S.gen rfl (PySem.W.codeRec_of KX hcd) (hb _ _ _ _ (wpAny_newFunctionEnv_cells S.kind kinds fun env he s1 x => ?_))
  subst he
  refine ⟨(e0.mod.nolimit.keeps old).keeps x.toInCall.keep, codeAny_func ?_⟩
  obtain ⟨t, ht, hq⟩ := hbody A outer s H vs Q E hg (hr.deeper _) hl hsp
  have I0 := inv_start (CX := CX) (E := E) S hr.hd e0 hl r x
  refine wpAny_mono (ht.run [] s1 (start N vs) H _ I0 hq) (fun fl s' hs => ?_) fun e s' hs => hs
  cases fl with
  | ret u =>
    obtain ⟨v, σ', H', J, rv, q⟩ := hs
    exact ⟨v, H', J.os, J.bare, J.base, J.hok, rv, q⟩
  | next =>
    obtain ⟨σ', H', J, q⟩ := hs
    exact ⟨V.non, H', J.os, J.bare, J.base, J.hok, rfl, q⟩
  | brk => exact (let ⟨_, _, _, q⟩ := hs; q.elim)
  | cont => exact (let ⟨_, _, _, q⟩ := hs; q.elim)⟩

/-! ### a promise over data -/
/-- what is wanted of an exception, by what is wanted over data -/
def PostX (K : Fg) (Fy : Fl) (E1 : DX) (E : XK) : Prop := ∀ x s' H' W' cls d, E1 x s' → Rp K Fy W' H' s' → XVal K Fy.mg W'.F H' x cls d → E cls d H'
def sp1 (K : Fg) (Fy : Fl) (sp : Spec) : Sp := fun vs H Q E => ∃ W s xs Q1 E1, Rp K Fy W H s ∧ VRs K W vs xs ∧ sp xs s Q1 E1 ∧ Post K Fy W Q1 Q ∧ PostX K Fy E1 E
abbrev Tb := List (Addr × Str)
/-- a def as the text has it, its promise over data, the orders of keywords by which it is called -/
structure FOk (P : Program) (w : World) (K : Fg) (mg : Str → Option Value) (base : Heap) (T : Tb) (k : Nat) (x : Str) (ps : List Str) (kss : List (List Str)) (sp : Spec) : Prop where
  ex : ∃ f fd, mg x = some (.ref f) ∧ PySem.W.keepIn K (.ref f) = true ∧ (∀ V : Wd, FnG P w K mg base (CX P w) k f fd ps (sp1 K ⟨V, T, mg, none⟩ sp)) ∧ (∀ us : List Value, us.length = ps.length → bindArgs fd ⟨us, []⟩ = pure (ps.zip us)) ∧
    ∀ ks ∈ kss, ∀ us : List Value, us.length = ks.length → bindArgs fd ⟨[], ks.zip us⟩ = pure (ps.zip (permV ps ks us))
theorem FOk.mono {P : Program} {w : World} {K : Fg} {mg : Str → Option Value} {base : Heap} {T : Tb} {j k : Nat} {x : Str} {ps : List Str} {kss kss' : List (List Str)} {sp : Spec} (F : FOk P w K mg base T j x ps kss sp) (h : j ≤ k) (hk : ∀ a ∈ kss', a ∈ kss) : FOk P w K mg base T k x ps kss' sp :=
  let ⟨f, fd, a, b, c, d, e⟩ := F.ex
  ⟨f, fd, a, b, fun V => (c V).mono h, d, fun ks m => e ks (hk ks m)⟩
/-- what becomes of an exception here -/
def XT (X : Cx) (Fy : Fl) (Ex : EX) : Prop := ∃ Wx : WX, Takes X Wx ∧ ∀ x ρ s σ H W cls d, Ex x ρ s → Rp X.K Fy W H s → RS X.K W σ ρ → XVal X.K Fy.mg W.F H x cls d → Wx cls d σ H
theorem xt0 {X : Cx} {Fy : Fl} : XT X Fy (fun _ _ _ => False) := ⟨fun _ _ _ _ => False, takes_none5, fun _ _ _ _ _ _ _ _ h => h.elim⟩
theorem RS.le0 {K : Fg} {W W' : Wd} (l : Le0 W W') {σ : St} {ρ : Rho} (h : RS K W σ ρ) : RS K W' σ ρ := ⟨h.1, fun i x e => let ⟨v, a, b⟩ := h.2 i x e; ⟨v, a, VR.mono0 l b⟩⟩
/-- a call's wish: the callee's exceptions, seen at the caller's slots -/
def spX (K : Fg) (Fy : Fl) (sp : Spec) (Wx : WX) : St → List V → Hp → VK → Prop := fun σ vs H Q => ∃ E : XK, sp1 K Fy sp vs H Q E ∧ ∀ cls d H', E cls d H' → Wx cls d σ H'
theorem call_sp {K : Fg} {Fy : Fl} {sp : Spec} {Ex : EX} {Wx : WX} {σ : St} {ρ : Rho} {vs : List V} {xs : List Vl} {W : Wd} {H : Hp} {s : S} {Q1 : DQ} {Q : VK} (hx : ∀ x ρ s σ H W cls d, Ex x ρ s → Rp K Fy W H s → RS K W σ ρ → XVal K Fy.mg W.F H x cls d → Wx cls d σ H)
    (r : Rp K Fy W H s) (rs : RS K W σ ρ) (v : VRs K W vs xs) (q : sp xs s Q1 fun x s => Ex x ρ s) (hp : Post K Fy W Q1 Q) : spX K { Fy with W := W } sp Wx σ vs H Q :=
  ⟨fun cls d H' => Wx cls d σ H', ⟨W, s, xs, Q1, _, r.floor .rfl', v, q, fun d s' v H' W' q' l r' => hp d s' v H' W' q' l (r'.floor (r.low.up l)), fun x s' H' W' cls d e r' xv => hx x ρ s' σ H' W' cls d e (r'.floor (r.low.trans r'.low)) (rs.le0 r'.low.le) xv⟩, fun _ _ _ h => h⟩
theorem hE_call {K : Fg} {Fy : Fl} {n : Nat} {sp : Spec} {Ex : EX} {Wx : WX} (hx : ∀ x ρ s σ H W cls d, Ex x ρ s → Rp K Fy W H s → RS K W σ ρ → XVal K Fy.mg W.F H x cls d → Wx cls d σ H) {ta : DTA} {σ : St} {H : Hp} {Q : VK} (h : hE K Fy (fun ρ s Q => ta ρ s fun vs s => sp vs s Q fun x s => Ex x ρ s) σ H Q) :
    (hA K Fy n ta) σ H fun vs H1 => vs.length = n ∧ ∃ V, spX K { Fy with W := V } sp Wx σ vs H1 Q := by
  obtain ⟨W, ρ, s, Q1, r, rs, ht, hp⟩ := h
  exact hA_bind r rs ht fun x s1 v H1 W1 q1 l1 r1 v1 rs1 z => ⟨z, W1, call_sp hx r1 rs1 v1 q1 fun d s' v H' W' q l r' v' => hp d s' v H' W' q (l1.trans l) r' v'⟩
theorem hE_callK {K : Fg} {Fy : Fl} {n : Nat} {sp : Spec} {ps ks : List Str} {Ex : EX} {Wx : WX} (hx : ∀ x ρ s σ H W cls d, Ex x ρ s → Rp K Fy W H s → RS K W σ ρ → XVal K Fy.mg W.F H x cls d → Wx cls d σ H) {ta : DTA} {σ : St} {H : Hp} {Q : VK}
    (h : hE K Fy (fun ρ s Q => ta ρ s fun vs s => sp (permK ps ks vs) s Q fun x s => Ex x ρ s) σ H Q) : (hA K Fy n ta) σ H fun vs H1 => vs.length = n ∧ ∃ V, spX K { Fy with W := V } sp Wx σ (permW ps ks vs) H1 Q := by
  obtain ⟨W, ρ, s, Q1, r, rs, ht, hp⟩ := h
  exact hA_bind r rs ht fun x s1 v H1 W1 q1 l1 r1 v1 rs1 z => ⟨z, W1, call_sp hx r1 rs1 (permW_vr v1) q1 fun d s' v H' W' q l r' v' => hp d s' v H' W' q (l1.trans l) r' v'⟩
section
variable {X : Cx} {k : Nat} {f : Addr} {fd : FuncData} {ps : List Str} {sp : Spec} {Fy : Fl} {Wx : WX} {x : Str} {p pos : Pos} {e : Expr} {es : List Expr} {t : TA}
theorem run_x {pins : List (Addr × Obj)} {σ : St} {H : Hp} {s : Shared} {Q : VK} {us us' : List Value} {kw : List (Str × Value)} {vs : List V} (F : FnG X.prog X.w X.K X.mg X.base (CX X.prog X.w) k f fd ps (sp1 X.K Fy sp)) (tk : Takes X Wx) (hr : Room k X.A) (hg : X.A.guards = some []) (hb : bindArgs fd ⟨us, kw⟩ = pure (ps.zip us'))
    (I : Inv X pins σ H s) (hl : vs.length = ps.length) (r : Vals vs us') (h : spX X.K Fy sp Wx σ vs H Q) : wpAny (model X.prog X.w) X.A (call (.ref f) us kw) (EP X pins σ Q) X.xe s := by
  obtain ⟨E, h, hE⟩ := h
  refine wpAny_call (codeAny_mono (F.run X.A X.stack s H ⟨us, kw⟩ us' vs Q E hg hr I.env0 (.of_eq hb) hl r h) fun z s' hq => ?_)
  cases z with
  | error e => exact tk e s' (XE.of_call I (fun cls d H' h => hE cls d H' h) hq)
  | ok fl =>
    cases fl with
    | ret u => exact I.after hq
    | _ => exact hq.elim
theorem pe_callX (F : ∀ V, FnG X.prog X.w X.K X.mg X.base (CX X.prog X.w) k f fd ps (sp1 X.K { Fy with W := V } sp)) (tk : Takes X Wx) (hr : Room k X.A) (hgd : X.A.guards = some []) (hg : Gl X x) (hm : X.mg x = some (.ref f)) (hk : PySem.W.keepIn X.K (.ref f) = true) (hb : ∀ us : List Value, us.length = ps.length → bindArgs fd ⟨us, []⟩ = pure (ps.zip us))
    (ha : PA X (e :: es) t) (hdb : (x == ("__debug__" : Str)) = false) (he : starEach (e :: es) X.env = (false, eval e X.env) :: starEach es X.env) (hpl : (backTo pos (starEach es X.env)).any (·.1) = false) :
    PE X (.Call (.Name x p) (e :: es) [] pos) (fun σ H Q => t σ H fun vs H1 => vs.length = ps.length ∧ ∃ V, spX X.K { Fy with W := V } sp Wx σ vs H1 Q) := ⟨fun pins s σ H Q I h =>
  wpAny_Call_Name_kw (ld_glob I hg hm (PySem.W.callWith_K (h₀ := X.base) I.ok.mod.kin hk (thn (ha.run pos pins s σ H _ I h) fun us s1 ⟨vs, H1, I1, r, hl, V, q⟩ => ⟨I1.kIn, run_x (F V) tk hr hgd (hb us (by rw [← r.length]; exact hl)) I1 hl r q⟩) he hpl) hdb)⟩
theorem pe_callXK {kws : List Keyword} {tk : TA} {ks : List Str} (F : ∀ V, FnG X.prog X.w X.K X.mg X.base (CX X.prog X.w) k f fd ps (sp1 X.K { Fy with W := V } sp)) (tks : Takes X Wx) (hr : Room k X.A) (hgd : X.A.guards = some []) (hg : Gl X x) (hm : X.mg x = some (.ref f)) (hk : PySem.W.keepIn X.K (.ref f) = true)
    (hb : ∀ us : List Value, us.length = ks.length → bindArgs fd ⟨[], ks.zip us⟩ = pure (ps.zip (permV ps ks us))) (hkw : PK X kws tk) (hdb : (x == ("__debug__" : Str)) = false)
    (hall : (backToKw pos (keywordEach kws X.env)).all (·.1.isSome) = true) (hks : (backToKw pos (keywordEach kws X.env)).filterMap (·.1) = ks)
    (hpl : ((backTo pos (starEach [] X.env)).any (·.1) || (backToKw pos (keywordEach kws X.env)).any (·.1.isNone)) = false) :
    PE X (.Call (.Name x p) [] kws pos) (fun σ H Q => tk σ H fun vs H1 => vs.length = ks.length ∧ ∃ V, spX X.K { Fy with W := V } sp Wx σ (permW ps ks vs) H1 Q) := ⟨fun pins s σ H Q I h =>
  wpAny_Call_Name_kw (ld_glob I hg hm (PySem.W.callWith_KW0 (h₀ := X.base) I.ok.mod.kin hk hall (thn (hkw.run pos pins s σ H _ I h) fun us s1 ⟨vs, H1, I1, r, hl, V, q⟩ => ⟨I1.kIn, by
    rw [hks]
    exact run_x (F V) tks hr hgd (hb us (by rw [← r.length]; exact hl)) I1 (by simp [permW]) (permW_rel r) q⟩) hpl) hdb)⟩
end
/-- the slots at the entry -/
theorem start_rs {K : Fg} {W : Wd} {N : List Str} {vs : List V} {xs : List Vl} (r : VRs K W vs xs) : RS K W (start N vs) (startD N.length xs) := by
  have hl := Paired.length r
  have g : ∀ {vs : List V} {xs : List Vl}, VRs K W vs xs → ∀ (i : Nat) x, xs[i]? = some x → ∃ v, vs[i]? = some v ∧ VR K W v x := by
    intro vs xs r
    induction r with
    | nil => intro i x e; simp at e
    | cons r1 r2 ih =>
      intro i x e
      cases i with
      | zero => simp at e; subst e; exact ⟨_, rfl, r1⟩
      | succ i => exact ih i x (by simpa using e)
  refine ⟨by simp [L2.start, startD, hl], fun i x e => ?_⟩
  unfold startD at e
  by_cases hi : i < xs.length
  · rw [List.getElem?_append_left (by simpa using hi), List.getElem?_map] at e
    cases q : xs[i]? with
    | none => rw [q] at e; cases e
    | some y =>
      rw [q] at e
      cases e
      obtain ⟨v, e1, e2⟩ := g r i x q
      refine ⟨v, ?_, e2⟩
      unfold L2.start
      rw [List.getElem?_append_left (by simpa [hl] using hi), List.getElem?_map, e1]
      rfl
  · rw [List.getElem?_append_right (by simpa using Nat.le_of_not_lt hi), List.getElem?_replicate] at e
    split at e <;> cases e
/-- behind the def the lists of its own are gone -/
theorem Rp.cut {K : Fg} {Fy : Fl} {W : Wd} {H : Hp} {s : S} (r : Rp K Fy W H s) {la : List Addr} (h : la <+: W.la) (hl0 : Fy.W.la <+: la) : Rp K Fy { W with la := la } H (cutS la.length s) := by
  obtain ⟨t, ht⟩ := h
  have hl : la.length ≤ s.ls.length := by rw [← r.ll, ← ht]; simp
  refine ⟨r.sub, by simp [cutS]; omega, fun n a o e1 e2 => ?_, r.ol, fun n a o e1 e2 => ?_, r.p, ?_, r.x, r.s, ⟨⟨r.low.le.F, hl0, r.low.le.oa, r.low.le.sc, r.low.le.xa⟩, r.low.pv⟩, r.tb⟩
  · have e1' : la[n]? = some a := e1
    have e2' : (s.ls.take la.length)[n]? = some o := e2
    have hn := (List.getElem?_eq_some_iff.mp e1').1
    rw [List.getElem?_take_of_lt hn] at e2'
    exact r.l n a o (by rw [← ht, List.getElem?_append_left hn]; exact e1') e2'
  · have := r.o n a o e1 e2
    cases o with
    | lst ds => exact this
    | ins c fs =>
      obtain ⟨q, C, dx, vs, q1, q2, q3, q4⟩ := this
      refine ⟨q, C, dx, vs, q1, q2, fun f x e => ?_, q4⟩
      obtain ⟨kp, v, e1, e2⟩ := q3 f x e
      refine ⟨kp, v, e1, ?_⟩
      cases x with
      | d y => exact e2
      | loc n => exact absurd rfl (kp n)
      | obj n => exact e2
      | scr => exact e2
      | exc x => exact e2
  · have nd := r.nd
    rw [← ht] at nd
    refine nd.sublist ?_
    show (la ++ W.oa ++ W.pv.map (·.1)).Sublist _
    rw [List.append_assoc, List.append_assoc, List.append_assoc]
    exact List.Sublist.append (List.Sublist.refl _) (List.sublist_append_right _ _)
theorem ret_ok {K : Fg} {Fy : Fl} {W0 W : Wd} {H : Hp} {s s0 : S} {v : V} {x : Vl} {Q1 : DQ} {Q : VK} (r0 : W0.la.length = s0.ls.length) (lw : Low Fy.W W0) (l : Le W0 W) (r : Rp K { Fy with W := W0 } W H s) (hv : VR K W v x) (q : retD s0.ls.length x s Q1) (hp : Post K Fy W0 Q1 Q) : Q v H := by
  rw [← r0] at q
  have lc : Le W0 { W with la := W0.la } := ⟨l.F, List.prefix_refl _, l.oa, l.pv, l.sc, l.xa⟩
  have rc := (r.cut l.la (List.prefix_refl _)).floor (lw.up lc)
  have scal : ∀ {y : Vl}, (∀ n, y ≠ .loc n) → VR K W v y → VR K { W with la := W0.la } v y := fun {y} hn h => by
    cases y with
    | d z => exact h
    | loc n => exact absurd rfl (hn n)
    | obj n => exact h
    | scr => exact h
    | exc x => exact h
  cases x with
  | loc n =>
    obtain ⟨a, e1, rfl⟩ := hv
    simp only [retD] at q
    by_cases hn : n < W0.la.length
    · rw [if_pos hn] at q
      refine hp _ _ _ _ _ q lc rc ⟨a, ?_, rfl⟩
      obtain ⟨t, ht⟩ := l.la
      rw [← ht, List.getElem?_append_left hn] at e1
      exact e1
    · rw [if_neg hn] at q
      cases e : s.ls[n]? with
      | none => rw [e] at q; exact q.elim
      | some o =>
        rw [e] at q
        have k := r.l n a o e1 e
        cases o with
        | op ds =>
          obtain ⟨hf, xs, hx, hd⟩ := k
          obtain ⟨r2, l2⟩ := r.freeze e1 e hx hd hf
          have lc2 : Le W0 { W with F := upd W.F a (.lst xs), la := W0.la } := ⟨fun b o e => l2.F _ _ (l.F _ _ e), List.prefix_refl _, l.oa, l.pv, l.sc, l.xa⟩
          have r3 := (r2.cut (la := W0.la) l.la (List.prefix_refl _)).floor (lw.up lc2)
          have e3 : cutS W0.la.length { s with ls := s.ls.set n (.fz ds) } = cutS W0.la.length s := by
            show ({ s with ls := (s.ls.set n (.fz ds)).take W0.la.length } : S) = { s with ls := s.ls.take W0.la.length }
            rw [List.take_set_of_le (by omega)]
          rw [e3] at r3
          refine hp _ _ _ _ { W with F := upd W.F a (.lst xs), la := W0.la } q lc2 r3 ?_
          show DV K (upd W.F a _) _ _
          exact .lst upd_same hd.1 fun i y z a b => (hd.2 i y z a b).mono' l2.F
        | fz ds =>
          obtain ⟨xs, hx, hd⟩ := k
          refine hp _ _ _ _ _ q lc rc ?_
          show DV K W.F _ _
          exact .lst hx hd.1 hd.2
  | d y => exact hp _ _ _ _ _ q lc rc (scal (by intro n z; cases z) hv)
  | obj n => exact hp _ _ _ _ _ q lc rc (scal (by intro n z; cases z) hv)
  | scr => exact hp _ _ _ _ _ q lc rc (scal (by intro n z; cases z) hv)
  | exc x => exact hp _ _ _ _ _ q lc rc (scal (by intro n z; cases z) hv)
/-- THE RULE: a def, by what its body does to data -/
theorem body_ok {K : Fg} {Fy : Fl} {N : List Str} {t : DTS} {vs : List V} {xs : List Vl} {W : Wd} {H : Hp} {s : S} {Q1 : DQ} {Q : VK} (r : Rp K Fy W H s) (hv : VRs K W vs xs)
    (h : t { nx := fun _ s' => Q1 (.d .none) (cutS s.ls.length s'), rt := fun x s' => retD s.ls.length x s' Q1 } (startD N.length xs) s) (hp : Post K Fy W Q1 Q) : hC K { Fy with W := W } t { nx := fun _ H' => Q .non H', rt := Q } (start N vs) H := by
  refine ⟨W, _, s, _, r.floor .rfl', start_rs hv, h, ⟨fun ρ' s' σ' H' W' q l r' rs => ?_, fun d s' v H' W' q l r' v' => ret_ok r.ll r.low l r' v' q hp, fun _ _ _ _ _ q => q.elim, fun _ _ _ _ _ q => q.elim⟩⟩
  exact ret_ok (x := .d .none) r.ll r.low l r' (show DV K W'.F _ _ from .non) q hp
/-- an exception leaves a def -/
theorem leave_ok {K : Fg} {Fy : Fl} {W0 : Wd} {s0 : S} {E1 : DX} {E : XK} (r0 : W0.la.length = s0.ls.length) (lw : Low Fy.W W0) (hp : PostX K Fy E1 E) : ∀ x (ρ : Rho) s (σ : St) H W cls d, E1 x (cutS s0.ls.length s) → Rp K { Fy with W := W0 } W H s → RS K W σ ρ → XVal K Fy.mg W.F H x cls d → E cls d H :=
  fun x ρ s σ H W cls d e r _ xv => by
    rw [← r0] at e
    have hl : W0.la <+: W.la := r.low.le.la
    have rc := r.cut hl (List.prefix_refl _)
    exact hp x _ H { W with la := W0.la } cls d e (rc.floor (lw.trans rc.low)) xv
end DL

end
section
namespace L2
open PySem PySem.Spec PyProof.Rows HT
section
variable {prog : Program} {w : World} {A : Around} {E : Value → Shared → Prop} {s : Shared}
theorem adjust_rev (n : Nat) : Builtin.Slice.sliceAdjust none none (-1) (n : Int) = ((n : Int) - 1, -1) := rfl
theorem places_rev (n : Nat) : Builtin.Slice.slicePlaces ((n : Int) - 1) (-1) (-1) = n := by
  unfold Builtin.Slice.slicePlaces
  have h1 : ¬ ((-1 : Int) > 0) := by decide
  have h2 : -(-1 : Int) = 1 := rfl
  simp only [h1, if_false, h2, Int.ediv_one]
  split <;> omega
theorem sliceApplied_rev {sl : Addr} {vl vu vs : Value} {n : Nat} {Q : Int × Int × Nat → Shared → Prop} (hs : s.heap.IsSliceOf sl vl vu vs) (pl : IsPart vl none) (pu : IsPart vu none) (ps : IsPart vs (some (-1)))
    (h : Q ((n : Int) - 1, -1, n) s) : wpAny (model prog w) A (Builtin.Slice.sliceApplied (.ref sl) (pure (n : Int))) Q E s := by
  obtain ⟨os, hos, hcs, hds⟩ := id hs
  unfold Builtin.Slice.sliceApplied Builtin.Slice.sliceFields
  refine wpAny_bind (wpAny_bind (wpAny_field hos hds (x := vl) rfl (wpAny_bind (wpAny_field hos hds (x := vu) rfl (wpAny_bind (wpAny_field hos hds (x := vs) rfl (wpAny_pure ?_)))))))
  refine wpAny_bind (slicePart_ ps ?_)
  show wpAny _ _ (if ((-1 : Int) == 0) = true then _ else _) _ _ s
  rw [if_neg (by decide)]
  refine wpAny_bind (slicePart_ pl (wpAny_bind (slicePart_ pu (wpAny_bind (wpAny_pure ?_)))))
  show wpAny _ _ (match Builtin.Slice.sliceAdjust none none (-1) (n : Int) with | (lo, hi) => pure (lo, (-1 : Int), Builtin.Slice.slicePlaces lo hi (-1))) _ _ s
  rw [adjust_rev]
  show wpAny _ _ (pure ((n : Int) - 1, (-1 : Int), Builtin.Slice.slicePlaces ((n : Int) - 1) (-1) (-1))) _ _ s
  rw [places_rev]
  exact wpAny_pure h
theorem pick_rev (xs : Array Value) : ((List.range xs.size).filterMap fun (m : Nat) => xs[(((xs.size : Int) - 1) + (m : Int) * (-1)).toNat]?).toArray = xs.toList.reverse.toArray := by
  have e : (List.range xs.size).filterMap (fun (m : Nat) => xs[(((xs.size : Int) - 1) + (m : Int) * (-1)).toNat]?) = ((List.range xs.size).map fun k => xs.size - 1 - k).filterMap (xs[·]?) := by
    rw [List.filterMap_map]
    have : (fun (m : Nat) => xs[(((xs.size : Int) - 1) + (m : Int) * (-1)).toNat]?) = (fun x => xs[x]?) ∘ fun k => xs.size - 1 - k := by
      funext k
      show xs[(((xs.size : Int) - 1) + (k : Int) * (-1)).toNat]? = xs[xs.size - 1 - k]?
      rw [show (((xs.size : Int) - 1) + (k : Int) * (-1)).toNat = xs.size - 1 - k by omega]
    rw [this]
  rw [e, PySem.W.krv_range, List.filterMap_reverse, PySem.W.krv_all]
theorem tupBack {t sl : Addr} {items : Array Value} {vl vu vs : Value} {Q : Value → Shared → Prop} (ht : IsTup s.heap t items) (hs : s.heap.IsSliceOf sl vl vu vs) (pl : IsPart vl none) (pu : IsPart vu none) (ps : IsPart vs (some (-1)))
    (h : Q (.ref s.heap.objs.size) { s with heap := s.heap.push { cls := .type "tuple", data := .seq items.toList.reverse.toArray } })
    (hsz : items.size ≤ sizeLine) : wpAny (model prog w) A (getItem (.ref t) (.ref sl)) Q E s := by
  have hrev : sizeOk (.seq items.toList.reverse.toArray) := by
    show items.toList.reverse.toArray.size ≤ sizeLine
    rw [List.size_toArray, List.length_reverse, Array.length_toList]
    omega
  obtain ⟨os, hos, hcs, hds⟩ := id hs
  have hTs : s.TypeIs (.ref sl) "slice" := ⟨os, hos, hcs⟩
  unfold getItem
  try with_reducible refine wpAny_holding ?_
  first | refine wpAny_bind (wpAny_pure ?_) | skip
  refine wpAny_bind (wpAny_sequenceKey ht.typeIs (by decide) ?_)
  refine wpAny_bind (wpAny_callSpecial?_slot (name := Str.ofString "__getitem__") ht.typeIs PyProof.Rows.slot_tuple_getitem
    (wpAny_call_entry PyProof.Rows.slot_tuple_getitem ht.typeIs PyProof.Rows.entry_tuple_getitem ?_ (PyProof.Rows.args_tuple_getitem _ _)))
  show wpAny _ _ (Builtin.Tuple.tupleItemsOf (.ref t) >>= _) _ _ s
  refine wpAny_bind (tupleItemsOf_ ht ?_)
  refine wpAny_bind (wpAny_typeOf hTs ?_)
  rw [if_pos (by decide)]
  refine wpAny_bind (sliceApplied_rev hs pl pu ps ?_)
  have hno : ¬ (((items.size : Int) - 1 == 0 && (-1 : Int) == 1 && items.size == items.size) = true) := by
    rw [show ((-1 : Int) == 1) = false from rfl]; simp
  show wpAny _ _ (if ((items.size : Int) - 1 == 0 && (-1 : Int) == 1 && items.size == items.size) = true then _ else _) _ _ s
  rw [if_neg hno, pick_rev]
  first
    | exact wpAny_bind (m := Builtin.Tuple.tupleExact _) (wpAny_newObj_type (wpAny_pure ⟨_, rfl, wpAny_pure h⟩) hrev)
    | exact wpAny_bind (m := Builtin.Tuple.tupleExact _) (wpAny_newObj_type (wpAny_bind (wpAny_pure (wpAny_pure ⟨_, rfl, wpAny_pure h⟩))) hrev)
    | exact wpAny_bind (wpAny_bind (m := Builtin.Tuple.tupleExact _) (wpAny_newObj_type (wpAny_pure (wpAny_pure ⟨_, rfl, wpAny_pure h⟩)) hrev))
    | exact wpAny_bind (wpAny_bind (m := Builtin.Tuple.tupleExact _) (wpAny_newObj_type (wpAny_pure ⟨_, rfl, wpAny_pure h⟩) hrev))
end
def tRev2 (K : PySem.W.Frag) (te : TE) : TE := fun σ H Q => te σ H fun x H1 => ∃ a xs, x = .ref a ∧ ((SqL K H1 a xs ∧ ∀ p, H1 p = none → Q (.ref p) (upd H1 p (.lst xs.reverse))) ∨ (SqT K H1 a xs ∧ ∀ p, H1 p = none → Q (.ref p) (upd H1 p (.tup xs.reverse))))
theorem pe_rev2 {X : Cx} {e : Expr} {te : TE} {k : Nat} {p1 p2 p3 pos : Pos} (he : PE X e te) : PE X (.Subscript e (.Slice none none (some (.UnaryOp .USub (.Constant (.int 1) k p1) p2)) p3) pos) (tRev2 X.K te) := by
  refine ⟨fun pins s σ H Q I h => ?_⟩
  refine Subscript_ (thn (he.run pins s σ H _ I h) fun v s1 ⟨x, H1, I1, r1, q1⟩ => ?_)
  obtain ⟨a, xs, ex, q⟩ := q1
  subst ex
  cases r1
  have hst : PO X (some (.UnaryOp .USub (.Constant (.int 1) k p1) p2)) (tPart (tUn (rU fun i => .int (-i)) (tC (.int 1)))) := po_some (pe_un un_neg pe_int)
  refine wpAny_Slice (thn (po_none.run pins s1 σ H1 (fun o H2 => o = none ∧ H2 = H1) I1 ⟨rfl, rfl⟩) fun vl s2 ⟨l, H2, I2, pl, el, e2⟩ => ?_)
  subst el e2
  refine thn (po_none.run pins s2 σ H2 (fun o H3 => o = none ∧ H3 = H2) I2 ⟨rfl, rfl⟩) fun vu s3 ⟨u, H3, I3, pu, eu, e3⟩ => ?_
  subst eu e3
  refine thn (hst.run pins s3 σ H3 (fun o H4 => o = some (-1) ∧ H4 = H3) I3 ⟨1, rfl, -1, rfl, rfl, rfl⟩) fun vs s4 ⟨o, H4, I4, ps, eo, e4⟩ => ?_
  subst eo e4
  have I5 : Inv X pins σ H4 { s4 with heap := s4.heap.push { cls := .type "slice", data := .fields #[vl, vu, vs] } } := I4.kept (t' := s4.toks) fun b ob q => Heap.get?_push_of_some _ q
  show wpAny (model X.prog X.w) X.A (subscriptTail e (.Slice none none (some (.UnaryOp .USub (.Constant (.int 1) k p1) p2)) p3) (.ref a) (.ref s4.heap.objs.size)) (EP X pins σ Q) X.xe { s4 with heap := s4.heap.push { cls := .type "slice", data := .fields #[vl, vu, vs] } }
  rcases q with ⟨hx, q⟩ | ⟨hx, q⟩
  · obtain ⟨its, r, ht, hz⟩ := I5.list hx
    have hlen := r.length
    refine tail_any (ops := [.ref a, .ref s4.heap.objs.size]) ht.isList.typeIs (PySem.slot_list_getitem.lookup) ?_ (by with_unfolding_all rfl)
    refine wpAny_getItem_list_slice ht.isList (Heap.IsSliceOf.new _ vl vu vs) pl pu ps (by decide) ?_ (by rw [List.size_toArray]; omega)
    rw [PySem.W.krv_pick]
    refine ⟨.ref _, _, I5.laid (t' := s4.toks) (o := .lst xs.reverse) (fun b ob q => Heap.get?_push_of_some _ q) (Nat.le_refl _) ?_, rfl, q _ (I5.hok.fresh (Nat.le_refl _))⟩
    exact ⟨by rw [List.length_reverse]; exact hz, _, 0, r.reverse, Heap.get?_push_size _ rfl⟩
  · obtain ⟨its, r, ht, hz⟩ := I5.tuple hx
    have hlen := r.length
    refine tail_any (ops := [.ref a, .ref s4.heap.objs.size]) ht.typeIs (PyProof.Rows.slot_tuple_getitem.lookup) ?_ (by with_unfolding_all rfl)
    refine tupBack ht (Heap.IsSliceOf.new _ vl vu vs) pl pu ps ?_ (by rw [List.size_toArray]; omega)
    refine ⟨.ref _, _, I5.laid (t' := s4.toks) (o := .tup xs.reverse) (fun b ob q => Heap.get?_push_of_some _ q) (Nat.le_refl _) ?_, rfl, q _ (I5.hok.fresh (Nat.le_refl _))⟩
    exact ⟨by rw [List.length_reverse]; exact hz, _, r.reverse, IsTup.new _ _⟩
end L2
/-! DL 11: the rules by which a text of the program is held against a term of the small language. -/
namespace DL
open PySem PySem.Spec L2
open PyProof.Rows (Compare_chain chain_link chain_last isTrue_chain test_link test_last ite_ff ite_tt)
abbrev E1 : EX := fun _ _ _ => False
abbrev QE (X : Cx) (Fy : Fl) (Ex : EX) (e : Expr) (m : E) : Prop := PE X e (hE X.K Fy (rdE Ex m))
abbrev QT (X : Cx) (Fy : Fl) (Ex : EX) (e : Expr) (m : E) : Prop := PT X e (hT X.K Fy (rdT Ex m))
abbrev QW (X : Cx) (Fy : Fl) (Ex : EX) (e : Expr) (m : E) : Prop := PW X e (hT X.K Fy (rdT Ex m))
abbrev QA (X : Cx) (Fy : Fl) (Ex : EX) (n : Nat) (es : List Expr) (m : E) : Prop := PA X es (hA X.K Fy n (rdL Ex m))
abbrev QO (X : Cx) (Fy : Fl) (Ex : EX) (e : Option Expr) (m : E) : Prop := PO X e (hO X.K Fy (rdO Ex m))
abbrev QG (X : Cx) (Fy : Fl) (Ex : EX) (sl : List Nat) (e : Expr) (m : E) : Prop := PG X e (hG X.K Fy sl (rdG Ex m))
abbrev QGs (X : Cx) (Fy : Fl) (Ex : EX) (sl : List Nat) (e : List Expr) (m : E) : Prop := PGs X e (hGs X.K Fy sl (rdGs Ex m))
abbrev QI (X : Cx) (Fy : Fl) (Ex : EX) (tg e : Expr) (m : E) : Prop := PI X tg e (hI X.K Fy (rdI Ex m))
abbrev QC (X : Cx) (Fy : Fl) (Ex : EX) (b : List Stmt) (m : C) : Prop := PSs X b (hC X.K Fy (rdC Ex m))
theorem PO.imp {X : Cx} {e : Option Expr} {t u : TO} (h : PO X e t) (i : ∀ σ H Q, u σ H Q → t σ H Q) : PO X e u := ⟨fun pins s σ H Q I q => h.run pins s σ H Q I (i _ _ _ q)⟩
theorem PGs.imp {X : Cx} {e : List Expr} {t u : TGs} (h : PGs X e t) (i : ∀ v σ H Q, u v σ H Q → t v σ H Q) : PGs X e u := ⟨fun pins s σ H v w Q I r q => h.run pins s σ H v w Q I r (i _ _ _ _ q)⟩
theorem PK.imp {X : Cx} {kws : List Keyword} {t u : TA} (h : PK X kws t) (i : ∀ σ H Q, u σ H Q → t σ H Q) : PK X kws u := ⟨fun pos pins s σ H Q I q => h.run pos pins s σ H Q I (i _ _ _ q)⟩
theorem PTs.imp {X : Cx} {e : List Expr} {t u : TT} (h : PTs X e t) (i : ∀ σ H Q, u σ H Q → t σ H Q) : PTs X e u := ⟨fun pins s σ H Q I q => h.run pins s σ H Q I (i _ _ _ q)⟩
section
variable {X : Cx} {Fy : Fl} {Ex : EX} {pos p p1 p2 p3 cpos apos : Pos} {j k : Nat} {a b c d e : Expr} {es rest : List Expr} {ma mb mc md m mk : E} {n : Nat}
/-! ### expressions -/
theorem c_var {i : Nat} {x : Str} (hN : X.N[i]? = some x) (hv : Vis X.env.scope x) (hd : (x == ("__debug__" : Str)) = false := by decide) (hc : (x == ("__classdict__" : Str)) = false := by decide) : QE X Fy Ex (.Name x pos) (.var i) := PE.imp (pe_var hN hv hd hc) fun _ _ _ h => hE_var h
theorem c_int {i : Int} : QE X Fy Ex (.Constant (.int i) j pos) (.cI i) := PE.imp pe_int fun _ _ _ h => hE_c (fun _ => .int i) h
theorem c_bl {i : Bool} : QE X Fy Ex (.Constant (.bool i) j pos) (.cB i) := PE.imp pe_bl fun _ _ _ h => hE_c (fun _ => .bl i) h
theorem c_non : QE X Fy Ex (.Constant .none j pos) .cN := PE.imp pe_non fun _ _ _ h => hE_c (fun _ => .non) h
theorem c_str {i : Str} : QE X Fy Ex (.Constant (.str i) j pos) (.cS i) := PE.imp pe_str fun _ _ _ h => hE_c (fun _ => .str i) h
theorem c_glob {x : Str} {i : Int} {t : Nat} (hg : Gl X x) (hm : X.mg x = some (.int i t)) (hd : (x == ("__debug__" : Str)) = false := by decide) : QE X Fy Ex (.Name x pos) (.glob x i) := PE.imp (pe_glob hg hm (v := .int i) ⟨t, rfl⟩ hd) fun _ _ _ h => hE_c (fun _ => .int i) h
theorem c_bin {o : BOp} (ha : QE X Fy Ex a ma) (hb : QE X Fy Ex b mb) : QE X Fy Ex (.BinOp a (bopS o) b pos) (.bin o ma mb) := PE.imp (pe_op (hop_bin o) ha hb) fun _ _ _ h => hE_op h
theorem c_neg (ha : QE X Fy Ex a ma) : QE X Fy Ex (.UnaryOp .USub a pos) (.neg ma) := PE.imp (pe_un un_neg ha) fun σ H Q h => by
  obtain ⟨W, ρ, s, Q1, r, rs, q, hp⟩ := h
  refine hE_bind r rs q fun x s1 v H1 W1 q1 l1 r1 v1 rs1 => ?_
  obtain ⟨i, rfl, q2⟩ := q1
  have := VR.int v1; subst this
  exact ⟨i, rfl, (Post.le hp l1).int r1 q2⟩
theorem c_and (ha : QE X Fy Ex a ma) (hb : QE X Fy Ex (.BoolOp .And (b :: rest) pos) mb) : QE X Fy Ex (.BoolOp .And (a :: b :: rest) pos) (.and ma mb) := PE.imp (pe_and ha hb) fun _ _ _ h => hE_and h
theorem c_or (ha : QE X Fy Ex a ma) (hb : QE X Fy Ex (.BoolOp .Or (b :: rest) pos) mb) : QE X Fy Ex (.BoolOp .Or (a :: b :: rest) pos) (.or ma mb) := PE.imp (pe_or ha hb) fun _ _ _ h => hE_or h
theorem c_one {o : BoolOp} (ha : QE X Fy Ex a ma) : QE X Fy Ex (.BoolOp o [a] pos) ma := pe_one ha
def TV (Ex : EX) (m : E) : Prop := ∀ ρ s Q, rdT Ex m ρ s Q → rdE Ex m ρ s fun x s => ∃ b, x = .d (.bool b) ∧ Q b s
theorem tv_var {i : Nat} : TV Ex (.var i) := fun ρ s Q h => by
  obtain ⟨b, h1, h2⟩ := h
  exact ⟨_, h1, b, rfl, h2⟩
theorem tv_call {f : Str} {sp : Spec} {es : E} : TV Ex (.call f sp es) := fun ρ s Q h => h
theorem tv_bi {b : BI} {es : E} : TV Ex (.bi b es) := fun ρ s Q h => by
  have h1 : rdL Ex es ρ s fun vs s => ∃ ds, asDs vs s = some ds ∧ biD b ds fun d => ∃ b, d = .bool b ∧ Q b s := h
  have e : (fun (vs : List Vl) (s : S) => ∃ ds, asDs vs s = some ds ∧ biD b ds fun d => ∃ b, d = .bool b ∧ Q b s) = fun vs s => ∃ ds, asDs vs s = some ds ∧ biD b ds fun d => ∃ b : Bool, Vl.d d = .d (.bool b) ∧ Q b s := by
    funext vs s
    simp only [Vl.d.injEq]
  rw [e] at h1
  exact h1
theorem t_val (h : QE X Fy Ex a m) (tv : TV Ex m) (he : ∀ whole, isTrue a X.env whole = (do let v ← whole; standAt a.pos; holding [v] (truthy v)) := by intro _; rfl) : QT X Fy Ex a m := PT.imp (pt_val h he) fun _ _ _ q => hT_val tv q
theorem c_not (ha : QE X Fy Ex a m) (tv : TV Ex m) : QE X Fy Ex (.UnaryOp .Not a pos) (.not m) := PE.imp (pe_not ha) fun σ H Q h => by
  obtain ⟨W, ρ, s, Q1, r, rs, q, hp⟩ := h
  refine hE_bind r rs (tv _ _ _ q) fun x s1 v H1 W1 q1 l1 r1 v1 rs1 => ?_
  obtain ⟨i, rfl, q2⟩ := q1
  have := VR.bl v1; subst this
  exact ⟨i, rfl, (Post.le hp l1).bl r1 q2⟩
theorem t_not (ha : QT X Fy Ex a ma) : QT X Fy Ex (.UnaryOp .Not a pos) (.not ma) := PT.imp (pt_not ha) fun _ _ _ h => hT_not h
theorem w_and (ha : QT X Fy Ex a ma) (hb : QW X Fy Ex (.BoolOp .And (b :: rest) pos) mb) : QW X Fy Ex (.BoolOp .And (a :: b :: rest) pos) (.and ma mb) := PW.imp (pw_and ha hb) fun _ _ _ h => hT_and h
theorem w_or (ha : QT X Fy Ex a ma) (hb : QW X Fy Ex (.BoolOp .Or (b :: rest) pos) mb) : QW X Fy Ex (.BoolOp .Or (a :: b :: rest) pos) (.or ma mb) := PW.imp (pw_or ha hb) fun _ _ _ h => hT_or h
theorem w_and1 (ha : QT X Fy Ex a ma) : QW X Fy Ex (.BoolOp .And [a] pos) ma := pw_and1 ha
theorem w_or1 (ha : QT X Fy Ex a ma) : QW X Fy Ex (.BoolOp .Or [a] pos) ma := pw_or1 ha
theorem t_w (h : QW X Fy Ex a ma) : QT X Fy Ex a ma := h.pt
theorem c_cmp {o : COp} {r : Nat} (hr : Room r X.A) (ha : QE X Fy Ex a ma) (hb : QE X Fy Ex b mb) (hm : behindInMarks (copS o) b = false) : QE X Fy Ex (.Compare a [copS o] [b] pos) (.cmp o ma mb) := PE.imp (pe_cmpR (hop_cmp hr o) ha hb hm) fun _ _ _ h => hE_op h
theorem t_cmp {o : COp} {r : Nat} (hr : Room r X.A) (ha : QE X Fy Ex a ma) (hb : QE X Fy Ex b mb) (hm : behindInMarks (copS o) b = false) : QT X Fy Ex (.Compare a [copS o] [b] pos) (.cmp o ma mb) := PT.imp (pt_cmpR (hop_cmp hr o) ha hb hm) fun _ _ _ h => hT_cmp h
/-- chains -/
theorem hch2 {K : Fg} {Fy : Fl} {o1 o2 : COp} {ta tb tc : DTE} {σ : St} {H : Hp} {Q : VK} {R : Bool → S → Prop} {W : Wd} {ρ : Rho} {s : S} (r : Rp K Fy W H s) (rs : RS K W σ ρ)
    (h : ta ρ s fun x s => tb ρ s fun y s => cmpV o1 x y s fun k s => if k = true then tc ρ s fun z s => cmpV o2 y z s R else R false s) (hp : ∀ k s' H' W', R k s' → Le W W' → Rp K Fy W' H' s' → Q (.bl k) H') :
    tChain (hR K Fy (gCmp o1)) (hR K Fy (gCmp o2)) (hE K Fy ta) (hE K Fy tb) (hE K Fy tc) σ H Q := by
  refine hE_bind r rs h fun x s1 v H1 W1 q1 l1 r1 v1 rs1 => hE_bind r1 rs1 q1 fun y s2 u H2 W2 q2 l2 r2 v2 rs2 => ?_
  refine ⟨W2, s2, x, y, fun z s => ∃ k, z = .d (.bool k) ∧ if k = true then tc ρ s fun z s => cmpV o2 y z s R else R false s, r2, VR.mono l2 v1, v2, cmpV_imp q2 fun k s q => ⟨k, rfl, q⟩, fun z s3 w H3 W3 q3 l3 r3 v3 => ?_⟩
  obtain ⟨k, rfl, q3⟩ := q3
  refine ⟨k, VR.bl v3, ?_⟩
  cases k with
  | false => exact hp _ _ _ _ q3 (l1.trans (l2.trans l3)) r3
  | true =>
    refine hE_bind r3 (rs2.mono l3) q3 fun z s4 w' H4 W4 q4 l4 r4 v4 rs4 => ?_
    refine ⟨W4, s4, y, z, fun z s => ∃ k, z = .d (.bool k) ∧ R k s, r4, VR.mono (l3.trans l4) v2, v4, cmpV_imp q4 fun k s q => ⟨k, rfl, q⟩, fun z s5 w5 H5 W5 q5 l5 r5 v5 => ?_⟩
    obtain ⟨k, rfl, q5⟩ := q5
    rw [VR.bl v5]
    exact hp _ _ _ _ q5 (l1.trans (l2.trans (l3.trans (l4.trans l5)))) r5
theorem c_ch2 {o1 o2 : COp} {r : Nat} (hr : Room r X.A) (ha : QE X Fy Ex a ma) (hb : QE X Fy Ex b mb) (hc : QE X Fy Ex c mc) (hm : lastMarks [copS o1, copS o2] [b, c] = false := by with_unfolding_all rfl) : QE X Fy Ex (.Compare a [copS o1, copS o2] [b, c] pos) (.ch2 o1 o2 ma mb mc) :=
  PE.imp (pe_chain (hop_cmp hr o1) (hop_cmp hr o2) ha hb hc hm) fun σ H Q h => by
    obtain ⟨W, ρ, s, Q1, r, rs, q, hp⟩ := h
    exact hch2 (R := fun k s => Q1 (.d (.bool k)) s) r rs q fun k s' H' W' q l r' => (Post.le hp l).bl r' q
theorem t_ch2 {o1 o2 : COp} {r : Nat} (hr : Room r X.A) (ha : QE X Fy Ex a ma) (hb : QE X Fy Ex b mb) (hc : QE X Fy Ex c mc) (hm : lastMarks [copS o1, copS o2] [b, c] = false := by with_unfolding_all rfl) : QT X Fy Ex (.Compare a [copS o1, copS o2] [b, c] pos) (.ch2 o1 o2 ma mb mc) :=
  PT.imp (pt_chain (hop_cmp hr o1) (hop_cmp hr o2) ha hb hc hm) fun σ H Q h => by
    obtain ⟨W, ρ, s, Q1, r, rs, q, hp⟩ := h
    exact hch2 (R := Q1) r rs q fun k s' H' W' q l r' => ⟨k, rfl, hp _ _ _ _ q l r'⟩
/-- three links -/
def tCh3 (r1 r2 r3 : R2) (ta tb tc td : TE) : TE := fun σ H Q => ta σ H fun x H1 => tb σ H1 fun y H2 => r1 x y H2 fun z H3 => ∃ k, z = .bl k ∧
  (if k = true then tc σ H3 fun w' H4 => r2 y w' H4 fun z H5 => ∃ k, z = .bl k ∧ (if k = true then td σ H5 fun w2 H6 => r3 w' w2 H6 Q else Q (.bl false) H5) else Q (.bl false) H3)
theorem pe_chain3 {op op' op2 : CmpOp} {r r' r2 : R2} {ta tb tc td : TE} (ho : OpR X (compareOp op) r) (ho' : OpR X (compareOp op') r') (ho2 : OpR X (compareOp op2) r2) (ha : PE X a ta) (hb : PE X b tb) (hc : PE X c tc) (hd : PE X d td)
    (hm : lastMarks [op, op', op2] [b, c, d] = false) : PE X (.Compare a [op, op', op2] [b, c, d] pos) (tCh3 r r' r2 ta tb tc td) := by
  refine ⟨fun pins s σ H Q I h => ?_⟩
  refine Compare_chain (thn (ha.run pins s σ H _ I h) fun v s1 ⟨x, H1, I1, r1, q1⟩ => chain_link (thn (hb.run pins s1 σ H1 _ I1 q1) fun u s2 ⟨y, H2, I2, r2, q2⟩ =>
    thn (ho pins s2 σ H2 x y v u _ I2 r1 r2 q2) fun d s3 ⟨z, H3, I3, r3, k, e, q3⟩ => ?_)) hm
  subst e
  cases r3
  refine wpAny_truthy_bool ?_
  cases k with
  | false => exact ite_ff ⟨.bl false, H3, I3, rfl, q3⟩
  | true =>
    refine ite_tt (chain_link (thn (hc.run pins s3 σ H3 _ I3 q3) fun w' s4 ⟨z', H4, I4, r4, q4⟩ => thn (ho' pins s4 σ H4 y z' u w' _ I4 r2 r4 q4) fun d s5 ⟨z5, H5, I5, r5, k5, e5, q5⟩ => ?_))
    subst e5
    cases r5
    refine wpAny_truthy_bool ?_
    cases k5 with
    | false => exact ite_ff ⟨.bl false, H5, I5, rfl, q5⟩
    | true => exact ite_tt (chain_last (thn (hd.run pins s5 σ H5 _ I5 q5) fun w2 s6 ⟨z6, H6, I6, r6, q6⟩ => ho2 pins s6 σ H6 z' z6 w' w2 Q I6 r4 r6 q6))
theorem pt_chain3 {op op' op2 : CmpOp} {r r' r2 : R2} {ta tb tc td : TE} (ho : OpR X (compareOp op) r) (ho' : OpR X (compareOp op') r') (ho2 : OpR X (compareOp op2) r2) (ha : PE X a ta) (hb : PE X b tb) (hc : PE X c tc) (hd : PE X d td)
    (hm : lastMarks [op, op', op2] [b, c, d] = false) : PT X (.Compare a [op, op', op2] [b, c, d] pos) (tTest (tCh3 r r' r2 ta tb tc td)) := by
  refine ⟨fun pins s σ H Q I h => ?_⟩
  refine isTrue_chain (thn (ha.run pins s σ H _ I h) fun v s1 ⟨x, H1, I1, r1, q1⟩ => test_link (thn (hb.run pins s1 σ H1 _ I1 q1) fun u s2 ⟨y, H2, I2, r2, q2⟩ =>
    thn (ho pins s2 σ H2 x y v u _ I2 r1 r2 q2) fun d s3 ⟨z, H3, I3, r3, k, e, q3⟩ => ?_)) hm
  subst e
  cases r3
  refine wpAny_truthy_bool ?_
  cases k with
  | false =>
    obtain ⟨k', e', q'⟩ := q3
    cases e'
    exact ite_ff ⟨H3, I3, q'⟩
  | true =>
    refine ite_tt (test_link (thn (hc.run pins s3 σ H3 _ I3 q3) fun w' s4 ⟨z', H4, I4, r4, q4⟩ => thn (ho' pins s4 σ H4 y z' u w' _ I4 r2 r4 q4) fun d s5 ⟨z5, H5, I5, r5, k5, e5, q5⟩ => ?_))
    subst e5
    cases r5
    refine wpAny_truthy_bool ?_
    cases k5 with
    | false =>
      obtain ⟨k', e', q'⟩ := q5
      cases e'
      exact ite_ff ⟨H5, I5, q'⟩
    | true =>
      refine ite_tt (test_last (thn (hd.run pins s5 σ H5 _ I5 q5) fun w2 s6 ⟨z6, H6, I6, r6, q6⟩ => thn (ho2 pins s6 σ H6 z' z6 w' w2 _ I6 r4 r6 q6) fun d' s7 ⟨z7, H7, I7, r7, k7, e7, q7⟩ => ?_))
      subst e7
      cases r7
      exact wpAny_truthy_bool ⟨H7, I7, q7⟩
theorem hch3 {K : Fg} {Fy : Fl} {o1 o2 o3 : COp} {ta tb tc td : DTE} {σ : St} {H : Hp} {Q : VK} {R : Bool → S → Prop} {W : Wd} {ρ : Rho} {s : S} (r : Rp K Fy W H s) (rs : RS K W σ ρ)
    (h : ta ρ s fun x s => tb ρ s fun y s => cmpV o1 x y s fun k s => if k = true then tc ρ s fun z s => cmpV o2 y z s fun k s => if k = true then td ρ s fun w s => cmpV o3 z w s R else R false s else R false s)
    (hp : ∀ k s' H' W', R k s' → Le W W' → Rp K Fy W' H' s' → Q (.bl k) H') : tCh3 (hR K Fy (gCmp o1)) (hR K Fy (gCmp o2)) (hR K Fy (gCmp o3)) (hE K Fy ta) (hE K Fy tb) (hE K Fy tc) (hE K Fy td) σ H Q := by
  refine hE_bind r rs h fun x s1 v H1 W1 q1 l1 r1 v1 rs1 => hE_bind r1 rs1 q1 fun y s2 u H2 W2 q2 l2 r2 v2 rs2 => ?_
  refine ⟨W2, s2, x, y, fun z s => ∃ k, z = .d (.bool k) ∧ if k = true then tc ρ s fun z s => cmpV o2 y z s fun k s => if k = true then td ρ s fun w s => cmpV o3 z w s R else R false s else R false s, r2, VR.mono l2 v1, v2, cmpV_imp q2 fun k s q => ⟨k, rfl, q⟩, fun z s3 w H3 W3 q3 l3 r3 v3 => ?_⟩
  obtain ⟨k, rfl, q3⟩ := q3
  refine ⟨k, VR.bl v3, ?_⟩
  cases k with
  | false => exact hp _ _ _ _ q3 (l1.trans (l2.trans l3)) r3
  | true =>
    refine hE_bind r3 (rs2.mono l3) q3 fun z s4 w' H4 W4 q4 l4 r4 v4 rs4 => ?_
    refine ⟨W4, s4, y, z, fun z' s => ∃ k, z' = .d (.bool k) ∧ if k = true then td ρ s fun w s => cmpV o3 z w s R else R false s, r4, VR.mono (l3.trans l4) v2, v4, cmpV_imp q4 fun k s q => ⟨k, rfl, q⟩, fun z5 s5 w5 H5 W5 q5 l5 r5 v5 => ?_⟩
    obtain ⟨k, rfl, q5⟩ := q5
    refine ⟨k, VR.bl v5, ?_⟩
    cases k with
    | false => exact hp _ _ _ _ q5 (l1.trans (l2.trans (l3.trans (l4.trans l5)))) r5
    | true =>
      refine hE_bind r5 (rs4.mono l5) q5 fun y6 s6 w6 H6 W6 q6 l6 r6 v6 rs6 => ?_
      refine ⟨W6, s6, z, y6, fun z s => ∃ k, z = .d (.bool k) ∧ R k s, r6, VR.mono (l5.trans l6) v4, v6, cmpV_imp q6 fun k s q => ⟨k, rfl, q⟩, fun z7 s7 w7 H7 W7 q7 l7 r7 v7 => ?_⟩
      obtain ⟨k, rfl, q7⟩ := q7
      rw [VR.bl v7]
      exact hp _ _ _ _ q7 (l1.trans (l2.trans (l3.trans (l4.trans (l5.trans (l6.trans l7)))))) r7
theorem c_ch3 {o1 o2 o3 : COp} {r : Nat} (hr : Room r X.A) (ha : QE X Fy Ex a ma) (hb : QE X Fy Ex b mb) (hc : QE X Fy Ex c mc) (hd : QE X Fy Ex d md) (hm : lastMarks [copS o1, copS o2, copS o3] [b, c, d] = false := by with_unfolding_all rfl) : QE X Fy Ex (.Compare a [copS o1, copS o2, copS o3] [b, c, d] pos) (.ch3 o1 o2 o3 ma mb mc md) :=
  PE.imp (pe_chain3 (hop_cmp hr o1) (hop_cmp hr o2) (hop_cmp hr o3) ha hb hc hd hm) fun σ H Q h => by
    obtain ⟨W, ρ, s, Q1, r, rs, q, hp⟩ := h
    exact hch3 (R := fun k s => Q1 (.d (.bool k)) s) r rs q fun k s' H' W' q l r' => (Post.le hp l).bl r' q
theorem t_ch3 {o1 o2 o3 : COp} {r : Nat} (hr : Room r X.A) (ha : QE X Fy Ex a ma) (hb : QE X Fy Ex b mb) (hc : QE X Fy Ex c mc) (hd : QE X Fy Ex d md) (hm : lastMarks [copS o1, copS o2, copS o3] [b, c, d] = false := by with_unfolding_all rfl) : QT X Fy Ex (.Compare a [copS o1, copS o2, copS o3] [b, c, d] pos) (.ch3 o1 o2 o3 ma mb mc md) :=
  PT.imp (pt_chain3 (hop_cmp hr o1) (hop_cmp hr o2) (hop_cmp hr o3) ha hb hc hd hm) fun σ H Q h => by
    obtain ⟨W, ρ, s, Q1, r, rs, q, hp⟩ := h
    exact hch3 (R := Q1) r rs q fun k s' H' W' q l r' => ⟨k, rfl, hp _ _ _ _ q l r'⟩
theorem c_ite (hc : QT X Fy Ex c mc) (ha : QE X Fy Ex a ma) (hb : QE X Fy Ex b mb) : QE X Fy Ex (.IfExp c a b pos) (.ite mc ma mb) := PE.imp (pe_ifExp hc ha hb) fun _ _ _ h => hE_ite h
/-! ### lists, tuples -/
theorem a_nil : QA X Fy Ex 0 [] .nil := PA.imp pa_nil fun _ _ _ h => hA_nil h
theorem a_cons (ha : QE X Fy Ex e ma) (hr : QA X Fy Ex n es m) (hs : starEach (e :: es) X.env = (false, eval e X.env) :: starEach es X.env := by rfl) : QA X Fy Ex (n + 1) (e :: es) (.cons ma m) := PA.imp (pa_cons ha hr hs) fun _ _ _ h => hA_cons h
theorem c_tup (h : QA X Fy Ex n es m) : QE X Fy Ex (.Tuple es k pos) (.tup m) := PE.imp (pe_tup h) fun _ _ _ q => hE_tup q
theorem c_lst {q : Pol} (h : QA X Fy Ex n es m) : QE X Fy Ex (.List es pos) (.lst q m) := PE.imp (pe_lst h) fun _ _ _ q => hE_lst q
theorem c_dict : QE X Fy Ex (.Dict [] [] pos) .dict0 := PE.imp pe_dnewK fun _ _ _ q => hE_dict q
theorem c_ix (ha : QE X Fy Ex a ma) (hb : QE X Fy Ex b mb) (hs : PlainIx b) : QE X Fy Ex (.Subscript a b pos) (.ix ma mb) := PE.imp (pe_ix hop_ix ha hb hs) fun _ _ _ h => hE_op h
theorem o_none : QO X Fy Ex none .nil := PO.imp po_none fun _ _ _ h => hO_none h
theorem o_some {m2 : E} (h : QE X Fy Ex e m) : QO X Fy Ex (some e) (.cons m m2) := PO.imp (po_some h) fun _ _ _ h => hO_some h
theorem c_slc {lo hi : Option Expr} (ha : QE X Fy Ex a ma) (hl : QO X Fy Ex lo mb) (hu : QO X Fy Ex hi mc) : QE X Fy Ex (.Subscript a (.Slice lo hi none p2) pos) (.slc ma mb mc) := PE.imp (pe_slice hop_slc ha hl hu) fun _ _ _ h => hE_slc h
theorem dvs_rev {K : Fg} {F : Hp} {xs ds} (h2 : DVs K F xs ds) : DVs K F xs.reverse ds.reverse := by
  refine ⟨by simp [h2.1], fun i y e a b => ?_⟩
  have hi : i < xs.length := by have := (List.getElem?_eq_some_iff.mp a).1; simpa using this
  rw [List.getElem?_reverse hi] at a
  rw [List.getElem?_reverse (by rw [← h2.1]; exact hi)] at b
  rw [← h2.1] at b
  exact h2.2 _ y e a b
theorem hE_rev2 {K : Fg} {Fy : Fl} {ta : DTE} {σ : St} {H : Hp} {Q : VK} (h : hE K Fy (fun ρ s Q => ta ρ s fun x s => ∃ u, asD x s = some u ∧ revD u fun d => Q (.d d) s) σ H Q) : tRev2 K (hE K Fy ta) σ H Q := by
  obtain ⟨W, ρ, s, Q1, r, rs, ht, hp⟩ := h
  refine hE_bind r rs ht fun x s1 v H1 W1 q1 l1 r1 v1 rs1 => ?_
  obtain ⟨u, e, q⟩ := q1
  have hp2 : Post K Fy W1 Q1 Q := fun d s' v H' W' q l r' v' => hp d s' v H' W' q (l1.trans l) r' v'
  unfold revD at q
  split at q
  · obtain ⟨a, xs, rfl, h1, h2⟩ := asD_list r1 v1 e
    exact ⟨a, xs, rfl, .inl ⟨h1, hp2.newL r1 (dvs_rev h2) q⟩⟩
  · obtain ⟨a, xs, rfl, h1, _, h2⟩ := asD_tup r1 v1 e
    exact ⟨a, xs, rfl, .inr ⟨h1, fun p hp' => hp2.newT r1 (dvs_rev h2) q p hp'⟩⟩
  · exact q.elim
theorem c_rev (ha : QE X Fy Ex a ma) : QE X Fy Ex (.Subscript a (.Slice none none (some (.UnaryOp .USub (.Constant (.int 1) k p1) p2)) p3) pos) (.rev ma) := PE.imp (pe_rev2 ha) fun _ _ _ h => hE_rev2 h
/-! ### built-ins -/
theorem hE_bi {K : Fg} {Fy : Fl} {b : BI} {ta : DTA} {σ : St} {H : Hp} {Q : VK} (hb : ∀ vs, biArgs b vs = vs) (h : hE K Fy (fun ρ s Q => ta ρ s fun x s => gBi b x s Q) σ H Q) : tCB (fun zs H Q => ∃ vs, zs = biArgs b vs ∧ hN K Fy (gBi b) vs H Q) (hA K Fy n ta) σ H Q := by
  obtain ⟨W, ρ, s, Q1, r, rs, q, hp⟩ := h
  exact hA_bind r rs q fun xs s1 vs H1 W1 q1 l1 r1 v1 rs1 e => ⟨vs, (hb vs).symm, W1, s1, xs, Q1, r1, v1, q1, fun d s' v H' W' q l => hp d s' v H' W' q (l1.trans l)⟩
theorem c_biB {b : BI} {x : Str} {id : String} {kk : Nat} (hr : Room kk X.A) (hgd : X.A.guards = some []) (hc : X.calm = true) (hid : biId b = .builtin id) (hb : ∀ vs, biArgs b vs = vs) (hg : Gl X x) (hm : X.mg x = none) (hv : bootBuiltins x = some (biId b)) (ha : QA X Fy Ex n (e :: es) m)
    (hn : x ≠ "__name__" := by decide) (hdb : (x == ("__debug__" : Str)) = false := by decide) (he : starEach (e :: es) X.env = (false, eval e X.env) :: starEach es X.env := by rfl) (hpl : (backTo pos (starEach es X.env)).any (·.1) = false := by rfl) : QE X Fy Ex (.Call (.Name x p) (e :: es) [] pos) (.bi b m) :=
  PE.imp (pe_callB (id := id) (by rw [← hid]; exact hop_bi hr hgd hc b) hg hm (by rw [hv, hid]) ha hn hdb he hpl) fun _ _ _ h => hE_bi hb h
theorem c_biT {b : BI} {x : Str} {T : String} {kk : Nat} (hr : Room kk X.A) (hgd : X.A.guards = some []) (hc : X.calm = true) (hid : biId b = .type T) (hb : ∀ vs, biArgs b vs = vs) (hg : Gl X x) (hm : X.mg x = none) (hv : bootBuiltins x = some (biId b)) (ha : QA X Fy Ex n (e :: es) m)
    (hn : x ≠ "__name__" := by decide) (hdb : (x == ("__debug__" : Str)) = false := by decide) (he : starEach (e :: es) X.env = (false, eval e X.env) :: starEach es X.env := by rfl) (hpl : (backTo pos (starEach es X.env)).any (·.1) = false := by rfl) : QE X Fy Ex (.Call (.Name x p) (e :: es) [] pos) (.bi b m) :=
  PE.imp (pe_callTy (T := T) (by rw [← hid]; exact hop_bi hr hgd hc b) hg hm (by rw [hv, hid]) ha hn hdb he hpl) fun _ _ _ h => hE_bi hb h
theorem hE_isi {K : Fg} {Fy : Fl} {t : TyN} {te : DTE} {σ : St} {H : Hp} {Q : VK} (h : hE K Fy (fun ρ s Q => te ρ s fun x s => gBi (.isi t) [x] s Q) σ H Q) :
    tCB (fun zs H Q => ∃ vs, zs = biArgs (.isi t) vs ∧ hN K Fy (gBi (.isi t)) vs H Q) (tCons (hE K Fy te) (tCons (tC (.ty (tyName t))) tNil)) σ H Q := by
  obtain ⟨W, ρ, s, Q1, r, rs, q, hp⟩ := h
  exact hE_bind r rs q fun x s1 v H1 W1 q1 l1 r1 v1 rs1 => ⟨[v], rfl, W1, s1, [x], Q1, r1, .cons v1 .nil, q1, fun d s' v H' W' q l => hp d s' v H' W' q (l1.trans l)⟩
theorem c_isi {t : TyN} {x ty : Str} {kk : Nat} (hr : Room kk X.A) (hgd : X.A.guards = some []) (hc : X.calm = true) (hx : x = "isinstance") (hg : Gl X x) (hm : X.mg x = none) (hgt : Gl X ty) (hmt : X.mg ty = none) (hvt : bootBuiltins ty = some (.type (tyName t))) (ha : QE X Fy Ex e m)
    (hnt : ty ≠ "__name__" := by decide) (hdt : (ty == ("__debug__" : Str)) = false := by decide) (he : starEach [e, .Name ty p2] X.env = (false, eval e X.env) :: starEach [.Name ty p2] X.env := by rfl)
    (hpl : (backTo pos (starEach [.Name ty p2] X.env)).any (·.1) = false := by rfl) (hs2 : starEach [.Name ty p2] X.env = (false, eval (.Name ty p2) X.env) :: starEach [] X.env := by rfl) : QE X Fy Ex (.Call (.Name x p) [e, .Name ty p2] [] pos) (.bi (.isi t) (.cons m .nil)) := by
  subst hx
  exact PE.imp (pe_callB (id := "isinstance") (hop_bi hr hgd hc (.isi t)) hg hm (by decide +kernel) (pa_cons ha (pa_cons (pe_bltn hgt hmt hvt (v := .ty (tyName t)) rfl hnt hdt) pa_nil hs2) he) (by decide) (by decide) he hpl) fun _ _ _ h => hE_isi h
/-! ### calls of defs -/
theorem c_call {V : Wd} {T : Tb} {x : Str} {ps : List Str} {kss : List (List Str)} {sp : Spec} {kk : Nat} (F : FOk X.prog X.w X.K X.mg X.base T kk x ps kss sp) (hx : XT X ⟨V, T, X.mg, none⟩ Ex) (hn : ps.length = n) (hr : Room kk X.A) (hgd : X.A.guards = some []) (hg : Gl X x) (ha : QA X ⟨V, T, X.mg, none⟩ Ex n (e :: es) m)
    (hdb : (x == ("__debug__" : Str)) = false := by decide) (he : starEach (e :: es) X.env = (false, eval e X.env) :: starEach es X.env := by rfl) (hpl : (backTo pos (starEach es X.env)).any (·.1) = false := by rfl) : QE X ⟨V, T, X.mg, none⟩ Ex (.Call (.Name x p) (e :: es) [] pos) (.call x sp m) := by
  obtain ⟨f, fd, hm, hk, F, hb, _⟩ := F.ex
  obtain ⟨Wx, tk, hx⟩ := hx
  subst hn
  exact PE.imp (pe_callX (Fy := ⟨V, T, X.mg, none⟩) F tk hr hgd hg hm hk hb ha hdb he hpl) fun _ _ _ h => hE_call (Fy := ⟨V, T, X.mg, none⟩) hx h
theorem k_nil : PK X [] (hA X.K Fy 0 (rdL Ex .nil)) := PK.imp pk_nil fun _ _ _ h => hA_nil h
theorem k_cons {nm : Option Str} {kws : List Keyword} (ha : QE X Fy Ex e ma) (hr : PK X kws (hA X.K Fy n (rdL Ex m))) : PK X (⟨nm, e, p⟩ :: kws) (hA X.K Fy (n + 1) (rdL Ex (.cons ma m))) := PK.imp (pk_cons ha hr) fun _ _ _ h => hA_cons h
theorem c_callK {V : Wd} {T : Tb} {x : Str} {ps : List Str} {kss : List (List Str)} {ks : List Str} {sp : Spec} {kk : Nat} {kws : List Keyword} (F : FOk X.prog X.w X.K X.mg X.base T kk x ps kss sp) (hx : XT X ⟨V, T, X.mg, none⟩ Ex) (hks : ks ∈ kss) (hn : ks.length = n) (hr : Room kk X.A) (hgd : X.A.guards = some []) (hg : Gl X x) (ha : PK X kws (hA X.K ⟨V, T, X.mg, none⟩ n (rdL Ex m)))
    (hdb : (x == ("__debug__" : Str)) = false := by decide) (hall : (backToKw pos (keywordEach kws X.env)).all (·.1.isSome) = true := by rfl) (hkn : (backToKw pos (keywordEach kws X.env)).filterMap (·.1) = ks := by rfl)
    (hpl : ((backTo pos (starEach [] X.env)).any (·.1) || (backToKw pos (keywordEach kws X.env)).any (·.1.isNone)) = false := by rfl) : QE X ⟨V, T, X.mg, none⟩ Ex (.Call (.Name x p) [] kws pos) (.callK x ps ks sp m) := by
  obtain ⟨f, fd, hm, hk, F, _, hb⟩ := F.ex
  obtain ⟨Wx, tk, hx⟩ := hx
  subst hn
  exact PE.imp (pe_callXK (Fy := ⟨V, T, X.mg, none⟩) F tk hr hgd hg hm hk (hb ks hks) ha hdb hall hkn hpl) fun _ _ _ h => hE_callK (Fy := ⟨V, T, X.mg, none⟩) hx h
/-! ### targets -/
theorem g_name {i : Nat} {sl : List Nat} {x : Str} (hN : X.N.Nodup) (hi : X.N[i]? = some x) (hx : Loc X.env.scope x) (hf : X.fn x = true ∨ X.env.scope.names.lookup x = some .local) (hs : i ∈ sl) : QG X Fy Ex sl (.Name x pos) (.tN i) := PG.imp (pg_name hN hi hx hf) fun _ _ _ _ h => hG_name hs h
theorem g_nil {sl : List Nat} : QGs X Fy Ex sl [] .nil := PGs.imp pgs_nil fun _ _ _ _ h => hGs_nil h
theorem g_cons {sl : List Nat} (h1 : QG X Fy Ex sl e ma) (h2 : QGs X Fy Ex sl es m) (hs : (assignEach (e :: es) X.env).map (·.2) = assign e X.env :: (assignEach es X.env).map (·.2) := by rfl) : QGs X Fy Ex sl (e :: es) (.cons ma m) := PGs.imp (pgs_cons h1 h2 hs) fun _ _ _ _ h => hGs_cons h
theorem g_tup {sl : List Nat} (hc : X.calm = true) (h : QGs X Fy Ex sl es m) (hl : ∀ xs ρ s Q, rdGs Ex m xs ρ s Q → xs.length = n)
    (hn : (assignEach es X.env).length = n := by rfl) (hst : (assignEach es X.env).findIdx? (·.1) = none := by rfl) : QG X Fy Ex sl (.Tuple es k pos) (.tT m) := PG.imp (pg_tup hc h hn hst) fun _ _ _ _ q => hG_tup hl q
theorem g_lstU {sl : List Nat} (hc : X.calm = true) (h : QGs X Fy Ex sl es m) (hl : ∀ xs ρ s Q, rdGs Ex m xs ρ s Q → xs.length = n)
    (hn : (assignEach es X.env).length = n := by rfl) (hst : (assignEach es X.env).findIdx? (·.1) = none := by rfl) : QG X Fy Ex sl (.Tuple es k pos) (.tL m) := PG.imp (pg_lstU hc h hn hst) fun _ _ _ _ q => hG_lstU hl q
theorem l_nil : ∀ xs ρ s Q, rdGs Ex .nil xs ρ s Q → xs.length = 0 := fun xs ρ s Q h => by
  have h' : xs = [] ∧ Q ρ s := h
  rw [h'.1]; rfl
def Rch (Ex : EX) (m : E) : Prop := ∀ xs ρ s Q, rdGs Ex m xs ρ s Q → ∃ ρ s, Q ρ s
theorem rch_nil : Rch Ex .nil := fun xs ρ s Q h => by
  have h' : xs = [] ∧ Q ρ s := h
  exact ⟨_, _, h'.2⟩
theorem rch_name {i : Nat} {m : E} (h : Rch Ex m) : Rch Ex (.cons (.tN i) m) := fun xs ρ s Q q => by
  have q' : ∃ x r, xs = x :: r ∧ rdGs Ex m r (ρ.set i (some (.d x))) s Q := q
  obtain ⟨x, r, rfl, q'⟩ := q'
  exact h _ _ _ _ q'
theorem l_name {i : Nat} {m : E} (h : ∀ xs ρ s Q, rdGs Ex m xs ρ s Q → xs.length = n) : ∀ xs ρ s Q, rdGs Ex (.cons (.tN i) m) xs ρ s Q → xs.length = n + 1 := fun xs ρ s Q q => by
  have q' : ∃ x r, xs = x :: r ∧ rdGs Ex m r (ρ.set i (some (.d x))) s Q := q
  obtain ⟨x, r, rfl, q'⟩ := q'
  simp [h _ _ _ _ q']
theorem l_tup {ts : E} {m : E} (hr : Rch Ex ts) (h : ∀ xs ρ s Q, rdGs Ex m xs ρ s Q → xs.length = n) : ∀ xs ρ s Q, rdGs Ex (.cons (.tT ts) m) xs ρ s Q → xs.length = n + 1 := fun xs ρ s Q q => by
  have q' : ∃ x r, xs = x :: r ∧ ∃ ys, Vl.d x = .d (.tuple ys) ∧ rdGs Ex ts ys ρ s (fun ρ s => rdGs Ex m r ρ s Q) := q
  obtain ⟨x, r, rfl, ys, _, q'⟩ := q'
  obtain ⟨ρ', s', q2⟩ := hr _ _ _ _ q'
  simp [h _ _ _ _ q2]
theorem g_sub (ha : QE X Fy Ex a ma) (hb : QE X Fy Ex b mb) {sl : List Nat} (h : ∀ v, assign (.Subscript a b pos) X.env v = (do
      let ov ← holding [v] (eval a X.env)
      let iv ← holding [v, ov] (eval b X.env)
      standAt pos
      holding [v, ov, iv] (setItem ov iv v)
      release [v, ov, iv] []) := by intro _; rfl) : QG X Fy Ex sl (.Subscript a b pos) (.tS ma mb) := PG.imp (pg_sub ha hb set_list h) fun _ _ _ _ q => hG_sub q
/-! ### what is walked -/
variable {tg : Expr} {tpos : Pos} {elts : List Expr} {kk : Nat}
theorem i_val (h : QE X Fy Ex e m) : QI X Fy Ex tg e (.iVal m) := pi_val h
theorem i_r1 (hg : Gl X "range") (hm : X.mg "range" = none) (ha : QE X Fy Ex a ma) (hs : starEach [a] X.env = [(false, eval a X.env)] := by rfl) : QI X Fy Ex tg (.Call (.Name "range" p) [a] [] pos) (.iR1 ma) :=
  PI.imp (pi_range1 hg hm (pa_cons ha pa_nil hs) hs) fun _ _ _ h => hI_r1 h
theorem i_r2 (hg : Gl X "range") (hm : X.mg "range" = none) (ha : QE X Fy Ex a ma) (hb : QE X Fy Ex b mb) (hs : starEach [a, b] X.env = [(false, eval a X.env), (false, eval b X.env)] := by rfl) (hs2 : starEach [b] X.env = [(false, eval b X.env)] := by rfl) : QI X Fy Ex tg (.Call (.Name "range" p) [a, b] [] pos) (.iR2 ma mb) :=
  PI.imp (pi_range2 hg hm (pa_cons ha (pa_cons hb pa_nil hs2) (by rw [hs, hs2])) hs hs2) fun _ _ _ h => hI_r2 h
theorem i_en (hg : Gl X "enumerate") (hm : X.mg "enumerate" = none) (ha : QE X Fy Ex a ma) (hs : starEach [a] X.env = (false, eval a X.env) :: starEach [] X.env := by rfl) (hs0 : starEach [] X.env = [] := by rfl) : QI X Fy Ex (.Tuple elts kk tpos) (.Call (.Name "enumerate" p) [a] [] pos) (.iEn ma) := pi_en hg hm ha hs hs0
theorem i_zip (hg : Gl X "zip") (hm : X.mg "zip" = none) (ha : QE X Fy Ex a ma) (hb : QE X Fy Ex b mb) (hs : starEach [a, b] X.env = (false, eval a X.env) :: starEach [b] X.env := by rfl) (hs2 : starEach [b] X.env = (false, eval b X.env) :: starEach [] X.env := by rfl) (hpl : (backTo pos (starEach [b] X.env)).any (·.1) = false := by rfl) :
    QI X Fy Ex (.Tuple elts kk tpos) (.Call (.Name "zip" p) [a, b] [] pos) (.iZip ma mb) := pi_zp hg hm (pa_cons ha (pa_cons hb pa_nil hs2) hs) hs hpl
end
end DL

end
section
/-! DL 12: comprehensions and statements against terms of the small language; a def by its term. -/
namespace DL
open PySem PySem.Spec L2
open PyProof.Rows (envOfC)
section
variable {X : Cx} {Fy : Fl} {Ex : EX} {pos p p1 p2 p3 cpos apos : Pos} {j k : Nat} {a b c d e : Expr} {es rest : List Expr} {st : List Stmt} {ma mb mc md m mt : E} {mk mk2 mk3 : C} {n : Nat}
theorem ts_nil : PTs X [] (hT X.K Fy (rdT E1 (.cB true))) := PTs.imp pts_nil fun σ H Q h => by
  obtain ⟨W, ρ, s, Q1, r, rs, q, hp⟩ := h
  exact hp _ _ _ _ q .rfl' r
theorem ts_one (h : QT X Fy E1 c mc) : PTs X [c] (hT X.K Fy (rdT E1 mc)) := pts_one h
theorem c_lc {elt tg iter : Expr} {ifs : List Expr} {scope : Scope} {own : List (Str × Nat)} {sl : List Nat} (hc : X.calm = true) (hN : X.N.Nodup) (hsl : sl = own.map (·.2)) (hi : QI X Fy Ex tg iter ma) (ok : BlkOk X.N X.env.scope scope own)
    (hg : ∀ (s : Shared) (H : Hp) (C : Addr) (cl : List (Str × Addr)) (fp : List Addr), QG (X.blk s H scope (compEnvC scope cl C X.env) fp) Fy E1 sl tg mt)
    (ht : ∀ (s : Shared) (H : Hp) (C : Addr) (cl : List (Str × Addr)) (fp : List Addr), PTs (X.blk s H scope (compEnvC scope cl C X.env) fp) ifs (hT X.K Fy (rdT E1 mc)))
    (he : ∀ (s : Shared) (H : Hp) (C : Addr) (cl : List (Str × Addr)) (fp : List Addr), QE (X.blk s H scope (compEnvC scope cl C X.env) fp) Fy E1 elt m) (hs : ∀ x, foldedSetIterable iter X.env x = pure x := by intro _; rfl) :
    QE X Fy Ex (.ListComp elt [⟨tg, iter, ifs, 0⟩] scope pos) (.comp mt ma mc m own) := by
  subst hsl
  exact PE.imp (pe_lc hc hN hi ok hg ht he hs) fun _ _ _ h => hE_lc (fun i h => h) h
/-! ### statements -/
theorem s_done : QC X Fy Ex [] .done := PSs.imp pss_nil fun _ _ _ h => hC_done h
theorem s_asg {tg : Expr} {sl : List Nat} (he : QE X Fy Ex e m) (hg : QG X Fy Ex sl tg mt) (hk : QC X Fy Ex st mk) (hs : swapsWithSole [tg] e pos.line X.env = pure false := by rfl) (hw : swappedStores [tg] e X.env = pure none := by rfl)
    (h1 : (assignEach [tg] X.env).map (·.2) = [assign tg X.env] := by rfl) : QC X Fy Ex (.Assign [tg] e pos :: st) (.asg mt m mk) := PSs.imp (pss_cons (ps_asg he hg hs hw h1) hk) fun _ _ _ h => hC_asg h
theorem s_set {i : Nat} {x : Str} (hN : X.N.Nodup) (hi : X.N[i]? = some x) (hx : Loc X.env.scope x) (hf : X.fn x = true ∨ X.env.scope.names.lookup x = some .local) (he : QE X Fy Ex e m) (hk : QC X Fy Ex st mk) (hs : swapsWith e (some (.Name x p)) pos.line X.env = pure false := by rfl) : QC X Fy Ex (.Assign [.Name x p] e pos :: st) (.asg (.tN i) m mk) :=
  PSs.imp (pss_cons (ps_set hN hi hx he hs hf) hk) fun D σ H h => by
    obtain ⟨W, ρ, s, X, r, rs, q, hp⟩ := h
    exact hE_bind r rs q fun x s1 v H1 W1 q1 l1 r1 v1 rs1 => ⟨W1, _, s1, X, r1, rs1.set i v1, q1, hp.le l1⟩
theorem s_setLc {i : Nat} {x : Str} {elt tg iter : Expr} {ifs : List Expr} {scope : Scope} {own : List (Str × Nat)} {sl : List Nat} {spos : Pos} (hc : X.calm = true) (hN : X.N.Nodup) (hsl : sl = own.map (·.2)) (hy : X.N[i]? = some x) (hyl : X.env.scope.names.lookup x = some .local)
    (hi : QI X Fy Ex tg iter ma) (ok : BlkOk X.N X.env.scope scope own)
    (hg : ∀ (s : Shared) (H : Hp) (C : Addr) (cl : List (Str × Addr)) (fp : List Addr), QG (X.blk s H scope (compEnvC scope cl C X.env) fp) Fy E1 sl tg mt)
    (ht : ∀ (s : Shared) (H : Hp) (C : Addr) (cl : List (Str × Addr)) (fp : List Addr), PTs (X.blk s H scope (compEnvC scope cl C X.env) fp) ifs (hT X.K Fy (rdT E1 mc)))
    (he : ∀ (s : Shared) (H : Hp) (C : Addr) (cl : List (Str × Addr)) (fp : List Addr), QE (X.blk s H scope (compEnvC scope cl C X.env) fp) Fy E1 elt m) (hk : QC X Fy Ex st mk)
    (hsw : swapsWith (.ListComp elt [⟨tg, iter, ifs, 0⟩] scope pos) (some (.Name x p)) spos.line X.env = pure true := by rfl) (hs : ∀ x, foldedSetIterable iter X.env x = pure x := by intro _; rfl) :
    QC X Fy Ex (.Assign [.Name x p] (.ListComp elt [⟨tg, iter, ifs, 0⟩] scope pos) spos :: st) (.lc i (.comp mt ma mc m own) mk) := by
  subst hsl
  refine PSs.imp (pss_cons (ps_setLc (te := hE X.K Fy (rdE E1 m)) (g := hG X.K Fy (own.map (·.2)) (rdG E1 mt)) hc hN hy hyl hsw hi ok hg ht he hs) hk) fun D σ H h => ?_
  obtain ⟨W, ρ, s, X, r, rs, q, hp⟩ := h
  show tLc _ _ _ _ _ σ H (fun x H1 => gName i x σ H1 fun σ' H' => hC _ Fy (rdC Ex mk) D σ' H')
  refine hE_lc (fun i h => h) ⟨W, ρ, s, fun x s => rdC Ex mk X (ρ.set i (some x)) s, r, rs, q, fun x s1 v H1 W1 q1 l1 r1 v1 => ⟨W1, _, s1, X, r1, (rs.mono l1).set i v1, q1, hp.le l1⟩⟩
theorem s_setLcL {i : Nat} {x : Str} {elt tg iter : Expr} {ifs : List Expr} {scope : Scope} {own : List (Str × Nat)} {sl : List Nat} {spos : Pos} (hc : X.calm = true) (hN : X.N.Nodup) (hsl : sl = own.map (·.2)) (hy : X.N[i]? = some x) (hyl : X.env.scope.names.lookup x = some .local)
    (hi : QI X Fy Ex tg iter ma) (ok : BlkOk X.N X.env.scope scope own)
    (hg : ∀ (s : Shared) (H : Hp) (C : Addr) (cl : List (Str × Addr)) (fp : List Addr), QG (X.blk s H scope (compEnvC scope cl C X.env) fp) Fy E1 sl tg mt)
    (ht : ∀ (s : Shared) (H : Hp) (C : Addr) (cl : List (Str × Addr)) (fp : List Addr), PTs (X.blk s H scope (compEnvC scope cl C X.env) fp) ifs (hT X.K Fy (rdT E1 mc)))
    (he : ∀ (s : Shared) (H : Hp) (C : Addr) (cl : List (Str × Addr)) (fp : List Addr), QE (X.blk s H scope (compEnvC scope cl C X.env) fp) Fy E1 elt m) (hk : QC X Fy Ex st mk)
    (hsw : swapsWith (.ListComp elt [⟨tg, iter, ifs, 0⟩] scope pos) (some (.Name x p)) spos.line X.env = pure true := by rfl) (hs : ∀ x, foldedSetIterable iter X.env x = pure x := by intro _; rfl) :
    QC X Fy Ex (.Assign [.Name x p] (.ListComp elt [⟨tg, iter, ifs, 0⟩] scope pos) spos :: st) (.lc i (.compL mt ma mc m own) mk) := by
  subst hsl
  refine PSs.imp (pss_cons (ps_setLc (te := hE X.K Fy (rdE E1 m)) (g := hG X.K Fy (own.map (·.2)) (rdG E1 mt)) hc hN hy hyl hsw hi ok hg ht he hs) hk) fun D σ H h => ?_
  obtain ⟨W, ρ, s, X, r, rs, q, hp⟩ := h
  show tLc _ _ _ _ _ σ H (fun x H1 => gName i x σ H1 fun σ' H' => hC _ Fy (rdC Ex mk) D σ' H')
  refine hE_lcL (fun i h => h) ⟨W, ρ, s, fun x s => rdC Ex mk X (ρ.set i (some x)) s, r, rs, q, fun x s1 v H1 W1 q1 l1 r1 v1 => ⟨W1, _, s1, X, r1, (rs.mono l1).set i v1, q1, hp.le l1⟩⟩
theorem s_par {i i2 : Nat} {x y : Str} {px py pt : Pos} {kt k2 pt2} (hc : X.calm = true) (hN : X.N.Nodup) (hi : X.N[i]? = some x) (hj : X.N[i2]? = some y) (hij : i ≠ i2)
    (hx : X.env.scope.names.lookup x = some .local) (hy : X.env.scope.names.lookup y = some .local) (ha : QA X Fy Ex 2 [a, b] m) (hk : QC X Fy Ex st mk)
    (hw : swappedStores [.Tuple [.Name x px, .Name y py] kt pt] (.Tuple [a, b] k2 pt2) X.env = pure (some [x, y]) := by rfl)
    (hs : swapsWithSole [.Tuple [.Name x px, .Name y py] kt pt] (.Tuple [a, b] k2 pt2) pos.line X.env = pure false := by rfl) :
    QC X Fy Ex (.Assign [.Tuple [.Name x px, .Name y py] kt pt] (.Tuple [a, b] k2 pt2) pos :: st) (.par [i, i2] m mk) := PSs.imp (pss_cons (ps_par hc hN hi hj hij hx hy ha hw hs) hk) fun _ _ _ h => hC_par h
theorem s_par3 {i i2 i3 : Nat} {x y z : Str} {px py pz pt : Pos} {kt k2 pt2} (hc : X.calm = true) (hN : X.N.Nodup) (hi : X.N[i]? = some x) (hj : X.N[i2]? = some y) (hl : X.N[i3]? = some z) (hij : i ≠ i2) (hil : i ≠ i3) (hjl : i2 ≠ i3)
    (hx : X.env.scope.names.lookup x = some .local) (hy : X.env.scope.names.lookup y = some .local) (hz : X.env.scope.names.lookup z = some .local) (ha : QA X Fy Ex 3 [a, b, c] m) (hk : QC X Fy Ex st mk)
    (hw : swappedStores [.Tuple [.Name x px, .Name y py, .Name z pz] kt pt] (.Tuple [a, b, c] k2 pt2) X.env = pure (some [x, y, z]) := by rfl)
    (hs : swapsWithSole [.Tuple [.Name x px, .Name y py, .Name z pz] kt pt] (.Tuple [a, b, c] k2 pt2) pos.line X.env = pure false := by rfl) :
    QC X Fy Ex (.Assign [.Tuple [.Name x px, .Name y py, .Name z pz] kt pt] (.Tuple [a, b, c] k2 pt2) pos :: st) (.par [i, i2, i3] m mk) := PSs.imp (pss_cons (ps_par3 hc hN hi hj hl hij hil hjl hx hy hz ha hw hs) hk) fun D σ H h => by
  obtain ⟨W, ρ, s, X, r, rs, q, hp⟩ := h
  refine hA_bind r rs q fun xs s1 vs H1 W1 q1 l1 r1 v1 rs1 e => ?_
  match vs, e with
  | [v, w, u], _ => exact ⟨v, w, u, rfl, W1, _, s1, X, r1, setS_rs (is := [i, i2, i3]) rs1 v1 rfl, q1, hp.le l1⟩
theorem s_expr (he : QE X Fy Ex e m) (hk : QC X Fy Ex st mk) (hs : swapsWith e none pos.line X.env = pure false := by rfl) : QC X Fy Ex (.Expr e pos :: st) (.expr m mk) := PSs.imp (pss_cons (ps_expr he hs) hk) fun _ _ _ h => hC_expr h
theorem s_doc {x : Str} {j : Nat} {p : Pos} (hk : QC X Fy Ex st mk) : QC X Fy Ex (.Expr (.Constant (.str x) j p) pos :: st) mk := PSs.imp (pss_cons ps_doc hk) fun _ _ _ h => h
theorem s_if (hc : QT X Fy Ex c mc) {s1 s2 : List Stmt} (h1 : QC X Fy Ex s1 mk) (h2 : QC X Fy Ex s2 mk2) (hk : QC X Fy Ex st mk3) : QC X Fy Ex (.If c s1 s2 pos :: st) (.iff mc mk mk2 mk3) := PSs.imp (pss_cons (ps_if hc h1 h2) hk) fun _ _ _ h => hC_if h
theorem s_ret (he : QE X Fy Ex e m) : QC X Fy Ex (.Return (some e) pos :: st) (.ret m mk) := PSs.imp (pss_cons (ps_ret he) pss_never) fun _ _ _ h => hC_ret h
theorem s_for {tg iter : Expr} {body : List Stmt} {sl : List Nat} (hp : PassesOwn (model X.prog X.w) X.A X.env X.xe) (hc : X.calm = true) (hi : QI X Fy Ex tg iter ma) (hg : QG X Fy Ex sl tg mt) (hb : QC X Fy Ex body mk) (hk : QC X Fy Ex st mk2) (hs : ∀ x, foldedSetIterable iter X.env x = pure x := by intro _; rfl) :
    QC X Fy Ex (.For tg iter body [] pos :: st) (.for mt ma mk mk2) := PSs.imp (pss_cons (ps_for hp hc hi hg hb hs) hk) fun _ _ _ h => hC_for h
theorem s_while {body : List Stmt} (hp : PassesOwn (model X.prog X.w) X.A X.env X.xe) (hc : QT X Fy Ex c mc) (hb : QC X Fy Ex body mk) (hk : QC X Fy Ex st mk2) : QC X Fy Ex (.While c body [] pos :: st) (.whl mc mk mk2) := PSs.imp (pss_cons (ps_while hp hc hb) hk) fun _ _ _ h => hC_while h
theorem s_nev : QC X Fy Ex st (.nev mk) := PSs.imp pss_never fun _ _ _ h => by
  obtain ⟨W, ρ, s, X, r, rs, q, hp⟩ := h
  exact q.elim
theorem s_app (ho : QE X Fy Ex a ma) (he : QE X Fy Ex e m) (hk : QC X Fy Ex st mk) (hbase : attributeBase a "append" X.env (eval a X.env) = eval a X.env := by rfl)
    (hfew : ((backTo cpos (starEach [e] X.env)).all (fun x => !x.1) && (backToKw cpos (keywordEach [] X.env)).all (fun x => x.1.isSome)
      && decide ([e].length + ([] : List Keyword).length + (if ([] : List Keyword).isEmpty then 0 else 1) < 30)) = true := by rfl)
    (hline : (apos.endLine == cpos.line) = true := by rfl) (hs : starEach [e] X.env = (false, eval e X.env) :: starEach [] X.env := by rfl) (hplain : (backTo cpos (starEach [] X.env)).any (·.1) = false := by rfl)
    (hsw : swapsWith (.Call (.Attribute a "append" apos) [e] [] cpos) none pos.line X.env = pure false := by rfl) : QC X Fy Ex (.Expr (.Call (.Attribute a "append" apos) [e] [] cpos) pos :: st) (.app ma m mk) :=
  PSs.imp (pss_cons (ps_expr (pe_bm PySem.F.plainAttrs_list PySem.F.slot_list_append PySem.F.type_list_append mt_append ho (pa_cons he pa_nil hs) hbase hfew hline hs hplain) hsw) hk) fun _ _ _ h => hC_app h
theorem s_ext (ho : QE X Fy Ex a ma) (he : QE X Fy Ex e m) (hk : QC X Fy Ex st mk) (hbase : attributeBase a "extend" X.env (eval a X.env) = eval a X.env := by rfl)
    (hfew : ((backTo cpos (starEach [e] X.env)).all (fun x => !x.1) && (backToKw cpos (keywordEach [] X.env)).all (fun x => x.1.isSome)
      && decide ([e].length + ([] : List Keyword).length + (if ([] : List Keyword).isEmpty then 0 else 1) < 30)) = true := by rfl)
    (hline : (apos.endLine == cpos.line) = true := by rfl) (hs : starEach [e] X.env = (false, eval e X.env) :: starEach [] X.env := by rfl) (hplain : (backTo cpos (starEach [] X.env)).any (·.1) = false := by rfl)
    (hsw : swapsWith (.Call (.Attribute a "extend" apos) [e] [] cpos) none pos.line X.env = pure false := by rfl) : QC X Fy Ex (.Expr (.Call (.Attribute a "extend" apos) [e] [] cpos) pos :: st) (.ext ma m mk) :=
  PSs.imp (pss_cons (ps_expr (pe_bm PySem.F.plainAttrs_list PySem.F.slot_list_extend PySem.F.type_list_extend mt_extend ho (pa_cons he pa_nil hs) hbase hfew hline hs hplain) hsw) hk) fun _ _ _ h => hC_ext h
theorem s_pop (ho : QE X Fy Ex a ma) (hk : QC X Fy Ex st mk) (hbase : attributeBase a "pop" X.env (eval a X.env) = eval a X.env := by rfl) (hline : (apos.endLine == cpos.line) = true := by rfl)
    (hsw : swapsWith (.Call (.Attribute a "pop" apos) [] [] cpos) none pos.line X.env = pure false := by rfl) : QC X Fy Ex (.Expr (.Call (.Attribute a "pop" apos) [] [] cpos) pos :: st) (.pop ma mk) :=
  PSs.imp (pss_cons (ps_expr (pe_bm0 PySem.F.plainAttrs_list PySem.F.slot_list_pop PySem.F.type_list_pop mt_pop ho hbase hline) hsw) hk) fun _ _ _ h => hC_pop h
end
/-! ### a def by its term -/
section
variable {P : Program} {w : World} {K : Fg} {Fy : Fl} {mg : Str → Option Value} {base : Heap}
abbrev cxN (P : Program) (w : World) (K : Fg) (mg : Str → Option Value) (base : Heap) (N : List Str) (qual : Str) (scope : Scope) (f : Addr) (cd : Value) (A : Around) (outer : List Env) (s : Shared) (H : Hp) (E : XK) : Cx := cxOf (CX P w) P w K mg base N qual scope f cd A outer s H E
/-- loops pass exceptions on -/
abbrev PsO (X : Cx) : Prop := PassesOwn (model X.prog X.w) X.A X.env X.xe
/-- a def of the text: its body against the term, then what the term does -/
theorem fok {T : Tb} {k : Nat} {x : Str} {st : Stmt} {f : Addr} {fd : FuncData} {N ps : List Str} {kss : List (List Str)} {sp : Spec} {m : C} (F : Fun K x x st f fd) (hm : mg x = some (.ref f))
    (S : FnScope N ps (defScope st))
    (hbind : ∀ (kV doc pm : Value) (an : Option Addr) (cdv ct : Value), (∀ us : List Value, us.length = ps.length → bindArgs (PySem.W.fnOf x x (defArgs st) (defBody st) (defScope st) .none kV doc pm an cdv ct) ⟨us, []⟩ = pure (ps.zip us)) ∧
      ∀ ks ∈ kss, ∀ us : List Value, us.length = ks.length → bindArgs (PySem.W.fnOf x x (defArgs st) (defBody st) (defScope st) .none kV doc pm an cdv ct) ⟨[], ks.zip us⟩ = pure (ps.zip (permV ps ks us)))
    (hb : ∀ (f : Addr) (cd : Value) (A : Around) (outer : List Env) (s : Shared) (H : Hp) (E : XK) (V : Wd) (Ex : EX), A.guards = some [] → Room k (A.deeper (envOfC x (defScope st) s.heap.objs.size f cd)) → XT (cxN P w K mg base N x (defScope st) f cd A outer s H E) ⟨V, T, mg, none⟩ Ex →
      PsO (cxN P w K mg base N x (defScope st) f cd A outer s H E) → QC (cxN P w K mg base N x (defScope st) f cd A outer s H E) ⟨V, T, mg, none⟩ Ex (defBody st) m)
    (hsp : ∀ vs s Q E1, sp vs s Q E1 → rdC (fun x _ s' => E1 x (cutS s.ls.length s')) m { nx := fun _ s' => Q (.d .none) (cutS s.ls.length s'), rt := fun x s' => retD s.ls.length x s' Q } (startD N.length vs) s) (hlen : ∀ vs s Q E1, sp vs s Q E1 → vs.length = ps.length) : FOk P w K mg base T (k + 1) x ps kss sp := by
  obtain ⟨oc, od, kV, doc, pm, an, cdv, ct, osl, rfl, lk, hcd⟩ := F.ex
  refine ⟨f, _, hm, F.kp, fun V => fnG_of lk hcd S fun A outer s H vs Q E hg hr hl hs => ?_, (hbind kV doc pm an cdv ct).1, (hbind kV doc pm an cdv ct).2⟩
  obtain ⟨W, t, xs, Q1, E1, r, rv, hs, hp, hpx⟩ := hs
  have hx : XT (cxN P w K mg base N x (defScope st) f cdv A outer s H E) ⟨W, T, mg, none⟩ (fun x _ s' => E1 x (cutS t.ls.length s')) :=
    ⟨_, takes_of rfl rfl rfl rfl, leave_ok (Fy := ⟨V, T, mg, none⟩) r.ll r.low hpx⟩
  exact ⟨_, hb f cdv A outer s H E W _ hg hr hx (passes_of rfl), body_ok (Fy := ⟨V, T, mg, none⟩) r rv (hsp xs t Q1 E1 hs) hp⟩
end
end DL

end
section
/-! DL 13: facts of the built-ins. -/
namespace DL
open PySem PySem.Spec L2
theorem bo_len : bootBuiltins "len" = some (biId .len) := by decide +kernel
theorem bo_abs : bootBuiltins "abs" = some (biId .abs) := by decide +kernel
theorem bo_int : bootBuiltins "int" = some (biId .int) := by decide +kernel
theorem bo_all : bootBuiltins "all" = some (biId .all) := by decide +kernel
theorem bo_any : bootBuiltins "any" = some (biId .any) := by decide +kernel
theorem bo_sum : bootBuiltins "sum" = some (biId .sum) := by decide +kernel
theorem bo_max : bootBuiltins "max" = some (biId .max2) := by decide +kernel
theorem bo_min : bootBuiltins "min" = some (biId .min2) := by decide +kernel
theorem bo_repr : bootBuiltins "repr" = some (biId .repr) := by decide +kernel
theorem bo_tuple : bootBuiltins "tuple" = some (biId .tuple) := by decide +kernel
theorem bo_list : bootBuiltins "list" = some (biId .list) := by decide +kernel
theorem bo_divmod : bootBuiltins "divmod" = some (biId .divmod) := by decide +kernel
theorem bo_str : bootBuiltins "str" = some (biId .str) := by decide +kernel
theorem bt_int : bootBuiltins "int" = some (.type (tyName .int)) := by decide +kernel
theorem bt_bool : bootBuiltins "bool" = some (.type (tyName .bool)) := by decide +kernel
theorem bt_str : bootBuiltins "str" = some (.type (tyName .str)) := by decide +kernel
theorem bt_tuple : bootBuiltins "tuple" = some (.type (tyName .tuple)) := by decide +kernel
theorem bt_list : bootBuiltins "list" = some (.type (tyName .list)) := by decide +kernel
theorem bt_dict : bootBuiltins "dict" = some (.type (tyName .dict)) := by decide +kernel
end DL

end
section
/-! DL 14: a subscript among the targets of a tuple; the law's call from outside. -/
namespace DL
open PySem PySem.Spec L2
open PyProof.Rows (AllBare IntsAre)
theorem l_sub {Ex : EX} {n i : Nat} {j : Int} {m : E} (h : ∀ xs ρ s Q, rdGs Ex m xs ρ s Q → xs.length = n) : ∀ xs ρ s Q, rdGs Ex (.cons (.tS (.var i) (.cI j)) m) xs ρ s Q → xs.length = n + 1 := fun xs ρ s Q q => by
  have q' : ∃ x r, xs = x :: r ∧ ∃ y, ρ[i]? = some (some y) ∧ ∃ i : Int, Vl.d (.int j) = .d (.int i) ∧ chgL y s (fun zs R => ∃ k, ixN zs.length i = some k ∧ R (zs.set k x)) fun s => rdGs Ex m r ρ s Q := q
  obtain ⟨x, r, rfl, y, _, i', _, q'⟩ := q'
  have key : ∃ s, rdGs Ex m r ρ s Q := by
    unfold chgL at q'
    split at q'
    · split at q'
      · obtain ⟨_, _, q'⟩ := q'; exact ⟨_, q'⟩
      · exact q'.elim
    · split at q'
      · obtain ⟨_, _, q'⟩ := q'; exact ⟨_, q'⟩
      · exact q'.elim
    · exact q'.elim
  obtain ⟨s', k⟩ := key
  simp [h _ _ _ _ k]
/-! ### the law from outside -/
theorem ints_vals : ∀ {us : List Value} {ns : List Int}, IntsAre us ns → Vals (ns.map V.int) us := fun {us ns} h => by
  induction h with
  | nil => exact .nil
  | cons n t h ih => exact .cons ⟨t, rfl⟩ ih
theorem ints_dvs {K : Fg} {F : Hp} (ns : List Int) : DVs K F (ns.map V.int) (ns.map PyData.int) := by
  induction ns with
  | nil => exact .nil
  | cons n r ih => exact .cons (.int n) ih
/-- what the law promises: handed the script, it says True -/
def LawSays (sp : Spec) (n : Nat) : Prop := ∀ ns : List Int, ns.length ≤ n → (∀ z ∈ ns, Builtin.Int.intBits z ≤ 1048576) → sp [.scr] { ls := [], os := [], sc := ns.map .int } (fun v _ => v = .d (.bool true)) fun _ _ => False
theorem sp1_law {K : Fg} {Fy : Fl} {sp : Spec} {H : Hp} {a : Addr} {ns : List Int} (hV : Fy.W = { F := fun _ => none, la := [], oa := [], pv := [], sc := some a }) (ht : Fy.tb = []) (hs : ScOk K H a (ns.map V.int)) (h : sp [.scr] { ls := [], os := [], sc := ns.map .int } (fun v _ => v = .d (.bool true)) fun _ _ => False) :
    sp1 K Fy sp [.ref a] H (fun v _ => v = .bl true) fun _ _ _ => False := by
  refine ⟨{ F := fun _ => none, la := [], oa := [], pv := [], sc := some a }, { ls := [], os := [], sc := ns.map .int }, [.scr], _, _, ⟨fun b o e => ?_, rfl, fun n b o e => ?_, rfl, fun n b o e => ?_, fun q hq => ?_, List.nodup_nil, fun b e => ?_, fun b e => ?_, ?_, ?_⟩, .cons ⟨a, rfl, rfl⟩ .nil, h, ?_, fun x s' H' W' cls d e _ _ => e⟩
  · cases (show (none : Option HO) = some o from e)
  · cases (show (none : Option Addr) = some b by simpa using e)
  · cases (show (none : Option Addr) = some b by simpa using e)
  · exact absurd hq (by simp)
  · cases (show (none : Option (Addr × Exc)) = some b from e)
  · have e' : a = b := Option.some.inj e
    subst e'
    exact ⟨_, hs, ints_dvs ns⟩
  · rw [hV]; exact .rfl'
  · rw [ht]; exact fun p hp => absurd hp (by simp)
  · intro d s' v H' W' q l r rv
    subst q
    exact VR.bl rv
theorem law_runs {P : Program} {w : World} {K : Fg} {mg mb : Str → Option Value} {k : Nat} {fa a : Addr} {nm x : Str} {kss : List (List Str)} {sp : Spec} {s1 : Shared} {us : List Value} {ns : List Int} (hK : K.In s1.heap) (hgl : s1.heap.Ns mainGlobals mg) (hbl : s1.heap.Ns builtinsNs mb)
    (hbo : ∀ y : Str, y ≠ "__name__" → mb y = bootBuiltins y) (hnl : s1.heap.NoLimit) (hgn : s1.gens = #[]) (ho : s1.heap.get? a = some { cls := .type "list", data := .seq us.toArray }) (hi : IntsAre us ns) (hlen : ns.length ≤ sizeLine) (room : Room k callerA)
    (hfa : mg nm = some (.ref fa)) (F : ∀ base : Heap, K.In base → base.Ns mainGlobals mg → FOk P w K mg base [] k nm [x] kss sp)
    (hsp : sp [.scr] { ls := [], os := [], sc := ns.map .int } (fun v _ => v = .d (.bool true)) fun _ _ => False) :
    codeAny (model P w) callerA (.call (.ref fa) ⟨[.ref a], []⟩) (fun r s' => r = .ok (.ret (.bool true)) ∧ OldK s1.heap s'.heap ∧ s'.os = s1.os ∧ AllBare s'.gens) s1 := by
  have rv : Vals (ns.map V.int) us := ints_vals hi
  have one : ∀ H : Hp, ScOk K H a (ns.map V.int) → HOk P w H s1.heap → (∀ b, H b ≠ none → b = a ∧ K.lookup a = none ∧ ∃ o xs, H b = some (.frz o (.lst xs))) →
      codeAny (model P w) callerA (.call (.ref fa) ⟨[.ref a], []⟩) (fun r s' => r = .ok (.ret (.bool true)) ∧ OldK s1.heap s'.heap ∧ s'.os = s1.os ∧ AllBare s'.gens) s1 := by
    intro H hS hok hA
    have dn : ∀ {b : Addr} {o : Obj} {es : Array DictEntry} {ep : Nat}, s1.heap.get? b = some o → o.data = .dict es ep → H b = none := fun {b o es ep} e d => by
      cases q : H b with
      | none => rfl
      | some u =>
        obtain ⟨rfl, _⟩ := hA b (by rw [q]; exact Option.some_ne_none u)
        rw [ho] at e
        cases e
        exact Data.noConfusion (show Data.seq us.toArray _ = Data.dict es ep from d)
    have nsT : ∀ {b : Addr} {m : Str → Option Value}, s1.heap.Ns b m → (hidT s1.heap H).Ns b m := fun {b m} ⟨o, es, ep, e, d, r⟩ => ⟨o, es, ep, hidT_get e (dn e d), d, r⟩
    have kT : K.In (hidT s1.heap H) := fun b o e => hidT_get (hK b o e) (by
      cases q : H b with
      | none => rfl
      | some u =>
        obtain ⟨rfl, z, _⟩ := hA b (by rw [q]; exact Option.some_ne_none u)
        rw [z] at e
        cases e)
    have mT : Mod K mg (hidT s1.heap H) := ⟨kT, nsT hgl, ⟨mb, nsT hbl, hbo⟩, let ⟨mc, h1, h2⟩ := hnl; ⟨mc, nsT h1, h2⟩⟩
    have none_in : ∀ b : Addr, b ∉ ([] : List Addr) := fun b => by simp
    have e0 : Env0 P w K mg (hidT s1.heap H) callerA [] s1 H := ⟨rfl, mT, fun b o e => of_hidT e, Nat.le_of_eq (hidT_size _ _), trivial, fun b z => absurd z (none_in b), hok, .of_eq hgn⟩
    obtain ⟨f, fd, hm, _, FG, hb, _⟩ := (F _ kT (nsT hgl)).ex
    rw [hfa] at hm
    cases hm
    have run := (FG { F := fun _ => none, la := [], oa := [], pv := [], sc := some a }).run callerA [] s1 H ⟨[.ref a], []⟩ [.ref a] [.ref a] (fun v _ => v = .bl true) (fun _ _ _ => False) rfl room e0 (.of_eq (hb [.ref a] rfl)) rfl (.cons rfl .nil) (sp1_law rfl rfl hS hsp)
    refine codeAny_mono run fun r s' h => ?_
    cases r with
    | error e => exact (let ⟨_, _, _, _, _, _, _, _, _, _, _, _, z⟩ := h; False.elim z)
    | ok fl =>
      cases fl with
      | ret u =>
        obtain ⟨v, H', os, bare, un, hok', r', q⟩ := h
        obtain rfl : v = .bl true := q
        obtain rfl : u = Value.bool true := r'
        refine ⟨rfl, OldK.of_keep fun b o e => ?_, os, bare⟩
        cases q : H b with
        | none => exact un.keep b o e q (none_in b) (by simp)
        | some u =>
          obtain ⟨_, _, ob, xs, z⟩ := hA b (by rw [q]; exact Option.some_ne_none u)
          have z2 := un.frzs b ob _ z
          have e1 := (hok b _ z).1
          have e2 := (hok' b _ z2).1
          rw [e] at e1
          cases e1
          exact e2
      | next => exact h.elim
      | brk => exact h.elim
      | cont => exact h.elim
  have ul : us.toArray.size ≤ sizeLine := by
    rw [List.size_toArray, ← rv.length, List.length_map]; exact hlen
  cases hk : K.lookup a with
  | some o =>
    have e := hK a o hk
    rw [ho] at e
    cases e
    exact one (fun _ => none) (.inr ⟨_, us.toArray, _, hk, rfl, rfl, rfl, ul, by simpa using rv⟩) (fun b u z => by cases (show (none : Option HO) = some u from z)) fun b z => absurd rfl z
  | none =>
    refine one (fun b => if b = a then some (.frz { cls := .type "list", data := .seq us.toArray } (.lst (ns.map V.int))) else none) (.inl ⟨_, if_pos rfl⟩) (fun b u z => ?_) fun b z => ?_
    · by_cases hb : b = a
      · subst hb
        have z' := (if_pos rfl).symm.trans z
        cases z'
        exact ⟨ho, by rw [List.length_map]; exact hlen, us, _, rv, ho⟩
      · have z' := (if_neg hb).symm.trans z
        cases z'
    · by_cases hb : b = a
      · exact ⟨hb, hk, _, _, if_pos hb⟩
      · exact absurd (if_neg hb) z
/-- a def as the head tells it -/
abbrev FnP (K : Fg) (x : Str) (st : Stmt) (f : Addr) (fd : FuncData) : Prop := FunD K x x (defArgs st) (defBody st) (defScope st) [] [] f fd
theorem FnP.fn {K : Fg} {x : Str} {st : Stmt} {f : Addr} {fd : FuncData} (F : FnP K x st f fd) : L2.Fun K x x st f fd := by
  obtain ⟨oc, od, dV, kV, doc, pm, an, cdv, ct, osl, e, lk, hcd, hD, hK⟩ := F.ex
  rcases hD with ⟨_, e2⟩ | ⟨z, _⟩
  · exact ⟨⟨oc, od, kV, doc, pm, an, cdv, ct, osl, by rw [e, e2], lk, hcd⟩, F.kp⟩
  · exact absurd rfl z
open PySem.W PySem.Calls in
theorem walk_says {l : PySem.W.OpenLaw} {n k : Nat} {q : Program} {loose : List Str} {XP : (Str → Option Value) → Heap → Prop} {YP : World → Heap → Prop} {d : DefRec} {nm x : Str} {kss : List (List Str)} {sp : Spec} (hnm : d.name = nm) (hn : l.most = some n) (hn2 : n ≤ sizeLine) (hdf : d.params.defaults = []) (room : Room k callerA)
    (F : ∀ (w : World) (mg : Str → Option Value) (fa : Addr) (h : Heap), YP w h → h.Ns mainGlobals mg → mg d.name = some (.ref fa) → ∃ K : Fg, K.In h ∧ ∀ base : Heap, K.In base → base.Ns mainGlobals mg → FOk l.prog w K mg base [] k nm [x] kss sp) (hsp : LawSays sp n) :
    PySem.W.WalkO q loose XP YP l.row.toRowW d [] (fun f vs => PySem.call f vs) := by
  refine Att.attach_callB hn hdf fun w s0 s1 mg mb fa o pm cd doc a us ns G Y ho hd hcd hmg hobj hints hl hbits hg => ?_
  obtain ⟨K, hK, hF⟩ := F w mg fa _ Y G.T.g hmg
  exact law_runs hK G.T.g G.T.b G.T.builtins G.T.nolimit hg hobj hints (Nat.le_trans hl hn2) room (by rw [← hnm]; exact hmg) hF (hsp ns hl hbits)
end DL

end
section
/-! DL 15: loops over data, and how a term is run. -/
namespace DL
open PySem PySem.Spec L2
theorem loopD_by {G : S → Prop} {step : D → Rho → S → (Rho → S → Prop) → Prop} {fin : Rho → S → Prop} (I : List D → Rho → S → Prop) (hs : ∀ x r ρ s K, I (x :: r) ρ s → (∀ ρ' s', I r ρ' s' → K ρ' s') → G s ∧ step x ρ s K) (hf : ∀ ρ s, I [] ρ s → G s ∧ fin ρ s) :
    ∀ xs ρ s, I xs ρ s → loopD G step fin xs ρ s
  | [], ρ, s, h => hf ρ s h
  | x :: r, ρ, s, h => hs x r ρ s _ h fun ρ' s' h' => loopD_by I hs hf r ρ' s' h'
theorem whileD_by {test : Rho → S → (Bool → S → Prop) → Prop} {body : (Rho → S → Prop) → Rho → S → Prop} {fin : Rho → S → Prop} (I : Nat → Rho → S → Prop)
    (hs : ∀ n ρ s (K : Rho → S → Prop), I n ρ s → (∀ m ρ' s', m < n → I m ρ' s' → K ρ' s') → test ρ s fun b s => if b = true then body K ρ s else fin ρ s) : ∀ n ρ s, I n ρ s → whileD test body fin (n + 1) ρ s := by
  have mono : ∀ n N ρ s, I n ρ s → n < N → whileD test body fin N ρ s := by
    intro n
    induction n using Nat.strongRecOn with
    | _ n ih =>
      intro N ρ s h hN
      cases N with
      | zero => exact absurd hN (Nat.not_lt_zero n)
      | succ N => exact hs n ρ s _ h fun m ρ' s' hm hI => ih m hm N ρ' s' hI (by omega)
  exact fun n ρ s h => mono n (n + 1) ρ s h (Nat.lt_succ_self n)
theorem compD_by {G : S → Prop} {step : D → S → (Option D → S → Prop) → Prop} {K : List D → S → Prop} (I : List D → List D → S → Prop) (hs : ∀ x r acc s C, I (x :: r) acc s → (∀ y s', (match y with | some d => acc.length < sizeLine ∧ I r (acc ++ [d]) s' | none => I r acc s') → C y s') → G s ∧ step x s C) (hf : ∀ acc s, I [] acc s → G s ∧ K acc s) :
    ∀ xs acc s, I xs acc s → compD G step K xs acc s
  | [], acc, s, h => hf acc s h
  | x :: r, acc, s, h => hs x r acc s _ h fun y s' h' => by
    cases y with
    | some d => exact ⟨h'.1, compD_by I hs hf r (acc ++ [d]) s' h'.2⟩
    | none => exact compD_by I hs hf r acc s' h'
/-- a comprehension whose turns leave the state as it is -/
theorem compD_pure {G : S → Prop} {step : D → S → (Option D → S → Prop) → Prop} {K : List D → S → Prop} (f : D → Option D) {s : S} (g : G s) : ∀ (xs acc : List D), (∀ x ∈ xs, ∀ C : Option D → S → Prop, C (f x) s → step x s C) → acc.length + xs.length ≤ sizeLine → K (acc ++ xs.filterMap f) s → compD G step K xs acc s
  | [], acc, _, _, h => ⟨g, by simpa using h⟩
  | x :: r, acc, hs, hl, h => ⟨g, hs x (List.mem_cons_self) _ (by
    cases e : f x with
    | none => exact compD_pure f g r acc (fun y hy => hs y (List.mem_cons_of_mem _ hy)) (by simp at hl; omega) (by simpa [e] using h)
    | some d => exact ⟨by simp at hl; omega, compD_pure f g r (acc ++ [d]) (fun y hy => hs y (List.mem_cons_of_mem _ hy)) (by simp at hl ⊢; omega) (by simpa [e] using h)⟩)⟩
theorem cutS_self (s : S) : cutS s.ls.length s = s := by simp [cutS]
theorem cutS_app (s : S) (l : List LO) : cutS s.ls.length { s with ls := s.ls ++ l } = s := by simp [cutS]
theorem retD_d (m : Nat) (x : D) (s : S) (Q : DQ) : retD m (.d x) s Q = Q (.d x) (cutS m s) := rfl
theorem startD_1 (n : Nat) (a : Vl) : startD (n + 1) [a] = some a :: List.replicate n none := by simp [startD]
theorem startD_2 (n : Nat) (a b : Vl) : startD (n + 2) [a, b] = some a :: some b :: List.replicate n none := by simp [startD]
theorem startD_3 (n : Nat) (a b c : Vl) : startD (n + 3) [a, b, c] = some a :: some b :: some c :: List.replicate n none := by simp [startD]
theorem startD_4 (n : Nat) (a b c d : Vl) : startD (n + 4) [a, b, c, d] = some a :: some b :: some c :: some d :: List.replicate n none := by simp [startD]
end DL

end
section
/-! DL 16: equations by which a term is run. -/
namespace DL
open PySem PySem.Spec L2
theorem binD_add (i j : Int) (Q : D → Prop) : binD .add (.int i) (.int j) Q = Q (.int (i + j)) := rfl
theorem binD_sub (i j : Int) (Q : D → Prop) : binD .sub (.int i) (.int j) Q = Q (.int (i - j)) := rfl
theorem binD_mul (i j : Int) (Q : D → Prop) : binD .mul (.int i) (.int j) Q = ((CMul i j ∨ CMulW i j) ∧ Q (.int (i * j))) := rfl
theorem binD_fdiv (i j : Int) (Q : D → Prop) : binD .fdiv (.int i) (.int j) Q = (j ≠ 0 ∧ j.natAbs.log2 < 9000 ∧ Q (.int (i.fdiv j))) := rfl
theorem binD_mod (i j : Int) (Q : D → Prop) : binD .mod (.int i) (.int j) Q = (j ≠ 0 ∧ Q (.int (i.fmod j))) := rfl
theorem binD_pow (i j : Int) (Q : D → Prop) : binD .pow (.int i) (.int j) Q = (CPow i j ∧ Q (.int (i ^ j.toNat))) := rfl
theorem binD_addS (a b : Str) (Q : D → Prop) : binD .add (.str a) (.str b) Q = (a.length + b.length ≤ sizeLine ∧ Q (.str (a ++ b))) := rfl
theorem binD_addL (a b : List D) (Q : D → Prop) : binD .add (.list a) (.list b) Q = (a.length + b.length ≤ sizeLine ∧ Q (.list (a ++ b))) := rfl
theorem binD_addT (a b : List D) (Q : D → Prop) : binD .add (.tuple a) (.tuple b) Q = (a.length + b.length ≤ sizeLine ∧ Q (.tuple (a ++ b))) := rfl
theorem binD_mulT (a : List D) (k : Int) (Q : D → Prop) : binD .mul (.tuple a) (.int k) Q = (-(2 ^ 63) ≤ k ∧ k ≤ 1000 ∧ a.length ≤ 1000 ∧ Q (.tuple (List.replicate k.toNat a).flatten)) := rfl
theorem binD_mulL (a : List D) (k : Int) (Q : D → Prop) : binD .mul (.list a) (.int k) Q = (-(2 ^ 63) ≤ k ∧ k < 2 ^ 63 ∧ a.length * k.toNat ≤ sizeLine ∧ Q (.list (List.replicate k.toNat a).flatten)) := rfl
theorem cmpD_lt (i j : Int) (Q : Bool → Prop) : cmpD .lt (.int i) (.int j) Q = Q (decide (i < j)) := rfl
theorem cmpD_le (i j : Int) (Q : Bool → Prop) : cmpD .le (.int i) (.int j) Q = Q (decide (i ≤ j)) := rfl
theorem cmpD_gt (i j : Int) (Q : Bool → Prop) : cmpD .gt (.int i) (.int j) Q = Q (decide (j < i)) := rfl
theorem cmpD_ge (i j : Int) (Q : Bool → Prop) : cmpD .ge (.int i) (.int j) Q = Q (decide (j ≤ i)) := rfl
theorem eqv_int (i j : Int) : PyData.eqv (.int i) (.int j) = decide (i = j) := by
  simp only [PyData.eqv]
  rfl
theorem cmpD_eqI (i j : Int) (Q : Bool → Prop) : cmpD .eq (.int i) (.int j) Q = Q (decide (i = j)) := by
  apply propext
  constructor
  · rintro (⟨_, _, h, _⟩ | ⟨_, _, h⟩)
    · cases h
    · rwa [eqv_int] at h
  · intro h
    exact .inr ⟨by simp [SeqAt.shaped, PyData.canLay0, PyData.depth], by simp [SeqAt.shaped, PyData.canLay0, PyData.depth], by rwa [eqv_int]⟩
theorem cmpD_neI (i j : Int) (Q : Bool → Prop) : cmpD .ne (.int i) (.int j) Q = Q (!decide (i = j)) := by
  apply propext
  constructor
  · rintro (⟨_, _, h, _⟩ | ⟨_, _, h⟩)
    · cases h
    · rwa [eqv_int] at h
  · intro h
    exact .inr ⟨by simp [SeqAt.shaped, PyData.canLay0, PyData.depth], by simp [SeqAt.shaped, PyData.canLay0, PyData.depth], by rwa [eqv_int]⟩
theorem cmpD_eqS (i j : Str) (Q : Bool → Prop) (h : Q (decide (i = j))) : cmpD .eq (.str i) (.str j) Q := .inl ⟨_, _, rfl, rfl, h⟩
theorem cmpD_neS (i j : Str) (Q : Bool → Prop) (h : Q (!decide (i = j))) : cmpD .ne (.str i) (.str j) Q := .inl ⟨_, _, rfl, rfl, h⟩
theorem cmpD_eqD {x y : D} {Q : Bool → Prop} (hx : SeqAt.shaped x = true) (hy : SeqAt.shaped y = true) (h : Q (PyData.eqv x y)) : cmpD .eq x y Q := .inr ⟨hx, hy, h⟩
theorem cmpD_neD {x y : D} {Q : Bool → Prop} (hx : SeqAt.shaped x = true) (hy : SeqAt.shaped y = true) (h : Q (!PyData.eqv x y)) : cmpD .ne x y Q := .inr ⟨hx, hy, h⟩
theorem cmpD_inL (x : D) (ys : List D) (Q : Bool → Prop) : cmpD .isIn x (.list ys) Q = (SeqAt.shaped x = true ∧ SeqAt.shaped (.list ys) = true ∧ Q (ys.any fun z => PyData.eqv z x)) := rfl
theorem cmpD_ninL (x : D) (ys : List D) (Q : Bool → Prop) : cmpD .notIn x (.list ys) Q = (SeqAt.shaped x = true ∧ SeqAt.shaped (.list ys) = true ∧ Q (!ys.any fun z => PyData.eqv z x)) := rfl
theorem cmpD_inI (i : Int) (zs : List Int) (Q : Bool → Prop) (h : Q (decide (i ∈ zs))) : cmpD .isIn (.int i) (.tuple (zs.map .int)) Q := ⟨zs, rfl, h⟩
theorem cmpD_inS (i : Str) (zs : List Str) (Q : Bool → Prop) (h : Q (decide (i ∈ zs))) : cmpD .isIn (.str i) (.tuple (zs.map .str)) Q := ⟨zs, rfl, h⟩
end DL

end
section
/-! DL 17: whole numbers; comprehensions without a state. -/
namespace DL
open PySem PySem.Spec L2
abbrev DEnd (s : S) (Q : DQ) : DE := { nx := fun _ s' => Q (.d .none) (cutS s.ls.length s'), rt := fun x s' => retD s.ls.length x s' Q }
/-- a def's term keeps a promise -/
def Sem (m : C) (n : Nat) (sp : Spec) : Prop := ∀ vs s Q Ex, sp vs s Q Ex → rdC (fun x _ s' => Ex x (cutS s.ls.length s')) m (DEnd s Q) (startD n vs) s
theorem gcd_fmod (a b : Int) : Int.gcd b (a.fmod b) = Int.gcd a b := by
  rw [Int.gcd_comm a b]
  have h : a.fmod b = a + b * (-(a.fdiv b)) := by
    have := Int.mul_fdiv_add_fmod a b
    rw [Int.mul_neg]; omega
  rw [h]
  exact Int.gcd_add_mul_left_right _ _ _
theorem fmod_lt (a b : Int) (h : b ≠ 0) : (a.fmod b).natAbs < b.natAbs := by
  rcases Int.lt_or_gt_of_ne h with hb | hb
  · have e := Int.neg_fmod_neg (-a) (-b)
    rw [Int.neg_neg, Int.neg_neg] at e
    have h1 := Int.fmod_nonneg_of_pos (-a) (b := -b) (by omega)
    have h2 := Int.fmod_lt_of_pos (-a) (b := -b) (by omega)
    omega
  · have h1 := Int.fmod_nonneg_of_pos a hb
    have h2 := Int.fmod_lt_of_pos a hb
    omega
theorem fmod_zero_iff (a b : Int) : b.fmod a = 0 ↔ a ∣ b := ⟨fun h => ⟨b.fdiv a, by have := Int.mul_fdiv_add_fmod b a; omega⟩, Int.fmod_eq_zero_of_dvd⟩
theorem boolsOf_map {α : Type} (p : α → Bool) : ∀ xs : List α, boolsOf (xs.map fun x => .bool (p x)) = some (xs.map p)
  | [] => rfl
  | x :: r => by simp [boolsOf, boolsOf_map p r]
theorem intsOf_map {α : Type} (p : α → Int) : ∀ xs : List α, intsOf (xs.map fun x => .int (p x)) = some (xs.map p)
  | [] => rfl
  | x :: r => by simp [intsOf, intsOf_map p r]
/-- every item is turned into one -/
theorem compD_map {G : S → Prop} {step : D → S → (Option D → S → Prop) → Prop} {K : List D → S → Prop} (f : D → D) {s : S} {xs : List D} (g : G s) (hs : ∀ x ∈ xs, ∀ C : Option D → S → Prop, C (some (f x)) s → step x s C) (hl : xs.length ≤ sizeLine) (h : K (xs.map f) s) : compD G step K xs [] s :=
  compD_pure (fun x => some (f x)) g xs [] hs (by simpa using hl) (by simpa using h)
theorem compD_filter {G : S → Prop} {step : D → S → (Option D → S → Prop) → Prop} {K : List D → S → Prop} (p : D → Bool) {s : S} {xs : List D} (g : G s) (hs : ∀ x ∈ xs, ∀ C : Option D → S → Prop, C (if p x then some x else none) s → step x s C) (hl : xs.length ≤ sizeLine) (h : K (xs.filter p) s) : compD G step K xs [] s :=
  compD_pure (fun x => if p x then some x else none) g xs [] hs (by simpa using hl) (by
    have e : xs.filterMap (fun x => if p x then some x else none) = xs.filter p := by
      clear hs hl h
      induction xs with
      | nil => rfl
      | cons x r ih =>
        cases e : p x with
        | true => simp [e, ih]
        | false => simp [e, ih]
    rw [e]
    simpa using h)
theorem sz (n : Nat) (h : n ≤ 1000000) : n ≤ sizeLine := Nat.le_trans h (by decide)
theorem atI_of {α : Type} (xs : List α) (j : Nat) : atI xs (j : Int) = xs[j]? := by
  cases e : xs[j]? with
  | some v => exact atI_nat e
  | none =>
    have h := List.getElem?_eq_none_iff.mp e
    unfold L2.atI ixN
    rw [if_pos (by omega), if_neg (by omega)]
    rfl
theorem atI_0 {α : Type} (xs : List α) : atI xs 0 = xs[0]? := atI_of xs 0
theorem atI_1 {α : Type} (xs : List α) : atI xs 1 = xs[1]? := atI_of xs 1
theorem atI_2 {α : Type} (xs : List α) : atI xs 2 = xs[2]? := atI_of xs 2
theorem atI_3 {α : Type} (xs : List α) : atI xs 3 = xs[3]? := atI_of xs 3
theorem atI_4 {α : Type} (xs : List α) : atI xs 4 = xs[4]? := atI_of xs 4
theorem atI_pos {α : Type} {xs : List α} {i : Int} (h : 0 ≤ i) : atI xs i = xs[i.toNat]? := by
  have := atI_of xs i.toNat
  rwa [Int.toNat_of_nonneg h] at this
theorem atI_last {α : Type} (xs : List α) (x : α) : atI (xs ++ [x]) (-1) = some x := by
  unfold L2.atI ixN
  rw [if_neg (by omega), if_pos (by simp; omega)]
  have : ((-1 : Int) + ((xs ++ [x]).length : Nat)).toNat = xs.length := by simp; omega
  show (xs ++ [x])[((-1 : Int) + ((xs ++ [x]).length : Nat)).toNat]? = _
  rw [this]
  simp
/-! cuts -/
theorem cutD_to {α : Type} (xs : List α) (n : Nat) : cutD xs none (some (n : Int)) = xs.take n := by
  unfold cutD
  rw [HT.sIx_none, HT.sIx_nat]
  simp
theorem cutD_from {α : Type} (xs : List α) (n : Nat) : cutD xs (some (n : Int)) none = xs.drop n := by
  unfold cutD
  rw [HT.sIx_none, HT.sIx_nat]
  by_cases h : n ≤ xs.length
  · rw [Nat.min_eq_left h, List.take_of_length_le (by simp)]
  · rw [Nat.min_eq_right (by omega), List.drop_of_length_le (by omega), List.drop_of_length_le (by omega)]
    simp
theorem cutD_1 {α : Type} (xs : List α) : cutD xs (some 1) none = xs.drop 1 := cutD_from xs 1
theorem cutD_2 {α : Type} (xs : List α) : cutD xs (some 2) none = xs.drop 2 := cutD_from xs 2
theorem cutD_5 {α : Type} (xs : List α) : cutD xs none (some 5) = xs.take 5 := cutD_to xs 5
theorem ixD_t (xs : List D) (i : Int) (Q : D → Prop) : ixD (.tuple xs) (.int i) Q = ∃ v, atI xs i = some v ∧ Q v := rfl
theorem ixD_l (xs : List D) (i : Int) (Q : D → Prop) : ixD (.list xs) (.int i) Q = ∃ v, atI xs i = some v ∧ Q v := rfl
theorem revD_l (xs : List D) (Q : D → Prop) : revD (.list xs) Q = Q (.list xs.reverse) := rfl
theorem revD_t (xs : List D) (Q : D → Prop) : revD (.tuple xs) Q = Q (.tuple xs.reverse) := rfl
theorem slcD_t (xs : List D) (i j : Option Int) (Q : D → Prop) : slcD (.tuple xs) i j Q = Q (.tuple (cutD xs i j)) := rfl
theorem slcD_l (xs : List D) (i j : Option Int) (Q : D → Prop) : slcD (.list xs) i j Q = Q (.list (cutD xs i j)) := rfl
theorem b_len_t (xs : List D) (Q : D → Prop) : biD .len [.tuple xs] Q = Q (.int xs.length) := rfl
theorem b_len_l (xs : List D) (Q : D → Prop) : biD .len [.list xs] Q = Q (.int xs.length) := rfl
theorem b_len_s (x : Str) (Q : D → Prop) : biD .len [.str x] Q = (x.length ≤ sizeLine ∧ Q (.int x.length)) := rfl
theorem b_abs (i : Int) (Q : D → Prop) : biD .abs [.int i] Q = Q (.int (if i < 0 then -i else i)) := rfl
theorem b_int (i : Int) (Q : D → Prop) : biD .int [.int i] Q = Q (.int i) := rfl
theorem b_intb (k : Bool) (Q : D → Prop) : biD .int [.bool k] Q = Q (.int (if k then 1 else 0)) := rfl
theorem b_isi (t : TyN) (x : D) (Q : D → Prop) : biD (.isi t) [x] Q = Q (.bool (isiD t x)) := rfl
theorem b_all (xs : List D) (Q : D → Prop) : biD .all [.list xs] Q = ∃ bs, boolsOf xs = some bs ∧ Q (.bool (bs.all id)) := rfl
theorem b_any (xs : List D) (Q : D → Prop) : biD .any [.list xs] Q = ∃ bs, boolsOf xs = some bs ∧ Q (.bool (bs.any id)) := rfl
theorem b_sum (xs : List D) (Q : D → Prop) : biD .sum [.list xs] Q = ∃ bs, intsOf xs = some bs ∧ Q (.int bs.sum) := rfl
theorem b_max (i j : Int) (Q : D → Prop) : biD .max2 [.int i, .int j] Q = Q (.int (if j > i then j else i)) := rfl
theorem b_min (i j : Int) (Q : D → Prop) : biD .min2 [.int i, .int j] Q = Q (.int (if j < i then j else i)) := rfl
theorem b_repr (x : D) (Q : D → Prop) : biD .repr [x] Q = (x.showable = true ∧ x.hasDict = false ∧ x.shown.length ≤ sizeLine ∧ x.depth ≤ 100 ∧ Q (.str x.shown)) := rfl
theorem b_tup_l (xs : List D) (Q : D → Prop) : biD .tuple [.list xs] Q = Q (.tuple xs) := rfl
theorem b_tup_t (xs : List D) (Q : D → Prop) : biD .tuple [.tuple xs] Q = Q (.tuple xs) := rfl
theorem b_list_l (xs : List D) (Q : D → Prop) : biD .list [.list xs] Q = Q (.list xs) := rfl
theorem b_list_t (xs : List D) (Q : D → Prop) : biD .list [.tuple xs] Q = Q (.list xs) := rfl
theorem b_dm (i j : Int) (Q : D → Prop) : biD .divmod [.int i, .int j] Q = (j ≠ 0 ∧ j.natAbs.log2 < 9000 ∧ Q (.tuple [.int (i.fdiv j), .int (i.fmod j)])) := rfl
theorem b_str (i : Int) (Q : D → Prop) : biD .str [.int i] Q = (i.natAbs.log2 < 1920 ∧ Q (.str (toString i))) := rfl
theorem asD_d' (x : D) (s : S) : asD (.d x) s = some x := rfl
theorem asD_scr (s : S) : asD .scr s = some (.list s.sc) := rfl
theorem asT_d (x : D) (s : S) : asT (.d x) s = some x := rfl
theorem asD_op {n : Nat} {s : S} {xs : List D} (h : s.ls[n]? = some (.op xs)) : asD (.loc n) s = some (.list xs) := by simp [asD, h]
theorem asD_fz {n : Nat} {s : S} {xs : List D} (h : s.ls[n]? = some (.fz xs)) : asD (.loc n) s = some (.list xs) := by simp [asD, h]
theorem asT_op {n : Nat} {s : S} {xs : List D} (h : s.ls[n]? = some (.op xs)) : asT (.loc n) s = some (.list xs) := by simp [asT, h]
theorem asT_fz {n : Nat} {s : S} {xs : List D} (h : s.ls[n]? = some (.fz xs)) : asT (.loc n) s = some (.list xs) := by simp [asT, h]
theorem asD_obj {n : Nat} {s : S} {xs : List D} (h : s.os[n]? = some (.lst xs)) : asD (.obj n) s = some (.list xs) := by simp [asD, h]
theorem frz_d (x : D) (s : S) (K : D → S → Prop) : frz (.d x) s K = K x s := rfl
theorem frz_op {n : Nat} {s : S} {xs : List D} {K : D → S → Prop} (h : s.ls[n]? = some (.op xs)) : frz (.loc n) s K = K (.list xs) { s with ls := s.ls.set n (.fz xs) } := by simp [frz, h]
theorem items_l (xs : List D) : itemsOf (.list xs) = some xs := rfl
theorem items_t (xs : List D) : itemsOf (.tuple xs) = some xs := rfl
theorem guard_d (x : D) (xs : List D) : guard (.d x) xs = fun _ => True := rfl
theorem newL_fz (ds : List D) (s : S) (Q : DQ) : newL .fz ds s Q = (ds.length ≤ sizeLine ∧ Q (.d (.list ds)) s) := rfl
theorem newL_loc (ds : List D) (s : S) (Q : DQ) : newL .loc ds s Q = (ds.length ≤ sizeLine ∧ Q (.loc s.ls.length) { s with ls := s.ls ++ [.op ds] }) := rfl
theorem newL_perm (ds : List D) (s : S) (Q : DQ) : newL .perm ds s Q = (ds.length ≤ sizeLine ∧ Q (.obj s.os.length) { s with os := s.os ++ [.lst ds] }) := rfl
theorem chgL_obj {n : Nat} {s : S} {xs : List D} {f : List D → (List D → Prop) → Prop} {Q : S → Prop} (h : s.os[n]? = some (.lst xs)) : chgL (.obj n) s f Q = f xs fun ys => Q { s with os := s.os.set n (.lst ys) } := by simp [chgL, h]
theorem chgL_loc {n : Nat} {s : S} {xs : List D} {f : List D → (List D → Prop) → Prop} {Q : S → Prop} (h : s.ls[n]? = some (.op xs)) : chgL (.loc n) s f Q = f xs fun ys => Q { s with ls := s.ls.set n (.op ys) } := by simp [chgL, h]
theorem retD_obj (m n : Nat) (s : S) (Q : DQ) : retD m (.obj n) s Q = Q (.obj n) (cutS m s) := rfl
theorem retD_op {m n : Nat} {s : S} {xs : List D} {Q : DQ} (hm : m ≤ n) (h : s.ls[n]? = some (.op xs)) : retD m (.loc n) s Q = Q (.d (.list xs)) (cutS m s) := by
  have e : ¬ n < m := by omega
  simp [retD, e, h]
theorem retD_fz {m n : Nat} {s : S} {xs : List D} {Q : DQ} (hm : m ≤ n) (h : s.ls[n]? = some (.fz xs)) : retD m (.loc n) s Q = Q (.d (.list xs)) (cutS m s) := by
  have e : ¬ n < m := by omega
  simp [retD, e, h]
/-- a def that is never come to -/
def spNo : Spec := fun _ _ _ _ => False
theorem fok_no {P : Program} {w : World} {K : Fg} {mg : Str → Option Value} {base : Heap} {T : Tb} {k : Nat} {x : Str} {st : Stmt} {f : Addr} {fd : FuncData} {N ps : List Str} {kss : List (List Str)} (F : L2.Fun K x x st f fd) (hm : mg x = some (.ref f)) (S : FnScope N ps (defScope st))
    (hbind : ∀ (kV doc pm : Value) (an : Option Addr) (cdv ct : Value), (∀ us : List Value, us.length = ps.length → bindArgs (PySem.W.fnOf x x (defArgs st) (defBody st) (defScope st) .none kV doc pm an cdv ct) ⟨us, []⟩ = pure (ps.zip us)) ∧
      ∀ ks ∈ kss, ∀ us : List Value, us.length = ks.length → bindArgs (PySem.W.fnOf x x (defArgs st) (defBody st) (defScope st) .none kV doc pm an cdv ct) ⟨[], ks.zip us⟩ = pure (ps.zip (permV ps ks us))) : FOk P w K mg base T k x ps kss spNo := by
  obtain ⟨oc, od, kV, doc, pm, an, cdv, ct, osl, rfl, lk, hcd⟩ := F.ex
  refine ⟨f, _, hm, F.kp, fun V => ⟨fun A outer s H args us vs Q E _ _ _ _ _ _ h => ?_⟩, (hbind kV doc pm an cdv ct).1, (hbind kV doc pm an cdv ct).2⟩
  obtain ⟨_, _, _, _, _, _, _, h, _⟩ := h
  exact h.elim
end DL

end
section
/-! DL 18: own lists from + and * and list(..); several names at once, some of them captured. -/
namespace DL
open PySem PySem.Spec L2
open PyProof.Rows (Tuple_)
open PyProof
section
variable {K : Fg} {Fy : Fl}
theorem post_newP {W : Wd} {H : Hp} {s : S} {Q1 : DQ} {Q : VK} (p : Pol) (hp2 : Post K Fy W Q1 Q) (r2 : Rp K Fy W H s) {xs : List V} {ds : List D} (d2 : DVs K W.F xs ds) (q2 : newL p ds s Q1) : xs.length ≤ sizeLine ∧ ∀ l, H l = none → Q (.ref l) (upd H l (.lst xs)) := by
  refine ⟨by rw [d2.1]; exact q2.1, ?_⟩
  cases p with
  | fz => exact Post.newL hp2 r2 d2 q2.2
  | loc =>
    intro p hn
    obtain ⟨r3, l3⟩ := r2.pushL hn d2
    refine hp2 _ _ _ _ _ q2.2 l3 r3 ⟨p, ?_, rfl⟩
    show (W.la ++ [p])[s.ls.length]? = some p
    rw [← r2.ll]; simp
  | perm =>
    intro p hn
    obtain ⟨r3, l3⟩ := r2.pushO hn d2
    refine hp2 _ _ _ _ _ q2.2 l3 r3 ⟨p, ?_, rfl⟩
    show (W.oa ++ [p])[s.os.length]? = some p
    rw [← r2.ol]; simp
def gCatL (p : Pol) : G2 := fun x y s Q => ∃ xs ys, asT x s = some (.list xs) ∧ asT y s = some (.list ys) ∧ newL p (xs ++ ys) s Q
def gRepL (p : Pol) : G2 := fun x y s Q => ∃ (xs : List D) (k : Int), asT x s = some (.list xs) ∧ y = .d (.int k) ∧ (-(2 ^ 63) ≤ k ∧ k < 2 ^ 63) ∧ newL p (List.replicate k.toNat xs).flatten s Q
def gLstOf (p : Pol) : List Vl → S → DQ → Prop := fun zs s Q => ∃ x, zs = [x] ∧ ∃ d xs, asD x s = some d ∧ itemsOf d = some xs ∧ newL p xs s Q
variable {X : Cx} {Fy : Fl}
theorem hop_catL (p : Pol) : OpR X (binaryOp .Add) (hR X.K Fy (gCatL p)) := by
  intro pins s σ H v u v' u' Q I rv ru h
  obtain ⟨W, t, x, y, Q1, r, rx, ry, ⟨xs, ys, hd, he, hb⟩, hp⟩ := h
  obtain ⟨a, xs', rfl, h1, h2⟩ := asT_list r rx hd
  obtain ⟨b, ys', rfl, h3, h4⟩ := asT_list r ry he
  have k := post_newP p hp r (h2.app h4) hb
  exact op_cat pins s σ H _ _ v' u' Q I rv ru ⟨a, b, xs', ys', rfl, rfl, h1, h3, by simpa using k.1, k.2⟩
theorem hop_repL (p : Pol) : OpR X (binaryOp .Mult) (hR X.K Fy (gRepL p)) := by
  intro pins s σ H v u v' u' Q I rv ru h
  obtain ⟨W, t, x, y, Q1, r, rx, ry, ⟨xs, k, hd, rfl, hk, hb⟩, hp⟩ := h
  obtain ⟨a, xs', rfl, h1, h2⟩ := asT_list r rx hd
  have := VR.int ry; subst this
  have z := post_newP p hp r (h2.rep _) hb
  have zl : xs'.length * k.toNat ≤ sizeLine := by
    have := z.1
    simpa [List.length_flatten, Nat.mul_comm] using this
  exact op_rep pins s σ H _ _ v' u' Q I rv ru ⟨a, _, xs', rfl, rfl, h1, hk.1, hk.2, zl, z.2⟩
theorem hop_lstOf (p : Pol) : CallR X (.type "list") (hN X.K Fy (gLstOf p)) := by
  intro pins s σ H xs us Q I rv h
  obtain ⟨W, t, zs, Q1, r, rx, ⟨x, rfl, d, ys, hd, hi, hb⟩, hp⟩ := h
  obtain ⟨v, rfl, r1⟩ := VRs.one rx
  rcases itemsOf_some hi with rfl | rfl
  · obtain ⟨a, xs', rfl, h1, h2⟩ := asD_list r r1 hd
    cases hi
    have z := post_newP p hp r h2 hb
    exact call_list_of pins s σ H _ us Q I rv ⟨a, xs', rfl, .inl h1, z.2⟩
  · obtain ⟨a, xs', rfl, h1, _, h2⟩ := asD_tup r r1 hd
    cases hi
    have z := post_newP p hp r h2 hb
    exact call_list_of pins s σ H _ us Q I rv ⟨a, xs', rfl, .inr h1, z.2⟩
end
section
variable {X : Cx} {Fy : Fl} {Ex : EX} {pos p p1 p2 p3 : Pos} {j k n : Nat} {a b e : Expr} {es : List Expr} {ma mb m : E} {mk : C} {st : List Stmt}
theorem c_catL {q : Pol} (ha : QE X Fy Ex a ma) (hb : QE X Fy Ex b mb) : QE X Fy Ex (.BinOp a .Add b pos) (.catL q ma mb) := PE.imp (pe_op (hop_catL q) ha hb) fun _ _ _ h => hE_op (g := gCatL q) h
theorem c_repL {q : Pol} (ha : QE X Fy Ex a ma) (hb : QE X Fy Ex b mb) : QE X Fy Ex (.BinOp a .Mult b pos) (.repL q ma mb) := PE.imp (pe_op (hop_repL q) ha hb) fun _ _ _ h => hE_op (g := gRepL q) h
theorem c_lstOf {q : Pol} (hg : Gl X "list") (hm : X.mg "list" = none) (ha : QA X Fy Ex 1 [e] (.cons m .nil))
    (he : starEach [e] X.env = (false, eval e X.env) :: starEach [] X.env := by rfl) (hpl : (backTo pos (starEach [] X.env)).any (·.1) = false := by rfl) : QE X Fy Ex (.Call (.Name "list" p) [e] [] pos) (.lstOf q m) :=
  PE.imp (pe_callTy (T := "list") (hop_lstOf q) hg hm bo_list ha (by decide) (by decide) he hpl) fun σ H Q h => by
    obtain ⟨W, ρ, s, Q1, r, rs, ht, hp⟩ := h
    refine hA_bind (t := rdL Ex (.cons m .nil)) (Q1 := fun xs s => gLstOf q xs s Q1) r rs ?_ fun xs s1 vs H1 W1 q1 l1 r1 v1 rs1 _ => ⟨W1, s1, xs, Q1, r1, v1, q1, fun d s' v H' W' q l => hp d s' v H' W' q (l1.trans l)⟩
    show rdE Ex m ρ s fun x s => gLstOf q [x] s Q1
    have e : (fun (x : Vl) (s : S) => gLstOf q [x] s Q1) = fun x s => ∃ d xs, asD x s = some d ∧ itemsOf d = some xs ∧ newL q xs s Q1 := by
      funext x s
      apply propext
      constructor
      · rintro ⟨y, hy, h⟩
        cases hy
        exact h
      · intro h
        exact ⟨x, rfl, h⟩
    rw [e]
    exact ht
/-- names of a tuple of targets -/
def nmG : List Nat → TGs
  | [] => gNil
  | i :: is => gCons (gName i) (nmG is)
theorem nmG_of : ∀ {is : List Nat} {vs : List V} {σ : L2.St} {H : Hp} {Q : L2.St → Hp → Prop}, vs.length = is.length → Q ((is.zip vs).foldl (fun σ p => σ.set p.1 (some p.2)) σ) H → nmG is vs σ H Q
  | [], [], _, _, _, _, q => ⟨rfl, q⟩
  | [], _ :: _, _, _, _, e, _ => by simp at e
  | _ :: _, [], _, _, _, e, _ => by simp at e
  | i :: is, v :: vs, σ, H, Q, e, q => ⟨v, vs, rfl, nmG_of (by simpa using e) q⟩
theorem ps_parG {t : TGs} {ta : TA} {tgs : List Expr} {kt k2 : Nat} {pt pt2 : Pos} {n : Nat} (hc : X.calm = true) (ha : PA X es ta) (hg : PGs X tgs t) (hz : n ≤ sizeLine)
    (hl : (assignEach tgs X.env).length = n) (hst : (assignEach tgs X.env).findIdx? (·.1) = none)
    (hs : swapsWithSole [.Tuple tgs kt pt] (.Tuple es k2 pt2) pos.line X.env = pure false) (hw : swappedStores [.Tuple tgs kt pt] (.Tuple es k2 pt2) X.env = pure none)
    (h1 : (assignEach [.Tuple tgs kt pt] X.env).map (·.2) = [assign (.Tuple tgs kt pt) X.env]) : PS X (.Assign [.Tuple tgs kt pt] (.Tuple es k2 pt2) pos) (fun D σ H => ta σ H fun vs H1 => vs.length = n ∧ t vs σ H1 D.nx) := by
  refine ⟨fun pins s σ H D I h => ?_⟩
  refine wpAny_Assign_stores (Tuple_ (thn (ha.run _ pins s σ H _ I h) fun us s1 ⟨vs, H1, I1, r1, e1, q1⟩ => ?_)) hs hw
  have eu : us.length = n := by rw [← r1.length]; exact e1
  refine wpAny_newObj_type ?_ (show us.toArray.size ≤ sizeLine by rw [List.size_toArray, eu]; exact hz)
  have I2 : Inv X pins σ H1 { s1 with heap := s1.heap.push { cls := .type "tuple", data := .seq us.toArray } } := I1.kept (t' := s1.toks) fun b o e => Heap.get?_push_of_some _ e
  rw [h1]
  show wpAny (model X.prog X.w) X.A (assign (.Tuple tgs kt pt) X.env (.ref s1.heap.objs.size)) _ _ _
  refine thn (PyProof.Rows.assign_Tuple_tuple (I.ok.hd hc) (PyProof.Rows.IsTup.new s1.heap _) (by simp [hl, eu]) hst fun h' hx => ?_) fun _ s2 q => q
  have I3 := I2.kept (h' := h') (t' := s1.toks) fun b o e => hx b o (Nat.ne_of_lt (Heap.lt_size e)) e
  exact hg.run pins _ σ H1 vs _ D.nx I3 (by simpa using r1) q1
theorem s_parG {is : List Nat} {tgs : List Expr} {kt k2 : Nat} {pt pt2 : Pos} {n : Nat} (hc : X.calm = true) (hn : is.length = n) (hz : n ≤ sizeLine) (ha : QA X Fy Ex n es m) (hg : PGs X tgs (nmG is)) (hk : QC X Fy Ex st mk)
    (hl : (assignEach tgs X.env).length = n := by rfl) (hst : (assignEach tgs X.env).findIdx? (·.1) = none := by rfl)
    (hs : swapsWithSole [.Tuple tgs kt pt] (.Tuple es k2 pt2) pos.line X.env = pure false := by rfl) (hw : swappedStores [.Tuple tgs kt pt] (.Tuple es k2 pt2) X.env = pure none := by rfl)
    (h1 : (assignEach [.Tuple tgs kt pt] X.env).map (·.2) = [assign (.Tuple tgs kt pt) X.env] := by rfl) : QC X Fy Ex (.Assign [.Tuple tgs kt pt] (.Tuple es k2 pt2) pos :: st) (.par is m mk) :=
  PSs.imp (pss_cons (ps_parG hc ha hg hz hl hst hs hw h1) hk) fun D σ H h => by
    obtain ⟨W, ρ, s, Y, r, rs, q, hp⟩ := h
    refine hA_bind (t := rdL Ex m) (Q1 := fun vs s => rdC Ex mk Y (setS ρ is vs) s) r rs q fun xs s1 vs H1 W1 q1 l1 r1 v1 rs1 e => ⟨e, ?_⟩
    exact nmG_of (by rw [e, hn]) ⟨W1, _, s1, Y, r1, setS_rs rs1 v1 (by rw [e, hn]), q1, hp.le l1⟩
end
theorem startD_5 (n : Nat) (a b c d e : Vl) : startD (n + 5) [a, b, c, d, e] = some a :: some b :: some c :: some d :: some e :: List.replicate n none := by simp [startD]
theorem startD_6 (n : Nat) (a b c d e f : Vl) : startD (n + 6) [a, b, c, d, e, f] = some a :: some b :: some c :: some d :: some e :: some f :: List.replicate n none := by simp [startD]
theorem startD_7 (n : Nat) (a b c d e f g : Vl) : startD (n + 7) [a, b, c, d, e, f, g] = some a :: some b :: some c :: some d :: some e :: some f :: some g :: List.replicate n none := by simp [startD]
theorem startD_8 (n : Nat) (a b c d e f g h : Vl) : startD (n + 8) [a, b, c, d, e, f, g, h] = some a :: some b :: some c :: some d :: some e :: some f :: some g :: some h :: List.replicate n none := by simp [startD]
end DL

end
section
/-! DL 19: stars in displays, reversed, list(range), sorted pairs, two fors. -/
namespace DL
open PySem PySem.Spec L2
/-! ### stars -/
def hAs (K : Fg) (Fy : Fl) (t : DTA) : TA := fun σ H Q => ∃ W ρ s Q1, Rp K Fy W H s ∧ RS K W σ ρ ∧ t ρ s Q1 ∧ ∀ ds s' vs H' W', Q1 ds s' → Le W W' → Rp K Fy W' H' s' → VRs K W' vs ds → Q vs H'
section
variable {K : Fg} {Fy : Fl}
theorem hAs_bind {t : DTA} {σ : St} {H : Hp} {Q : List V → Hp → Prop} {W : Wd} {ρ : Rho} {s : S} {Q1 : List Vl → S → Prop} (r : Rp K Fy W H s) (rs : RS K W σ ρ) (h : t ρ s Q1)
    (k : ∀ d s' v H' W', Q1 d s' → Le W W' → Rp K Fy W' H' s' → VRs K W' v d → RS K W' σ ρ → Q v H') : hAs K Fy t σ H Q :=
  ⟨W, ρ, s, Q1, r, rs, h, fun d s' v H' W' q l r' v' => k d s' v H' W' q l r' v' (rs.mono l)⟩
theorem hAs_nil {σ : St} {H : Hp} {Q : List V → Hp → Prop} (h : hAs K Fy (fun ρ s Q => Q [] s) σ H Q) : tNil σ H Q := by
  obtain ⟨W, ρ, s, Q1, r, rs, ht, hp⟩ := h
  exact hp _ _ _ _ _ ht .rfl' r .nil
theorem hAs_cons {te : DTE} {ta : DTA} {σ : St} {H : Hp} {Q : List V → Hp → Prop} (h : hAs K Fy (fun ρ s Q => te ρ s fun x s => ta ρ s fun xs s => Q (x :: xs) s) σ H Q) : tCons (hE K Fy te) (hAs K Fy ta) σ H Q := by
  obtain ⟨W, ρ, s, Q1, r, rs, ht, hp⟩ := h
  refine hE_bind r rs ht fun x s1 v H1 W1 q1 l1 r1 v1 rs1 => hAs_bind r1 rs1 q1 fun xs s2 vs H2 W2 q2 l2 r2 v2 rs2 => ?_
  exact hp _ _ _ _ _ q2 (l1.trans l2) r2 (.cons (VR.mono l2 v1) v2)
theorem VRs.app {W : Wd} : ∀ {vs ws : List V} {xs ys : List Vl}, VRs K W vs xs → VRs K W ws ys → VRs K W (vs ++ ws) (xs ++ ys)
  | _, _, _, _, .nil, h => h
  | _, _, _, _, .cons a b, h => .cons a (VRs.app b h)
theorem VRs.ofD {W : Wd} : ∀ {vs : List V} {ds : List D}, DVs K W.F vs ds → VRs K W vs (ds.map .d)
  | vs, [], h => by have := h.inv_nil; subst this; exact .nil
  | vs, d :: ds, h => by
    obtain ⟨x, r, rfl, h1, h2⟩ := DVs.inv_cons h
    exact .cons h1 (VRs.ofD h2)
theorem hAs_star {te : DTE} {ta : DTA} {σ : St} {H : Hp} {Q : List V → Hp → Prop} (h : hAs K Fy (fun ρ s Q => te ρ s fun x s => ∃ d xs, asD x s = some d ∧ itemsOf d = some xs ∧ ta ρ s fun ys s => Q (xs.map .d ++ ys) s) σ H Q) : StX.tStar K (hE K Fy te) (hAs K Fy ta) σ H Q := by
  obtain ⟨W, ρ, s, Q1, r, rs, ht, hp⟩ := h
  refine hE_bind r rs ht fun x s1 v H1 W1 q1 l1 r1 v1 rs1 => ?_
  obtain ⟨d, xs, hd, hi, q⟩ := q1
  have key : ∃ a ys, v = .ref a ∧ (SqT K H1 a ys ∨ SqL K H1 a ys) ∧ DVs K W1.F ys xs := by
    rcases itemsOf_some hi with rfl | rfl
    · obtain ⟨a, ys, rfl, h1, h2⟩ := asD_list r1 v1 hd
      cases hi
      exact ⟨a, ys, rfl, .inr h1, h2⟩
    · obtain ⟨a, ys, rfl, h1, _, h2⟩ := asD_tup r1 v1 hd
      cases hi
      exact ⟨a, ys, rfl, .inl h1, h2⟩
  obtain ⟨a, ys, rfl, h1, h2⟩ := key
  exact ⟨a, ys, rfl, h1, hAs_bind r1 rs1 q fun zs s2 vs H2 W2 q2 l2 r2 v2 rs2 => hp _ _ _ _ _ q2 (l1.trans l2) r2 (VRs.app (VRs.mono l2 (VRs.ofD h2)) v2)⟩
theorem hE_tupS {ta : DTA} {σ : St} {H : Hp} {Q : VK} (h : hE K Fy (fun ρ s Q => ta ρ s fun vs s => frzs vs s fun ds s => ds.length ≤ sizeLine ∧ Q (.d (.tuple ds)) s) σ H Q) : tTup (hAs K Fy ta) σ H Q := by
  obtain ⟨W, ρ, s, Q1, r, rs, ht, hp⟩ := h
  refine hAs_bind r rs ht fun x s1 v H1 W1 q1 l1 r1 v1 rs1 => ?_
  obtain ⟨ds, s2, W2, q2, l2, r2, d2⟩ := frzs_ok r1 v1 q1
  have hp2 : Post K Fy W2 Q1 Q := fun d s' v H' W' q l r' v' => hp d s' v H' W' q (l1.trans (l2.trans l)) r' v'
  exact ⟨by rw [d2.1]; exact q2.1, hp2.newT r2 d2 q2.2⟩
theorem hE_lstS {p : Pol} {ta : DTA} {σ : St} {H : Hp} {Q : VK} (h : hE K Fy (fun ρ s Q => ta ρ s fun vs s => frzs vs s fun ds s => newL p ds s Q) σ H Q) : tLst (hAs K Fy ta) σ H Q := by
  obtain ⟨W, ρ, s, Q1, r, rs, ht, hp⟩ := h
  refine hAs_bind r rs ht fun x s1 v H1 W1 q1 l1 r1 v1 rs1 => ?_
  obtain ⟨ds, s2, W2, q2, l2, r2, d2⟩ := frzs_ok r1 v1 q1
  have hp2 : Post K Fy W2 Q1 Q := fun d s' v H' W' q l r' v' => hp d s' v H' W' q (l1.trans (l2.trans l)) r' v'
  exact post_newP p hp2 r2 d2 q2
end
abbrev QAs (X : Cx) (Fy : Fl) (Ex : EX) (es : List Expr) (m : E) : Prop := PA X es (hAs X.K Fy (rdL Ex m))
section
variable {X : Cx} {Fy : Fl} {Ex : EX} {pos p p1 p2 : Pos} {k n : Nat} {a b e : Expr} {es : List Expr} {ma mb mc m mt mt1 ma1 mc1 : E}
theorem as_nil : QAs X Fy Ex [] .nil := PA.imp pa_nil fun _ _ _ h => hAs_nil h
theorem as_cons (ha : QE X Fy Ex e ma) (hr : QAs X Fy Ex es m) (hs : starEach (e :: es) X.env = (false, eval e X.env) :: starEach es X.env := by rfl) : QAs X Fy Ex (e :: es) (.cons ma m) := PA.imp (pa_cons ha hr hs) fun _ _ _ h => hAs_cons h
theorem as_star (ha : QE X Fy Ex e ma) (hr : QAs X Fy Ex es m) (hs : starEach (.Starred e p :: es) X.env = (true, eval e X.env) :: starEach es X.env := by rfl) : QAs X Fy Ex (.Starred e p :: es) (.star ma m) := PA.imp (StX.pa_star ha hr hs) fun _ _ _ h => hAs_star h
theorem c_tupS (h : QAs X Fy Ex es m) : QE X Fy Ex (.Tuple es k pos) (.tup m) := PE.imp (pe_tup h) fun _ _ _ q => hE_tupS q
theorem c_lstS {q : Pol} (h : QAs X Fy Ex es m) : QE X Fy Ex (.List es pos) (.lst q m) := PE.imp (pe_lst h) fun _ _ _ q => hE_lstS q
/-! ### reversed(a list) -/
theorem it_rev {K : Fg} {W : Wd} {a : Addr} {xs : List D} {G : S → Prop} {n : Nat} (hn : n = xs.length) (h : ∀ W1 H1 s1, Le0 W W1 → Rp K Fy W1 H1 s1 → G s1 → ∃ ys, SqL K H1 a ys ∧ DVs K W1.F ys xs) : ItOk K Fy W (Itv K a n) xs.reverse G :=
  it_ok (n := n) (Gv := fun ys H => SqL K H a ys) (Y := fun ys i H x H' => H' = H ∧ ys[ys.length - 1 - i]? = some x) (by rw [hn, List.length_reverse]) fun W1 H s l r g => by
    obtain ⟨ys, h1, h2⟩ := h W1 H s l r g
    have e : n = ys.length := by rw [hn, h2.1]
    refine ⟨ys, h1, by rw [e]; exact walk_rev, fun i x H' hi y => ?_⟩
    obtain ⟨rfl, e2⟩ := y
    obtain ⟨d, e3, dv⟩ := h2.get' e2
    refine ⟨W1, d, .rfl', r, ?_, dv⟩
    rw [List.getElem?_reverse (by omega), ← h2.1]
    exact e3
theorem i_rev {tg : Expr} (hg : Gl X "reversed") (hm : X.mg "reversed" = none) (ha : QE X Fy Ex a ma) (hs : starEach [a] X.env = (false, eval a X.env) :: starEach [] X.env := by rfl) : QI X Fy Ex tg (.Call (.Name "reversed" p) [a] [] pos) (.iRev ma) :=
  PI.imp (RT.pi_revA hg hm ha hs) fun σ H R h => by
    obtain ⟨W, ρ, s, K1, r, rs, q, hp⟩ := h
    refine hE_bind r rs q fun x s1 v H1 W1 q1 l1 r1 v1 rs1 => ?_
    obtain ⟨xs, hd, k⟩ := q1
    obtain ⟨a, rfl, ⟨ys, hq⟩, hgd⟩ := guard_list r1 v1 hd
    obtain ⟨b, zs, e1, hz, hdz⟩ := asD_list r1 v1 hd
    cases e1
    exact ⟨a, zs, rfl, .inl ⟨hz, hp _ _ _ _ _ _ k l1 r1 (it_rev hdz.1 hgd)⟩⟩
/-! ### list(range(n)) -/
theorem dvs_range {K : Fg} {F : Hp} (n : Int) : DVs K F (rgV 0 n) (rangeD 0 n.toNat) := by
  refine ⟨by rw [rgV_length, rangeD_len, Int.sub_zero], fun i x d h1 h2 => ?_⟩
  have hi : i < n.toNat := by
    have := (List.getElem?_eq_some_iff.mp h2).1
    rwa [rangeD_len] at this
  rw [rangeD_get 0 _ i hi] at h2
  unfold rgV at h1
  rw [List.getElem?_map, Int.sub_zero, List.getElem?_range hi] at h1
  cases h1; cases h2
  exact .int _
theorem c_lRng (hc : X.calm = true) (hl : Gl X "list") (hml : X.mg "list" = none) (hg : Gl X "range") (hm : X.mg "range" = none) (ha : QE X Fy Ex a ma) (na : starEach [a] X.env = (false, eval a X.env) :: starEach [] X.env := by rfl)
    (ne : starEach [.Call (.Name "range" p1) [a] [] p2] X.env = (false, eval (.Call (.Name "range" p1) [a] [] p2) X.env) :: starEach [] X.env := by rfl) : QE X Fy Ex (.Call (.Name "list" p) [.Call (.Name "range" p1) [a] [] p2] [] pos) (.lRng ma) :=
  PE.imp (pe_listRg hc hl hml (prg_1 hg hm ha na) ne) fun σ H Q h => by
    obtain ⟨W, ρ, s, Q1, r, rs, q, hp⟩ := h
    refine hE_bind r rs q fun x s1 v H1 W1 q1 l1 r1 v1 rs1 => ?_
    obtain ⟨n, rfl, hn, q⟩ := q1
    have := VR.int v1; subst this
    have hp2 : Post X.K Fy W1 Q1 Q := fun d s' v H' W' q l r' v' => hp d s' v H' W' q (l1.trans l) r' v'
    exact ⟨n, rfl, RgOk.of_le (by omega) hn.2 (by omega) hn.1, hp2.newL r1 (dvs_range n) q⟩
/-! ### two fors -/
/-- the inner turns: the list that is being made goes on -/
theorem in_turns {K : Fg} {sl1 vs1 : List Nat} (hs1 : ∀ i ∈ sl1, i ∈ vs1) {tg1 : DTG} {tc1 : DTT} {te : DTE} {σ2 : St} {ρ2 : Rho} {Dd : Addr} {P : List (Addr × List V)} (hP : Fy.W.pv <:+ P) {Nx : Hp → Prop} {W3 : Wd} {J1 : It} {ys : List D} {G1 : S → Prop} {Kn : List D → S → Prop}
    (it : ItOk K Fy W3 J1 ys G1) (rs3 : RS K W3 σ2 ρ2)
    (fin : ∀ acc s H W4 accV, Kn acc s → Le0 W3 W4 → Rp K Fy { W4 with pv := (Dd, accV) :: P } H s → DVs K W4.F accV acc → Nx H) :
    ∀ (acc : List D) (accV : List V) (s : S) (H : Hp) (W4 : Wd), W4.pv = (Dd, accV) :: P → Le0 W3 W4 → Rp K Fy W4 H s → DVs K W4.F accV acc → compD G1 (cStep tg1 tc1 te (wipeR ρ2 vs1)) Kn ys acc s →
      ∃ V : Nat → Nat → Hp → Prop, (∃ m, V 0 m H) ∧ ∀ j k H, V j k H → (J1.stop j H ∧ Nx H) ∨ (J1.go j H ∧ ∃ Nx1 : Hp → Prop, (∀ H', Nx1 H' → ∃ k', k' < k ∧ V (j + 1) k' H') ∧ ∀ x H', J1.yld j H x H' →
        hG K Fy sl1 tg1 x (L2.wipe σ2 vs1) H' fun σ3 H5 => L2.wipe σ3 vs1 = L2.wipe σ2 vs1 ∧ hT K Fy tc1 σ3 H5 fun b H6 => if b = true then hE K Fy te σ3 H6 fun y H7 => ∃ acc, H7 Dd = some (.lst acc) ∧ acc.length < sizeLine ∧ Nx1 (upd H7 Dd (.lst (acc ++ [y]))) else Nx1 H6) := by
  intro acc accV s H W4 epv l4 r4 d4 q
  refine ⟨fun i m H => m = ys.length - i ∧ i ≤ ys.length ∧ ∃ W5 s accV acc, Le0 W3 W5 ∧ Rp K Fy { W5 with pv := (Dd, accV) :: P } H s ∧ DVs K W5.F accV acc ∧ compD G1 (cStep tg1 tc1 te (wipeR ρ2 vs1)) Kn (ys.drop i) acc s,
    ⟨ys.length, by simp, Nat.zero_le _, W4, s, accV, acc, l4, by rw [← epv]; exact r4, d4, by simpa using q⟩, ?_⟩
  rintro i m H ⟨rfl, hi, W5, s5, accV, acc, l5, r5, d5, q5⟩
  have l50 : Le0 W3 { W5 with pv := (Dd, accV) :: P } := ⟨l5.F, l5.la, l5.oa, l5.sc, l5.xa⟩
  by_cases hlt : i < ys.length
  · rw [List.drop_eq_getElem_cons hlt] at q5
    obtain ⟨g5, q5⟩ := q5
    refine .inr ⟨it.go i H _ s5 l50 r5 g5 hlt, fun H' => ∃ W5 s accV acc, Le0 W3 W5 ∧ Rp K Fy { W5 with pv := (Dd, accV) :: P } H' s ∧ DVs K W5.F accV acc ∧ compD G1 (cStep tg1 tc1 te (wipeR ρ2 vs1)) Kn (ys.drop (i + 1)) acc s,
      fun H' hN => ⟨ys.length - (i + 1), by omega, rfl, hlt, hN⟩, fun x H' y => ?_⟩
    obtain ⟨W6, d, l6, r6, e6, d6⟩ := it.yld i H _ s5 l50 r5 g5 hlt x H' y
    have e7 : ys[i] = d := by simpa [hlt] using e6
    subst e7
    have lW : ∀ {W' : Wd}, Le W6 W' → W'.pv = (Dd, accV) :: P ∧ Le0 W3 W' ∧ SubH W5.F W'.F := fun {W'} l => ⟨l.pv.trans l6.pv, l50.trans (l6.to0.trans l.to0), fun a o e => l.F _ _ (l6.F _ _ e)⟩
    have rsW : RS K W6 (L2.wipe σ2 vs1) (wipeR ρ2 vs1) := (rs3.wipe vs1).le0 (l50.trans l6.to0)
    refine ⟨W6, wipeR ρ2 vs1, s5, .d ys[i], _, r6, rsW, d6, q5, fun ρ' s' σ' H'' W' q' l r' rs' oo => ⟨wipe_only oo hs1, ?_⟩⟩
    refine ⟨W', ρ', s', _, r', rs', q', fun b s4 H4 W4' q4 l4' r4' => ?_⟩
    cases b with
    | false =>
      rw [if_neg Bool.false_ne_true] at q4 ⊢
      obtain ⟨e5, l5', s5'⟩ := lW (l.trans l4')
      exact ⟨W4', s4, accV, acc, l5', by rw [← e5]; exact r4', d5.mono s5', q4⟩
    | true =>
      rw [if_pos rfl] at q4 ⊢
      refine ⟨W4', ρ', s4, _, r4', rs'.mono l4', q4, fun z s6 v H6 W6' q6 l6' r6' v6 => ?_⟩
      obtain ⟨d7, s7, W7, q7, l7, r7, d7'⟩ := frz_ok r6' v6 q6
      obtain ⟨e8, l8, s8⟩ := lW (l.trans (l4'.trans (l6'.trans l7)))
      have r8 : Rp K Fy { W7 with pv := (Dd, accV) :: P } H6 s7 := by rw [← e8]; exact r7
      obtain ⟨z1, z2⟩ := q7
      have hl : accV.length = acc.length := d5.1
      exact ⟨accV, (r8.p (Dd, accV) (.head _)).2, by rw [hl]; exact z1, W7, s7, accV ++ [v], acc ++ [d7], l8, r8.pvSet hP _, (d5.mono s8).app (.cons d7' .nil), z2⟩
  · have e : i = ys.length := by omega
    subst e
    rw [List.drop_length] at q5
    obtain ⟨g5, q5⟩ := q5
    exact .inl ⟨it.stop H _ s5 l50 r5 g5, fin acc s5 H W5 accV q5 l5 r5 d5⟩
theorem hE_lc2 {K : Fg} {sl vs sl1 vs1 : List Nat} (hs : ∀ i ∈ sl, i ∈ vs) (hs1 : ∀ i ∈ sl1, i ∈ vs1) {ti ti1 : Rho → S → DIt → Prop} {tg tg1 : DTG} {tc tc1 : DTT} {te : DTE} {σ : St} {H : Hp} {Q : VK}
    (h : hE K Fy (fun ρ s Q => ti ρ s fun xs G s => compD2 G (fun x acc s Kn => tg (.d x) (wipeR ρ vs) s fun ρ s => tc ρ s fun b s => if b = true then ti1 ρ s fun ys G1 s => compD G1 (cStep tg1 tc1 te (wipeR ρ vs1)) Kn ys acc s else Kn acc s)
      (fun ds s => Q (.d (.list ds)) s) xs [] s) σ H Q) : tLc2 (hI K Fy ti) (hG K Fy sl tg) (hT K Fy tc) (hI K Fy ti1) (hG K Fy sl1 tg1) (hT K Fy tc1) (hE K Fy te) vs vs1 σ H Q := by
  obtain ⟨W, ρ, s, Q1, r, rs, q, hp⟩ := h
  refine ⟨W, ρ, s, _, r, rs, q, fun xs G s1 H1 W0 J q1 l1 r1 it => fun D hD => ?_⟩
  have hP : Fy.W.pv <:+ W0.pv := r1.low.pv
  generalize hstep : (fun x acc s (Kn : List PyData → S → Prop) => tg (.d x) (wipeR ρ vs) s fun ρ s => tc ρ s fun b s => if b = true then ti1 ρ s fun ys G1 s => compD G1 (cStep tg1 tc1 te (wipeR ρ vs1)) Kn ys acc s else Kn acc s) = step at q1
  refine ⟨fun i m H => m = xs.length - i ∧ i ≤ xs.length ∧ ∃ W1 s accV acc, Le0 W0 W1 ∧ Rp K Fy { W1 with pv := (D, accV) :: W0.pv } H s ∧ DVs K W1.F accV acc ∧ compD2 G step (fun ds s => Q1 (.d (.list ds)) s) (xs.drop i) acc s,
    ⟨xs.length, by simp, Nat.zero_le _, W0, s1, [], [], .rfl', r1.pvPush hD [], .nil, by simpa using q1⟩, ?_⟩
  rintro i m H ⟨rfl, hi, W1, s2, accV, acc, l2, r2, da, q2⟩
  have l20 : Le0 W0 { W1 with pv := (D, accV) :: W0.pv } := ⟨l2.F, l2.la, l2.oa, l2.sc, l2.xa⟩
  by_cases hlt : i < xs.length
  · rw [List.drop_eq_getElem_cons hlt] at q2
    obtain ⟨g2, q2⟩ := q2
    refine .inr ⟨it.go i H _ s2 l20 r2 g2 hlt, fun H' => ∃ W1 s accV acc, Le0 W0 W1 ∧ Rp K Fy { W1 with pv := (D, accV) :: W0.pv } H' s ∧ DVs K W1.F accV acc ∧ compD2 G step (fun ds s => Q1 (.d (.list ds)) s) (xs.drop (i + 1)) acc s,
      fun H' hN => ⟨xs.length - (i + 1), by omega, rfl, hlt, hN⟩, fun x H' y => ?_⟩
    obtain ⟨W3, d, l3, r3, e3, d3⟩ := it.yld i H _ s2 l20 r2 g2 hlt x H' y
    have e4 : xs[i] = d := by simpa [hlt] using e3
    subst e4
    rw [← hstep] at q2
    have rsW : RS K W3 (L2.wipe σ vs) (wipeR ρ vs) := ((rs.mono l1).wipe vs).le0 (l20.trans l3.to0)
    refine ⟨W3, wipeR ρ vs, s2, .d xs[i], _, r3, rsW, d3, q2, fun ρ' s' σ' H'' W' q' l r' rs' oo => ⟨wipe_only oo hs, ?_⟩⟩
    refine ⟨W', ρ', s', _, r', rs', q', fun b s4 H4 W4 q4 l4 r4 => ?_⟩
    have e5 : W4.pv = (D, accV) :: W0.pv := l4.pv.trans (l.pv.trans l3.pv)
    have l5 : Le0 W0 W4 := l20.trans (l3.to0.trans (l.to0.trans l4.to0))
    have s5 : SubH W1.F W4.F := fun a o e => l4.F _ _ (l.F _ _ (l3.F _ _ e))
    cases b with
    | false =>
      simp only [Bool.false_eq_true, if_false] at q4 ⊢
      rw [hstep] at q4
      exact ⟨W4, s4, accV, acc, l5, by rw [← e5]; exact r4, da.mono s5, q4⟩
    | true =>
      simp only [if_true] at q4 ⊢
      refine ⟨W4, ρ', s4, _, r4, rs'.mono l4, q4, fun ys G1 s6 H6 W6 J1 q6 l6 r6 it6 => ?_⟩
      refine in_turns hs1 hP it6 ((rs'.mono l4).mono l6) (fun acc s H W7 accV q7 l7 r7 d7 => ?_) acc accV s6 H6 W6 (l6.pv.trans e5) .rfl' r6 (da.mono fun a o e => l6.F _ _ (s5 _ _ e)) q6
      rw [hstep] at q7
      exact ⟨W7, s, accV, acc, l5.trans (l6.to0.trans l7), r7, d7, q7⟩
  · have e : i = xs.length := by omega
    subst e
    rw [List.drop_length] at q2
    obtain ⟨g2, q2⟩ := q2
    refine .inl ⟨it.stop H _ s2 l20 r2 g2, ?_⟩
    obtain ⟨r3, sF⟩ := r2.pvPop hP
    refine hp _ _ _ _ { W1 with F := upd W1.F D (.lst accV), pv := W0.pv } q2 (l1.trans ⟨fun a o e => sF _ _ (l2.F _ _ e), l2.la, l2.oa, rfl, l2.sc, l2.xa⟩) r3 ?_
    show DV K (upd W1.F D _) _ _
    exact .lst upd_same da.1 fun i y z a b => (da.2 i y z a b).mono' sF
theorem c_lc2 {elt tg iter tg1 iter1 : Expr} {ifs ifs1 : List Expr} {scope : Scope} {own : List (Str × Nat)} {sl sl1 vs1 : List Nat} (hc : X.calm = true) (hN : X.N.Nodup) (hsl : sl = own.map (·.2)) (hsl1 : sl1 = vs1) (hi : QI X Fy Ex tg iter ma) (ok : BlkOk X.N X.env.scope scope own) (hv : ∀ i ∈ vs1, i ∈ own.map (·.2))
    (hg : ∀ (s : Shared) (H : Hp) (C : Addr) (cl : List (Str × Addr)) (fp : List Addr), QG (X.blk s H scope (compEnvC scope cl C X.env) fp) Fy E1 sl tg mt)
    (ht : ∀ (s : Shared) (H : Hp) (C : Addr) (cl : List (Str × Addr)) (fp : List Addr), PTs (X.blk s H scope (compEnvC scope cl C X.env) fp) ifs (hT X.K Fy (rdT E1 mc)))
    (hi1 : ∀ (s : Shared) (H : Hp) (C : Addr) (cl : List (Str × Addr)) (fp : List Addr), QI (X.blk s H scope (compEnvC scope cl C X.env) fp) Fy E1 tg1 iter1 ma1)
    (hg1 : ∀ (s : Shared) (H : Hp) (C : Addr) (cl : List (Str × Addr)) (fp : List Addr), QG (X.blk s H scope (compEnvC scope cl C X.env) fp) Fy E1 sl1 tg1 mt1)
    (ht1 : ∀ (s : Shared) (H : Hp) (C : Addr) (cl : List (Str × Addr)) (fp : List Addr), PTs (X.blk s H scope (compEnvC scope cl C X.env) fp) ifs1 (hT X.K Fy (rdT E1 mc1)))
    (he : ∀ (s : Shared) (H : Hp) (C : Addr) (cl : List (Str × Addr)) (fp : List Addr), QE (X.blk s H scope (compEnvC scope cl C X.env) fp) Fy E1 elt m) (hs : ∀ x, foldedSetIterable iter X.env x = pure x := by intro _; rfl) (hs1 : ∀ env x, foldedSetIterable iter1 env x = pure x := by intro _ _; rfl) :
    QE X Fy Ex (.ListComp elt [⟨tg, iter, ifs, 0⟩, ⟨tg1, iter1, ifs1, 0⟩] scope pos) (.comp2 mt ma mc mt1 ma1 mc1 m own vs1) := by
  subst hsl hsl1
  exact PE.imp (pe_lc2 hc hN hi ok hv hg ht hi1 hg1 ht1 he hs hs1) fun _ _ _ h => hE_lc2 (fun i h => h) (fun i h => h) h
theorem s_setLc2 {i : Nat} {x : Str} {elt tg iter tg1 iter1 : Expr} {ifs ifs1 : List Expr} {scope : Scope} {own : List (Str × Nat)} {sl sl1 vs1 : List Nat} {spos : Pos} {st : List Stmt} {mk : C} (hc : X.calm = true) (hN : X.N.Nodup) (hsl : sl = own.map (·.2)) (hsl1 : sl1 = vs1) (hy : X.N[i]? = some x) (hyl : X.env.scope.names.lookup x = some .local)
    (hi : QI X Fy Ex tg iter ma) (ok : BlkOk X.N X.env.scope scope own) (hv : ∀ i ∈ vs1, i ∈ own.map (·.2))
    (hg : ∀ (s : Shared) (H : Hp) (C : Addr) (cl : List (Str × Addr)) (fp : List Addr), QG (X.blk s H scope (compEnvC scope cl C X.env) fp) Fy E1 sl tg mt)
    (ht : ∀ (s : Shared) (H : Hp) (C : Addr) (cl : List (Str × Addr)) (fp : List Addr), PTs (X.blk s H scope (compEnvC scope cl C X.env) fp) ifs (hT X.K Fy (rdT E1 mc)))
    (hi1 : ∀ (s : Shared) (H : Hp) (C : Addr) (cl : List (Str × Addr)) (fp : List Addr), QI (X.blk s H scope (compEnvC scope cl C X.env) fp) Fy E1 tg1 iter1 ma1)
    (hg1 : ∀ (s : Shared) (H : Hp) (C : Addr) (cl : List (Str × Addr)) (fp : List Addr), QG (X.blk s H scope (compEnvC scope cl C X.env) fp) Fy E1 sl1 tg1 mt1)
    (ht1 : ∀ (s : Shared) (H : Hp) (C : Addr) (cl : List (Str × Addr)) (fp : List Addr), PTs (X.blk s H scope (compEnvC scope cl C X.env) fp) ifs1 (hT X.K Fy (rdT E1 mc1)))
    (he : ∀ (s : Shared) (H : Hp) (C : Addr) (cl : List (Str × Addr)) (fp : List Addr), QE (X.blk s H scope (compEnvC scope cl C X.env) fp) Fy E1 elt m) (hk : QC X Fy Ex st mk)
    (hsw : swapsWith (.ListComp elt [⟨tg, iter, ifs, 0⟩, ⟨tg1, iter1, ifs1, 0⟩] scope pos) (some (.Name x p)) spos.line X.env = pure true := by rfl)
    (hs : ∀ x, foldedSetIterable iter X.env x = pure x := by intro _; rfl) (hs1 : ∀ env x, foldedSetIterable iter1 env x = pure x := by intro _ _; rfl) :
    QC X Fy Ex (.Assign [.Name x p] (.ListComp elt [⟨tg, iter, ifs, 0⟩, ⟨tg1, iter1, ifs1, 0⟩] scope pos) spos :: st) (.lc i (.comp2 mt ma mc mt1 ma1 mc1 m own vs1) mk) := by
  subst hsl hsl1
  refine PSs.imp (pss_cons (ps_setLc2 (wi1 := hI X.K Fy (rdI E1 ma1)) (te := hE X.K Fy (rdE E1 m)) (g := hG X.K Fy (own.map (·.2)) (rdG E1 mt)) (g1 := hG X.K Fy sl1 (rdG E1 mt1)) hc hN hy hyl hsw hi ok hv hg ht hi1 hg1 ht1 he hs hs1) hk) fun D σ H h => ?_
  obtain ⟨W, ρ, s, X, r, rs, q, hp⟩ := h
  show tLc2 _ _ _ _ _ _ _ _ _ σ H (fun x H1 => gName i x σ H1 fun σ' H' => hC _ Fy (rdC Ex mk) D σ' H')
  refine hE_lc2 (fun i h => h) (fun i h => h) ⟨W, ρ, s, fun x s => rdC Ex mk X (ρ.set i (some x)) s, r, rs, q, fun x s1 v H1 W1 q1 l1 r1 v1 => ⟨W1, _, s1, X, r1, (rs.mono l1).set i v1, q1, hp.le l1⟩⟩
end
end DL

end
section
/-! DL 20: exceptions of own classes over any built-in one are made and raised. -/
namespace DL
open PySem PySem.Spec L2
open PyProof.Rows (envOfC)
/-- what the written part says of an own exception class: over which built-in class it stands -/
structure XcB (K : Fg) (C : Addr) (B newId initId : String) (bmB : List Value) : Prop where
  F : ExcBaseFacts B newId initId bmB
  SF : StoreFacts B bmB "object.__setattr__" "object"
  ini : PySem.W.excInitIn K C bmB newId = true
  ovr : PySem.W.excOver K C bmB = true
  hd : PySem.W.hasDictIn K C = true
  sa : PySem.W.findIn K (.ref C) "__setattr__" = some (some (.builtin "object.__setattr__"))
  sub : PySem.W.subIn K (.ref C) (.type "BaseException") = some true
  ty : PySem.W.typeIn K (.ref C) = some (.type "type")
  kp : PySem.W.keepIn K (.ref C) = true
section
variable {prog : Program} {w : World} {A : Around} {E : Value → Shared → Prop} {hp : Heap} {g : Array GenState} {d : Drawn} {t : Nat} {os : OsState} {K : Fg} {C x : Addr} {B newId initId : String} {bmB : List Value}
theorem taker_no {name : Str} (n : PySem.W.findIn K (.ref C) name = some none) : PySem.W.takerIn K C name = some none := NoAttr.taker n
/-- the first field -/
theorem set_first {t1 : Addr} {name : Str} {v : Value} {Q : Unit → Shared → Prop} (T : XcB K C B newId initId bmB) (X : K.In hp) (hx : hp.get? x = some (PySem.W.excObj C t1 none .none)) (no : PySem.W.findIn K (.ref C) name = some none)
    (q : ∀ h' tk' dx, (∀ b o, b ≠ x → hp.get? b = some o → h'.get? b = some o) → hp.objs.size ≤ dx → dx ≠ x → h'.get? x = some (PySem.W.excObj C t1 (some dx) .none) → h'.Ns1 dx (fun y => if y = name then some v else none) → Q () ⟨h', g, d, tk', os⟩) :
    wpAny (model prog w) A (setAttr (.ref x) name v) Q E ⟨hp, g, d, t, os⟩ := by
  have I : PySem.W.InstAt hp x (PySem.W.excObj C t1 none .none) C none := ⟨hx, rfl, rfl, trivial⟩
  obtain ⟨cd, hc, hd'⟩ := PySem.W.any_some T.hd
  have hne : x ≠ hp.objs.size := Nat.ne_of_lt (Heap.lt_size hx)
  refine PySem.W.set_plain X I T.sa (PySem.W.osa_openX (s := ⟨hp, g, d, t + 1, os⟩) T.SF X I T.ovr (taker_no no) fun b => ?_)
  refine wpAny_bind (wpAny_pure (wpAny_bind (PySem.W.instanceDict_exc (s := ⟨hp, g, d, t + 1, os⟩) hx (PySem.W.looks_clsIn X hc) hd' ?_)))
  show wpAny _ _ (Builtin.ObjectAttr.storeInDict hp.objs.size (.str name t) name v) _ _ _
  have e0 : ((hp.push (PySem.W.dictOf [] 0)).update x fun o => { o with dict := some hp.objs.size }).get? hp.objs.size = some (PySem.W.dictOf [] 0) := (Heap.get?_update_ne _ _ _ _ hne.symm).trans (Heap.get?_push_at rfl rfl)
  refine PySem.HandSPX.store_in_new ⟨_, #[], _, e0, rfl, fun e he => absurd he (by simp), fun _ => rfl⟩ fun h' tk' hn hs => ?_
  have e1 : (hp.push (PySem.W.dictOf [] 0)).get? x = some (PySem.W.excObj C t1 none .none) := Heap.get?_push_of_some _ hx
  exact q h' tk' hp.objs.size (fun b o hb ho => (hs.2 b (Nat.ne_of_lt (Heap.lt_size ho))).trans ((Heap.get?_update_ne _ _ _ _ hb).trans (Heap.get?_push_of_some _ ho))) (Nat.le_refl _) hne.symm
    ((hs.2 x hne).trans (Heap.get?_update_self _ e1 rfl)) hn
/-- a further one -/
theorem set_next {t1 dx : Addr} {name : Str} {v : Value} {Q : Unit → Shared → Prop} {m0 : Str → Option Value} {nl : List Str} (T : XcB K C B newId initId bmB) (X : K.In hp) (hx : hp.get? x = some (PySem.W.excObj C t1 (some dx) .none)) (no : PySem.W.findIn K (.ref C) name = some none)
    (hn : hp.Ns1 dx m0) (hw : Within m0 nl) (hz : nl.length ≤ 1000)
    (q : ∀ h' tk', (∀ b o, b ≠ dx → hp.get? b = some o → h'.get? b = some o) → h'.Ns1 dx (fun y => if y = name then some v else m0 y) → Q () ⟨h', g, d, tk', os⟩) :
    wpAny (model prog w) A (setAttr (.ref x) name v) Q E ⟨hp, g, d, t, os⟩ := by
  obtain ⟨oD, _, _, hoD, _, _⟩ := hn.count hw
  have I : PySem.W.InstAt hp x (PySem.W.excObj C t1 (some dx) .none) C (some oD) := ⟨hx, rfl, rfl, hoD⟩
  obtain ⟨cd, hc, hd'⟩ := PySem.W.any_some T.hd
  refine PySem.W.set_plain X I T.sa (PySem.W.osa_openX (s := ⟨hp, g, d, t + 1, os⟩) T.SF X I T.ovr (taker_no no) fun b => ?_)
  refine wpAny_bind (wpAny_pure (wpAny_bind (wpAny_bind (wpAny_loadPart hx (wpAny_bind ((PySem.W.looks_clsIn X hc).here ?_))))))
  rw [hd']
  refine wpAny_pure (a := some dx) ?_
  exact PySem.OEX.store_in_old hn hw hz fun h' tk' h1 h2 => q h' tk' (fun b o hb ho => (h2.2 b hb).trans ho) h1
end
/-! ### self.f = e in such an __init__ -/
section
variable {X : Cx} {pins : List (Addr × Obj)} {σ : St} {H : Hp} {s : Shared} {a C dx : Addr} {B newId initId : String} {bmB : List Value}
/-- a thing at a that is an exception, a new dict at dx -/
theorem inv_two {P : Program} {h' : Heap} {tk' : Nat} {o1 o2 : HO} {ea : Option Addr} (I : Inv X pins σ H s) (e : H a = some (exo a C ea)) (hnd : H dx = none) (hsz : s.heap.objs.size ≤ dx) (k : ∀ b o, b ≠ a → s.heap.get? b = some o → h'.get? b = some o) (hx : ∃ o, h'.get? a = some o)
    (n1 : ObjOk X.prog X.w (upd (upd H dx o1) a o2) h' dx o1) (n2 : ObjOk X.prog X.w (upd (upd H dx o1) a o2) h' a o2) (hda : dx ≠ a) : Inv X pins σ (upd (upd H dx o1) a o2) { s with heap := h', toks := tk' } := by
  have na : ∀ {b : Addr}, H b = none → b ≠ a := fun {b} n z => by rw [z, e] at n; cases n
  have nd : ∀ {b : Addr} {o : Obj}, s.heap.get? b = some o → b ≠ dx := fun {b o} q => Nat.ne_of_lt (Nat.lt_of_lt_of_le (Heap.lt_size q) hsz)
  have st : ∀ {b : Addr} {u : HO}, H b = some u → exo a C ea ≠ u → upd (upd H dx o1) a o2 b = some u := fun {b u} q n => by rw [upd_ne (at_ne e q n), upd_ne (ne_of_none q hnd)]; exact q
  have un : Un X.fs [] H (upd (upd H dx o1) a o2) s.heap h' := ⟨fun b o q n _ _ => k b o (na n) q, fun b o q n _ _ => ⟨o.slots, k b o (na n) q⟩, fun b o q n _ => by rw [upd_ne (na n), upd_ne (nd q)]; exact n,
    fun b o q _ => if hb : b = a then hb ▸ hx else ⟨o, k b o hb q⟩, fun b xs q => st q exo_tup, fun b o u q => st q exo_frz, fun b ps q => ⟨#[], by rw [st q exo_tbl]; simp⟩⟩
  refine I.un (t' := tk') un fun b o q => ?_
  by_cases hb : b = a
  · subst hb
    rw [upd_same] at q
    cases q; exact n2
  · rw [upd_ne hb] at q
    by_cases hd : b = dx
    · subst hd
      rw [upd_same] at q
      cases q; exact n1
    · rw [upd_ne hd] at q
      refine (I.hok b o q).stay (fun c v hc z => k c v ?_ z) (fun c hc => st hc exo_own) (fun c xs hc => st hc exo_tup)
      rcases hc with hc | hc
      · rw [hc]; exact hb
      · exact at_ne e hc exo_own
theorem ofst (T : XcB X.K C B newId initId bmB) {A : Around} {E : Value → Shared → Prop} {Q : Unit → Shared → Prop} {f : Str} {y : V} {u : Value} (I : Inv X pins σ H s) (e : H a = some (exo a C none)) (no : PySem.W.findIn X.K (.ref C) f = some none) (ry : RelV y u)
    (q : ∀ dx s', H dx = none → dx ≠ a → Inv X pins σ (upd (upd H dx (exd dx [(f, y)])) a (exo a C (some dx))) s' → Q () s') : wpAny (model X.prog X.w) A (setAttr (.ref a) f u) Q E s := by
  obtain ⟨t1, ho⟩ := exo_at I.hok e
  obtain ⟨hp, g, d, t, os⟩ := s
  refine set_first T I.kIn ho no fun h' tk' dx k dn dne hx hn => ?_
  have nD : H dx = none := I.hok.fresh dn
  exact q dx _ nD dne (inv_two (P := X.prog) I e nD dn k ⟨_, hx⟩ (exd_ok hn (relO_put (fs := []) ry fun _ => True.intro)) (exo_ok hx) dne)
theorem onxt (T : XcB X.K C B newId initId bmB) {A : Around} {E : Value → Shared → Prop} {Q : Unit → Shared → Prop} {f : Str} {y : V} {u : Value} {fs : List (Str × V)} (I : Inv X pins σ H s) (e : H a = some (exo a C (some dx))) (ed : H dx = some (exd dx fs)) (hl : fs.length ≤ 900) (no : PySem.W.findIn X.K (.ref C) f = some none) (ry : RelV y u)
    (q : ∀ s', Inv X pins σ (upd H dx (exd dx ((f, y) :: fs))) s' → Q () s') : wpAny (model X.prog X.w) A (setAttr (.ref a) f u) Q E s := by
  obtain ⟨t1, ho⟩ := exo_at I.hok e
  obtain ⟨mA, hns, rel⟩ := exd_at I.hok ed
  obtain ⟨hp, g, d, t, os⟩ := s
  refine set_next T I.kIn ho no hns (within_of rel) (by rw [List.length_map]; omega) fun h' tk' k hn => ?_
  have hd : ∃ o, h'.get? dx = some o := let ⟨o, _, _, e', _⟩ := hn; ⟨o, e'⟩
  exact q _ (I.write (t' := tk') (x := dx) (e := dx) (by rw [ed]; exact True.intro) (.inl rfl) k hd (exd_ok hn (relO_put ry rel)))
/-- self.f = e -/
def tFst (K : Fg) (C : Addr) (f : Str) (to te : TE) : TS := fun D σ H => te σ H fun y H1 => to σ H1 fun x H2 => ∃ a : Addr, x = .ref a ∧
  ((H2 a = some (exo a C none) ∧ ∀ dx, H2 dx = none → dx ≠ a → D.nx σ (upd (upd H2 dx (exd dx [(f, y)])) a (exo a C (some dx)))) ∨
    ∃ (dx : Addr) (fs : List (Str × V)), H2 a = some (exo a C (some dx)) ∧ H2 dx = some (exd dx fs) ∧ fs.length ≤ 900 ∧ D.nx σ (upd H2 dx (exd dx ((f, y) :: fs))))
theorem ps_fst {o e : Expr} {to te : TE} {f : Str} {p' pos : Pos} (T : XcB X.K C B newId initId bmB) (no : PySem.W.findIn X.K (.ref C) f = some none) (ho : PE X o to) (he : PE X e te) (hs : swapsWith e (some (.Attribute o f p')) pos.line X.env = pure false := by rfl) :
    PS X (.Assign [.Attribute o f p'] e pos) (tFst X.K C f to te) := by
  refine ⟨fun pins s σ H D I h => ?_⟩
  refine plainObj_wpAny_Assign_Attribute (thn (he.run pins s σ H _ I h) fun v s1 ⟨y, H1, I1, r1, q1⟩ => thn (ho.run pins s1 σ H1 _ I1 q1) fun u s2 ⟨x, H2, I2, r2, a, ex, q⟩ => ?_) hs
  subst ex
  obtain rfl : u = Value.ref a := r2
  rcases q with ⟨ea, q⟩ | ⟨dx, fs, ea, ed, hl, q⟩
  · exact ofst T I2 ea no r1 fun dx s' n ne J => ⟨σ, _, J, q dx n ne⟩
  · exact onxt T I2 ea ed hl no r1 fun s' J => ⟨σ, _, J, q⟩
end
/-! ### C(e, ..) -/
section
variable {X : Cx} {B newId initId : String} {bmB : List Value}
theorem pmk_x {CX : CXT} {x : Str} {C fI : Addr} {k : Nat} {fd : FuncData} {ps : List Str} {sp : Sp} {e : Expr} {es : List Expr} {ta : TA} {p pos : Pos} (T : XcB X.K C B newId initId bmB) (iC : PySem.W.findIn X.K (.ref C) "__init__" = some (some (.ref fI))) (tI : PySem.W.typeIn X.K (.ref fI) = some (.type "function"))
    (Fi : FnOk X.prog X.w X.K X.mg X.base CX k fI fd ps sp) (hr : Room (k + 1) X.A) (hb : Binds X.K fd ps []) (hx : Passes CX X (fun _ _ _ => False)) (hg : Gl X x) (hm : X.mg x = some (.ref C)) (ha : PA X (e :: es) ta)
    (hdb : (x == ("__debug__" : Str)) = false := by decide) (he : starEach (e :: es) X.env = (false, eval e X.env) :: starEach es X.env := by rfl) (hpl : (backTo pos (starEach es X.env)).any (·.1) = false := by rfl) :
    PMk X (.Call (.Name x p) (e :: es) [] pos) (tMkO C sp [] ta) := by
  intro pins s σ H Q I h
  refine wpAny_Call_Name_kw (ld_glob I hg hm ?_ hdb)
  refine PySem.W.callWith_K (h₀ := X.base) I.ok.mod.kin T.kp (thn (ha.run pos pins s σ H _ I h) fun us s1 ⟨vs, H1, I1, r1, hz, q1⟩ => ⟨I1.kIn, ?_⟩) he hpl
  show wpAny _ _ (call (.ref C) us) _ _ _
  obtain ⟨nm, N, q, bs, bm, hdct, sn, sub, ab, col, dd, k0, k1, k2, k3, k5, hC, hT⟩ := PySem.W.excInit_of I1.kIn T.ini
  obtain ⟨hp, g, dr, tk, os⟩ := s1
  have sz1 : hp.objs.size ≤ hp.objs.size + 1 := Nat.le_succ _
  have hn : H1 (hp.objs.size + 1) = none := I1.hok.fresh sz1
  have hq := q1 (hp.objs.size + 1) hn
  have up2 : ∀ b o, hp.get? b = some o → ((hp.push (PySem.W.kdv_tup us)).push (PySem.HandSPX.excO C hp.objs.size)).get? b = some o := fun b o e => Heap.get?_push_of_some _ (Heap.get?_push_of_some _ e)
  have at_ : ((hp.push (PySem.W.kdv_tup us)).push (PySem.HandSPX.excO C hp.objs.size)).get? (hp.objs.size + 1) = some (PySem.HandSPX.excO C hp.objs.size) := by heap_get
  have J : Inv X pins σ (upd H1 (hp.objs.size + 1) (exo (hp.objs.size + 1) C none)) ⟨(hp.push (PySem.W.kdv_tup us)).push (PySem.HandSPX.excO C hp.objs.size), g, dr, tk, os⟩ :=
    I1.laid (t' := tk) (o := exo (hp.objs.size + 1) C none) up2 sz1 (exo_ok at_)
  have r2 : Vals (V.ref (hp.objs.size + 1) :: (vs ++ [])) (Value.ref (hp.objs.size + 1) :: (us ++ [])) := .cons rfl (r1.append .nil)
  have hl : (Value.ref (hp.objs.size + 1) :: us ++ []).length = ps.length := r2.length.symm.trans (Fi.len _ _ _ _ hq)
  have hus : us.length ≤ sizeLine := by
    rw [← Paired.length r1, sizeLine_eq]; omega
  have run := Fi.run (A := X.A.under (.builtin "type.__call__" ⟨.ref C :: us, []⟩)) X.stack ⟨(hp.push (PySem.W.kdv_tup us)).push (PySem.HandSPX.excO C hp.objs.size), g, dr, tk, os⟩ _ ⟨Value.ref (hp.objs.size + 1) :: us, []⟩ (Value.ref (hp.objs.size + 1) :: (us ++ [])) _ _ (fun _ _ _ => False)
    (hr.make C us []) (J.env0.make C us []) (by have z := hb _ (Value.ref (hp.objs.size + 1) :: us) J.kIn hl; rw [List.cons_append] at z; exact z) r2 hq
  refine wpAny_call (PySem.HandSPX.call_own T.F hT hC (PySem.W.looks_findIn I1.kIn iC) (fun self => PySem.W.bind_fn I1.kIn self tI) hus (codeAny_mono run fun r s' hq' => ?_))
  cases r with
  | error er => exact hx pins σ _ _ er s' J hq'
  | ok fl =>
    cases fl with
    | ret u =>
      obtain ⟨v, H2, os2, bare2, un2, hok2, rv, ev, d, fs, ea, ed, hd1, q2⟩ := hq'
      subst ev
      obtain ⟨h2, g2, d2, t2, os'⟩ := s'
      exact ⟨rv, mk_end (raises_own T.sub T.ty) I1 sz1 up2 un2 hok2 os2 bare2 ea ed hd1 q2⟩
    | next => exact False.elim hq'
    | brk => exact False.elim hq'
    | cont => exact False.elim hq'
end
/-! ### an __init__ that keeps its one or two arguments -/
section
variable {P : Program} {w : World} {K : Fg} {mg : Str → Option Value} {base : Heap} {B newId initId : String} {bmB : List Value}
def spIni (C : Addr) (fs : List Str) : Sp := fun vs H Q _ => ∃ a ws, vs = .ref a :: ws ∧ ws.length = fs.length ∧ H a = some (exo a C none) ∧ ∀ dx, H dx = none → dx ≠ a → ∀ H', H' a = some (exo a C (some dx)) → H' dx = some (exd dx (fs.zip ws).reverse) → (∀ b, b ≠ a → b ≠ dx → H' b = H b) → Q .non H'
theorem fn_ini1 {C f : Addr} {fd : FuncData} {qual y : Str} {st : Stmt} {p1 p2 p3 pos : Pos} (T : XcB K C B newId initId bmB) (no : PySem.W.findIn K (.ref C) y = some none) (F : L2.Fun K "__init__" qual st f fd) (S : FnScope ["self", y] ["self", y] (defScope st))
    (hbd : defBody st = [.Assign [.Attribute (.Name "self" p1) y p2] (.Name y p3) pos]) (hn : y ≠ "self") (hy : (y == ("__debug__" : Str)) = false ∧ (y == ("__classdict__" : Str)) = false) : FnOk P w K mg base CX0 1 f fd ["self", y] (spIni C [y]) := by
  refine F.ok (k := 0) S (fun vs H Q E ⟨a, ws, e, hl, _⟩ => by rw [e]; simp [hl]) fun cdv A outer s H vs Q E hr ⟨a, ws, e, hl, ha, q⟩ => ?_
  subst e
  match ws, hl with
  | [z], _ =>
    rw [hbd]
    have nd : (["self", y] : List Str).Nodup := S.nd
    have v0 : Vis (defScope st) "self" := (S.par "self" (by simp)).elim .inl fun h => .inr (.inl h)
    have v1 : Vis (defScope st) y := (S.par y (by simp)).elim .inl fun h => .inr (.inl h)
    refine ⟨_, pss_one (ps_fst T no (pe_var (i := 0) rfl v0 (by decide) (by decide)) (pe_var (i := 1) rfl v1 hy.1 hy.2)), ?_⟩
    refine ⟨z, rfl, .ref a, rfl, a, rfl, .inl ⟨ha, fun dx hdx hne => ?_⟩⟩
    exact q dx hdx hne _ upd_same (by rw [upd_ne hne, upd_same]; rfl) fun b h1 h2 => by rw [upd_ne h1, upd_ne h2]
theorem fn_ini2 {C f : Addr} {fd : FuncData} {qual y y2 : Str} {st : Stmt} {p1 p2 p3 pos p4 p5 p6 pos2 : Pos} (T : XcB K C B newId initId bmB) (no : PySem.W.findIn K (.ref C) y = some none) (no2 : PySem.W.findIn K (.ref C) y2 = some none) (F : L2.Fun K "__init__" qual st f fd) (S : FnScope ["self", y, y2] ["self", y, y2] (defScope st))
    (hbd : defBody st = [.Assign [.Attribute (.Name "self" p1) y p2] (.Name y p3) pos, .Assign [.Attribute (.Name "self" p4) y2 p5] (.Name y2 p6) pos2]) (hy : (y == ("__debug__" : Str)) = false ∧ (y == ("__classdict__" : Str)) = false) (hy2 : (y2 == ("__debug__" : Str)) = false ∧ (y2 == ("__classdict__" : Str)) = false) : FnOk P w K mg base CX0 1 f fd ["self", y, y2] (spIni C [y, y2]) := by
  refine F.ok (k := 0) S (fun vs H Q E ⟨a, ws, e, hl, _⟩ => by rw [e]; simp [hl]) fun cdv A outer s H vs Q E hr ⟨a, ws, e, hl, ha, q⟩ => ?_
  subst e
  match ws, hl with
  | [z, z2], _ =>
    rw [hbd]
    have v0 : Vis (defScope st) "self" := (S.par "self" (by simp)).elim .inl fun h => .inr (.inl h)
    have v1 : Vis (defScope st) y := (S.par y (by simp)).elim .inl fun h => .inr (.inl h)
    have v2 : Vis (defScope st) y2 := (S.par y2 (by simp)).elim .inl fun h => .inr (.inl h)
    refine ⟨_, pss_cons (ps_fst T no (pe_var (i := 0) rfl v0 (by decide) (by decide)) (pe_var (i := 1) rfl v1 hy.1 hy.2)) (pss_one (ps_fst T no2 (pe_var (i := 0) rfl v0 (by decide) (by decide)) (pe_var (i := 2) rfl v2 hy2.1 hy2.2))), ?_⟩
    refine ⟨z, rfl, .ref a, rfl, a, rfl, .inl ⟨ha, fun dx hdx hne => ?_⟩⟩
    refine ⟨z2, rfl, .ref a, rfl, a, rfl, .inr ⟨dx, _, upd_same, by rw [upd_ne hne, upd_same], by simp, ?_⟩⟩
    exact q dx hdx hne _ (by rw [upd_ne (Ne.symm hne), upd_same]) (by rw [upd_same]; rfl) fun b h1 h2 => by rw [upd_ne h2, upd_ne h1, upd_ne h2]
end
end DL

end
namespace DL
open PySem PySem.Spec L2
open PyProof.Rows (envOfC)
local macro_rules | `(tactic| walk_at "dl") => `(tactic| simp (failIfUnchanged := false) only [rdC, rdE, rdL, rdT, rdI, rdG, rdGs, rdO, startD_1, startD_2, startD_3, startD_4, startD_5, startD_6, startD_7, startD_8, List.length_cons, List.length_nil, Nat.zero_add, Nat.reduceAdd, List.replicate_zero, List.replicate_succ, List.getElem?_cons_zero, List.getElem?_cons_succ, List.set_cons_zero, List.set_cons_succ, setS,
  asDs, asD_d', asD_scr, asT_d, frzs, frz_d, newL_fz, newL_loc, newL_perm, guard_d, items_l, items_t, retD_obj, b_len_t, b_len_l, b_abs, b_int, b_intb, b_isi, b_all, b_any, b_sum, b_max, b_min, b_repr, b_tup_l, b_tup_t, b_list_l, b_list_t, b_dm, b_str, Option.some.injEq, exists_eq_left', exists_eq_left, exists_and_left, and_assoc, retD_d, cutS_self, cutS_app, Option.bind_some, Option.map_some, Vl.d.injEq, PyData.bool.injEq, PyData.int.injEq, PyData.str.injEq, PyData.tuple.injEq, PyData.list.injEq, cmpV, cmpD_lt, cmpD_le, cmpD_gt, cmpD_ge, cmpD_eqI, cmpD_neI,
  binD_add, binD_sub, binD_mul, binD_fdiv, binD_mod, binD_pow, binD_addT, binD_addL, binD_mulL, binD_mulT, wipeR, List.map_cons, List.map_nil, List.cons.injEq, exists_eq, Bool.false_eq_true, if_true, if_false, ite_true, ite_false, Bool.not_true, Bool.not_false, true_and, and_true, decide_eq_true_eq, ixD_t, ixD_l, slcD_t, slcD_l, revD_l, revD_t, atI_0, atI_1, atI_2, atI_3, atI_4, cutD_1, cutD_2, cutD_5, List.drop_succ_cons, List.drop_zero, List.drop_nil, Int.cast_ofNat_Int, Int.reduceLT, Int.reduceLE, Int.reduceEq, Int.reduceNeg, Int.reduceToNat, Int.reducePow, decide_true, decide_false])
local macro_rules | `(tactic| walk_at "sz") => `(tactic| repeat refine ⟨sz _ (by decide), ?_⟩)
def m__law_drop : C := .iff (.cmp .gt (.ix (.var 0) (.cI 0)) (.cI 0)) (.asg (.tT (.cons (.tS (.var 0) (.cI 0)) (.cons (.tN 2) .nil))) (.bi .divmod (.cons (.ix (.var 0) (.cI 0)) (.cons (.var 1) .nil))) (.ret (.var 2) .done)) (.done) (.asg (.tS (.var 0) (.cI 1)) (.bin .mod (.bi .int (.cons (.bin .add (.bin .mul (.ix (.var 0) (.cI 1)) (.cI 66041)) (.cI 17027)) .nil)) (.cI 2147482951)) (.ret (.bin .mod (.bi .int (.cons (.bin .fdiv (.ix (.var 0) (.cI 1)) (.cI 883)) .nil)) (.var 1)) .done))
def m__law_any (S__law_drop : Spec) : C := .ret (.ix (.var 1) (.call "_law_drop" S__law_drop (.cons (.var 0) (.cons (.bi .len (.cons (.var 1) .nil)) .nil)))) .done
def m__law_made_value : C := .asg (.tN 2) (.cI 0) (.for (.tN 3) (.iVal (.rev (.var 0))) (.asg (.tN 2) (.bin .add (.bin .mul (.var 2) (.var 1)) (.var 3)) (.done)) (.ret (.var 2) .done))
def m__law_dots_1 (S__law_drop : Spec) (S__law_any : Spec) (S__law_made_value : Spec) : C := .app (.var 2) (.tup (.cons (.var 3) (.cons (.var 7) .nil))) (.asg (.tN 3) (.bin .add (.var 3) (.call "_law_any" S__law_any (.cons (.var 0) (.cons (.lst .fz (.cons (.cI 1) (.cons (.cI 1) (.cons (.cI 2) (.cons (.cI 3) (.cons (.bin .add (.cI 1) (.call "_law_drop" S__law_drop (.cons (.var 0) (.cons (.cI 9) .nil)))) .nil)))))) .nil)))) (.done))
def m__law_dots_b2 (S__law_drop : Spec) (S__law_any : Spec) (S__law_made_value : Spec) : C := .asg (.tN 7) (.ite (.cmp .eq (.var 5) (.cI 0)) (.call "_law_drop" S__law_drop (.cons (.var 0) (.cons (.cI 20) .nil))) (.call "_law_made_value" S__law_made_value (.cons (.var 4) (.cons (.var 3) .nil)))) (m__law_dots_1 S__law_drop S__law_any S__law_made_value)
def m__law_dots_3 (S__law_drop : Spec) (S__law_any : Spec) (S__law_made_value : Spec) : C := .ret (.tup (.cons (.bi .tuple (.cons (.var 2) .nil)) (.cons (.cmp .gt (.var 5) (.cI 1)) .nil))) .done
def m__law_dots (S__law_drop : Spec) (S__law_any : Spec) (S__law_made_value : Spec) : C := .par [1, 2, 3] (.cons (.bin .add (.cI 1) (.call "_law_drop" S__law_drop (.cons (.var 0) (.cons (.cI 7) .nil)))) (.cons (.lst .loc (.nil)) (.cons (.call "_law_any" S__law_any (.cons (.var 0) (.cons (.lst .fz (.cons (.cI 0) (.cons (.neg (.cI 3)) (.cons (.bin .sub (.call "_law_drop" S__law_drop (.cons (.var 0) (.cons (.cI 20) .nil))) (.cI 10)) (.cons (.bin .pow (.cI 10) (.cI 15)) .nil))))) .nil))) .nil))) (.par [4, 5] (.cons (.comp (.tN 6) (.iR1 (.bin .add (.cI 1) (.call "_law_drop" S__law_drop (.cons (.var 0) (.cons (.bi .min2 (.cons (.var 1) (.cons (.cI 4) .nil))) .nil))))) (.cB true) (.bin .sub (.call "_law_drop" S__law_drop (.cons (.var 0) (.cons (.cI 9) .nil))) (.cI 4)) [("_law_k", 6)]) (.cons (.call "_law_drop" S__law_drop (.cons (.var 0) (.cons (.cI 5) .nil))) .nil)) (.for (.tN 6) (.iR1 (.var 1)) (m__law_dots_b2 S__law_drop S__law_any S__law_made_value) (.iff (.cmp .eq (.var 5) (.cI 1)) (.asg (.tN 8) (.call "_law_drop" S__law_drop (.cons (.var 0) (.cons (.var 1) .nil))) (.asg (.tS (.var 2) (.var 8)) (.tup (.cons (.ix (.ix (.var 2) (.var 8)) (.cI 0)) (.cons (.bin .add (.ix (.ix (.var 2) (.var 8)) (.cI 1)) (.call "_law_any" S__law_any (.cons (.var 0) (.cons (.lst .fz (.cons (.cI 1) (.cons (.neg (.cI 1)) (.cons (.cI 2) (.cons (.cI 6) (.cons (.cI 24) .nil)))))) .nil)))) .nil))) (.done))) (.done) (m__law_dots_3 S__law_drop S__law_any S__law_made_value))))
def m_is_integer : C := .ret (.and (.bi (.isi .int) (.cons (.var 0) .nil)) (.not (.bi (.isi .bool) (.cons (.var 0) .nil)))) .done
def m_check_values (S_is_integer : Spec) : C := .iff (.or (.not (.bi (.isi .tuple) (.cons (.var 0) .nil))) (.cmp .eq (.var 0) (.tup (.nil)))) (.nev .done) (.done) (.for (.tT (.cons (.tN 1) (.cons (.tN 2) .nil))) (.iEn (.var 0)) (.iff (.or (.cmp .eq (.var 1) (.glob "MOST_PLACES" 40)) (.not (.call "is_integer" S_is_integer (.cons (.var 2) .nil)))) (.nev .done) (.done) (.done)) (.done))
def m_loose_pairs : C := .asg (.tN 1) (.lRng (.bi .len (.cons (.var 0) .nil))) (.lc 2 (.comp2 (.tN 3) (.iVal (.var 1)) (.cB true) (.tN 4) (.iVal (.var 1)) (.cmp .lt (.var 3) (.var 4)) (.tup (.cons (.var 3) (.cons (.var 4) .nil))) [("first", 3), ("second", 4)] [4]) (.ret (.comp (.tN 5) (.iVal (.var 2)) (.cmp .ne (.bin .mod (.bin .sub (.ix (.var 0) (.ix (.var 5) (.cI 0))) (.ix (.var 0) (.ix (.var 5) (.cI 1)))) (.bin .sub (.ix (.var 5) (.cI 1)) (.ix (.var 5) (.cI 0)))) (.cI 0)) (.var 5) [("pair", 5)]) .done))
def m_all_steps : C := .par [1, 2] (.cons (.lst .loc (.nil)) (.cons (.bi .list (.cons (.var 0) .nil)) .nil)) (.whl (.cmp .ne (.var 2) (.lst .fz (.nil))) (.app (.var 1) (.ix (.var 2) (.cI 0)) (.lc 2 (.comp (.tT (.cons (.tN 3) (.cons (.tN 4) .nil))) (.iZip (.var 2) (.slc (.var 2) (.cons (.cI 1) .nil) (.nil))) (.cB true) (.bin .sub (.var 4) (.var 3)) [("before", 3), ("after", 4)]) (.done))) (.ret (.var 1) .done))
def m_certify_values (S_check_values : Spec) (S_loose_pairs : Spec) (S_all_steps : Spec) : C := .expr (.call "check_values" S_check_values (.cons (.var 0) .nil)) (.asg (.tN 1) (.call "loose_pairs" S_loose_pairs (.cons (.var 0) .nil)) (.ret (.ite (.cmp .eq (.var 1) (.lst .fz (.nil))) (.tup (.cons (.tup (.cons (.cS "kept") (.cons (.var 0) .nil))) (.cons (.bi .tuple (.cons (.call "all_steps" S_all_steps (.cons (.var 0) .nil)) .nil)) .nil))) (.tup (.cons (.tup (.cons (.cS "loose") (.cons (.var 0) .nil))) (.cons (.ix (.var 1) (.cI 0)) .nil)))) .done))
def m__law_loose_of : C := .asg (.tN 1) (.lst .loc (.nil)) (.for (.tN 2) (.iR1 (.bi .len (.cons (.var 0) .nil))) (.ext (.var 1) (.comp (.tN 3) (.iR1 (.var 2)) (.cmp .ne (.bin .mod (.bi .int (.cons (.bin .sub (.ix (.var 0) (.var 2)) (.ix (.var 0) (.var 3))) .nil)) (.bin .sub (.var 2) (.var 3))) (.cI 0)) (.tup (.cons (.var 3) (.cons (.var 2) .nil))) [("_law_i", 3)]) (.done)) (.ret (.var 1) .done))
def m_are_whole_numbers (S_is_integer : Spec) : C := .ret (.and (.bi (.isi .tuple) (.cons (.var 0) .nil)) (.and (.cmp .eq (.bi .len (.cons (.var 0) .nil)) (.var 1)) (.bi .all (.cons (.comp (.tN 2) (.iVal (.var 0)) (.cB true) (.call "is_integer" S_is_integer (.cons (.var 2) .nil)) [("each", 2)]) .nil)))) .done
def m_are_values (S_are_whole_numbers : Spec) : C := .ret (.and (.bi (.isi .tuple) (.cons (.var 0) .nil)) (.and (.ch2 .le .le (.cI 1) (.bi .len (.cons (.var 0) .nil)) (.glob "LONGEST_VALUES" 40)) (.call "are_whole_numbers" S_are_whole_numbers (.cons (.var 0) (.cons (.bi .len (.cons (.var 0) .nil)) .nil))))) .done
def m_is_pair_below (S_are_whole_numbers : Spec) : C := .ret (.and (.call "are_whole_numbers" S_are_whole_numbers (.cons (.var 0) (.cons (.cI 2) .nil))) (.ch3 .le .lt .lt (.cI 0) (.ix (.var 0) (.cI 0)) (.ix (.var 0) (.cI 1)) (.var 1))) .done
def m_divides : C := .ret (.ite (.cmp .eq (.var 0) (.cI 0)) (.cmp .eq (.var 1) (.cI 0)) (.cmp .eq (.bin .mod (.var 1) (.var 0)) (.cI 0))) .done
def m_is_shown_of_values (S_is_pair_below : Spec) (S_divides : Spec) (S_are_whole_numbers : Spec) : C := .iff (.cmp .eq (.var 0) (.cS "loose")) (.iff (.not (.call "is_pair_below" S_is_pair_below (.cons (.var 2) (.cons (.bi .len (.cons (.var 1) .nil)) .nil)))) (.ret (.cB false) .done) (.done) (.asg (.tT (.cons (.tN 3) (.cons (.tN 4) .nil))) (.var 2) (.ret (.not (.call "divides" S_divides (.cons (.bin .sub (.var 4) (.var 3)) (.cons (.bin .sub (.ix (.var 1) (.var 4)) (.ix (.var 1) (.var 3))) .nil)))) .done))) (.done) (.iff (.not (.call "are_whole_numbers" S_are_whole_numbers (.cons (.var 2) (.cons (.bi .len (.cons (.var 1) .nil)) .nil)))) (.ret (.cB false) .done) (.done) (.asg (.tN 5) (.bi .list (.cons (.var 1) .nil)) (.for (.tT (.cons (.tN 6) (.cons (.tN 7) .nil))) (.iEn (.var 2)) (.iff (.or (.cmp .ne (.ix (.var 5) (.cI 0)) (.var 7)) (.not (.bi .all (.cons (.comp (.tN 8) (.iR2 (.cI 1) (.bin .add (.var 6) (.cI 1))) (.cB true) (.call "divides" S_divides (.cons (.var 8) (.cons (.var 7) .nil))) [("part", 8)]) .nil)))) (.ret (.cB false) .done) (.done) (.lc 5 (.comp (.tT (.cons (.tN 9) (.cons (.tN 10) .nil))) (.iZip (.var 5) (.slc (.var 5) (.cons (.cI 1) .nil) (.nil))) (.cB true) (.bin .sub (.var 10) (.var 9)) [("before", 9), ("after", 10)]) (.done))) (.ret (.cB true) .done))))
def m_are_points (S_are_whole_numbers : Spec) : C := .iff (.or (.not (.bi (.isi .tuple) (.cons (.var 0) .nil))) (.not (.ch2 .le .le (.cI 1) (.bi .len (.cons (.var 0) .nil)) (.glob "LONGEST_POINTS" 13)))) (.ret (.cB false) .done) (.done) (.iff (.not (.bi .all (.cons (.comp (.tN 1) (.iVal (.var 0)) (.cB true) (.call "are_whole_numbers" S_are_whole_numbers (.cons (.var 1) (.cons (.cI 2) .nil))) [("point", 1)]) .nil))) (.ret (.cB false) .done) (.done) (.ret (.bi .all (.cons (.comp (.tT (.cons (.tN 2) (.cons (.tN 3) .nil))) (.iZip (.var 0) (.slc (.var 0) (.cons (.cI 1) .nil) (.nil))) (.cB true) (.cmp .lt (.ix (.var 2) (.cI 0)) (.ix (.var 3) (.cI 0))) [("before", 2), ("after", 3)]) .nil)) .done))
def m_gap_and_product : C := .asg (.tT (.cons (.tN 2) (.cons (.tN 3) .nil))) (.ix (.var 0) (.neg (.cI 1))) (.asg (.tN 4) (.cI 1) (.for (.tT (.cons (.tT (.cons (.tN 5) (.cons (.tN 6) .nil))) (.cons (.tN 7) .nil))) (.iZip (.var 0) (.var 1)) (.par [3, 4] (.cons (.bin .sub (.var 3) (.bin .mul (.var 7) (.var 4))) (.cons (.bin .mul (.var 4) (.bin .sub (.var 2) (.var 5))) .nil)) (.done)) (.ret (.tup (.cons (.var 3) (.cons (.var 4) .nil))) .done)))
def m_is_stopped_at (S_gap_and_product : Spec) (S_divides : Spec) : C := .asg (.tN 2) (.lst .loc (.nil)) (.for (.tN 3) (.iR1 (.var 1)) (.asg (.tT (.cons (.tN 4) (.cons (.tN 5) .nil))) (.call "gap_and_product" S_gap_and_product (.cons (.slc (.var 0) (.nil) (.cons (.bin .add (.var 3) (.cI 1)) .nil)) (.cons (.var 2) .nil))) (.iff (.not (.call "divides" S_divides (.cons (.var 5) (.cons (.var 4) .nil)))) (.ret (.cB false) .done) (.done) (.app (.var 2) (.bin .fdiv (.var 4) (.var 5)) (.done)))) (.asg (.tT (.cons (.tN 4) (.cons (.tN 5) .nil))) (.call "gap_and_product" S_gap_and_product (.cons (.slc (.var 0) (.nil) (.cons (.bin .add (.var 1) (.cI 1)) .nil)) (.cons (.var 2) .nil))) (.ret (.not (.call "divides" S_divides (.cons (.var 5) (.cons (.var 4) .nil)))) .done)))
def m_value_there : C := .asg (.tT (.cons (.tN 2) (.cons (.tN 3) .nil))) (.tup (.cons (.cI 0) (.cons (.cI 1) .nil))) (.for (.tN 4) (.iVal (.var 0)) (.par [2, 3] (.cons (.bin .add (.var 2) (.bin .mul (.var 4) (.var 3))) (.cons (.bin .mul (.var 3) (.var 1)) .nil)) (.done)) (.ret (.var 2) .done))
def m_is_shown_of_points (S_is_integer : Spec) (S_is_stopped_at : Spec) (S_are_whole_numbers : Spec) (S_value_there : Spec) : C := .iff (.cmp .eq (.var 0) (.cS "never whole")) (.ret (.and (.call "is_integer" S_is_integer (.cons (.var 2) .nil)) (.and (.ch2 .le .lt (.cI 0) (.var 2) (.bi .len (.cons (.var 1) .nil))) (.call "is_stopped_at" S_is_stopped_at (.cons (.var 1) (.cons (.var 2) .nil))))) .done) (.done) (.iff (.or (.not (.bi (.isi .tuple) (.cons (.var 2) .nil))) (.not (.ch2 .le .le (.cI 1) (.bi .len (.cons (.var 2) .nil)) (.bi .len (.cons (.var 1) .nil))))) (.ret (.cB false) .done) (.done) (.iff (.not (.call "are_whole_numbers" S_are_whole_numbers (.cons (.var 2) (.cons (.bi .len (.cons (.var 2) .nil)) .nil)))) (.ret (.cB false) .done) (.done) (.ret (.bi .all (.cons (.comp (.tT (.cons (.tN 3) (.cons (.tN 4) .nil))) (.iVal (.var 1)) (.cB true) (.cmp .eq (.call "value_there" S_value_there (.cons (.var 2) (.cons (.var 3) .nil))) (.var 4)) [("place", 3), ("value", 4)]) .nil)) .done)))
def m_accepts (S_are_facts : Spec) (S_are_whole_numbers : Spec) (S_is_shown_of_answer : Spec) (S_is_shown_of_facts : Spec) (S_are_values : Spec) (S_is_shown_of_values : Spec) (S_are_points : Spec) (S_is_shown_of_points : Spec) : C := .iff (.or (.not (.bi (.isi .tuple) (.cons (.var 0) .nil))) (.or (.cmp .lt (.bi .len (.cons (.var 0) .nil)) (.cI 2)) (.not (.bi (.isi .str) (.cons (.ix (.var 0) (.cI 0)) .nil))))) (.ret (.cB false) .done) (.done) (.par [2, 3] (.cons (.ix (.var 0) (.cI 0)) (.cons (.slc (.var 0) (.cons (.cI 1) .nil) (.nil)) .nil)) (.iff (.cmp .isIn (.var 2) (.tup (.cons (.cS "sure") (.cons (.cS "open") .nil)))) (.iff (.or (.cmp .ne (.bi .len (.cons (.var 3) .nil)) (.cI 4)) (.or (.not (.call "are_facts" S_are_facts (.cons (.ix (.var 3) (.cI 0)) .nil))) (.or (.not (.call "are_whole_numbers" S_are_whole_numbers (.cons (.slc (.var 3) (.cons (.cI 1) .nil) (.nil)) (.cons (.cI 3) .nil)))) (.cmp .lt (.ix (.var 3) (.cI 3)) (.cI 0))))) (.ret (.cB false) .done) (.done) (.ret (.call "is_shown_of_answer" S_is_shown_of_answer (.cons (.var 2) (.cons (.ix (.var 3) (.cI 0)) (.cons (.slc (.var 3) (.cons (.cI 1) .nil) (.nil)) (.cons (.var 1) .nil))))) .done)) (.done) (.iff (.cmp .ne (.bi .len (.cons (.var 3) .nil)) (.cI 1)) (.ret (.cB false) .done) (.done) (.iff (.cmp .isIn (.var 2) (.tup (.cons (.cS "fits") (.cons (.cS "quarrel") .nil)))) (.ret (.and (.call "are_facts" S_are_facts (.cons (.ix (.var 3) (.cI 0)) .nil)) (.call "is_shown_of_facts" S_is_shown_of_facts (.cons (.var 2) (.cons (.ix (.var 3) (.cI 0)) (.cons (.var 1) .nil))))) .done) (.done) (.iff (.cmp .isIn (.var 2) (.tup (.cons (.cS "kept") (.cons (.cS "loose") .nil)))) (.ret (.and (.call "are_values" S_are_values (.cons (.ix (.var 3) (.cI 0)) .nil)) (.call "is_shown_of_values" S_is_shown_of_values (.cons (.var 2) (.cons (.ix (.var 3) (.cI 0)) (.cons (.var 1) .nil))))) .done) (.done) (.iff (.cmp .isIn (.var 2) (.tup (.cons (.cS "whole") (.cons (.cS "never whole") .nil)))) (.ret (.and (.call "are_points" S_are_points (.cons (.ix (.var 3) (.cI 0)) .nil)) (.call "is_shown_of_points" S_is_shown_of_points (.cons (.var 2) (.cons (.ix (.var 3) (.cI 0)) (.cons (.var 1) .nil))))) .done) (.done) (.ret (.cB false) .done)))))))
def m__law_lots_at : C := .asg (.tN 2) (.lst .loc (.cons (.cI 1) .nil)) (.for (.tN 3) (.iR2 (.cI 1) (.var 1)) (.app (.var 2) (.bin .fdiv (.bin .mul (.ix (.var 2) (.neg (.cI 1))) (.bin .add (.bin .sub (.var 0) (.var 3)) (.cI 1))) (.var 3)) (.done)) (.ret (.var 2) .done))
def m__law_value_by (S__law_lots_at : Spec) : C := .ret (.bi .sum (.cons (.comp (.tT (.cons (.tN 2) (.cons (.tN 3) .nil))) (.iZip (.var 0) (.call "_law_lots_at" S__law_lots_at (.cons (.var 1) (.cons (.bi .len (.cons (.var 0) .nil)) .nil)))) (.cB true) (.bin .mul (.var 2) (.var 3)) [("_law_step_here", 2), ("_law_lots", 3)]) .nil)) .done
def m__law_table_right (S_certify_values : Spec) (S__law_loose_of : Spec) (S_accepts : Spec) (S__law_value_by : Spec) : C := .par [1, 2] (.cons (.call "certify_values" S_certify_values (.cons (.var 0) .nil)) (.cons (.call "_law_loose_of" S__law_loose_of (.cons (.var 0) .nil)) .nil)) (.iff (.or (.cmp .ne (.callK "certify_values" ["values"] ["values"] S_certify_values (.cons (.var 0) .nil)) (.var 1)) (.not (.call "accepts" S_accepts (.cons (.ix (.var 1) (.cI 0)) (.cons (.ix (.var 1) (.cI 1)) .nil))))) (.ret (.cB false) .done) (.done) (.iff (.cmp .ne (.var 2) (.lst .fz (.nil))) (.ret (.and (.cmp .eq (.ix (.var 1) (.cI 0)) (.tup (.cons (.cS "loose") (.cons (.var 0) .nil)))) (.cmp .isIn (.ix (.var 1) (.cI 1)) (.var 2))) .done) (.done) (.iff (.or (.cmp .ne (.ix (.var 1) (.cI 0)) (.tup (.cons (.cS "kept") (.cons (.var 0) .nil)))) (.or (.not (.bi (.isi .tuple) (.cons (.ix (.var 1) (.cI 1)) .nil))) (.cmp .ne (.bi .len (.cons (.ix (.var 1) (.cI 1)) .nil)) (.bi .len (.cons (.var 0) .nil))))) (.ret (.cB false) .done) (.done) (.ret (.cmp .eq (.comp (.tN 3) (.iR1 (.bi .len (.cons (.var 0) .nil))) (.cB true) (.call "_law_value_by" S__law_value_by (.cons (.ix (.var 1) (.cI 1)) (.cons (.var 3) .nil))) [("_law_x", 3)]) (.bi .list (.cons (.var 0) .nil))) .done))))
def m__law_shared : C := .par [0, 1] (.cons (.bi .abs (.cons (.var 0) .nil)) (.cons (.bi .abs (.cons (.var 1) .nil)) .nil)) (.whl (.cmp .gt (.var 1) (.cI 0)) (.par [0, 1] (.cons (.var 1) (.cons (.bin .mod (.bi .int (.cons (.var 0) .nil)) (.var 1)) .nil)) (.done)) (.ret (.var 0) .done))
def m__law_table_b2 (S__law_drop : Spec) (S__law_any : Spec) (S__law_shared : Spec) (S__law_value_by : Spec) : C := .asg (.tN 4) (.bin .mul (.bin .fdiv (.var 4) (.call "_law_shared" S__law_shared (.cons (.var 4) (.cons (.bi .max2 (.cons (.var 5) (.cons (.cI 1) .nil))) .nil)))) (.bi .max2 (.cons (.var 5) (.cons (.cI 1) .nil)))) (.app (.var 3) (.bin .mul (.bin .mul (.var 4) (.bin .sub (.call "_law_drop" S__law_drop (.cons (.var 0) (.cons (.cI 7) .nil))) (.cI 3))) (.call "_law_any" S__law_any (.cons (.var 0) (.cons (.lst .fz (.cons (.cI 1) (.cons (.cI 1) (.cons (.cI 1) (.cons (.bin .pow (.cI 10) (.cI 12)) .nil))))) .nil)))) (.done))
def m__law_table_3 (S__law_drop : Spec) (S__law_any : Spec) (S__law_shared : Spec) (S__law_value_by : Spec) : C := .ret (.bi .tuple (.cons (.var 6) .nil)) .done
def m__law_table_1 (S__law_drop : Spec) (S__law_any : Spec) (S__law_shared : Spec) (S__law_value_by : Spec) : C := .for (.tN 5) (.iR1 (.var 1)) (m__law_table_b2 S__law_drop S__law_any S__law_shared S__law_value_by) (.lc 6 (.compL (.tN 8) (.iR1 (.var 1)) (.cB true) (.call "_law_value_by" S__law_value_by (.cons (.var 3) (.cons (.var 8) .nil))) [("_law_x", 8)]) (.iff (.cmp .eq (.var 2) (.cI 1)) (.asg (.tN 7) (.call "_law_drop" S__law_drop (.cons (.var 0) (.cons (.var 1) .nil))) (.asg (.tS (.var 6) (.var 7)) (.bin .add (.ix (.var 6) (.var 7)) (.call "_law_any" S__law_any (.cons (.var 0) (.cons (.lst .fz (.cons (.cI 1) (.cons (.neg (.cI 1)) (.cons (.cI 2) (.cons (.cI 60) .nil))))) .nil)))) (.done))) (.done) (m__law_table_3 S__law_drop S__law_any S__law_shared S__law_value_by)))
def m__law_table (S__law_drop : Spec) (S__law_any : Spec) (S__law_shared : Spec) (S__law_value_by : Spec) : C := .par [2, 3, 4] (.cons (.call "_law_drop" S__law_drop (.cons (.var 0) (.cons (.cI 5) .nil))) (.cons (.lst .loc (.nil)) (.cons (.cI 1) .nil))) (.iff (.cmp .eq (.var 2) (.cI 0)) (.ret (.bi .tuple (.cons (.comp (.tN 5) (.iR1 (.var 1)) (.cB true) (.call "_law_any" S__law_any (.cons (.var 0) (.cons (.lst .fz (.cons (.cI 0) (.cons (.cI 1) (.cons (.cI 2) (.cons (.cI 3) (.cons (.cI 6) (.cons (.cI 12) (.cons (.call "_law_drop" S__law_drop (.cons (.var 0) (.cons (.cI 40) .nil))) .nil)))))))) .nil))) [("_law_k", 5)]) .nil)) .done) (.done) (m__law_table_1 S__law_drop S__law_any S__law_shared S__law_value_by))
def m_are_integers (S_is_integer : Spec) : C := .ret (.and (.bi (.isi .tuple) (.cons (.var 0) .nil)) (.and (.cmp .eq (.bi .len (.cons (.var 0) .nil)) (.var 1)) (.bi .all (.cons (.comp (.tN 2) (.iVal (.var 0)) (.cB true) (.call "is_integer" S_is_integer (.cons (.var 2) .nil)) [("number", 2)]) .nil)))) .done
def m_check_points (S_are_integers : Spec) : C := .iff (.or (.not (.bi (.isi .tuple) (.cons (.var 0) .nil))) (.cmp .eq (.var 0) (.tup (.nil)))) (.nev .done) (.done) (.for (.tT (.cons (.tN 1) (.cons (.tN 2) .nil))) (.iEn (.var 0)) (.iff (.or (.cmp .gt (.var 1) (.glob "MOST_DEGREE" 12)) (.or (.not (.call "are_integers" S_are_integers (.cons (.var 2) (.cons (.cI 2) .nil)))) (.and (.cmp .gt (.var 1) (.cI 0)) (.cmp .ge (.ix (.ix (.var 0) (.bin .sub (.var 1) (.cI 1))) (.cI 0)) (.ix (.var 2) (.cI 0)))))) (.nev .done) (.done) (.done)) (.done))
def m_whole_value : C := .asg (.tN 2) (.cI 0) (.for (.tN 3) (.iRev (.bi .list (.cons (.var 0) .nil))) (.asg (.tN 2) (.bin .add (.bin .mul (.var 2) (.var 1)) (.var 3)) (.done)) (.ret (.var 2) .done))
def m_grown : C := .ret (.comp (.tT (.cons (.tN 3) (.cons (.tN 4) .nil))) (.iZip (.lst .fz (.star (.var 0) (.cons (.cI 0) .nil))) (.var 1)) (.cB true) (.bin .add (.var 3) (.bin .mul (.var 2) (.var 4))) [("number", 3), ("more", 4)]) .done
def m_stretched : C := .ret (.comp (.tT (.cons (.tN 2) (.cons (.tN 3) .nil))) (.iZip (.lst .fz (.cons (.cI 0) (.star (.var 0) .nil))) (.lst .fz (.star (.var 0) (.cons (.cI 0) .nil)))) (.cB true) (.bin .sub (.var 2) (.bin .mul (.var 1) (.var 3))) [("before", 2), ("here", 3)]) .done
def m_whole_through (S_whole_value : Spec) (S_grown : Spec) (S_stretched : Spec) : C := .par [1, 2] (.cons (.lst .fz (.nil)) (.cons (.lst .fz (.cons (.cI 1) .nil)) .nil)) (.for (.tT (.cons (.tN 3) (.cons (.tT (.cons (.tN 4) (.cons (.tN 5) .nil))) .nil))) (.iEn (.var 0)) (.asg (.tT (.cons (.tN 6) (.cons (.tN 7) .nil))) (.bi .divmod (.cons (.bin .sub (.var 5) (.call "whole_value" S_whole_value (.cons (.var 1) (.cons (.var 4) .nil)))) (.cons (.call "whole_value" S_whole_value (.cons (.var 2) (.cons (.var 4) .nil))) .nil))) (.iff (.cmp .ne (.var 7) (.cI 0)) (.ret (.tup (.cons (.var 1) (.cons (.var 3) .nil))) .done) (.done) (.par [1, 2] (.cons (.call "grown" S_grown (.cons (.var 1) (.cons (.var 2) (.cons (.var 6) .nil)))) (.cons (.call "stretched" S_stretched (.cons (.var 2) (.cons (.var 4) .nil))) .nil)) (.done)))) (.ret (.tup (.cons (.var 1) (.cons (.bi .len (.cons (.var 0) .nil)) .nil))) .done))
def m_trimmed : C := .asg (.tN 1) (.lstOf .loc (.var 0)) (.whl (.and (.cmp .gt (.bi .len (.cons (.var 1) .nil)) (.cI 1)) (.cmp .eq (.ix (.var 1) (.neg (.cI 1))) (.cI 0))) (.pop (.var 1) (.done)) (.ret (.bi .tuple (.cons (.var 1) .nil)) .done))
def m_certify_points (S_check_points : Spec) (S_whole_through : Spec) (S_trimmed : Spec) : C := .expr (.call "check_points" S_check_points (.cons (.var 0) .nil)) (.asg (.tT (.cons (.tN 1) (.cons (.tN 2) .nil))) (.call "whole_through" S_whole_through (.cons (.var 0) .nil)) (.ret (.ite (.cmp .eq (.var 2) (.bi .len (.cons (.var 0) .nil))) (.tup (.cons (.tup (.cons (.cS "whole") (.cons (.var 0) .nil))) (.cons (.call "trimmed" S_trimmed (.cons (.var 1) .nil)) .nil))) (.tup (.cons (.tup (.cons (.cS "never whole") (.cons (.var 0) .nil))) (.cons (.var 2) .nil)))) .done))
def m__law_dots_right_b4 (S_certify_points : Spec) (S_accepts : Spec) (S__law_made_value : Spec) : C := .asg (.tN 5) (.bin .sub (.ix (.ix (.var 0) (.var 3)) (.cI 0)) (.ix (.ix (.var 0) (.var 4)) (.cI 0))) (.iff (.cmp .ne (.bin .mod (.bi .int (.cons (.bin .sub (.ix (.ix (.var 0) (.var 3)) (.cI 1)) (.ix (.ix (.var 0) (.var 4)) (.cI 1))) .nil)) (.var 5)) (.cI 0)) (.ret (.cB false) .done) (.done) (.done))
def m__law_dots_right_b5 (S_certify_points : Spec) (S_accepts : Spec) (S__law_made_value : Spec) : C := .for (.tN 4) (.iR1 (.var 3)) (m__law_dots_right_b4 S_certify_points S_accepts S__law_made_value) (.done)
def m__law_dots_right_3 (S_certify_points : Spec) (S_accepts : Spec) (S__law_made_value : Spec) : C := .for (.tN 3) (.iR1 (.ix (.var 2) (.cI 1))) (m__law_dots_right_b5 S_certify_points S_accepts S__law_made_value) (.ret (.cmp .eq (.ix (.ix (.call "certify_points" S_certify_points (.cons (.slc (.var 0) (.nil) (.cons (.ix (.var 2) (.cI 1)) .nil)) .nil)) (.cI 0)) (.cI 0)) (.cS "whole")) .done)
def m__law_dots_right_2 (S_certify_points : Spec) (S_accepts : Spec) (S__law_made_value : Spec) : C := .iff (.or (.var 1) (.or (.cmp .ne (.ix (.var 2) (.cI 0)) (.tup (.cons (.cS "never whole") (.cons (.var 0) .nil)))) (.not (.ch2 .lt .lt (.cI 0) (.ix (.var 2) (.cI 1)) (.bi .len (.cons (.var 0) .nil)))))) (.ret (.cB false) .done) (.done) (m__law_dots_right_3 S_certify_points S_accepts S__law_made_value)
def m__law_dots_right_1 (S_certify_points : Spec) (S_accepts : Spec) (S__law_made_value : Spec) : C := .iff (.cmp .eq (.ix (.var 2) (.cI 0)) (.tup (.cons (.cS "whole") (.cons (.var 0) .nil)))) (.ret (.cmp .eq (.comp (.tT (.cons (.tN 6) (.cons (.tN 7) .nil))) (.iVal (.var 0)) (.cB true) (.call "_law_made_value" S__law_made_value (.cons (.ix (.var 2) (.cI 1)) (.cons (.var 6) .nil))) [("_law_spot", 6), ("_law_low", 7)]) (.comp (.tT (.cons (.tN 6) (.cons (.tN 7) .nil))) (.iVal (.var 0)) (.cB true) (.var 7) [("_law_spot", 6), ("_law_low", 7)])) .done) (.done) (m__law_dots_right_2 S_certify_points S_accepts S__law_made_value)
def m__law_dots_right (S_certify_points : Spec) (S_accepts : Spec) (S__law_made_value : Spec) : C := .asg (.tN 2) (.call "certify_points" S_certify_points (.cons (.var 0) .nil)) (.iff (.or (.cmp .ne (.callK "certify_points" ["points"] ["points"] S_certify_points (.cons (.var 0) .nil)) (.var 2)) (.not (.call "accepts" S_accepts (.cons (.ix (.var 2) (.cI 0)) (.cons (.ix (.var 2) (.cI 1)) .nil))))) (.ret (.cB false) .done) (.done) (m__law_dots_right_1 S_certify_points S_accepts S__law_made_value))
def m__law_right_1 (S__law_any : Spec) (S__law_drop : Spec) (S__law_dots : Spec) (S__law_table_right : Spec) (S__law_table : Spec) (S__law_dots_right : Spec) : C := .asg (.tT (.cons (.tN 3) (.cons (.tN 4) .nil))) (.call "_law_dots" S__law_dots (.cons (.var 0) .nil)) (.iff (.or (.not (.call "_law_table_right" S__law_table_right (.cons (.call "_law_table" S__law_table (.cons (.var 0) (.cons (.var 2) .nil))) .nil))) (.not (.call "_law_dots_right" S__law_dots_right (.cons (.var 3) (.cons (.var 4) .nil))))) (.ret (.cB false) .done) (.done) (.done))
def m__law_right_b2 (S__law_any : Spec) (S__law_drop : Spec) (S__law_dots : Spec) (S__law_table_right : Spec) (S__law_table : Spec) (S__law_dots_right : Spec) : C := .asg (.tN 2) (.call "_law_any" S__law_any (.cons (.var 0) (.cons (.lst .fz (.cons (.cI 1) (.cons (.cI 2) (.cons (.cI 3) (.cons (.cI 4) (.cons (.cI 5) (.cons (.cI 6) (.cons (.cI 9) (.cons (.bin .add (.cI 1) (.call "_law_drop" S__law_drop (.cons (.var 0) (.cons (.cI 9) .nil)))) (.cons (.ite (.cmp .eq (.var 1) (.cI 0)) (.cI 40) (.cI 2)) .nil)))))))))) .nil))) (m__law_right_1 S__law_any S__law_drop S__law_dots S__law_table_right S__law_table S__law_dots_right)
def m__law_right (S__law_any : Spec) (S__law_drop : Spec) (S__law_dots : Spec) (S__law_table_right : Spec) (S__law_table : Spec) (S__law_dots_right : Spec) : C := .for (.tN 1) (.iR1 (.cI 5)) (m__law_right_b2 S__law_any S__law_drop S__law_dots S__law_table_right S__law_table S__law_dots_right) (.ret (.cB true) .done)
def m__law_vial : C := .asg (.tN 2) (.ite (.cmp .lt (.var 1) (.bi .len (.cons (.var 0) .nil))) (.ix (.var 0) (.var 1)) (.bin .mul (.cI 61027) (.bin .add (.var 1) (.cI 3)))) (.asg (.tN 3) (.bin .add (.cI 27011) (.bin .mul (.cI 6007) (.var 1))) (.for (.tN 4) (.iVal (.bin .add (.slc (.var 0) (.nil) (.cons (.cI 5) .nil)) (.lst .fz (.cons (.var 2) .nil)))) (.asg (.tN 3) (.bin .mod (.bi .int (.cons (.bin .add (.bin .add (.bin .mul (.var 3) (.cI 39019)) (.bin .mod (.bi .int (.cons (.var 4) .nil)) (.cI 2147482951))) (.cI 41)) .nil)) (.cI 2147482951)) (.done)) (.ret (.lst .perm (.cons (.ite (.or (.cmp .lt (.var 2) (.cI 0)) (.cmp .ge (.var 2) (.bin .pow (.cI 10) (.cI 18)))) (.bi .abs (.cons (.var 2) .nil)) (.cI 0)) (.cons (.var 3) .nil))) .done)))
def m_law (S__law_right : Spec) (S__law_vial : Spec) : C := .ret (.bi .all (.cons (.comp (.tN 1) (.iR1 (.bi .max2 (.cons (.cI 2) (.cons (.bi .min2 (.cons (.bi .len (.cons (.var 0) .nil)) (.cons (.cI 5) .nil))) .nil)))) (.cB true) (.call "_law_right" S__law_right (.cons (.call "_law_vial" S__law_vial (.cons (.var 0) (.cons (.var 1) .nil))) .nil)) [("_law_k", 1)]) .nil)) .done
def m_shared_part : C := .whl (.cmp .ne (.var 1) (.cI 0)) (.par [0, 1] (.cons (.var 1) (.cons (.bin .mod (.var 0) (.var 1)) .nil)) (.done)) (.ret (.bi .abs (.cons (.var 0) .nil)) .done)
def m_are_facts (S_are_whole_numbers : Spec) : C := .iff (.or (.not (.bi (.isi .tuple) (.cons (.var 0) .nil))) (.cmp .gt (.bi .len (.cons (.var 0) .nil)) (.glob "LONGEST_FACTS" 40))) (.ret (.cB false) .done) (.done) (.ret (.bi .all (.cons (.comp (.tN 1) (.iVal (.var 0)) (.cB true) (.and (.call "are_whole_numbers" S_are_whole_numbers (.cons (.var 1) (.cons (.cI 3) .nil))) (.cmp .ge (.ix (.var 1) (.cI 2)) (.cI 0))) [("fact", 1)]) .nil)) .done)
def m_two_quarrel (S_shared_part : Spec) (S_divides : Spec) : C := .asg (.tN 2) (.call "shared_part" S_shared_part (.cons (.call "shared_part" S_shared_part (.cons (.ix (.var 0) (.cI 2)) (.cons (.ix (.var 1) (.cI 2)) .nil))) (.cons (.bin .sub (.ix (.var 0) (.cI 0)) (.ix (.var 1) (.cI 0))) .nil))) (.ret (.not (.call "divides" S_divides (.cons (.var 2) (.cons (.bin .sub (.ix (.var 0) (.cI 1)) (.ix (.var 1) (.cI 1))) .nil)))) .done)
def m_nobody_quarrels (S_two_quarrel : Spec) : C := .for (.tT (.cons (.tN 1) (.cons (.tN 2) .nil))) (.iEn (.var 0)) (.iff (.bi .any (.cons (.comp (.tN 3) (.iVal (.slc (.var 0) (.nil) (.cons (.var 1) .nil))) (.cB true) (.call "two_quarrel" S_two_quarrel (.cons (.var 3) (.cons (.var 2) .nil))) [("before", 3)]) .nil)) (.ret (.cB false) .done) (.done) (.done)) (.ret (.cB true) .done)
def m_is_shown_of_facts (S_nobody_quarrels : Spec) (S_is_pair_below : Spec) (S_two_quarrel : Spec) : C := .iff (.cmp .eq (.var 0) (.cS "fits")) (.ret (.and (.bi (.isi .tuple) (.cons (.var 2) .nil)) (.and (.cmp .eq (.var 2) (.tup (.nil))) (.call "nobody_quarrels" S_nobody_quarrels (.cons (.var 1) .nil)))) .done) (.done) (.iff (.not (.call "is_pair_below" S_is_pair_below (.cons (.var 2) (.cons (.bi .len (.cons (.var 1) .nil)) .nil)))) (.ret (.cB false) .done) (.done) (.ret (.call "two_quarrel" S_two_quarrel (.cons (.ix (.var 1) (.ix (.var 2) (.cI 0))) (.cons (.ix (.var 1) (.ix (.var 2) (.cI 1))) .nil))) .done))
/-! ### what the checker's defs answer -/
def isInt : D → Bool | .int _ => true | _ => false
def sp_isint : Spec := fun vs s Q _ => ∃ d, vs = [.d d] ∧ Q (.d (.bool (isInt d))) s
theorem sem_isint : Sem m_is_integer 1 sp_isint := by
  rintro vs s Q Ex ⟨d, rfl, q⟩
  unfold m_is_integer
  walk_at "dl"
  cases d <;> simp_all [isInt, isiD]
def sp_shared : Spec := fun vs s Q _ => ∃ a b : Int, vs = [.d (.int a), .d (.int b)] ∧ Q (.d (.int (Int.gcd a b))) s
theorem sem_shared : Sem m_shared_part 2 sp_shared := by
  rintro vs s Q Ex ⟨a, b, rfl, q⟩
  unfold m_shared_part
  walk_at "dl"
  refine ⟨b.natAbs + 1, whileD_by (fun n ρ t => t = s ∧ ∃ x y : Int, ρ = [some (.d (.int x)), some (.d (.int y))] ∧ n = y.natAbs ∧ Int.gcd x y = Int.gcd a b) ?_ b.natAbs _ _ ⟨rfl, a, b, rfl, rfl, rfl⟩⟩
  rintro n ρ t K ⟨rfl, x, y, rfl, rfl, hg⟩ hK
  walk_at "dl"
  by_cases h : y = 0
  · subst h
    rw [Int.gcd_zero] at hg
    rw [← hg] at q
    simp only [decide_true, Bool.not_true, Bool.false_eq_true, if_false]
    have e : (if x < 0 then -x else x) = (x.natAbs : Int) := by split <;> omega
    rw [e]
    exact q
  · simp only [h, decide_false, Bool.not_false, if_true]
    exact ⟨h, hK _ _ _ (fmod_lt x y h) ⟨rfl, y, _, rfl, rfl, by rw [gcd_fmod, hg]⟩⟩
def sp_divides : Spec := fun vs s Q _ => ∃ a b : Int, vs = [.d (.int a), .d (.int b)] ∧ Q (.d (.bool (decide (a ∣ b)))) s
theorem sem_divides : Sem m_divides 2 sp_divides := by
  rintro vs s Q Ex ⟨a, b, rfl, q⟩
  unfold m_divides
  walk_at "dl"
  by_cases h : a = 0
  · subst h
    simp only [if_true]
    rwa [show decide (b = 0) = decide ((0 : Int) ∣ b) from by simp [Int.zero_dvd]]
  · simp only [h, if_false, not_false_eq_true, ne_eq, true_and]
    rwa [show decide (b.fmod a = 0) = decide (a ∣ b) from by simp [fmod_zero_iff]]
def isWhole (v : D) (n : Int) : Bool := match v with
  | .tuple xs => decide ((xs.length : Int) = n) && xs.all isInt
  | _ => false
def sp_whole : Spec := fun vs s Q _ => ∃ v n, vs = [.d v, .d (.int n)] ∧ n ≤ 1000 ∧ Q (.d (.bool (isWhole v n))) s
theorem sem_whole : Sem (m_are_whole_numbers sp_isint) 3 sp_whole := by
  rintro vs s Q Ex ⟨v, n, rfl, hn, q⟩
  unfold m_are_whole_numbers
  walk_at "dl"
  cases v with
  | tuple xs =>
    simp only [isiD, if_true]
    walk_at "dl"
    by_cases h : (xs.length : Int) = n
    · simp only [h, if_true]
      refine compD_map (fun x => .bool (isInt x)) trivial (fun x hx C hC => ⟨_, rfl, hC⟩) (sz _ (by omega)) ?_
      simp only [boolsOf_map]
      walk_at "dl"
      have e : (xs.map isInt).all id = isWhole (.tuple xs) n := by simp [isWhole, h, List.all_map]
      rwa [e]
    · simp only [h, if_false]
      have e : isWhole (.tuple xs) n = false := by simp [isWhole, h]
      rwa [e] at q
  | _ => simpa [isiD, isWhole] using q

/-! ### facts -/
abbrev Fact := Int × Int × Int
def factD (f : Fact) : D := .tuple [.int f.1, .int f.2.1, .int f.2.2]
def factsD (fs : List Fact) : D := .tuple (fs.map factD)
def isFact (x : D) : Bool := isWhole x 3 && (match x with | .tuple [_, _, .int c] => decide (0 ≤ c) | _ => false)
def isFacts : D → Bool
  | .tuple xs => decide (xs.length ≤ 40) && xs.all isFact
  | _ => false
theorem isInt_of {x : D} (h : isInt x = true) : ∃ i, x = .int i := by
  cases x <;> simp_all [isInt]
theorem isWhole_3 {x : D} (h : isWhole x 3 = true) : ∃ a b c : Int, x = .tuple [.int a, .int b, .int c] := by
  cases x with
  | tuple xs =>
    simp only [isWhole, Bool.and_eq_true, decide_eq_true_eq] at h
    match xs, h with
    | [a, b, c], ⟨_, h⟩ =>
      simp only [List.all_cons, List.all_nil, Bool.and_eq_true, Bool.and_true] at h
      obtain ⟨a, rfl⟩ := isInt_of h.1
      obtain ⟨b, rfl⟩ := isInt_of h.2.1
      obtain ⟨c, rfl⟩ := isInt_of h.2.2
      exact ⟨a, b, c, rfl⟩
    | [], h => exact absurd h.1 (by simp)
    | [_], h => exact absurd h.1 (by simp)
    | [_, _], h => exact absurd h.1 (by simp)
    | _ :: _ :: _ :: _ :: _, h => exact absurd h.1 (by simp; omega)
  | _ => simp [isWhole] at h
theorem isWhole_2 {x : D} (h : isWhole x 2 = true) : ∃ a b : Int, x = .tuple [.int a, .int b] := by
  cases x with
  | tuple xs =>
    simp only [isWhole, Bool.and_eq_true, decide_eq_true_eq] at h
    match xs, h with
    | [a, b], ⟨_, h⟩ =>
      simp only [List.all_cons, List.all_nil, Bool.and_eq_true, Bool.and_true] at h
      obtain ⟨a, rfl⟩ := isInt_of h.1
      obtain ⟨b, rfl⟩ := isInt_of h.2
      exact ⟨a, b, rfl⟩
    | [], h => exact absurd h.1 (by simp)
    | [_], h => exact absurd h.1 (by simp)
    | _ :: _ :: _ :: _, h => exact absurd h.1 (by simp; omega)
  | _ => simp [isWhole] at h
theorem isFact_of {x : D} (h : isFact x = true) : ∃ f : Fact, x = factD f ∧ 0 ≤ f.2.2 := by
  unfold isFact at h
  rw [Bool.and_eq_true] at h
  obtain ⟨a, b, c, rfl⟩ := isWhole_3 h.1
  exact ⟨(a, b, c), rfl, by simpa using h.2⟩
theorem isFact_factD (f : Fact) : isFact (factD f) = decide (0 ≤ f.2.2) := by
  simp [isFact, factD, isWhole, isInt]
theorem all_facts : ∀ {xs : List D}, xs.all isFact = true → ∃ fs : List Fact, xs = fs.map factD ∧ ∀ f ∈ fs, 0 ≤ f.2.2
  | [], _ => ⟨[], rfl, by simp⟩
  | x :: r, h => by
    simp only [List.all_cons, Bool.and_eq_true] at h
    obtain ⟨f, rfl, hf⟩ := isFact_of h.1
    obtain ⟨fs, rfl, hfs⟩ := all_facts h.2
    exact ⟨f :: fs, rfl, fun g hg => (List.mem_cons.mp hg).elim (fun e => e ▸ hf) (hfs g)⟩
theorem isFacts_of {x : D} (h : isFacts x = true) : ∃ fs : List Fact, x = factsD fs ∧ fs.length ≤ 40 ∧ ∀ f ∈ fs, 0 ≤ f.2.2 := by
  cases x with
  | tuple xs =>
    simp only [isFacts, Bool.and_eq_true, decide_eq_true_eq] at h
    obtain ⟨fs, rfl, hfs⟩ := all_facts h.2
    exact ⟨fs, rfl, by simpa using h.1, hfs⟩
  | _ => simp [isFacts] at h
theorem isFacts_factsD (fs : List Fact) (hl : fs.length ≤ 40) (h : ∀ f ∈ fs, 0 ≤ f.2.2) : isFacts (factsD fs) = true := by
  simp only [isFacts, factsD, List.length_map, hl, decide_true, Bool.true_and, List.all_map, List.all_eq_true, Function.comp_apply]
  exact fun f hf => by rw [isFact_factD]; exact decide_eq_true (h f hf)
def sp_facts : Spec := fun vs s Q _ => ∃ v, vs = [.d v] ∧ Q (.d (.bool (isFacts v))) s
theorem sem_facts : Sem (m_are_facts sp_whole) 2 sp_facts := by
  rintro vs s Q Ex ⟨v, rfl, q⟩
  unfold m_are_facts
  walk_at "dl"
  cases v with
  | tuple xs =>
    simp only [isiD, if_true]
    walk_at "dl"
    by_cases h : xs.length ≤ 40
    · have h2 : ¬ (40 : Int) < (xs.length : Int) := by omega
      simp only [h2, if_false]
      refine compD_map (fun x => .bool (isFact x)) trivial (fun x hx C hC => ⟨x, 3, rfl, by omega, ?_⟩) (sz _ (by omega)) ?_
      · refine ⟨_, rfl, ?_⟩
        cases e : isWhole x 3 with
        | false =>
          have e2 : isFact x = false := by simp [isFact, e]
          simpa [e2] using hC
        | true =>
          obtain ⟨a, b, c, rfl⟩ := isWhole_3 e
          simp only [if_true]
          walk_at "dl"
          have e2 : isFact (.tuple [.int a, .int b, .int c]) = decide (0 ≤ c) := isFact_factD (a, b, c)
          rwa [e2] at hC
      · simp only [boolsOf_map]
        walk_at "dl"
        have e : (xs.map isFact).all id = isFacts (.tuple xs) := by simp [isFacts, h, List.all_map]
        rwa [e]
    · have h2 : (40 : Int) < (xs.length : Int) := by omega
      simp only [h2, if_true]
      have e : isFacts (.tuple xs) = false := by simp [isFacts, h]
      rwa [e] at q
  | _ => simpa [isiD, isFacts, cutS_self, retD_d] using q
def pairBelow (v : D) (n : Int) : Bool := match v with
  | .tuple [.int a, .int b] => decide (0 ≤ a) && decide (a < b) && decide (b < n)
  | _ => false
def sp_below : Spec := fun vs s Q _ => ∃ v n, vs = [.d v, .d (.int n)] ∧ Q (.d (.bool (pairBelow v n))) s
theorem sem_below : Sem (m_is_pair_below sp_whole) 2 sp_below := by
  rintro vs s Q Ex ⟨v, n, rfl, q⟩
  unfold m_is_pair_below
  walk_at "dl"
  refine ⟨v, 2, rfl, by omega, _, rfl, ?_⟩
  cases e : isWhole v 2 with
  | false =>
    have e2 : pairBelow v n = false := by
      unfold pairBelow
      split
      · simp [isWhole, isInt] at e
      · rfl
    simpa [e2, cutS_self, retD_d] using q
  | true =>
    obtain ⟨a, b, rfl⟩ := isWhole_2 e
    simp only [if_true]
    walk_at "dl"
    unfold pairBelow at q
    by_cases h1 : 0 ≤ a <;> by_cases h2 : a < b <;> simp [h1, h2] at q ⊢ <;> exact q
def quarrel (f g : Fact) : Bool := !decide (((Int.gcd (Int.gcd f.2.2 g.2.2) (f.1 - g.1) : Nat) : Int) ∣ f.2.1 - g.2.1)
def sp_quarrel : Spec := fun vs s Q _ => ∃ f g, vs = [.d (factD f), .d (factD g)] ∧ Q (.d (.bool (quarrel f g))) s
theorem sem_quarrel : Sem (m_two_quarrel sp_shared sp_divides) 3 sp_quarrel := by
  rintro vs s Q Ex ⟨f, g, rfl, q⟩
  unfold m_two_quarrel factD
  walk_at "dl"
  refine ⟨_, _, rfl, _, _, rfl, ?_⟩
  walk_at "dl"
  refine ⟨_, _, rfl, _, rfl, ?_⟩
  walk_at "dl"
  exact q
def nobody : List Fact → List Fact → Bool
  | _, [] => true
  | pre, f :: r => if pre.any (fun g => quarrel g f) then false else nobody (pre ++ [f]) r
def sp_nobody : Spec := fun vs s Q _ => ∃ fs, vs = [.d (factsD fs)] ∧ fs.length ≤ 1000 ∧ Q (.d (.bool (nobody [] fs))) s
theorem sem_nobody : Sem (m_nobody_quarrels sp_quarrel) 4 sp_nobody := by
  rintro vs s Q Ex ⟨fs, rfl, hl, q⟩
  unfold m_nobody_quarrels factsD
  walk_at "dl"
  refine ⟨by simp; omega, ?_⟩
  refine loopD_by (fun rest ρ t => ∃ pre suf : List Fact, fs = pre ++ suf ∧ rest = enumD pre.length (suf.map factD) ∧ t = s ∧ nobody [] fs = nobody pre suf ∧ ∃ a b c, ρ = [some (.d (.tuple (fs.map factD))), a, b, c]) ?_ ?_ _ _ _ ⟨[], fs, rfl, rfl, rfl, rfl, _, _, _, rfl⟩
  · rintro x r ρ t K ⟨pre, suf, e1, e2, rfl, e3, a, b, c, rfl⟩ hK
    cases suf with
    | nil => cases e2
    | cons f suf =>
      rw [List.map_cons] at e2
      injection e2 with e4 e5
      subst e4 e5
      refine ⟨trivial, ?_⟩
      walk_at "dl"
      refine compD_map (fun x => .bool (match x with | .tuple [.int a, .int b, .int c] => quarrel (a, b, c) f | _ => false)) trivial (fun x hx C hC => ?_) ?_ ?_
      · rw [cutD_to, e1, List.map_append, List.take_left' (by simp)] at hx
        obtain ⟨g, hg, rfl⟩ := List.mem_map.mp hx
        exact ⟨g, f, rfl, hC⟩
      · rw [cutD_to]
        have := List.length_take_le pre.length (fs.map factD)
        exact sz _ (by simp at *; omega)
      · rw [cutD_to, e1, List.map_append, List.take_left' (by simp), List.map_map]
        have e6 : ((fun x => PyData.bool (match x with | .tuple [.int a, .int b, .int c] => quarrel (a, b, c) f | _ => false)) ∘ factD) = fun g => .bool (quarrel g f) := rfl
        rw [e6, boolsOf_map]
        walk_at "dl"
        have e7 : ((pre.map fun g => quarrel g f).any id) = pre.any (fun g => quarrel g f) := by simp [List.any_map]
        rw [e7]
        simp only [nobody] at e3
        cases e8 : pre.any (fun g => quarrel g f) with
        | true =>
          rw [e8] at e3
          simp only [if_true] at e3
          rw [e3] at q
          exact q
        | false =>
          rw [e8] at e3
          exact hK _ _ ⟨pre ++ [f], suf, by simp [e1], by simp, rfl, by simpa using e3, _, _, _, by rw [e1, List.map_append, List.map_cons]⟩
  · rintro ρ t ⟨pre, suf, e1, e2, rfl, e3, a, b, c, rfl⟩
    cases suf with
    | nil =>
      simp only [nobody] at e3
      rw [e3] at q
      refine ⟨trivial, ?_⟩
      walk_at "dl"
      exact q
    | cons f suf => cases e2

/-! ### certificates of facts -/
def isEmp : D → Bool
  | .tuple [] => true
  | _ => false
def certOk (c : D) : Prop := ∀ xs, c = .tuple xs → SeqAt.shaped c = true
def factAt (fs : List Fact) (i : Int) : Fact := (fs[i.toNat]?).getD (0, 0, 0)
def shownFacts (fits : Bool) (fs : List Fact) (c : D) : Bool :=
  if fits then isEmp c && nobody [] fs else match c with
    | .tuple [.int a, .int b] => pairBelow c fs.length && quarrel (factAt fs a) (factAt fs b)
    | _ => false
theorem eqv_emp (xs : List D) : PyData.eqv (.tuple xs) (.tuple []) = isEmp (.tuple xs) := by
  cases xs <;> simp [PyData.eqv, PyData.eqvAll, isEmp]
theorem shaped_emp : SeqAt.shaped (.tuple []) = true := by decide
def sp_shown : Spec := fun vs s Q _ => ∃ (fits : Bool) (fs : List Fact) (c : D), vs = [.d (.str (if fits then "fits" else "quarrel")), .d (factsD fs), .d c] ∧ fs.length ≤ 1000 ∧ certOk c ∧ Q (.d (.bool (shownFacts fits fs c))) s
theorem factAt_ok {fs : List Fact} {i : Int} (h0 : 0 ≤ i) (h1 : i < fs.length) : atI (fs.map factD) i = some (factD (factAt fs i)) := by
  have h : i.toNat < fs.length := by omega
  rw [atI_pos h0, List.getElem?_map, factAt, List.getElem?_eq_getElem h]
  rfl
theorem shown_no {fs : List Fact} {c : D} (h : pairBelow c fs.length = false) : shownFacts false fs c = false := by
  unfold shownFacts
  simp only [Bool.false_eq_true, if_false]
  split
  · simp [h]
  · rfl
theorem sem_shown : Sem (m_is_shown_of_facts sp_nobody sp_below sp_quarrel) 3 sp_shown := by
  rintro vs s Q Ex ⟨fits, fs, c, rfl, hl, hc, q⟩
  unfold m_is_shown_of_facts factsD
  walk_at "dl"
  cases fits with
  | true =>
    refine cmpD_eqS _ _ _ ?_
    simp only [if_true, decide_true]
    cases c with
    | tuple xs =>
      simp only [isiD, if_true]
      refine ⟨Nat.zero_le _, cmpD_eqD (hc _ rfl) shaped_emp ?_⟩
      rw [eqv_emp]
      cases e : isEmp (.tuple xs) with
      | false =>
        simp only [shownFacts, e, Bool.false_and, if_true] at q
        simpa [retD_d, cutS_self] using q
      | true =>
        simp only [shownFacts, e, Bool.true_and, if_true] at q
        simp only [if_true]
        refine ⟨fs, rfl, hl, ?_⟩
        walk_at "dl"
        exact q
    | _ =>
      simp only [shownFacts, isEmp, Bool.false_and, if_true] at q
      simpa [isiD, retD_d, cutS_self] using q
  | false =>
    refine cmpD_eqS _ _ _ ?_
    have ne : ¬ (("quarrel" : Str) = "fits") := by decide +kernel
    simp only [ne, if_false, decide_false, Bool.false_eq_true]
    refine ⟨c, (fs.length : Int), by simp, ?_⟩
    refine ⟨_, rfl, ?_⟩
    cases e : pairBelow c fs.length with
    | false =>
      simp only [Bool.not_false, if_true]
      rw [shown_no e] at q
      walk_at "dl"
      exact q
    | true =>
      simp only [Bool.not_true, Bool.false_eq_true, if_false]
      unfold pairBelow at e
      split at e
      · rename_i a b
        simp only [Bool.and_eq_true, decide_eq_true_eq] at e
        walk_at "dl"
        rw [factAt_ok e.1.1 (by omega), factAt_ok (by omega) e.2]
        walk_at "dl"
        refine ⟨_, _, rfl, ?_⟩
        walk_at "dl"
        simpa [shownFacts, pairBelow, e] using q
      · cases e
/-- the checker, asked for facts -/
def sp_accF : Spec := fun vs s Q _ => ∃ (fits : Bool) (fs : List Fact) (c : D), vs = [.d (.tuple [.str (if fits then "fits" else "quarrel"), factsD fs]), .d c] ∧ fs.length ≤ 40 ∧ (∀ f ∈ fs, 0 ≤ f.2.2) ∧ certOk c ∧ Q (.d (.bool (shownFacts fits fs c))) s
theorem sem_accF {S2 S3 S5 S6 S7 S8 : Spec} : Sem (m_accepts sp_facts S2 S3 sp_shown S5 S6 S7 S8) 4 sp_accF := by
  rintro vs s Q Ex ⟨fits, fs, c, rfl, hl, hb, hc, q⟩
  unfold m_accepts
  walk_at "dl"
  simp only [isiD, if_true, Bool.not_true, Bool.false_eq_true, if_false]
  refine ⟨sz _ (by decide), ⟨["sure", "open"], rfl, ?_⟩⟩
  have m1 : decide ((if fits = true then ("fits" : Str) else "quarrel") ∈ (["sure", "open"] : List Str)) = false := by cases fits <;> decide +kernel
  simp only [m1, Bool.false_eq_true, if_false]
  refine ⟨sz _ (by decide), ⟨["fits", "quarrel"], rfl, ?_⟩⟩
  have m2 : decide ((if fits = true then ("fits" : Str) else "quarrel") ∈ (["fits", "quarrel"] : List Str)) = true := by cases fits <;> decide +kernel
  simp only [m2, if_true]
  refine ⟨_, rfl, ?_⟩
  rw [isFacts_factsD fs hl hb]
  walk_at "dl"
  refine ⟨fits, fs, c, rfl, by omega, hc, ?_⟩
  walk_at "dl"
  exact q

/-! ### the vial -/
def Vial (s : S) (n : Nat) : Prop := ∃ a b : Int, s.os[n]? = some (.lst [.int a, .int b]) ∧ 0 ≤ a ∧ 0 ≤ b
/-- only the vial's numbers have changed -/
def VSt (n : Nat) (s s' : S) : Prop := s'.ls = s.ls ∧ s'.sc = s.sc ∧ s'.os.length = s.os.length ∧ Vial s' n ∧ ∀ m, m ≠ n → s'.os[m]? = s.os[m]?
theorem VSt.trans {n : Nat} {s s1 s2 : S} (a : VSt n s s1) (b : VSt n s1 s2) : VSt n s s2 := ⟨b.1.trans a.1, b.2.1.trans a.2.1, b.2.2.1.trans a.2.2.1, b.2.2.2.1, fun m h => (b.2.2.2.2 m h).trans (a.2.2.2.2 m h)⟩
theorem VSt.rfl' {n : Nat} {s : S} (h : Vial s n) : VSt n s s := ⟨rfl, rfl, rfl, h, fun _ _ => rfl⟩
theorem VSt.vial {n : Nat} {s s' : S} (h : VSt n s s') : Vial s' n := h.2.2.2.1
theorem VSt.set {n : Nat} {s : S} {a b : Int} {o : OO} (e : s.os[n]? = some o) (ha : 0 ≤ a) (hb : 0 ≤ b) : VSt n s { s with os := s.os.set n (.lst [.int a, .int b]) } := by
  have hn : n < s.os.length := (List.getElem?_eq_some_iff.mp e).1
  refine ⟨rfl, rfl, by simp, ⟨a, b, by simp [hn], ha, hb⟩, fun m h => ?_⟩
  show (s.os.set n _)[m]? = _
  rw [List.getElem?_set_ne (Ne.symm h)]
theorem VSt.cut {n : Nat} {s s' : S} (h : VSt n s s') : cutS s.ls.length s' = s' := by
  rw [← h.1]; exact cutS_self s'
def sp_vial : Spec := fun vs s Q _ => ∃ (t : Int) (ns : List Int), vs = [.scr, .d (.int t)] ∧ 0 ≤ t ∧ s.sc = ns.map .int ∧ ns.length ≤ 63 ∧ ∀ s', s'.ls = s.ls → s'.sc = s.sc → s'.os.length = s.os.length + 1 → Vial s' s.os.length → (∀ m, m < s.os.length → s'.os[m]? = s.os[m]?) → Q (.obj s.os.length) s'
theorem sem_vial : Sem m__law_vial 5 sp_vial := by
  rintro vs s Q Ex ⟨t, ns, rfl, ht, hsc, hl, q⟩
  unfold m__law_vial
  walk_at "dl"
  have tk : (List.take 5 s.sc).length ≤ 5 := by rw [List.length_take]; omega
  have hxs : ∀ v : Int, ∀ x ∈ List.take 5 s.sc ++ [PyData.int v], ∃ i : Int, x = .int i := by
    intro v x hx
    rcases List.mem_append.mp hx with h | h
    · have h2 := List.mem_of_mem_take h
      rw [hsc] at h2
      obtain ⟨i, _, rfl⟩ := List.mem_map.mp h2
      exact ⟨i, rfl⟩
    · exact ⟨v, by simpa using h⟩
  have hsm : ∀ x : Int, CMul x 39019 ∨ CMulW x 39019 := fun x => .inl (.inr ⟨by decide, by decide⟩)
  have hfin : ∀ a b : Int, 0 ≤ a → 0 ≤ b → Q (.obj s.os.length) (cutS s.ls.length { ls := s.ls, os := s.os ++ [.lst [.int a, .int b]], sc := s.sc }) := by
    intro a b ha hb
    have e : cutS s.ls.length { ls := s.ls, os := s.os ++ [.lst [.int a, .int b]], sc := s.sc } = { ls := s.ls, os := s.os ++ [.lst [.int a, .int b]], sc := s.sc } := by simp [cutS]
    rw [e]
    exact q _ rfl rfl (by simp) ⟨a, b, by simp, ha, hb⟩ fun m hm => by simp [List.getElem?_append_left hm]
  have c10 : CPow 10 18 := by unfold CPow; decide
  have nn : ∀ x : Int, 0 ≤ x.fmod 2147482951 := fun x => Int.fmod_nonneg_of_pos x (by decide)
  by_cases h : t < (s.sc.length : Int)
  · simp only [h, if_true]
    have hv : ∃ v : Int, atI s.sc t = some (.int v) := by
      rw [atI_pos ht, hsc]
      have hk : t.toNat < ns.length := by rw [hsc] at h; simp at h; omega
      exact ⟨ns[t.toNat], by simp [hk]⟩
    obtain ⟨v, hv⟩ := hv
    refine ⟨_, hv, .inl (.inl ⟨by decide, by decide⟩), sz _ (by decide), sz _ (by omega), ?_⟩
    have st : 0 ≤ 27011 + 6007 * t := by omega
    generalize 27011 + 6007 * t = w at st
    have := hxs v
    generalize List.take 5 s.sc ++ [PyData.int v] = xs at this
    refine loopD_by (fun rest ρ t2 => (∀ x ∈ rest, ∃ i : Int, x = .int i) ∧ t2 = s ∧ ∃ (w : Int) (z : Option Vl), 0 ≤ w ∧ ρ = [some .scr, some (.d (.int t)), some (.d (.int v)), some (.d (.int w)), z]) ?_ ?_ _ _ _ ⟨this, rfl, w, none, st, rfl⟩
    · rintro x r ρ t2 K ⟨hx, rfl, w, z, hw, rfl⟩ hK
      obtain ⟨i, rfl⟩ := hx x List.mem_cons_self
      refine ⟨trivial, ?_⟩
      walk_at "dl"
      exact ⟨hsm w, by decide, by decide, hK _ _ ⟨fun y hy => hx y (List.mem_cons_of_mem _ hy), rfl, _, _, nn _, rfl⟩⟩
    · rintro ρ t2 ⟨_, rfl, w, z, hw, rfl⟩
      refine ⟨trivial, ?_⟩
      walk_at "dl"
      split
      · exact ⟨sz _ (by decide), hfin _ _ (by omega) hw⟩
      · refine ⟨c10, ?_⟩
        split
        · exact ⟨sz _ (by decide), hfin _ _ (by omega) hw⟩
        · exact ⟨sz _ (by decide), hfin _ _ (by omega) hw⟩
  · simp only [h, if_false]
    refine ⟨.inl (.inl ⟨by decide, by decide⟩), .inl (.inl ⟨by decide, by decide⟩), sz _ (by decide), sz _ (by omega), ?_⟩
    generalize 61027 * (t + 3) = v
    have st : 0 ≤ 27011 + 6007 * t := by omega
    generalize 27011 + 6007 * t = w at st
    have := hxs v
    generalize List.take 5 s.sc ++ [PyData.int v] = xs at this
    refine loopD_by (fun rest ρ t2 => (∀ x ∈ rest, ∃ i : Int, x = .int i) ∧ t2 = s ∧ ∃ (w : Int) (z : Option Vl), 0 ≤ w ∧ ρ = [some .scr, some (.d (.int t)), some (.d (.int v)), some (.d (.int w)), z]) ?_ ?_ _ _ _ ⟨this, rfl, w, none, st, rfl⟩
    · rintro x r ρ t2 K ⟨hx, rfl, w, z, hw, rfl⟩ hK
      obtain ⟨i, rfl⟩ := hx x List.mem_cons_self
      refine ⟨trivial, ?_⟩
      walk_at "dl"
      exact ⟨hsm w, by decide, by decide, hK _ _ ⟨fun y hy => hx y (List.mem_cons_of_mem _ hy), rfl, _, _, nn _, rfl⟩⟩
    · rintro ρ t2 ⟨_, rfl, w, z, hw, rfl⟩
      refine ⟨trivial, ?_⟩
      walk_at "dl"
      split
      · exact ⟨sz _ (by decide), hfin _ _ (by omega) hw⟩
      · refine ⟨c10, ?_⟩
        split
        · exact ⟨sz _ (by decide), hfin _ _ (by omega) hw⟩
        · exact ⟨sz _ (by decide), hfin _ _ (by omega) hw⟩
def sp_drop : Spec := fun vs s Q _ => ∃ (n : Nat) (size : Int), vs = [.obj n, .d (.int size)] ∧ Vial s n ∧ 0 < size ∧ size.natAbs.log2 < 9000 ∧ ∀ (d : Int) s', 0 ≤ d → d < size → VSt n s s' → Q (.d (.int d)) s'
theorem sem_drop : Sem m__law_drop 3 sp_drop := by
  rintro vs s Q Ex ⟨n, size, rfl, ⟨a, b, e, ha, hb⟩, h0, h1, q⟩
  unfold m__law_drop
  walk_at "dl"
  simp only [asD_obj e]
  walk_at "dl"
  simp only [chgL_obj e]
  have i0 : ixN [PyData.int a, PyData.int b].length 0 = some 0 := rfl
  have i1 : ixN [PyData.int a, PyData.int b].length 1 = some 1 := rfl
  by_cases h : 0 < a
  · simp only [h, if_true]
    refine ⟨by omega, h1, 0, i0, ?_⟩
    have v := VSt.set (a := a.fdiv size) (b := b) e (Int.fdiv_nonneg ha (by omega)) hb
    have g := q (a.fmod size) _ (Int.fmod_nonneg_of_pos a h0) (Int.fmod_lt_of_pos a h0) v
    have c : cutS s.ls.length { ls := s.ls, os := s.os.set n (.lst [.int (a.fdiv size), .int b]), sc := s.sc } = { ls := s.ls, os := s.os.set n (.lst [.int (a.fdiv size), .int b]), sc := s.sc } := by simp [cutS]
    show Q _ (cutS s.ls.length { ls := s.ls, os := s.os.set n (.lst [.int (a.fdiv size), .int b]), sc := s.sc })
    rw [c]
    exact g
  · simp only [h, if_false]
    generalize hw : (b * 66041 + 17027).fmod 2147482951 = w
    have w0 : 0 ≤ w := by rw [← hw]; exact Int.fmod_nonneg_of_pos _ (by decide)
    refine ⟨.inl (.inr ⟨by decide, by decide⟩), by decide, 1, i1, ?_⟩
    have v := VSt.set (a := a) (b := w) e ha w0
    have hn : n < s.os.length := (List.getElem?_eq_some_iff.mp e).1
    have e2 : (s.os.set n (.lst [.int a, .int w]))[n]? = some (.lst [.int a, .int w]) := by simp [hn]
    show ∃ u, asD (.obj n) { ls := s.ls, os := s.os.set n (.lst [.int a, .int w]), sc := s.sc } = some u ∧ _
    rw [asD_obj (s := { ls := s.ls, os := s.os.set n (.lst [.int a, .int w]), sc := s.sc }) e2]
    walk_at "dl"
    refine ⟨by decide, by decide, by omega, ?_⟩
    have g := q ((w.fdiv 883).fmod size) _ (Int.fmod_nonneg_of_pos _ h0) (Int.fmod_lt_of_pos _ h0) v
    have c : cutS s.ls.length { ls := s.ls, os := s.os.set n (.lst [.int a, .int w]), sc := s.sc } = { ls := s.ls, os := s.os.set n (.lst [.int a, .int w]), sc := s.sc } := by simp [cutS]
    show Q _ (cutS s.ls.length { ls := s.ls, os := s.os.set n (.lst [.int a, .int w]), sc := s.sc })
    rw [c]
    exact g
theorem log_lt {x : Int} (h0 : 0 ≤ x) (h : x < 2 ^ 64) : x.natAbs.log2 < 9000 := by
  by_cases hz : x.natAbs = 0
  · rw [hz]; decide
  · have := (Nat.log2_lt hz (k := 64)).mpr (by omega)
    omega

def sp_any : Spec := fun vs s Q _ => ∃ (n : Nat) (xs : List D), vs = [.obj n, .d (.list xs)] ∧ Vial s n ∧ xs ≠ [] ∧ xs.length ≤ 1000000 ∧ ∀ x s', x ∈ xs → VSt n s s' → Q (.d x) s'
theorem sem_any : Sem (m__law_any sp_drop) 2 sp_any := by
  rintro vs s Q Ex ⟨n, xs, rfl, hv, hne, hl, q⟩
  unfold m__law_any
  walk_at "dl"
  have hp : 0 < xs.length := List.length_pos_iff.mpr hne
  refine ⟨n, _, rfl, hv, by omega, log_lt (by omega) (by omega), fun d s' h0 h1 v => ?_⟩
  have hd : d.toNat < xs.length := by omega
  walk_at "dl"
  rw [atI_pos h0, List.getElem?_eq_getElem hd]
  refine ⟨_, rfl, ?_⟩
  rw [v.cut]
  exact q _ _ (List.getElem_mem hd) v

def sp_lshared : Spec := fun vs s Q _ => ∃ a b : Int, vs = [.d (.int a), .d (.int b)] ∧ Q (.d (.int (Int.gcd a b))) s
theorem sem_lshared : Sem m__law_shared 2 sp_lshared := by
  rintro vs s Q Ex ⟨a, b, rfl, q⟩
  unfold m__law_shared
  walk_at "dl"
  have ab : ∀ x : Int, (if x < 0 then -x else x) = (x.natAbs : Int) := fun x => by split <;> omega
  rw [ab, ab]
  refine ⟨b.natAbs + 1, whileD_by (fun n ρ t => t = s ∧ ∃ x y : Int, 0 ≤ x ∧ 0 ≤ y ∧ ρ = [some (.d (.int x)), some (.d (.int y))] ∧ n = y.natAbs ∧ Int.gcd x y = Int.gcd a b) ?_ b.natAbs _ _ ⟨rfl, _, _, by omega, by omega, rfl, by omega, by simp [Int.gcd]⟩⟩
  rintro n ρ t K ⟨rfl, x, y, hx, hy, rfl, rfl, hg⟩ hK
  walk_at "dl"
  by_cases h : y = 0
  · subst h
    rw [Int.gcd_zero] at hg
    rw [← hg] at q
    simp only [Int.lt_irrefl, decide_false, Bool.false_eq_true, if_false]
    have e : x = (x.natAbs : Int) := by omega
    rw [e]
    exact q
  · have h2 : 0 < y := by omega
    simp only [h2, decide_true, if_true]
    exact ⟨by omega, hK _ _ _ (fmod_lt x y h) ⟨rfl, y, _, hy, Int.fmod_nonneg_of_pos x h2, rfl, rfl, by rw [gcd_fmod, hg]⟩⟩

/-! ### general -/
theorem rangeD_eq : ∀ (lo : Int) (n : Nat), rangeD lo n = (List.range n).map fun (i : Nat) => PyData.int (lo + i)
  | lo, 0 => rfl
  | lo, n + 1 => by
    rw [List.range_succ_eq_map, List.map_cons, List.map_map, rangeD, rangeD_eq (lo + 1) n]
    simp only [List.cons.injEq, Int.natCast_zero, Int.add_zero, true_and]
    congr 1
    funext i
    simp only [Function.comp_apply, Nat.succ_eq_add_one]
    congr 1
    omega
theorem mem_rangeD {lo : Int} {n : Nat} {d : D} (h : d ∈ rangeD lo n) : ∃ i : Int, d = .int i ∧ lo ≤ i ∧ i < lo + n := by
  rw [rangeD_eq] at h
  obtain ⟨i, hi, rfl⟩ := List.mem_map.mp h
  exact ⟨_, rfl, by omega, by have := List.mem_range.mp hi; omega⟩
/-- the state has only grown lists -/
def Ext (s t : S) : Prop := s.ls <+: t.ls ∧ t.os = s.os ∧ t.sc = s.sc
theorem Ext.rfl' {s : S} : Ext s s := ⟨List.prefix_refl _, rfl, rfl⟩
theorem Ext.cut {s t : S} (h : Ext s t) : cutS s.ls.length t = s := by
  obtain ⟨⟨l, e⟩, e2, e3⟩ := h
  cases s; cases t
  simp only at e e2 e3
  subst e2 e3
  simp [cutS, ← e]
theorem Ext.push {s t : S} (h : Ext s t) (o : LO) : Ext s { t with ls := t.ls ++ [o] } := ⟨h.1.trans (List.prefix_append _ _), h.2⟩
theorem Ext.set {s t : S} (h : Ext s t) {k : Nat} (hk : s.ls.length ≤ k) (o : LO) : Ext s { t with ls := t.ls.set k o } := by
  obtain ⟨⟨l, e⟩, e2, e3⟩ := h
  refine ⟨⟨l.set (k - s.ls.length) o, ?_⟩, e2, e3⟩
  show s.ls ++ l.set (k - s.ls.length) o = t.ls.set k o
  rw [← e, List.set_append, if_neg (by omega)]
def at0 (m : List Int) (i : Nat) : Int := (m[i]?).getD 0
theorem at0_app_lt {m : List Int} {v : Int} {i : Nat} (h : i < m.length) : at0 (m ++ [v]) i = at0 m i := by
  simp [at0, List.getElem?_append_left h]
theorem at0_app_eq {m : List Int} {v : Int} : at0 (m ++ [v]) m.length = v := by simp [at0]
theorem rangeD_succ (lo : Int) (n : Nat) : rangeD lo (n + 1) = .int lo :: rangeD (lo + 1) n := rfl
abbrev mapD (m : List Int) : D := .tuple (m.map .int)
abbrev mapsD (ms : List (List Int)) : D := .list (ms.map mapD)
theorem mapD_at {m : List Int} {y : Int} (h0 : 0 ≤ y) (h : y < m.length) : atI (m.map PyData.int) y = some (.int (at0 m y.toNat)) := by
  have hy : y.toNat < m.length := by omega
  rw [atI_pos h0, List.getElem?_map, at0, List.getElem?_eq_getElem hy]
  rfl
theorem canLay_ints : ∀ m : List Int, PyData.canLayAll0 (m.map .int) = true
  | [] => by simp [PyData.canLayAll0]
  | x :: r => by simp [PyData.canLayAll0, PyData.canLay0, canLay_ints r]
theorem depth_ints : ∀ m : List Int, PyData.depthAll (m.map .int) = 0
  | [] => by simp [PyData.depthAll]
  | x :: r => by simp [PyData.depthAll, PyData.depth, depth_ints r]
theorem canLay_all {xs : List D} (h : ∀ x ∈ xs, x.canLay0 = true) : PyData.canLayAll0 xs = true := by
  induction xs with
  | nil => simp [PyData.canLayAll0]
  | cons x r ih => simp [PyData.canLayAll0, h x, ih fun y hy => h y (List.mem_cons_of_mem _ hy)]
theorem depth_all {xs : List D} {n : Nat} (h : ∀ x ∈ xs, x.depth ≤ n) : PyData.depthAll xs ≤ n := by
  induction xs with
  | nil => simp [PyData.depthAll]
  | cons x r ih =>
    simp only [PyData.depthAll]
    have h1 := h x List.mem_cons_self
    have h2 := ih fun y hy => h y (List.mem_cons_of_mem _ hy)
    omega
theorem shaped_list {xs : List D} (h : ∀ x ∈ xs, x.canLay0 = true ∧ x.depth ≤ 63) : SeqAt.shaped (.list xs) = true := by
  simp only [SeqAt.shaped, PyData.canLay0, PyData.depth, Bool.and_eq_true, decide_eq_true_eq]
  exact ⟨canLay_all fun x hx => (h x hx).1, decide_eq_true (Nat.succ_le_succ (depth_all (n := 63) fun x hx => (h x hx).2))⟩
theorem shaped_tup {xs : List D} (h : ∀ x ∈ xs, x.canLay0 = true ∧ x.depth ≤ 63) : SeqAt.shaped (.tuple xs) = true := by
  simp only [SeqAt.shaped, PyData.canLay0, PyData.depth, Bool.and_eq_true, decide_eq_true_eq]
  exact ⟨canLay_all fun x hx => (h x hx).1, decide_eq_true (Nat.succ_le_succ (depth_all (n := 63) fun x hx => (h x hx).2))⟩
theorem lay_int (i : Int) : (PyData.int i).canLay0 = true ∧ (PyData.int i).depth ≤ 63 := by simp [PyData.canLay0, PyData.depth]
theorem shaped_nil : SeqAt.shaped (.list []) = true := by decide
theorem eqv_nil (xs : List D) : PyData.eqv (.list xs) (.list []) = xs.isEmpty := by
  cases xs <;> simp [PyData.eqv, PyData.eqvAll]
/-- what lies besides the frame's lists has changed at the vial alone -/
def VOs (n : Nat) (s t : S) : Prop := t.sc = s.sc ∧ t.os.length = s.os.length ∧ Vial t n ∧ ∀ m, m ≠ n → t.os[m]? = s.os[m]?
theorem VSt.vo {n : Nat} {s t : S} (h : VSt n s t) : VOs n s t := h.2
theorem VOs.trans {n : Nat} {s t u : S} (h : VOs n s t) (v : VSt n t u) : VOs n s u := ⟨v.2.1.trans h.1, v.2.2.1.trans h.2.1, v.2.2.2.1, fun m hm => (v.2.2.2.2 m hm).trans (h.2.2.2 m hm)⟩
theorem VOs.ls {n : Nat} {s t : S} (h : VOs n s t) (l : List LO) : VOs n s { t with ls := l } := h
theorem VOs.vial {n : Nat} {s t : S} (h : VOs n s t) : Vial t n := h.2.2.1
theorem VOs.done {n : Nat} {s t : S} {l : List LO} (h : VOs n s t) (e : t.ls = s.ls ++ l) : VSt n s (cutS s.ls.length t) := by
  refine ⟨?_, h⟩
  show t.ls.take s.ls.length = s.ls
  rw [e, List.take_left']
  rfl
theorem lastL {α : Type} (l : List α) (a : α) : (l ++ [a])[l.length]? = some a := by simp
theorem setL {α : Type} (l : List α) (a b : α) : (l ++ [a]).set l.length b = l ++ [b] := by simp
theorem ixN_pos {n : Nat} {i : Int} (h0 : 0 ≤ i) (h1 : i < n) : ixN n i = some i.toNat := by
  unfold ixN
  rw [if_pos h0, if_pos h1]
theorem permK_21 {x y : Str} (h : (x == y) = false) (a b : Vl) : permK [x, y] [y, x] [a, b] = [b, a] := by
  simp [permK, List.lookup, h]
theorem shb (b : Bool) : (PyData.bool b).showable = true ∧ (PyData.bool b).hasDict = false ∧ (PyData.bool b).shown.length ≤ sizeLine ∧ (PyData.bool b).depth ≤ 100 := by
  cases b <;> decide +kernel
theorem shb2 (a b : Bool) : (PyData.list [.bool a, .bool b]).showable = true ∧ (PyData.list [.bool a, .bool b]).hasDict = false ∧ (PyData.list [.bool a, .bool b]).shown.length ≤ sizeLine ∧ (PyData.list [.bool a, .bool b]).depth ≤ 100 := by
  cases a <;> cases b <;> decide +kernel
theorem shb1 : (PyData.bool true).shown = ("True" : Str) := by decide +kernel
theorem c106 : CPow 10 6 := by unfold CPow; decide
theorem fmod_sub_dvd (a b : Int) : b ∣ a - a.fmod b := ⟨a.fdiv b, by have := Int.mul_fdiv_add_fmod a b; omega⟩
theorem retD_loc {k n : Nat} {t : S} {xs : List D} {Q : DQ} (h : t.ls[n]? = some (.op xs)) (hk : k ≤ n) : retD k (.loc n) t Q = Q (.d (.list xs)) (cutS k t) := by
  simp only [retD]
  rw [if_neg (by omega), h]
theorem cutS_own (s : S) (l : List LO) (o : List OO) (c : List D) (ho : o = s.os) (hc : c = s.sc) : cutS s.ls.length { ls := s.ls ++ l, os := o, sc := c } = s := by
  subst ho hc
  exact cutS_app s l
theorem log2_le {n k : Nat} (h : n < 2 ^ k) : n.log2 ≤ k := by
  by_cases hz : n = 0
  · rw [hz]; simp
  · exact Nat.le_of_lt ((Nat.log2_lt hz).mpr h)
theorem fdiv_of_mul {a g k : Int} (hg : 0 < g) (h : a = g * k) : a.fdiv g = k := by
  subst h
  rw [Int.fdiv_eq_ediv_of_nonneg _ (by omega), Int.mul_ediv_cancel_left _ (by omega)]
theorem wid_mul {a b : Int} (ha : a.natAbs < 2 ^ 5000) (hb : b.natAbs < 2 ^ 5000) : CMul a b ∨ CMulW a b := by
  have l1 := log2_le ha
  have l2 := log2_le hb
  exact .inr (by unfold CMulW; omega)

/-! ### texts of data -/
theorem str_le {v : Int} (h0 : 0 ≤ v) {k : Nat} (hk : 0 < k) (h : v < 10 ^ k) : (Str.ofString (toString v)).length ≤ k := PyProof.Rows.toString_length_le h0 hk h
theorem str_ge {m k : Nat} (h : 10 ^ k ≤ m) : k + 1 ≤ (Str.ofString (toString (m : Int))).length := by
  have := PyProof.Rows.digits10_ge h
  rw [show ((m : Int)) = Int.ofNat m from rfl, PyProof.Rows.text_ofNat]
  simpa [PySem.Str.length] using this
theorem b_len_str (x : Str) (Q : D → Prop) : biD .len [.str x] Q = (x.length ≤ sizeLine ∧ Q (.int x.length)) := rfl
theorem repr_of {x : D} {B : Nat} (hB : 8 ≤ B) (hs : x.showable = true) (hd : x.hasDict = false) (hl : x.leavesShort B = true) (hk : (B + 2) * x.bulk + B ≤ 1000000) (hp : x.depth ≤ 100) : x.showable = true ∧ x.hasDict = false ∧ x.shown.length ≤ sizeLine ∧ x.depth ≤ 100 :=
  ⟨hs, hd, Nat.le_trans (PyData.shown_le_bulk B hB x hl) (sz _ hk), hp⟩
theorem bools_show : ∀ bs : List Bool, PyData.showableAll (bs.map .bool) = true ∧ PyData.hasDictAll (bs.map .bool) = false ∧ PyData.leavesShortAll 8 (bs.map .bool) = true ∧ PyData.bulkAll (bs.map .bool) = bs.length ∧ PyData.depthAll (bs.map .bool) = 0
  | [] => by simp [PyData.showableAll, PyData.hasDictAll, PyData.leavesShortAll, PyData.bulkAll, PyData.depthAll]
  | b :: r => by
    have := bools_show r
    simp [PyData.showableAll, PyData.hasDictAll, PyData.leavesShortAll, PyData.bulkAll, PyData.depthAll, PyData.showable, PyData.hasDict, PyData.leavesShort, PyData.bulk, PyData.depth, this]
    omega
theorem repr_bools {bs : List Bool} (h : bs.length ≤ 1000) : (PyData.list (bs.map .bool)).showable = true ∧ (PyData.list (bs.map .bool)).hasDict = false ∧ (PyData.list (bs.map .bool)).shown.length ≤ sizeLine ∧ (PyData.list (bs.map .bool)).depth ≤ 100 := by
  obtain ⟨a, b, c, d, e⟩ := bools_show bs
  exact repr_of (B := 8) (by decide) (by simpa [PyData.showable] using a) (by simpa [PyData.hasDict] using b) (by simpa [PyData.leavesShort] using c) (by simp only [PyData.bulk, d]; omega) (by simp [PyData.depth, e])
theorem char_lt (c : Char) : c.toNat < 0x110000 := by
  have h := c.valid
  unfold UInt32.isValidChar Nat.isValidChar at h
  show c.val.toNat < _
  omega
theorem strOk_of (z : String) : PyData.strOk (Str.ofString z) = true := by
  unfold PyData.strOk
  rw [Str.ofString_eq_toList, List.all_toArray, List.all_eq_true]
  intro x hx
  obtain ⟨c, _, rfl⟩ := List.mem_map.mp hx
  exact decide_eq_true (char_lt c)
theorem certOk_ij (i j : Int) : certOk (.tuple [.int i, .int j]) := fun xs _ => shaped_tup fun x hx => by
  simp only [List.mem_cons, List.not_mem_nil, or_false] at hx
  rcases hx with rfl | rfl <;> exact lay_int _

/-! ### the law's call -/
def sp_right : Spec := fun vs s Q _ => ∃ n : Nat, vs = [.obj n] ∧ Vial s n ∧ ∀ s', VSt n s s' → Q (.d (.bool true)) s'
theorem all_true : ∀ {acc : List D}, (∀ d ∈ acc, d = .bool true) → acc = acc.map fun _ => PyData.bool true
  | [], _ => rfl
  | a :: r, h => by rw [List.map_cons, ← all_true fun d hd => h d (List.mem_cons_of_mem _ hd), h a List.mem_cons_self]
def sp_law (n : Nat) : Spec := fun vs s Q _ => ∃ ns : List Int, vs = [.scr] ∧ s = { ls := [], os := [], sc := ns.map .int } ∧ ns.length ≤ n ∧ ∀ s', Q (.d (.bool true)) s'

theorem sem_law : Sem (m_law sp_right sp_vial) 2 (sp_law 63) := by
  rintro vs s Q Ex ⟨ns, rfl, rfl, hl, q⟩
  unfold m_law
  walk_at "dl"
  have hN : ∀ L : Int, 0 ≤ L → ∃ N : Int, (if (if 5 < L then 5 else L) > 2 then if 5 < L then 5 else L else 2) = N ∧ 0 ≤ N ∧ N ≤ 5 := fun L hL => by
    refine ⟨_, rfl, ?_, ?_⟩ <;> split <;> (try split) <;> omega
  obtain ⟨N, eN, hN0, hN4⟩ := hN ((ns.map PyData.int).length : Int) (by omega)
  rw [eN]
  refine ⟨by omega, by omega, ?_⟩
  refine compD_by (fun rest acc s => (∃ (lo : Int) (k : Nat), rest = rangeD lo k ∧ 0 ≤ lo ∧ acc.length + k ≤ 5) ∧ s.ls = [] ∧ s.sc = ns.map .int ∧ ∀ d ∈ acc, d = .bool true) ?_ ?_ _ _ _ ⟨⟨0, _, rfl, by omega, by simp; omega⟩, rfl, rfl, by simp⟩
  · rintro d r acc s C ⟨⟨lo, k, e1, hlo, hk⟩, hls, hsc, hall⟩ hC
    cases k with
    | zero => cases e1
    | succ k =>
      injection e1 with e1 e2
      subst e1 e2
      refine ⟨trivial, lo, ns, rfl, hlo, hsc, hl, fun s1 h1 h2 h3 hv h4 => ?_⟩
      refine ⟨s.os.length, rfl, hv, fun s2 v2 => ?_⟩
      refine hC (some (.bool true)) s2 ⟨?_, ⟨lo + 1, k, rfl, by omega, by simp; omega⟩, by rw [v2.1, h1, hls], by rw [v2.2.1, h2, hsc], fun d hd => ?_⟩
      · have e : (100 : Nat) < sizeLine := by decide
        omega
      · rcases List.mem_append.mp hd with h | h
        · exact hall d h
        · simpa using h
  · rintro acc s ⟨_, hls, hsc, hall⟩
    refine ⟨trivial, acc.map fun _ => true, ?_, ?_⟩
    · have e := all_true hall
      rw [e, boolsOf_map, List.map_map]
      rfl
    · have e : (acc.map fun _ => true).all id = true := by simp
      rw [e]
      exact q _

/-! ### the mathematics of steps -/
def dl (g : Nat → Int) : Nat → Int := fun x => g (x + 1) - g x
def dlN : Nat → (Nat → Int) → Nat → Int
  | 0, g => g
  | m + 1, g => dlN m (dl g)
theorem dlN_succ : ∀ (m : Nat) (g : Nat → Int) (x : Nat), dlN (m + 1) g x = dlN m g (x + 1) - dlN m g x
  | 0, _, _ => rfl
  | m + 1, g, x => dlN_succ m (dl g) x
def bin : Nat → Nat → Nat
  | _, 0 => 1
  | 0, _ + 1 => 0
  | n + 1, k + 1 => bin n k + bin n (k + 1)
theorem bin_zero (n : Nat) : bin n 0 = 1 := by cases n <;> rfl
theorem bin_gt : ∀ (n k : Nat), n < k → bin n k = 0
  | n, 0, h => absurd h (by omega)
  | 0, k + 1, _ => rfl
  | n + 1, k + 1, h => by rw [bin, bin_gt n k (by omega), bin_gt n (k + 1) (by omega)]
theorem bin_self : ∀ n : Nat, bin n n = 1
  | 0 => rfl
  | n + 1 => by rw [bin, bin_self n, bin_gt n (n + 1) (by omega)]
theorem bin_le : ∀ (n k : Nat), bin n k ≤ 2 ^ n
  | n, 0 => by rw [bin_zero]; exact Nat.one_le_two_pow
  | 0, k + 1 => by simp [bin]
  | n + 1, k + 1 => by
    have h1 := bin_le n k
    have h2 := bin_le n (k + 1)
    rw [bin, Nat.pow_succ]; omega
theorem bin_abs : ∀ (n k : Nat), (k + 1) * bin (n + 1) (k + 1) = (n + 1) * bin n k
  | 0, 0 => by simp [bin]
  | 0, k + 1 => by simp [bin]
  | n + 1, 0 => by
    have h := bin_abs n 0
    have e : bin (n + 1 + 1) (0 + 1) = bin (n + 1) 0 + bin (n + 1) (0 + 1) := rfl
    rw [e, bin_zero]
    rw [bin_zero] at h
    omega
  | n + 1, k + 1 => by
    have h1 := bin_abs n k
    have h2 := bin_abs n (k + 1)
    rw [bin, Nat.mul_add, h2]
    have e1 : (k + 1 + 1) * bin (n + 1) (k + 1) = (k + 1) * bin (n + 1) (k + 1) + bin (n + 1) (k + 1) := by rw [Nat.add_mul (k + 1) 1, Nat.one_mul]
    have e2 : (n + 1 + 1) * bin (n + 1) (k + 1) = (n + 1) * bin (n + 1) (k + 1) + bin (n + 1) (k + 1) := by rw [Nat.add_mul (n + 1) 1, Nat.one_mul]
    rw [e1, h1, e2]
    have e3 : bin (n + 1) (k + 1) = bin n k + bin n (k + 1) := rfl
    rw [e3, Nat.mul_add]
    omega
def sumN (f : Nat → Int) : Nat → Int
  | 0 => 0
  | n + 1 => sumN f n + f n
theorem sumN_succ (f : Nat → Int) (n : Nat) : sumN f (n + 1) = sumN f n + f n := rfl
theorem sumN_congr {f g : Nat → Int} : ∀ {n : Nat}, (∀ i, i < n → f i = g i) → sumN f n = sumN g n
  | 0, _ => rfl
  | n + 1, h => by rw [sumN, sumN, sumN_congr (n := n) fun i hi => h i (by omega), h n (by omega)]
theorem sumN_head (f : Nat → Int) : ∀ n : Nat, sumN f (n + 1) = f 0 + sumN (fun i => f (i + 1)) n
  | 0 => by simp [sumN]
  | n + 1 => by rw [sumN, sumN_head f n, sumN]; omega
theorem sumN_add (f g : Nat → Int) : ∀ n : Nat, sumN (fun i => f i + g i) n = sumN f n + sumN g n
  | 0 => rfl
  | n + 1 => by simp only [sumN]; rw [sumN_add f g n]; omega
theorem sumN_neg (f : Nat → Int) : ∀ n : Nat, sumN (fun i => -f i) n = -sumN f n
  | 0 => rfl
  | n + 1 => by simp only [sumN]; rw [sumN_neg f n]; omega
theorem sumN_dvd {d : Int} {f : Nat → Int} : ∀ {n : Nat}, (∀ i, i < n → d ∣ f i) → d ∣ sumN f n
  | 0, _ => Int.dvd_zero d
  | n + 1, h => Int.dvd_add (sumN_dvd (n := n) fun i hi => h i (by omega)) (h n (by omega))
theorem sumN_tail {f : Nat → Int} {a : Nat} (h : ∀ i, a ≤ i → f i = 0) : ∀ b : Nat, sumN f (a + b) = sumN f a
  | 0 => rfl
  | b + 1 => by rw [← Nat.add_assoc, sumN, sumN_tail h b, h _ (by omega)]; omega
/-- Newton -/
theorem newton : ∀ (h : Nat) (g : Nat → Int) (i : Nat), g (i + h) = sumN (fun m => bin h m * dlN m g i) (h + 1)
  | 0, g, i => by simp [sumN, bin, dlN]
  | h + 1, g, i => by
    have e1 := newton h g i
    have e2 := newton h (dl g) i
    have e0 : g (i + (h + 1)) = g (i + h) + dl g (i + h) := by simp only [dl]; rw [← Nat.add_assoc]; omega
    rw [e0, e1, e2, sumN_head _ (h + 1), sumN_head _ h]
    have e3 : sumN (fun i_1 => (bin (h + 1) (i_1 + 1) : Int) * dlN (i_1 + 1) g i) (h + 1) = sumN (fun m => (bin h m : Int) * dlN m (dl g) i) (h + 1) + sumN (fun m => (bin h (m + 1) : Int) * dlN (m + 1) g i) (h + 1) := by
      rw [← sumN_add]
      refine sumN_congr fun m _ => ?_
      rw [bin, Int.natCast_add, Int.add_mul]
      rfl
    rw [e3, sumN_succ (fun m => (bin h (m + 1) : Int) * dlN (m + 1) g i) h, bin_gt h (h + 1) (by omega)]
    simp only [bin_zero]
    omega
/-- the steps' multiples hold at all places -/
theorem steps_all {g : Nat → Int} {n : Nat} (H : ∀ m, m < n → ∀ d : Nat, 1 ≤ d → d ≤ m → (d : Int) ∣ dlN m g 0) : ∀ (i m d : Nat), i + m < n → 1 ≤ d → d ≤ m → (d : Int) ∣ dlN m g i
  | 0, m, d, h, h1, h2 => H m (by omega) d h1 h2
  | i + 1, m, d, h, h1, h2 => by
    have a := steps_all H i m d (by omega) h1 h2
    have b := steps_all H i (m + 1) d (by omega) h1 (by omega)
    rw [dlN_succ] at b
    have := Int.dvd_add a b
    have e : dlN m g i + (dlN m g (i + 1) - dlN m g i) = dlN m g (i + 1) := by omega
    rwa [e] at this
theorem kept_of_steps {g : Nat → Int} {n : Nat} (H : ∀ m, m < n → ∀ d : Nat, 1 ≤ d → d ≤ m → (d : Int) ∣ dlN m g 0) (i h : Nat) (hn : i + h < n) : (h : Int) ∣ g (i + h) - g i := by
  rw [newton h g i, sumN_head]
  have e : (bin h 0 : Int) * dlN 0 g i + sumN (fun m => (bin h (m + 1) : Int) * dlN (m + 1) g i) h - g i = sumN (fun m => (bin h (m + 1) : Int) * dlN (m + 1) g i) h := by
    simp only [bin_zero, dlN]; omega
  rw [e]
  refine sumN_dvd fun m hm => ?_
  cases h with
  | zero => omega
  | succ h =>
    obtain ⟨q, hq⟩ := steps_all H i (m + 1) (m + 1) (by omega) (by omega) (Nat.le_refl _)
    rw [hq]
    refine ⟨bin h m * q, ?_⟩
    have := bin_abs h m
    have e2 : ((m + 1 : Nat) : Int) * (bin (h + 1) (m + 1) : Int) = ((h + 1 : Nat) : Int) * (bin h m : Int) := by
      rw [← Int.natCast_mul, ← Int.natCast_mul, this]
    rw [← Int.mul_assoc, Int.mul_comm (bin (h + 1) (m + 1) : Int), e2, Int.mul_assoc]
theorem dlN_zero : ∀ (m x : Nat), dlN m (fun _ => 0) x = 0
  | 0, _ => rfl
  | m + 1, x => by
    show dlN m (dl fun _ => 0) x = 0
    have e : dl (fun _ => 0) = fun _ => 0 := by funext y; simp [dl]
    rw [e]; exact dlN_zero m x
theorem dlN_bin (c : Int) : ∀ (m j x : Nat), dlN m (fun x => c * bin x j) x = if m ≤ j then c * bin x (j - m) else 0
  | 0, j, x => by simp [dlN]
  | m + 1, 0, x => by
    show dlN m (dl fun x => c * bin x 0) x = _
    have e : dl (fun x => c * (bin x 0 : Int)) = fun _ => 0 := by funext y; simp [dl, bin_zero]
    rw [e, dlN_zero]; simp
  | m + 1, j + 1, x => by
    show dlN m (dl fun x => c * bin x (j + 1)) x = _
    have e : dl (fun x => c * (bin x (j + 1) : Int)) = fun x => c * bin x j := by
      funext y
      simp only [dl]
      rw [← Int.mul_sub, bin]
      congr 1
      omega
    rw [e, dlN_bin c m j x]
    by_cases h : m ≤ j
    · rw [if_pos h, if_pos (by omega)]; congr 3; omega
    · rw [if_neg h, if_neg (by omega)]
/-- one part of Newton's sum keeps rests -/
theorem part_kept {c : Int} {j : Nat} (hc : ∀ d : Nat, 1 ≤ d → d ≤ j → (d : Int) ∣ c) (i h : Nat) : (h : Int) ∣ c * bin (i + h) j - c * bin i j := by
  refine kept_of_steps (g := fun x => c * bin x j) (n := i + h + 1) (fun m _ d h1 h2 => ?_) i h (by omega)
  rw [dlN_bin]
  split
  · exact Int.dvd_mul_of_dvd_left (hc d h1 (by omega))
  · exact Int.dvd_zero _
theorem steps_of_kept {g : Nat → Int} {n : Nat} (H : ∀ i h, i + h < n → (h : Int) ∣ g (i + h) - g i) : ∀ k, k < n → ∀ d : Nat, 1 ≤ d → d ≤ k → (d : Int) ∣ dlN k g 0 := by
  intro k
  induction k using Nat.strongRecOn with
  | _ k ih =>
    intro hk d h1 h2
    -- the sum of the first k parts
    have hu : ∀ x, x < k → g x = sumN (fun j => (bin x j : Int) * dlN j g 0) k := fun x hx => by
      have e := newton x g 0
      rw [Nat.zero_add] at e
      rw [e]
      have : k = x + 1 + (k - (x + 1)) := by omega
      rw [this]
      exact (sumN_tail (f := fun j => (bin x j : Int) * dlN j g 0) (a := x + 1) (fun j hj => by rw [bin_gt x j (by omega)]; simp) _).symm
    have hk2 : g k = sumN (fun j => (bin k j : Int) * dlN j g 0) k + dlN k g 0 := by
      have e := newton k g 0
      rw [Nat.zero_add] at e
      rw [e, sumN, bin_self]
      omega
    have hi : k - d + d = k := by omega
    have a := H (k - d) d (by omega)
    rw [hi] at a
    have b : (d : Int) ∣ sumN (fun j => (bin k j : Int) * dlN j g 0) k - sumN (fun j => (bin (k - d) j : Int) * dlN j g 0) k := by
      have e : sumN (fun j => (bin k j : Int) * dlN j g 0) k - sumN (fun j => (bin (k - d) j : Int) * dlN j g 0) k = sumN (fun j => (bin k j : Int) * dlN j g 0 + -((bin (k - d) j : Int) * dlN j g 0)) k := by
        rw [sumN_add, sumN_neg]; omega
      rw [e]
      refine sumN_dvd fun j hj => ?_
      have := part_kept (c := dlN j g 0) (j := j) (fun d h1 h2 => ih j hj (by omega) d h1 h2) (k - d) d
      rw [hi, Int.mul_comm _ (bin k j : Int), Int.mul_comm _ (bin (k - d) j : Int)] at this
      have e2 : (bin k j : Int) * dlN j g 0 + -((bin (k - d) j : Int) * dlN j g 0) = (bin k j : Int) * dlN j g 0 - (bin (k - d) j : Int) * dlN j g 0 := by omega
      rwa [e2]
    have := Int.dvd_sub a b
    have e : g k - g (k - d) - (sumN (fun j => (bin k j : Int) * dlN j g 0) k - sumN (fun j => (bin (k - d) j : Int) * dlN j g 0) k) = dlN k g 0 := by
      rw [hk2, hu (k - d) (by omega)]; omega
    rwa [e] at this
/-- alternating sums -/
def sgn (i : Nat) : Int := if i % 2 = 0 then 1 else -1
theorem sgn_succ (i : Nat) : sgn (i + 1) = -sgn i := by
  unfold sgn
  by_cases h : i % 2 = 0
  · rw [if_pos h, if_neg (by omega)]
  · rw [if_neg h, if_pos (by omega)]; rfl
theorem alt_sum : ∀ (k : Nat) (g : Nat → Int) (x : Nat), dlN k g x = sumN (fun j => sgn (k - j) * bin k j * g (x + j)) (k + 1)
  | 0, g, x => by simp [dlN, sumN, sgn, bin]
  | k + 1, g, x => by
    have ih := alt_sum k (dl g) x
    show dlN k (dl g) x = _
    rw [ih, sumN_head _ (k + 1)]
    have e1 : sumN (fun j => sgn (k - j) * bin k j * dl g (x + j)) (k + 1) = sumN (fun j => sgn (k - j) * bin k j * g (x + (j + 1))) (k + 1) + sumN (fun j => -(sgn (k - j) * bin k j * g (x + j))) (k + 1) := by
      rw [← sumN_add]
      refine sumN_congr fun j _ => ?_
      simp only [dl]
      rw [Int.mul_sub, Nat.add_assoc]
      omega
    have e2 : sumN (fun j => -(sgn (k - j) * bin k j * g (x + j))) (k + 1) = -(sgn k * bin k 0 * g (x + 0)) + sumN (fun j => sgn (k - j) * bin k (j + 1) * g (x + (j + 1))) (k + 1) := by
      rw [sumN_head, sumN_succ (fun j => sgn (k - j) * bin k (j + 1) * g (x + (j + 1))) k, bin_gt k (k + 1) (by omega)]
      have : sumN (fun i => -(sgn (k - (i + 1)) * bin k (i + 1) * g (x + (i + 1)))) k = sumN (fun j => sgn (k - j) * bin k (j + 1) * g (x + (j + 1))) k := by
        refine sumN_congr fun j hj => ?_
        have e : k - j = k - (j + 1) + 1 := by omega
        rw [e, sgn_succ, Int.neg_mul, Int.neg_mul]
      rw [this]
      simp
    have e3 : sumN (fun i => sgn (k + 1 - (i + 1)) * bin (k + 1) (i + 1) * g (x + (i + 1))) (k + 1) = sumN (fun j => sgn (k - j) * bin k j * g (x + (j + 1))) (k + 1) + sumN (fun j => sgn (k - j) * bin k (j + 1) * g (x + (j + 1))) (k + 1) := by
      rw [← sumN_add]
      refine sumN_congr fun j _ => ?_
      have e : k + 1 - (j + 1) = k - j := by omega
      rw [e, bin, Int.natCast_add, Int.mul_add, Int.add_mul]
    rw [e1, e2, e3]
    simp only [Nat.sub_zero, sgn_succ, bin_zero]
    have : -sgn k * ((1 : Nat) : Int) * g (x + 0) = -(sgn k * ((1 : Nat) : Int) * g (x + 0)) := by rw [Int.neg_mul, Int.neg_mul]
    rw [this]
    omega

/-! ### lists of whole numbers as data -/
theorem intsOf_some : ∀ {xs : List D} {cs : List Int}, intsOf xs = some cs → xs = cs.map .int
  | [], cs, h => by cases h; rfl
  | x :: r, cs, h => by
    cases x with
    | int i =>
      simp only [intsOf] at h
      cases e : intsOf r with
      | none => rw [e] at h; cases h
      | some c => rw [e] at h; cases h; rw [intsOf_some e]; rfl
    | _ => cases h
theorem intsOf_ints (cs : List Int) : intsOf (cs.map .int) = some cs := by simpa using intsOf_map (fun i : Int => i) cs
theorem ints_of_all : ∀ {xs : List D}, xs.all isInt = true → ∃ cs : List Int, xs = cs.map .int
  | [], _ => ⟨[], rfl⟩
  | x :: r, h => by
    rw [List.all_cons, Bool.and_eq_true] at h
    obtain ⟨i, rfl⟩ := isInt_of h.1
    obtain ⟨cs, rfl⟩ := ints_of_all h.2
    exact ⟨i :: cs, rfl⟩
theorem all_ints (cs : List Int) : (cs.map PyData.int).all isInt = true := by simp [List.all_map, isInt]
theorem isWhole_ints {v : D} {n : Int} (h : isWhole v n = true) : ∃ cs : List Int, v = .tuple (cs.map .int) ∧ (cs.length : Int) = n := by
  unfold isWhole at h
  split at h
  · rw [Bool.and_eq_true, decide_eq_true_eq] at h
    obtain ⟨cs, rfl⟩ := ints_of_all h.2
    exact ⟨cs, rfl, by simpa using h.1⟩
  · cases h
theorem isWhole_of {cs : List Int} {n : Int} (h : (cs.length : Int) = n) : isWhole (.tuple (cs.map .int)) n = true := by
  simp only [isWhole, List.length_map, h, decide_true, Bool.true_and, all_ints]
theorem vals_at {t : List Int} {i : Int} (h0 : 0 ≤ i) (h : i < t.length) : atI (t.map PyData.int) i = some (.int (at0 t i.toNat)) := mapD_at h0 h

/-! ### the checker: tables -/
def isVals (v : D) : Bool := match v with
  | .tuple xs => decide (1 ≤ xs.length) && decide (xs.length ≤ 40) && xs.all isInt
  | _ => false
def sp_values : Spec := fun vs s Q _ => ∃ v, vs = [.d v] ∧ Q (.d (.bool (isVals v))) s
theorem sem_values : Sem (m_are_values sp_whole) 1 sp_values := by
  rintro vs s Q Ex ⟨v, rfl, q⟩
  unfold m_are_values
  walk_at "dl"
  cases v with
  | tuple xs =>
    simp only [isiD, if_true]
    walk_at "dl"
    by_cases h1 : (1 : Int) ≤ xs.length
    · simp only [h1, decide_true, if_true]
      by_cases h2 : (xs.length : Int) ≤ 40
      · simp only [h2, decide_true, if_true]
        refine ⟨_, _, rfl, by omega, ?_⟩
        walk_at "dl"
        have e : isWhole (.tuple xs) xs.length = isVals (.tuple xs) := by
          have a1 : 1 ≤ xs.length := by omega
          have a2 : xs.length ≤ 40 := by omega
          simp [isWhole, isVals, a1, a2]
        rwa [e]
      · simp only [h2, decide_false, Bool.false_eq_true, if_false]
        have e : isVals (.tuple xs) = false := by
          have a2 : ¬ xs.length ≤ 40 := by omega
          simp [isVals, a2]
        rwa [e] at q
    · simp only [h1, decide_false, Bool.false_eq_true, if_false]
      have e : isVals (.tuple xs) = false := by
        have a2 : ¬ 1 ≤ xs.length := by omega
        simp only [isVals, a2, decide_false, Bool.false_and]
      rwa [e] at q
  | _ => simpa [isiD, isVals] using q
def gT (t : List Int) : Nat → Int := fun i => at0 t i
def stepsL (t : List Int) : List Int := (List.range t.length).map fun k => dlN k (gT t) 0
def divsB (g : Nat → Int) (k : Nat) (st : Int) : Bool := (List.range k).all fun d => decide (((d + 1 : Nat) : Int) ∣ st)
def keptFrom (g : Nat → Int) : Nat → List Int → Bool
  | _, [] => true
  | a, st :: r => if st = dlN a g 0 then if divsB g a st then keptFrom g (a + 1) r else false else false
def allDivs (g : Nat → Int) (n : Nat) : Bool := (List.range n).all fun k => divsB g k (dlN k g 0)
def rowD (g : Nat → Int) (a m : Nat) : List D := (List.range m).map fun i => .int (dlN a g i)
def shownVals (kept : Bool) (t : List Int) (c : D) : Bool := if kept then (match c with
    | .tuple xs => match intsOf xs with
      | some cs => decide (cs.length = t.length) && keptFrom (gT t) 0 cs
      | none => false
    | _ => false)
  else match c with
    | .tuple [.int i, .int j] => (decide (0 ≤ i) && decide (i < j) && decide (j < t.length)) && !decide (j - i ∣ at0 t j.toNat - at0 t i.toNat)
    | _ => false
theorem rowD_step (g : Nat → Int) (a m : Nat) : zipD (rowD g a (m + 1)) ((rowD g a (m + 1)).drop 1) = (List.range m).map fun i => .tuple [.int (dlN a g i), .int (dlN a g (i + 1))] := by
  apply List.ext_getElem?
  intro i
  have hl : (zipD (rowD g a (m + 1)) ((rowD g a (m + 1)).drop 1)).length = m := by rw [zipD_len]; simp [rowD]
  by_cases h : i < m
  · rw [zipD_get _ _ i (.int (dlN a g i)) (.int (dlN a g (i + 1))) (by simp [rowD, show i < m + 1 by omega]) (by simp [rowD, show i + 1 < m + 1 by omega])]
    simp [h]
  · rw [List.getElem?_eq_none (by omega), List.getElem?_eq_none (by simp; omega)]
def dltD : D → D
  | .tuple [.int x, .int y] => .int (y - x)
  | _ => .none
def sp_shownV : Spec := fun vs s Q _ => ∃ (kept : Bool) (t : List Int) (c : D), vs = [.d (.str (if kept then "kept" else "loose")), .d (.tuple (t.map .int)), .d c] ∧ t.length ≤ 40 ∧ Q (.d (.bool (shownVals kept t c))) s
theorem pairBelow_of {c : D} {n : Int} (h : pairBelow c n = true) : ∃ i j : Int, c = .tuple [.int i, .int j] ∧ 0 ≤ i ∧ i < j ∧ j < n := by
  unfold pairBelow at h
  split at h
  · simp only [Bool.and_eq_true, decide_eq_true_eq] at h
    exact ⟨_, _, rfl, by omega, by omega, by omega⟩
  · cases h
theorem sem_shownV : Sem (m_is_shown_of_values sp_below sp_divides sp_whole) 11 sp_shownV := by
  rintro vs s Q Ex ⟨kept, t, c, rfl, hl, q⟩
  unfold m_is_shown_of_values
  walk_at "dl"
  cases kept with
  | false =>
    refine cmpD_eqS _ _ _ ?_
    simp only [Bool.false_eq_true, if_false, decide_true, if_true]
    refine ⟨_, _, rfl, _, rfl, ?_⟩
    rw [List.length_map]
    cases e : pairBelow c t.length with
    | false =>
      have e2 : shownVals false t c = false := by
        unfold shownVals
        simp only [Bool.false_eq_true, if_false]
        split
        · rename_i i j
          simp only [pairBelow] at e
          rw [e, Bool.false_and]
        · rfl
      rw [e2] at q
      simp only [Bool.not_false, if_true]
      walk_at "dl"
      exact q
    | true =>
      obtain ⟨i, j, rfl, h0, h1, h2⟩ := pairBelow_of e
      simp only [Bool.not_true, Bool.false_eq_true, if_false]
      walk_at "dl"
      rw [vals_at (by omega) h2, vals_at h0 (by omega)]
      refine ⟨_, rfl, _, rfl, ?_⟩
      walk_at "dl"
      refine ⟨_, _, rfl, _, rfl, ?_⟩
      simpa [shownVals, h0, h1, h2, cutS_self] using q
  | true =>
    refine cmpD_eqS _ _ _ ?_
    have ne : ¬ (("kept" : Str) = "loose") := by decide +kernel
    simp only [if_true, ne, decide_false, Bool.false_eq_true, if_false]
    refine ⟨c, _, rfl, by rw [List.length_map]; omega, _, rfl, ?_⟩
    rw [List.length_map]
    cases e : isWhole c t.length with
    | false =>
      have e2 : shownVals true t c = false := by
        unfold shownVals
        simp only [if_true]
        split
        · split
          · rename_i xs cs hcs
            have := intsOf_some hcs
            subst this
            by_cases hn : cs.length = t.length
            · rw [isWhole_of (by omega)] at e; cases e
            · simp [hn]
          · rfl
        · rfl
      rw [e2] at q
      simp only [Bool.not_false, if_true]
      walk_at "dl"
      exact q
    | true =>
      obtain ⟨cs, rfl, hcl⟩ := isWhole_ints e
      simp only [Bool.not_true, Bool.false_eq_true, if_false]
      have hz : (1000000 : Nat) ≤ sizeLine := by decide
      have hk : shownVals true t (.tuple (cs.map .int)) = keptFrom (gT t) 0 cs := by
        unfold shownVals
        simp [intsOf_ints, show cs.length = t.length by omega]
      rw [hk] at q
      walk_at "dl"
      have row0 : t.map PyData.int = rowD (gT t) 0 t.length := by
        apply List.ext_getElem?
        intro i
        by_cases h : i < t.length
        · simp [rowD, dlN, gT, at0, h]
        · rw [List.getElem?_eq_none (by simp; omega), List.getElem?_eq_none (by simp [rowD]; omega)]
      refine ⟨by rw [List.length_map]; omega, ?_⟩
      refine loopD_by (fun rest ρ u => ∃ (ca cb : List Int) (a6 a7 a8 a9 a10 : Option Vl), cs = ca ++ cb ∧ rest = enumD ca.length (cb.map .int) ∧ u = s ∧ keptFrom (gT t) 0 cs = keptFrom (gT t) ca.length cb ∧
        ρ = [some (.d (.str "kept")), some (.d (.tuple (t.map .int))), some (.d (.tuple (cs.map .int))), none, none, some (.d (.list (rowD (gT t) ca.length (t.length - ca.length)))), a6, a7, a8, a9, a10]) ?_ ?_ _ _ _
        ⟨[], cs, none, none, none, none, none, rfl, rfl, rfl, rfl, by rw [row0]; rfl⟩
      · rintro d r ρ u K ⟨ca, cb, a6, a7, a8, a9, a10, e1, e2, rfl, hkf, rfl⟩ hK
        cases cb with
        | nil => cases e2
        | cons st cb =>
          injection e2 with e2 e3
          subst e2
          refine ⟨trivial, ?_⟩
          have hlen : cs.length = ca.length + (cb.length + 1) := by rw [e1]; simp
          obtain ⟨m, hm⟩ : ∃ m, t.length - ca.length = m + 1 := ⟨t.length - ca.length - 1, by omega⟩
          rw [keptFrom] at hkf
          rw [hm]
          have r0 : (rowD (gT t) ca.length (m + 1))[0]? = some (.int (dlN ca.length (gT t) 0)) := by simp [rowD]
          walk_at "dl"
          refine ⟨_, r0, ?_⟩
          walk_at "dl"
          by_cases h1 : st = dlN ca.length (gT t) 0
          · simp only [h1, if_true] at hkf
            have h1' : dlN ca.length (gT t) 0 = st := h1.symm
            simp only [h1', decide_true, Bool.not_true, Bool.false_eq_true, if_false]
            rw [h1'] at hkf
            refine ⟨by omega, by omega, ?_⟩
            refine compD_map (fun d => match d with | .int p => .bool (decide (p ∣ st)) | _ => .none) trivial (fun d hd C hC => ?_) (by rw [rangeD_len]; omega) ?_
            · obtain ⟨p, rfl, _, _⟩ := mem_rangeD hd
              exact ⟨_, _, rfl, hC⟩
            · have eb : (rangeD 1 ((ca.length : Int) + 1 - 1).toNat).map (fun d => match d with | .int p => PyData.bool (decide (p ∣ st)) | _ => .none) = (List.range ca.length).map fun d => PyData.bool (decide (((d + 1 : Nat) : Int) ∣ st)) := by
                rw [rangeD_eq, List.map_map]
                have : ((ca.length : Int) + 1 - 1).toNat = ca.length := by omega
                rw [this]
                refine List.map_congr_left fun i _ => ?_
                show PyData.bool (decide ((1 + (i : Int)) ∣ st)) = _
                rw [show (1 + (i : Int)) = ((i + 1 : Nat) : Int) by omega]
              rw [eb, boolsOf_map]
              walk_at "dl"
              have ea : ((List.range ca.length).map fun d => decide (((d + 1 : Nat) : Int) ∣ st)).all id = divsB (gT t) ca.length st := by simp [divsB, List.all_map]
              rw [ea]
              cases hd : divsB (gT t) ca.length st with
              | false =>
                rw [hd] at hkf
                simp only [Bool.false_eq_true, if_false] at hkf
                simp only [Bool.not_false, if_true]
                rw [hkf] at q
                walk_at "dl"
                exact q
              | true =>
                rw [hd] at hkf
                simp only [if_true] at hkf
                simp only [Bool.not_true, Bool.false_eq_true, if_false]
                refine ⟨by intros; trivial, ?_⟩
                rw [show List.drop 1 (rowD (gT t) ca.length (m + 1)) = List.drop 1 (rowD (gT t) ca.length (m + 1)) from rfl, rowD_step]
                refine compD_map dltD trivial (fun d hd C hC => ?_) (by rw [List.length_map, List.length_range]; omega) ?_
                · obtain ⟨i, _, rfl⟩ := List.mem_map.mp hd
                  walk_at "dl"
                  exact hC
                · have er : (((List.range m).map fun i => PyData.tuple [.int (dlN ca.length (gT t) i), .int (dlN ca.length (gT t) (i + 1))]).map dltD) = rowD (gT t) (ca ++ [st]).length (t.length - (ca ++ [st]).length) := by
                    rw [List.map_map]
                    have : t.length - (ca ++ [st]).length = m := by simp; omega
                    rw [this]
                    unfold rowD
                    refine List.map_congr_left fun i _ => ?_
                    show PyData.int (dlN ca.length (gT t) (i + 1) - dlN ca.length (gT t) i) = _
                    rw [List.length_append, List.length_singleton, dlN_succ]
                  rw [er]
                  exact hK _ _ ⟨ca ++ [st], cb, _, _, _, _, _, by simp [e1], by rw [e3]; simp, rfl, by rw [hkf]; simp, rfl⟩
          · have h1' : ¬ dlN ca.length (gT t) 0 = st := fun h => h1 h.symm
            simp only [h1, if_false] at hkf
            simp only [h1', decide_false, Bool.not_false, if_true]
            rw [hkf] at q
            walk_at "dl"
            exact q
      · rintro ρ u ⟨ca, cb, a6, a7, a8, a9, a10, e1, e2, rfl, hkf, rfl⟩
        cases cb with
        | cons st cb => cases e2
        | nil =>
          refine ⟨trivial, ?_⟩
          walk_at "dl"
          rw [hkf] at q
          exact q
/-- THE LAW OF TABLES: the steps are multiples exactly if all two values agree by the difference of their places -/
def agreeB (g : Nat → Int) (n : Nat) : Bool := (List.range n).all fun j => (List.range j).all fun i => decide (((j : Int) - i) ∣ g j - g i)
theorem agree_iff (g : Nat → Int) (n : Nat) : agreeB g n = allDivs g n := by
  rw [Bool.eq_iff_iff]
  unfold agreeB allDivs divsB
  simp only [List.all_eq_true, List.mem_range, decide_eq_true_eq]
  constructor
  · intro h k hk d hd
    refine steps_of_kept (n := n) (fun i h' hn => ?_) k hk (d + 1) (by omega) (by omega)
    rcases Nat.eq_zero_or_pos h' with rfl | hp
    · simp
    · have := h (i + h') hn i (by omega)
      have e : (((i + h' : Nat) : Int) - (i : Nat)) = (h' : Int) := by omega
      rwa [e] at this
  · intro h j hj i hi
    have := kept_of_steps (g := g) (n := n) (fun m hm d h1 h2 => by
      have := h m hm (d - 1) (by omega)
      rwa [show d - 1 + 1 = d by omega] at this) i (j - i) (by omega)
    rw [show i + (j - i) = j by omega] at this
    rwa [show (((j - i : Nat) : Int)) = (j : Int) - i by omega] at this
theorem keptFrom_eq (g : Nat → Int) : ∀ (cs : List Int) (a : Nat), keptFrom g a cs = (decide (cs = (List.range cs.length).map fun k => dlN (a + k) g 0) && (List.range cs.length).all fun k => divsB g (a + k) (dlN (a + k) g 0))
  | [], a => rfl
  | st :: r, a => by
    have e1 : (fun k => dlN (a + 1 + k) g 0) = fun k => dlN (a + (k + 1)) g 0 := by funext k; rw [show a + 1 + k = a + (k + 1) by omega]
    have e2 : (fun k => divsB g (a + 1 + k) (dlN (a + 1 + k) g 0)) = fun k => divsB g (a + (k + 1)) (dlN (a + (k + 1)) g 0) := by funext k; rw [show a + 1 + k = a + (k + 1) by omega]
    rw [keptFrom, keptFrom_eq g r (a + 1), List.length_cons, List.range_succ_eq_map, e1, e2]
    simp only [List.map_cons, List.map_map, List.all_cons, List.all_map, Function.comp_def, Nat.succ_eq_add_one, Nat.add_zero, List.cons.injEq, Bool.decide_and]
    by_cases h : st = dlN a g 0
    · simp only [h, if_true, decide_true, Bool.true_and]
      cases h2 : divsB g a (dlN a g 0) with
      | true => simp
      | false => simp
    · simp [h]
theorem keptFrom_due (t cs : List Int) (hl : cs.length = t.length) : keptFrom (gT t) 0 cs = (decide (cs = stepsL t) && agreeB (gT t) t.length) := by
  rw [keptFrom_eq, agree_iff, hl]
  simp only [Nat.zero_add]
  rfl
theorem stepsL_len (t : List Int) : (stepsL t).length = t.length := by simp [stepsL]
theorem shownV_due (t : List Int) : shownVals true t (.tuple ((stepsL t).map .int)) = agreeB (gT t) t.length := by
  unfold shownVals
  simp only [if_true, intsOf_ints, stepsL_len, decide_true, Bool.true_and]
  rw [keptFrom_due t _ (stepsL_len t)]
  simp
theorem shownV_not {t : List Int} {c : D} (h : c ≠ .tuple ((stepsL t).map .int)) : shownVals true t c = false := by
  unfold shownVals
  simp only [if_true]
  split
  · split
    · rename_i xs cs hcs
      have := intsOf_some hcs
      subst this
      by_cases hn : cs.length = t.length
      · rw [keptFrom_due t cs hn]
        have : cs ≠ stepsL t := fun e => h (by rw [e])
        simp [this]
      · simp [hn]
    · rfl
  · rfl
def sp_accV : Spec := fun vs s Q _ => ∃ (kept : Bool) (t : List Int) (c : D), vs = [.d (.tuple [.str (if kept then "kept" else "loose"), .tuple (t.map .int)]), .d c] ∧ 1 ≤ t.length ∧ t.length ≤ 40 ∧ Q (.d (.bool (shownVals kept t c))) s
theorem sem_accV {S1 S2 S3 S4 S7 S8 : Spec} : Sem (m_accepts S1 S2 S3 S4 sp_values sp_shownV S7 S8) 4 sp_accV := by
  rintro vs s Q Ex ⟨kept, t, c, rfl, h1, hl, q⟩
  unfold m_accepts
  walk_at "dl"
  simp only [isiD, if_true, Bool.not_true, Bool.false_eq_true, if_false]
  refine ⟨sz _ (by decide), ⟨["sure", "open"], rfl, ?_⟩⟩
  have m1 : decide ((if kept = true then ("kept" : Str) else "loose") ∈ (["sure", "open"] : List Str)) = false := by cases kept <;> decide +kernel
  simp only [m1, Bool.false_eq_true, if_false]
  refine ⟨sz _ (by decide), ⟨["fits", "quarrel"], rfl, ?_⟩⟩
  have m2 : decide ((if kept = true then ("kept" : Str) else "loose") ∈ (["fits", "quarrel"] : List Str)) = false := by cases kept <;> decide +kernel
  simp only [m2, Bool.false_eq_true, if_false]
  refine ⟨sz _ (by decide), ⟨["kept", "loose"], rfl, ?_⟩⟩
  have m3 : decide ((if kept = true then ("kept" : Str) else "loose") ∈ (["kept", "loose"] : List Str)) = true := by cases kept <;> decide +kernel
  simp only [m3, if_true]
  refine ⟨_, rfl, ?_⟩
  have iv : isVals (.tuple (t.map .int)) = true := by simp [isVals, h1, hl, isInt]
  rw [iv]
  walk_at "dl"
  refine ⟨kept, t, c, rfl, hl, ?_⟩
  walk_at "dl"
  exact q

/-! ### whole polynomials -/
def polyV : List Int → Int → Int
  | [], _ => 0
  | c :: r, x => polyV r x * x + c
theorem polyV_dvd (x y : Int) : ∀ cs : List Int, x - y ∣ polyV cs x - polyV cs y
  | [] => by simp [polyV]
  | c :: r => by
    have ih := polyV_dvd x y r
    have := Int.dvd_add (Int.dvd_mul_of_dvd_left (c := x) ih) (Int.dvd_mul_left (polyV r y) (x - y))
    have e : (polyV r x - polyV r y) * x + polyV r y * (x - y) = polyV (c :: r) x - polyV (c :: r) y := by
      simp only [polyV, Int.sub_mul, Int.mul_sub]; omega
    rwa [e] at this
theorem polyV_lt {x : Int} (hx : x.natAbs < 2 ^ 100) : ∀ {cs : List Int}, (∀ c ∈ cs, c.natAbs < 2 ^ 50) → (polyV cs x).natAbs < 2 ^ (101 * cs.length + 51)
  | [], _ => by simp [polyV]
  | c :: r, h => by
    have ih := polyV_lt hx (cs := r) fun d hd => h d (List.mem_cons_of_mem _ hd)
    have hc := h c List.mem_cons_self
    have e1 : (polyV (c :: r) x).natAbs ≤ (polyV r x).natAbs * x.natAbs + c.natAbs := by
      rw [← Int.natAbs_mul]; simp only [polyV]; omega
    have e2 := Nat.mul_le_mul (Nat.le_of_lt ih) (Nat.le_of_lt hx)
    have e3 : 2 ^ (101 * (c :: r).length + 51) = 2 ^ (101 * r.length + 51) * 2 ^ 100 * 2 := by
      rw [← Nat.pow_add, ← Nat.pow_succ]; congr 1
    have e4 : (2 : Nat) ^ 50 ≤ 2 ^ (101 * r.length + 51) * 2 ^ 100 := by
      rw [← Nat.pow_add]; exact Nat.pow_le_pow_right (by decide) (by omega)
    omega

def sp_made : Spec := fun vs s Q _ => ∃ (cs : List Int) (x : Int), vs = [.d (.list (cs.map .int)), .d (.int x)] ∧ cs.length ≤ 10 ∧ (∀ c ∈ cs, c.natAbs < 2 ^ 50) ∧ x.natAbs < 2 ^ 100 ∧ Q (.d (.int (polyV cs x))) s
theorem sem_made : Sem m__law_made_value 4 sp_made := by
  rintro vs s Q Ex ⟨cs, x, rfl, hl, hc, hx, q⟩
  unfold m__law_made_value
  walk_at "dl"
  refine loopD_by (fun rest ρ t => ∃ (ca cb : List Int) (a3 : Option Vl), cs = ca ++ cb ∧ rest = (ca.map PyData.int).reverse ∧ t = s ∧ ρ = [some (.d (.list (cs.map .int))), some (.d (.int x)), some (.d (.int (polyV cb x))), a3]) ?_ ?_ _ _ _ ⟨cs, [], none, by simp, rfl, rfl, rfl⟩
  · rintro d r ρ t K ⟨ca, cb, a3, e1, e2, rfl, rfl⟩ hK
    rcases List.eq_nil_or_concat ca with rfl | ⟨ci, c, rfl⟩
    · cases e2
    · rw [List.concat_eq_append] at e1 e2
      rw [List.map_append, List.reverse_append] at e2
      injection e2 with e2 e3
      subst e2
      refine ⟨trivial, ?_⟩
      walk_at "dl"
      have hcb : ∀ c ∈ cb, c.natAbs < 2 ^ 50 := fun c h => hc c (by rw [e1]; simp [h])
      have lb : cb.length ≤ 10 := by
        have : cs.length = ci.length + 1 + cb.length := by rw [e1]; simp; omega
        omega
      have b1 := polyV_lt hx hcb
      have b2 : (2 : Nat) ^ (101 * cb.length + 51) ≤ 2 ^ 5000 := Nat.pow_le_pow_right (by decide) (by omega)
      have b3 : (2 : Nat) ^ 100 ≤ 2 ^ 5000 := Nat.pow_le_pow_right (by decide) (by decide)
      exact ⟨wid_mul (by omega) (by omega), hK _ _ ⟨ci, c :: cb, _, by simp [e1], e3, rfl, rfl⟩⟩
  · rintro ρ t ⟨ca, cb, a3, e1, e2, rfl, rfl⟩
    have : ca = [] := by
      cases ca with
      | nil => rfl
      | cons a r => simp at e2
    subst this
    rw [List.nil_append] at e1
    subst e1
    refine ⟨trivial, ?_⟩
    walk_at "dl"
    exact q

/-! ### the mathematics of whole polynomials through points -/
/-- c and p times (x - a) -/
def mulXc (a : Int) : Int → List Int → List Int
  | c, [] => [c]
  | c, q :: r => (c - a * q) :: mulXc a q r
theorem mulXc_len (a : Int) : ∀ (c : Int) (p : List Int), (mulXc a c p).length = p.length + 1
  | _, [] => rfl
  | c, q :: r => by simp [mulXc, mulXc_len a q r]
theorem mulXc_val (a x : Int) : ∀ (c : Int) (p : List Int), polyV (mulXc a c p) x = c + (x - a) * polyV p x
  | c, [] => by simp [mulXc, polyV]
  | c, q :: r => by
    simp only [mulXc, polyV]
    rw [mulXc_val a x q r]
    generalize polyV r x = V
    simp only [Int.add_mul, Int.mul_add, Int.sub_mul, Int.mul_sub, Int.mul_assoc, Int.mul_comm, Int.mul_left_comm]
    omega
def quo (a : Int) : List Int → List Int
  | [] => []
  | [_] => []
  | _ :: c :: r => polyV (c :: r) a :: quo a (c :: r)
theorem quo_len (a : Int) : ∀ q : List Int, (quo a q).length = q.length - 1
  | [] => rfl
  | [_] => rfl
  | _ :: c :: r => by simp [quo, quo_len a (c :: r)]
theorem quo_val (a x : Int) : ∀ q : List Int, polyV q x = (x - a) * polyV (quo a q) x + polyV q a
  | [] => by simp [quo, polyV]
  | [c] => by simp [quo, polyV]
  | b :: c :: r => by
    have ih := quo_val a x (c :: r)
    have e1 : polyV (b :: c :: r) x = polyV (c :: r) x * x + b := rfl
    have e2 : polyV (b :: c :: r) a = polyV (c :: r) a * a + b := rfl
    have e3 : polyV (quo a (b :: c :: r)) x = polyV (quo a (c :: r)) x * x + polyV (c :: r) a := rfl
    rw [e1, e2, e3, ih]
    generalize polyV (c :: r) a = R
    generalize polyV (quo a (c :: r)) x = V
    simp only [Int.add_mul, Int.mul_add, Int.sub_mul, Int.mul_sub, Int.mul_assoc, Int.mul_comm, Int.mul_left_comm]
    omega
theorem quo_zero (a : Int) : ∀ q : List Int, (∀ c ∈ quo a q, c = 0) → polyV q a = 0 → ∀ c ∈ q, c = 0
  | [], _, _ => by simp
  | [c], _, h => by simpa [polyV] using h
  | b :: c :: r, h, h0 => by
    have h1 : polyV (c :: r) a = 0 := h _ (by simp [quo])
    have ih := quo_zero a (c :: r) (fun d hd => h d (by simp [quo, hd])) h1
    rw [polyV, h1] at h0
    intro d hd
    rcases List.mem_cons.mp hd with rfl | hd
    · simpa using h0
    · exact ih d hd
/-- as many roots as places: all factors are 0 -/
theorem all_zero : ∀ (xs q : List Int), xs.Nodup → q.length ≤ xs.length → (∀ x ∈ xs, polyV q x = 0) → ∀ c ∈ q, c = 0
  | [], q, _, h, _ => by
    have : q = [] := List.eq_nil_of_length_eq_zero (by simpa using h)
    subst this; simp
  | a :: r, q, hn, hl, h => by
    obtain ⟨ha, hr⟩ := List.nodup_cons.mp hn
    have h0 := h a List.mem_cons_self
    refine quo_zero a q (all_zero r (quo a q) hr (by rw [quo_len]; simp at hl; omega) fun x hx => ?_) h0
    have e := quo_val a x q
    rw [h x (List.mem_cons_of_mem _ hx), h0, Int.add_zero] at e
    have hne : x - a ≠ 0 := fun e => ha (by rw [show a = x by omega]; exact hx)
    rcases Int.mul_eq_zero.mp e.symm with h | h
    · exact absurd h hne
    · exact h
def prodX (x : Int) : List Int → Int
  | [] => 1
  | a :: r => (x - a) * prodX x r
theorem prodX_ne {x : Int} : ∀ {xs : List Int}, x ∉ xs → prodX x xs ≠ 0
  | [], _ => by simp [prodX]
  | a :: r, h => by
    rw [prodX]
    intro e
    rcases Int.mul_eq_zero.mp e with h1 | h1
    · exact h (by rw [show x = a by omega]; simp)
    · exact prodX_ne (fun hx => h (List.mem_cons_of_mem _ hx)) h1
theorem prodX_zero {x : Int} : ∀ {xs : List Int}, x ∈ xs → prodX x xs = 0
  | a :: r, h => by
    rw [prodX]
    rcases List.mem_cons.mp h with rfl | h
    · simp
    · rw [prodX_zero h, Int.mul_zero]
/-- what is 0 at places is divided by the differences -/
theorem prodX_dvd (x : Int) : ∀ (xs q : List Int), xs.Nodup → (∀ y ∈ xs, polyV q y = 0) → prodX x xs ∣ polyV q x
  | [], q, _, _ => Int.one_dvd _
  | a :: r, q, hn, h => by
    obtain ⟨ha, hr⟩ := List.nodup_cons.mp hn
    have h0 := h a List.mem_cons_self
    have e := quo_val a x q
    rw [h0, Int.add_zero] at e
    rw [e, prodX]
    refine Int.mul_dvd_mul (Int.dvd_refl _) (prodX_dvd x r (quo a q) hr fun y hy => ?_)
    have e := quo_val a y q
    rw [h y (List.mem_cons_of_mem _ hy), h0, Int.add_zero] at e
    have hne : y - a ≠ 0 := fun e => ha (by rw [show a = y by omega]; exact hy)
    rcases Int.mul_eq_zero.mp e.symm with h | h
    · exact absurd h hne
    · exact h
/-- sums and multiples of polynomials of one length -/
def padP (n : Nat) (p : List Int) : List Int := p ++ List.replicate (n - p.length) 0
theorem padP_len {n : Nat} {p : List Int} (h : p.length ≤ n) : (padP n p).length = n := by simp [padP]; omega
theorem polyV_zeros (x : Int) : ∀ n : Nat, polyV (List.replicate n 0) x = 0
  | 0 => rfl
  | n + 1 => by rw [List.replicate_succ, polyV, polyV_zeros x n]; simp
theorem polyV_pad (x : Int) (k : Nat) : ∀ p : List Int, polyV (p ++ List.replicate k 0) x = polyV p x
  | [] => by rw [List.nil_append, polyV_zeros]; rfl
  | c :: r => by rw [List.cons_append, polyV, polyV_pad x k r, polyV]
theorem padP_val (n : Nat) (p : List Int) (x : Int) : polyV (padP n p) x = polyV p x := polyV_pad x _ p
def linP (a b : Int) : List Int → List Int → List Int
  | p :: ps, q :: qs => (a * p + b * q) :: linP a b ps qs
  | _, _ => []
theorem linP_len (a b : Int) : ∀ (p q : List Int), p.length = q.length → (linP a b p q).length = p.length
  | [], [], _ => rfl
  | [], _ :: _, h => by simp at h
  | _ :: _, [], h => by simp at h
  | p :: ps, q :: qs, h => by simp [linP, linP_len a b ps qs (by simpa using h)]
theorem linP_val (a b x : Int) : ∀ (p q : List Int), p.length = q.length → polyV (linP a b p q) x = a * polyV p x + b * polyV q x
  | [], [], _ => by simp [linP, polyV]
  | [], _ :: _, h => by simp at h
  | _ :: _, [], h => by simp at h
  | p :: ps, q :: qs, h => by
    simp only [linP, polyV]
    rw [linP_val a b x ps qs (by simpa using h)]
    simp only [Int.add_mul, Int.mul_add, Int.mul_assoc]
    omega
theorem linP_get (a b : Int) : ∀ (p q : List Int), p.length = q.length → (∀ c ∈ linP a b p q, c = 0) → p.map (a * ·) = q.map (-b * ·)
  | [], [], _, _ => rfl
  | [], _ :: _, h, _ => by simp at h
  | _ :: _, [], h, _ => by simp at h
  | p :: ps, q :: qs, h, h0 => by
    have h1 := h0 (a * p + b * q) (by simp [linP])
    rw [List.map_cons, List.map_cons, linP_get a b ps qs (by simpa using h) fun c hc => h0 c (by simp [linP, hc])]
    congr 1
    rw [Int.neg_mul]; omega
abbrev Pts := List (Int × Int)
/-- a whole polynomial of a small degree goes through -/
def Whole (ps : Pts) : Prop := ∃ P : List Int, P.length ≤ ps.length ∧ ∀ p ∈ ps, polyV P p.1 = p.2
/-! Newton's way -/
def nval : Pts → Int → Int
  | [], _ => 0
  | (a, t) :: r, x => t + (x - a) * nval r x
def nco : Pts → List Int
  | [] => []
  | (a, t) :: r => mulXc a t (nco r)
theorem nco_len : ∀ zs : Pts, (nco zs).length = zs.length
  | [] => rfl
  | (a, t) :: r => by rw [nco, mulXc_len, nco_len r]; rfl
theorem nco_val (x : Int) : ∀ zs : Pts, polyV (nco zs) x = nval zs x
  | [] => rfl
  | (a, t) :: r => by rw [nco, mulXc_val, nco_val x r, nval]
theorem nval_app (x a t : Int) : ∀ zs : Pts, nval (zs ++ [(a, t)]) x = nval zs x + t * prodX x (zs.map (·.1))
  | [] => by simp [nval, prodX]
  | (b, u) :: r => by
    rw [List.cons_append, nval, nval_app x a t r, nval, List.map_cons]
    show u + (x - b) * (nval r x + t * prodX x (r.map (·.1))) = u + (x - b) * nval r x + t * ((x - b) * prodX x (r.map (·.1)))
    rw [Int.mul_add, Int.mul_left_comm t]
    omega
/-- the last point's gap and product -/
def gapF (x : Int) : Int → Int → Pts → Int × Int
  | v, p, [] => (v, p)
  | v, p, (a, t) :: r => gapF x (v - t * p) (p * (x - a)) r
theorem gapF_eq (x : Int) : ∀ (zs : Pts) (v p : Int), gapF x v p zs = (v - p * nval zs x, p * prodX x (zs.map (·.1)))
  | [], v, p => by simp [gapF, nval, prodX]
  | (a, t) :: r, v, p => by
    rw [gapF, gapF_eq x r, nval, List.map_cons, prodX, Int.mul_assoc, Int.mul_assoc, Int.mul_add, Int.mul_comm t p]
    congr 1
    omega
/-- Newton's factors through points: they are found, as long as there are whole ones -/
theorem newton_step {zs pre : Pts} {x y : Int} (h1 : zs.map (·.1) = pre.map (·.1)) (h2 : ∀ p ∈ pre, nval zs p.1 = p.2) (hn : ((pre ++ [(x, y)]).map (·.1)).Nodup) : Whole (pre ++ [(x, y)]) ↔ prodX x (zs.map (·.1)) ∣ y - nval zs x := by
  have hn' : (pre.map (·.1)).Nodup ∧ x ∉ pre.map (·.1) := by
    rw [List.map_append, List.nodup_append] at hn
    refine ⟨hn.1, fun h => ?_⟩
    exact hn.2.2 x h x (by simp) rfl
  have hlen : zs.length = pre.length := by simpa using congrArg List.length h1
  constructor
  · rintro ⟨P, hP1, hP2⟩
    have hl : (padP (pre.length + 1) P).length = (padP (pre.length + 1) (nco zs)).length := by
      rw [padP_len (by simpa using hP1), padP_len (by rw [nco_len]; omega)]
    have hv : ∀ z, polyV (linP 1 (-1) (padP (pre.length + 1) P) (padP (pre.length + 1) (nco zs))) z = polyV P z - nval zs z := fun z => by
      rw [linP_val _ _ _ _ _ hl, padP_val, padP_val, nco_val]; omega
    have := prodX_dvd x (pre.map (·.1)) (linP 1 (-1) (padP (pre.length + 1) P) (padP (pre.length + 1) (nco zs))) hn'.1 fun z hz => by
      obtain ⟨p, hp, rfl⟩ := List.mem_map.mp hz
      rw [hv, hP2 p (List.mem_append_left _ hp), h2 p hp]; omega
    rw [hv, hP2 (x, y) (by simp)] at this
    rw [h1]; exact this
  · rintro ⟨t, ht⟩
    refine ⟨nco (zs ++ [(x, t)]), by rw [nco_len]; simp [hlen], fun p hp => ?_⟩
    rw [nco_val, nval_app]
    rcases List.mem_append.mp hp with hp | hp
    · rw [h1, prodX_zero (List.mem_map.mpr ⟨p, hp, rfl⟩), h2 p hp]; simp
    · have e : p = (x, y) := by simpa using hp
      rw [e]
      show nval zs x + t * prodX x (zs.map (·.1)) = y
      rw [Int.mul_comm]
      omega
theorem newton_dvd {zs pre : Pts} {x y : Int} {P : List Int} (h1 : zs.map (·.1) = pre.map (·.1)) (h2 : ∀ p ∈ pre, nval zs p.1 = p.2) (hn : (pre.map (·.1)).Nodup) (hP : ∀ p ∈ pre ++ [(x, y)], polyV P p.1 = p.2) : prodX x (zs.map (·.1)) ∣ y - nval zs x := by
  have hl : (padP (P.length + zs.length) P).length = (padP (P.length + zs.length) (nco zs)).length := by
    rw [padP_len (by omega), padP_len (by rw [nco_len]; omega)]
  have hv : ∀ z, polyV (linP 1 (-1) (padP (P.length + zs.length) P) (padP (P.length + zs.length) (nco zs))) z = polyV P z - nval zs z := fun z => by
    rw [linP_val _ _ _ _ _ hl, padP_val, padP_val, nco_val]; omega
  have := prodX_dvd x (pre.map (·.1)) (linP 1 (-1) (padP (P.length + zs.length) P) (padP (P.length + zs.length) (nco zs))) hn fun z hz => by
    obtain ⟨p, hp, rfl⟩ := List.mem_map.mp hz
    rw [hv, hP p (List.mem_append_left _ hp), h2 p hp]; omega
  rw [hv, hP (x, y) (by simp)] at this
  rw [h1]; exact this
theorem newton_more {zs pre : Pts} {x y t : Int} (h1 : zs.map (·.1) = pre.map (·.1)) (h2 : ∀ p ∈ pre, nval zs p.1 = p.2) (ht : y - nval zs x = prodX x (zs.map (·.1)) * t) : (zs ++ [(x, t)]).map (·.1) = (pre ++ [(x, y)]).map (·.1) ∧ ∀ p ∈ pre ++ [(x, y)], nval (zs ++ [(x, t)]) p.1 = p.2 := by
  refine ⟨by simp [h1], fun p hp => ?_⟩
  rw [nval_app]
  rcases List.mem_append.mp hp with hp | hp
  · rw [h1, prodX_zero (List.mem_map.mpr ⟨p, hp, rfl⟩), h2 p hp]; simp
  · have e : p = (x, y) := by simpa using hp
    rw [e]
    show nval zs x + t * prodX x (zs.map (·.1)) = y
    rw [Int.mul_comm]
    omega
/-! Lagrange's way -/
def basis (others : List Int) : List Int := others.foldl (fun p a => mulXc a 0 p) [1]
theorem fold_mulX (z : Int) : ∀ (xs p : List Int), polyV (xs.foldl (fun p a => mulXc a 0 p) p) z = polyV p z * prodX z xs
  | [], p => by simp [prodX]
  | a :: r, p => by
    rw [List.foldl_cons, fold_mulX z r, mulXc_val, prodX, Int.zero_add, Int.mul_comm (z - a), Int.mul_assoc]
theorem basis_val (z : Int) (xs : List Int) : polyV (basis xs) z = prodX z xs := by
  rw [basis, fold_mulX]
  simp [polyV]
theorem fold_len : ∀ (xs p : List Int), (xs.foldl (fun p a => mulXc a 0 p) p).length = p.length + xs.length
  | [], p => by simp
  | a :: r, p => by rw [List.foldl_cons, fold_len r, mulXc_len, List.length_cons]; omega
theorem basis_len (xs : List Int) : (basis xs).length = xs.length + 1 := by rw [basis, fold_len]; simp; omega
theorem fold_prod (z : Int) : ∀ (xs : List Int) (u : Int), xs.foldl (fun u a => u * (z - a)) u = u * prodX z xs
  | [], u => by simp [prodX]
  | a :: r, u => by rw [List.foldl_cons, fold_prod z r, prodX, Int.mul_assoc]
theorem dvd_linear {b : Int} (hb : b ≠ 0) : ∀ {p q : List Int}, p.map (b * ·) = q → ∀ c ∈ q, b ∣ c := by
  rintro p q rfl c hc
  obtain ⟨d, _, rfl⟩ := List.mem_map.mp hc
  exact Int.dvd_mul_right b d
/-- what is found by Lagrange's sums -/
theorem lagr_whole {ps : Pts} {T : List Int} {b : Int} (hb : b ≠ 0) (hn : (ps.map (·.1)).Nodup) (hl : T.length = ps.length) (hv : ∀ p ∈ ps, polyV T p.1 = b * p.2) (hw : Whole ps) : ∀ c ∈ T, b ∣ c := by
  obtain ⟨P, hP1, hP2⟩ := hw
  have hlen : (padP ps.length P).length = T.length := by rw [padP_len hP1, hl]
  have hz := all_zero (ps.map (·.1)) (linP b (-1) (padP ps.length P) T) hn (by rw [linP_len _ _ _ _ hlen, padP_len hP1]; simp) fun x hx => by
    obtain ⟨p, hp, rfl⟩ := List.mem_map.mp hx
    rw [linP_val _ _ _ _ _ hlen, padP_val, hP2 p hp, hv p hp]; omega
  have := linP_get b (-1) _ _ hlen hz
  refine dvd_linear hb (p := padP ps.length P) (q := T) ?_
  rw [this]
  simp
theorem lagr_own {ps : Pts} {T : List Int} {b : Int} (hb : b ≠ 0) (hv : ∀ p ∈ ps, polyV T p.1 = b * p.2) (hd : ∀ c ∈ T, b ∣ c) : ∀ p ∈ ps, polyV (T.map fun c => c.fdiv b) p.1 = p.2 := by
  have key : ∀ (T : List Int), (∀ c ∈ T, b ∣ c) → ∀ x, b * polyV (T.map fun c => c.fdiv b) x = polyV T x := by
    intro T
    induction T with
    | nil => intro _ x; simp [polyV]
    | cons c r ih =>
      intro h x
      rw [List.map_cons, polyV, polyV, ← ih (fun d hd => h d (List.mem_cons_of_mem _ hd)) x]
      have hc := Int.mul_fdiv_add_fmod c b
      rw [(fmod_zero_iff b c).mpr (h c List.mem_cons_self)] at hc
      rw [Int.mul_add, Int.mul_assoc]
      omega
  intro p hp
  have := key T hd p.1
  rw [hv p hp] at this
  exact Int.eq_of_mul_eq_mul_left hb this
/-- two whole polynomials through the same points -/
theorem same_poly {ps : Pts} {P R : List Int} (hn : (ps.map (·.1)).Nodup) (h1 : P.length ≤ ps.length) (h2 : R.length ≤ ps.length) (hP : ∀ p ∈ ps, polyV P p.1 = p.2) (hR : ∀ p ∈ ps, polyV R p.1 = p.2) : padP ps.length P = padP ps.length R := by
  have hlen : (padP ps.length P).length = (padP ps.length R).length := by rw [padP_len h1, padP_len h2]
  have hz := all_zero (ps.map (·.1)) (linP 1 (-1) (padP ps.length P) (padP ps.length R)) hn (by rw [linP_len _ _ _ _ hlen, padP_len h1]; simp) fun x hx => by
    obtain ⟨p, hp, rfl⟩ := List.mem_map.mp hx
    rw [linP_val _ _ _ _ _ hlen, padP_val, padP_val, hP p hp, hR p hp]; omega
  have := linP_get 1 (-1) _ _ hlen hz
  simpa using this

/-! ### the checker: points -/
def ptD (p : Int × Int) : D := .tuple [.int p.1, .int p.2]
def ptsD (ps : Pts) : D := .tuple (ps.map ptD)
structure PB (ps : Pts) : Prop where
  x : ∀ p ∈ ps, p.1.natAbs < 2 ^ 100
  y : ∀ p ∈ ps, p.2.natAbs < 2 ^ 1000
theorem polyV_snoc (x c : Int) : ∀ fa : List Int, polyV (fa ++ [c]) x = polyV fa x + c * x ^ fa.length
  | [] => by simp [polyV]
  | a :: r => by
    rw [List.cons_append, polyV, polyV_snoc x c r, polyV, List.length_cons, Int.pow_succ, Int.add_mul, Int.mul_assoc]
    omega
theorem pow_lt {x : Int} (h : x.natAbs < 2 ^ 100) : ∀ k : Nat, (x ^ k).natAbs ≤ 2 ^ (100 * k)
  | 0 => by simp
  | k + 1 => by
    rw [Int.pow_succ, Int.natAbs_mul, show 100 * (k + 1) = 100 * k + 100 by omega, Nat.pow_add]
    exact Nat.mul_le_mul (pow_lt h k) (Nat.le_of_lt h)
theorem wid_mulE {a b : Int} {i j : Nat} (ha : a.natAbs < 2 ^ i) (hb : b.natAbs < 2 ^ j) (h : i + j < 900000) : CMul a b ∨ CMulW a b := by
  have l1 := log2_le ha
  have l2 := log2_le hb
  exact .inr (by unfold CMulW; omega)
theorem lt_succ_pow {a k : Nat} (h : a ≤ 2 ^ k) : a < 2 ^ (k + 1) := by
  have : 0 < 2 ^ k := Nat.two_pow_pos k
  rw [Nat.pow_succ]; omega
def sp_vthere : Spec := fun vs s Q _ => ∃ (cs : List Int) (x : Int), vs = [.d (.tuple (cs.map .int)), .d (.int x)] ∧ cs.length ≤ 50 ∧ (∀ c ∈ cs, c.natAbs < 2 ^ 50000) ∧ x.natAbs < 2 ^ 100 ∧ Q (.d (.int (polyV cs x))) s
theorem sem_vthere : Sem m_value_there 5 sp_vthere := by
  rintro vs s Q Ex ⟨cs, x, rfl, hl, hc, hx, q⟩
  unfold m_value_there
  walk_at "dl"
  refine ⟨sz _ (by decide), ?_⟩
  refine loopD_by (fun rest ρ t => ∃ (fa fb : List Int) (a4 : Option Vl), cs = fa ++ fb ∧ rest = fb.map .int ∧ t = s ∧ ρ = [some (.d (.tuple (cs.map .int))), some (.d (.int x)), some (.d (.int (polyV fa x))), some (.d (.int (x ^ fa.length))), a4]) ?_ ?_ _ _ _ ⟨[], cs, none, rfl, rfl, rfl, by simp [polyV]⟩
  · rintro d r ρ t K ⟨fa, fb, a4, e1, e2, rfl, rfl⟩ hK
    cases fb with
    | nil => cases e2
    | cons c fb =>
      injection e2 with e2 e3
      subst e2 e3
      refine ⟨trivial, ?_⟩
      walk_at "dl"
      have hfl : fa.length ≤ 50 := by
        have : cs.length = fa.length + (fb.length + 1) := by rw [e1]; simp
        omega
      have h1 := lt_succ_pow (pow_lt hx fa.length)
      refine ⟨wid_mulE (hc c (by rw [e1]; simp)) h1 (by omega), wid_mulE h1 hx (by omega), ?_⟩
      have e3 : polyV fa x + c * x ^ fa.length = polyV (fa ++ [c]) x := (polyV_snoc x c fa).symm
      have e4 : x ^ fa.length * x = x ^ (fa ++ [c]).length := by rw [List.length_append, List.length_singleton, Int.pow_succ]
      rw [e3, e4]
      exact hK _ _ ⟨fa ++ [c], fb, _, by simp [e1], rfl, rfl, rfl⟩
  · rintro ρ t ⟨fa, fb, a4, e1, e2, rfl, rfl⟩
    cases fb with
    | cons c fb => cases e2
    | nil =>
      rw [List.append_nil] at e1
      subst e1
      refine ⟨trivial, ?_⟩
      walk_at "dl"
      exact q
/-! the gap -/
theorem guard_of {v : Vl} {xs : List D} {s : S} (h : asD v s = some (.list xs)) : guard v xs s := by
  cases v with
  | d x => trivial
  | loc n =>
    simp only [asD] at h
    show s.ls[n]? = some (.op xs) ∨ s.ls[n]? = some (.fz xs)
    split at h
    · rename_i e; injection h with h; injection h with h; subst h; exact .inl e
    · rename_i e; injection h with h; injection h with h; subst h; exact .inr e
    · cases h
  | obj n =>
    simp only [asD] at h
    show s.os[n]? = some (.lst xs)
    split at h
    · rename_i e; injection h with h; injection h with h; subst h; exact e
    · cases h
  | exc x => simp [asD] at h
  | scr =>
    injection h with h; injection h with h
theorem gapF_bound {x : Int} {M : Nat} : ∀ (zs : Pts) (v p : Int) (k : Nat), (∀ z ∈ zs, z.2.natAbs < 2 ^ M ∧ (x - z.1).natAbs ≤ 2 ^ 101) → v.natAbs ≤ (k + 1) * 2 ^ (M + 101 * 40) → p.natAbs ≤ 2 ^ (101 * k) → k + zs.length ≤ 40 → (gapF x v p zs).1.natAbs ≤ 41 * 2 ^ (M + 101 * 40) ∧ (gapF x v p zs).2.natAbs ≤ 2 ^ (101 * 40)
  | [], v, p, k, _, hv, hp, hk => by
    refine ⟨Nat.le_trans hv (Nat.mul_le_mul_right _ (by simp at hk; omega)), Nat.le_trans hp (Nat.pow_le_pow_right (by decide) (by simp at hk; omega))⟩
  | (a, t) :: r, v, p, k, h, hv, hp, hk => by
    obtain ⟨h1, h2⟩ := h (a, t) List.mem_cons_self
    rw [List.length_cons] at hk
    refine gapF_bound r _ _ (k + 1) (fun z hz => h z (List.mem_cons_of_mem _ hz)) ?_ ?_ (by omega)
    · have e1 : (t * p).natAbs ≤ 2 ^ (M + 101 * 40) := by
        rw [Int.natAbs_mul, Nat.pow_add]
        exact Nat.mul_le_mul (Nat.le_of_lt h1) (Nat.le_trans hp (Nat.pow_le_pow_right (by decide) (by omega)))
      have e2 : (k + 1 + 1) * 2 ^ (M + 101 * 40) = (k + 1) * 2 ^ (M + 101 * 40) + 2 ^ (M + 101 * 40) := by rw [Nat.add_mul, Nat.one_mul]
      omega
    · rw [Int.natAbs_mul, show 101 * (k + 1) = 101 * k + 101 by omega, Nat.pow_add]
      exact Nat.mul_le_mul hp h2
theorem gapF_mid {x : Int} {M : Nat} : ∀ (za zb : Pts) (v p : Int) (k : Nat), (∀ z ∈ za, z.2.natAbs < 2 ^ M ∧ (x - z.1).natAbs ≤ 2 ^ 101) → v.natAbs ≤ (k + 1) * 2 ^ (M + 101 * 40) → p.natAbs ≤ 2 ^ (101 * k) → k + za.length ≤ 40 → (gapF x v p za).1.natAbs ≤ 41 * 2 ^ (M + 101 * 40) ∧ (gapF x v p za).2.natAbs ≤ 2 ^ (101 * 40) := fun za _ v p k => gapF_bound za v p k
theorem gapF_app (x : Int) : ∀ (za zb : Pts) (v p : Int), gapF x v p (za ++ zb) = gapF x (gapF x v p za).1 (gapF x v p za).2 zb
  | [], zb, v, p => rfl
  | (a, t) :: r, zb, v, p => by rw [List.cons_append, gapF, gapF_app x r zb, gapF]
def sp_gap : Spec := fun vs s Q _ => ∃ (ps : Pts) (x y : Int) (tv : Vl) (ts : List Int) (M : Nat), vs = [.d (ptsD (ps ++ [(x, y)])), tv] ∧ asD tv s = some (.list (ts.map .int)) ∧ ts.length = ps.length ∧ ps.length ≤ 39 ∧ PB (ps ++ [(x, y)]) ∧ 1000 ≤ M ∧ M ≤ 200000 ∧ (∀ t ∈ ts, t.natAbs < 2 ^ M) ∧
  Q (.d (.tuple [.int (y - nval ((ps.map (·.1)).zip ts) x), .int (prodX x (((ps.map (·.1)).zip ts).map (·.1)))])) s
theorem sem_gap : Sem m_gap_and_product 8 sp_gap := by
  rintro vs s Q Ex ⟨ps, x, y, tv, ts, M, rfl, htv, hl, h39, hB, hM0, hM1, ht, q⟩
  unfold m_gap_and_product
  unfold ptsD
  walk_at "dl"
  have hat : atI ((ps ++ [(x, y)]).map ptD) (-1) = some (ptD (x, y)) := by
    rw [List.map_append]; exact atI_last _ _
  refine ⟨_, hat, ?_⟩
  rw [show ptD (x, y) = PyData.tuple [.int x, .int y] from rfl]
  walk_at "dl"
  refine ⟨_, htv, _, rfl, ?_⟩
  refine ⟨fun zs h => (by cases h), ?_⟩
  have hx := hB.x (x, y) (by simp)
  have hz : ∀ z ∈ (ps.map (·.1)).zip ts, z.2.natAbs < 2 ^ M ∧ (x - z.1).natAbs ≤ 2 ^ 101 := fun z hz => by
    obtain ⟨h1, h2⟩ := List.of_mem_zip (show (z.1, z.2) ∈ _ from hz)
    obtain ⟨p, hp, e⟩ := List.mem_map.mp h1
    have := hB.x p (by simp [hp])
    exact ⟨ht _ h2, by rw [← e]; omega⟩
  have hy : y.natAbs ≤ (0 + 1) * 2 ^ (M + 101 * 40) := by
    have := hB.y (x, y) (by simp)
    have h2 : (2 : Nat) ^ 1000 ≤ 2 ^ (M + 101 * 40) := Nat.pow_le_pow_right (by decide) (by omega)
    omega
  refine loopD_by (fun rest ρ t => ∃ (pa pb : Pts) (ta tb : List Int) (a5 a6 a7 : Option Vl), ps = pa ++ pb ∧ ts = ta ++ tb ∧ pa.length = ta.length ∧ rest = zipD ((pb ++ [(x, y)]).map ptD) (tb.map .int) ∧ t = s ∧
    ρ = [some (.d (.tuple ((ps ++ [(x, y)]).map ptD))), some tv, some (.d (.int x)), some (.d (.int (gapF x y 1 ((pa.map (·.1)).zip ta)).1)), some (.d (.int (gapF x y 1 ((pa.map (·.1)).zip ta)).2)), a5, a6, a7]) ?_ ?_ _ _ _ ⟨[], ps, [], ts, none, none, none, rfl, rfl, rfl, rfl, rfl, rfl⟩
  · rintro d r ρ t K ⟨pa, pb, ta, tb, a5, a6, a7, e1, e2, e3, e4, rfl, rfl⟩ hK
    refine ⟨guard_of htv, ?_⟩
    have hlb : pb.length = tb.length := by
      have h1 : ps.length = pa.length + pb.length := by rw [e1]; simp
      have h2 : ts.length = ta.length + tb.length := by rw [e2]; simp
      omega
    cases tb with
    | nil =>
      have : pb = [] := List.eq_nil_of_length_eq_zero (by simpa using hlb)
      subst this
      cases e4
    | cons tt tb =>
      cases pb with
      | nil => simp at hlb
      | cons p pb =>
        rw [List.cons_append, List.map_cons, List.map_cons, zipD] at e4
        injection e4 with e4 e5
        subst e4 e5
        rw [show ptD p = PyData.tuple [.int p.1, .int p.2] from rfl]
        walk_at "dl"
        have hza : ∀ z ∈ (pa.map (·.1)).zip ta, z.2.natAbs < 2 ^ M ∧ (x - z.1).natAbs ≤ 2 ^ 101 := fun z hz' => hz z (by
          rw [e1, e2, List.map_append, List.zip_append (by simpa using e3)]
          exact List.mem_append_left _ hz')
        have hpl : pa.length ≤ 39 := by
          have h1 : ps.length = pa.length + (pb.length + 1) := by rw [e1]; simp
          omega
        have hb := gapF_bound ((pa.map (·.1)).zip ta) y 1 0 hza hy (by decide) (by simp; omega)
        have htt : tt.natAbs < 2 ^ M := ht tt (by rw [e2]; simp)
        have hd : (x - p.1).natAbs < 2 ^ 102 := by
          have := hB.x p (by rw [e1]; simp)
          omega
        have hp2 := lt_succ_pow hb.2
        have hsnoc : ((pa ++ [p]).map (·.1)).zip (ta ++ [tt]) = (pa.map (·.1)).zip ta ++ [(p.1, tt)] := by
          rw [List.map_append, List.zip_append (by simpa using e3)]; rfl
        refine ⟨wid_mulE htt hp2 (by omega), wid_mulE hp2 hd (by omega), ?_⟩
        have hg : gapF x y 1 (((pa ++ [p]).map (·.1)).zip (ta ++ [tt])) = ((gapF x y 1 ((pa.map (·.1)).zip ta)).1 - tt * (gapF x y 1 ((pa.map (·.1)).zip ta)).2, (gapF x y 1 ((pa.map (·.1)).zip ta)).2 * (x - p.1)) := by
          rw [hsnoc, gapF_app]; rfl
        refine hK _ _ ⟨pa ++ [p], pb, ta ++ [tt], tb, some (.d (.int p.1)), some (.d (.int p.2)), some (.d (.int tt)), by simp [e1], by simp [e2], by simp [e3], rfl, rfl, ?_⟩
        rw [hg]
  · rintro ρ t ⟨pa, pb, ta, tb, a5, a6, a7, e1, e2, e3, e4, rfl, rfl⟩
    refine ⟨guard_of htv, ?_⟩
    have hlb : pb.length = tb.length := by
      have h1 : ps.length = pa.length + pb.length := by rw [e1]; simp
      have h2 : ts.length = ta.length + tb.length := by rw [e2]; simp
      omega
    cases tb with
    | cons tt tb =>
      cases pb with
      | nil => simp at hlb
      | cons p pb => cases e4
    | nil =>
      have : pb = [] := List.eq_nil_of_length_eq_zero (by simpa using hlb)
      subst this
      rw [List.append_nil] at e1 e2
      subst e1 e2
      walk_at "dl"
      refine ⟨sz _ (by decide), ?_⟩
      rw [gapF_eq]
      simpa using q
/-! where the first points stop -/
theorem take_snoc {ps : Pts} {k : Nat} {p : Int × Int} (h : ps[k]? = some p) : ps.take (k + 1) = ps.take k ++ [p] := by
  rw [List.take_add_one, h]; rfl
theorem whole_nil : Whole [] := ⟨[], by simp, by simp⟩
def sp_stopped : Spec := fun vs s Q _ => ∃ (ps : Pts) (k : Nat), vs = [.d (ptsD ps), .d (.int k)] ∧ k < ps.length ∧ ps.length ≤ 13 ∧ PB ps ∧ (ps.map (·.1)).Nodup ∧ ∀ b : Bool, (b = true ↔ Whole (ps.take k) ∧ ¬Whole (ps.take (k + 1))) → Q (.d (.bool b)) s
theorem sem_stopped : Sem (m_is_stopped_at sp_gap sp_divides) 6 sp_stopped := by
  rintro vs s Q Ex ⟨ps, k, rfl, hk, h13, hB, hn, q⟩
  unfold m_is_stopped_at
  unfold ptsD
  have hz : (1000000 : Nat) ≤ sizeLine := by decide
  walk_at "dl"
  -- one gap
  have one : ∀ (i m : Nat) (ts : List Int) (t : S) (Z : DQ) (X : DX), i ≤ k → t.ls[m]? = some (.op (ts.map .int)) → ts.length = i → (∀ v ∈ ts, v.natAbs < 2 ^ (1000 + 5000 * i)) → (∀ p ∈ ps.take i, nval (((ps.take i).map (·.1)).zip ts) p.1 = p.2) →
      (∀ x y : Int, ps[i]? = some (x, y) → x ∉ (ps.take i).map (·.1) → (prodX x ((ps.take i).map (·.1)) ∣ y - nval (((ps.take i).map (·.1)).zip ts) x ↔ Whole (ps.take (i + 1))) → (∀ P : List Int, (∀ p ∈ ps.take (i + 1), polyV P p.1 = p.2) → prodX x ((ps.take i).map (·.1)) ∣ y - nval (((ps.take i).map (·.1)).zip ts) x) → (y - nval (((ps.take i).map (·.1)).zip ts) x).natAbs < 2 ^ (1000 + 5000 * (i + 1)) → (prodX x ((ps.take i).map (·.1))).natAbs < 2 ^ 4041 → prodX x ((ps.take i).map (·.1)) ≠ 0 →
        Z (.d (.tuple [.int (y - nval (((ps.take i).map (·.1)).zip ts) x), .int (prodX x ((ps.take i).map (·.1)))])) t) → sp_gap [.d (.tuple (cutD (ps.map ptD) none (some ((i : Int) + 1)))), .loc m] t Z X := by
    intro i m ts t Z X hi hm hl hts hnv h
    obtain ⟨⟨x, y⟩, hp⟩ : ∃ p, ps[i]? = some p := ⟨ps[i], by simp [show i < ps.length by omega]⟩
    have hc : cutD (ps.map ptD) none (some ((i : Int) + 1)) = (ps.take i ++ [(x, y)]).map ptD := by
      rw [show (i : Int) + 1 = ((i + 1 : Nat) : Int) by omega, cutD_to, ← List.map_take, take_snoc hp]
    rw [hc]
    have hlen : (ps.take i).length = i := by rw [List.length_take]; omega
    have hmapz : (((ps.take i).map (·.1)).zip ts).map (·.1) = (ps.take i).map (·.1) := List.map_fst_zip (by simp; omega)
    have hnt : (((ps.take i) ++ [(x, y)]).map (·.1)).Nodup := by
      rw [← take_snoc hp, List.map_take]
      exact hn.sublist (List.take_sublist _ _)
    have hx : x ∉ (ps.take i).map (·.1) := by
      rw [List.map_append, List.nodup_append] at hnt
      intro hx
      exact hnt.2.2 x hx x (by simp) rfl
    have hBt : PB (ps.take i ++ [(x, y)]) := by
      rw [← take_snoc hp]
      exact ⟨fun p h => hB.x p (List.mem_of_mem_take h), fun p h => hB.y p (List.mem_of_mem_take h)⟩
    refine ⟨ps.take i, x, y, .loc m, ts, 1000 + 5000 * i, rfl, asD_op hm, by omega, by omega, hBt, by omega, by omega, hts, ?_⟩
    rw [hmapz]
    have hst := newton_step (zs := ((ps.take i).map (·.1)).zip ts) hmapz hnv hnt
    rw [hmapz, ← take_snoc hp] at hst
    have hzz : ∀ z ∈ ((ps.take i).map (·.1)).zip ts, z.2.natAbs < 2 ^ (1000 + 5000 * i) ∧ (x - z.1).natAbs ≤ 2 ^ 101 := fun z hz => by
      obtain ⟨h1, h2⟩ := List.of_mem_zip (show (z.1, z.2) ∈ _ from hz)
      obtain ⟨p, hp, e⟩ := List.mem_map.mp h1
      have := hBt.x p (by simp [hp])
      have := hBt.x (x, y) (by simp)
      exact ⟨hts _ h2, by rw [← e]; omega⟩
    have hy : y.natAbs ≤ (0 + 1) * 2 ^ (1000 + 5000 * i + 101 * 40) := by
      have := hBt.y (x, y) (by simp)
      have h2 : (2 : Nat) ^ 1000 ≤ 2 ^ (1000 + 5000 * i + 101 * 40) := Nat.pow_le_pow_right (by decide) (by omega)
      omega
    have hb := gapF_bound (((ps.take i).map (·.1)).zip ts) y 1 0 hzz hy (by decide) (by simp; omega)
    rw [gapF_eq, hmapz, Int.one_mul, Int.one_mul] at hb
    refine h x y hp hx hst.symm (fun P hP => by
      have := newton_dvd (zs := ((ps.take i).map (·.1)).zip ts) (x := x) (y := y) (P := P) hmapz hnv (by rw [List.map_append, List.nodup_append] at hnt; exact hnt.1) (by rw [← take_snoc hp]; exact hP)
      rwa [hmapz] at this) ?_ (lt_succ_pow hb.2) (prodX_ne hx)
    have h3 : 41 * 2 ^ (1000 + 5000 * i + 101 * 40) ≤ 2 ^ 6 * 2 ^ (1000 + 5000 * i + 101 * 40) := Nat.mul_le_mul_right _ (by decide)
    rw [← Nat.pow_add] at h3
    have h4 : (2 : Nat) ^ (6 + (1000 + 5000 * i + 101 * 40)) < 2 ^ (1000 + 5000 * (i + 1)) := Nat.pow_lt_pow_right (by decide) (by omega)
    have := hb.1
    dsimp only at this
    omega
  refine ⟨sz _ (by decide), by omega, by omega, ?_⟩
  refine loopD_by (fun rest ρ t => ∃ (lo : Int) (r i : Nat) (ts : List Int) (a3 a4 a5 : Option Vl), rest = rangeD lo r ∧ lo = i ∧ i + r = k ∧ ts.length = i ∧ (∀ v ∈ ts, v.natAbs < 2 ^ (1000 + 5000 * i)) ∧ (∀ p ∈ ps.take i, nval (((ps.take i).map (·.1)).zip ts) p.1 = p.2) ∧ Whole (ps.take i) ∧ t = { s with ls := s.ls ++ [.op (ts.map .int)] } ∧
    ρ = [some (.d (.tuple (ps.map ptD))), some (.d (.int k)), some (.loc s.ls.length), a3, a4, a5]) ?_ ?_ _ _ _ ⟨0, k, 0, [], none, none, none, rfl, rfl, by omega, rfl, by simp, by simp, whole_nil, rfl, rfl⟩
  · rintro d r' ρ t K ⟨lo, r, i, ts, a3, a4, a5, e1, rfl, e2, hl, hts, hnv, hw, rfl, rfl⟩ hK
    cases r with
    | zero => cases e1
    | succ r =>
      injection e1 with e1 e3
      subst e1 e3
      refine ⟨trivial, ?_⟩
      have el : ({ s with ls := s.ls ++ [.op (ts.map .int)] } : S).ls[s.ls.length]? = some (.op (ts.map .int)) := lastL _ _
      walk_at "dl"
      refine one i _ ts _ _ _ (by omega) el hl hts hnv fun x y hp hx hst hall hgap hpr hne => ?_
      walk_at "dl"
      have hlen : (ps.take i).length = i := by rw [List.length_take]; omega
      have hmapz : (((ps.take i).map (·.1)).zip ts).map (·.1) = (ps.take i).map (·.1) := List.map_fst_zip (by simp; omega)
      refine ⟨_, _, rfl, _, rfl, ?_⟩
      by_cases hd : prodX x ((ps.take i).map (·.1)) ∣ y - nval (((ps.take i).map (·.1)).zip ts) x
      · simp only [hd, decide_true, Bool.not_true, Bool.false_eq_true, if_false]
        walk_at "dl"
        have hlog : (prodX x ((ps.take i).map (·.1))).natAbs.log2 < 9000 := by have := log2_le hpr; omega
        obtain ⟨tq, htq⟩ := hd
        have hfd : (y - nval (((ps.take i).map (·.1)).zip ts) x).fdiv (prodX x ((ps.take i).map (·.1))) = tq := by
          have h1 := Int.mul_fdiv_add_fmod (y - nval (((ps.take i).map (·.1)).zip ts) x) (prodX x ((ps.take i).map (·.1)))
          rw [(fmod_zero_iff _ _).mpr ⟨tq, htq⟩, Int.add_zero] at h1
          exact Int.eq_of_mul_eq_mul_left hne (h1.trans htq)
        have hm := newton_more (zs := ((ps.take i).map (·.1)).zip ts) (pre := ps.take i) (x := x) (y := y) (t := tq) hmapz hnv (by rw [hmapz]; exact htq)
        rw [hfd, chgL_loc el]
        have e : ts.map PyData.int ++ [.int tq] = (ts ++ [tq]).map .int := by simp
        have ez : ((ps.take (i + 1)).map (·.1)).zip (ts ++ [tq]) = ((ps.take i).map (·.1)).zip ts ++ [(x, tq)] := by
          rw [take_snoc hp, List.map_append, List.zip_append (by simp; omega)]; rfl
        refine ⟨⟨_, asT_op el⟩, hne, hlog, by simp; omega, ?_⟩
        rw [e]
        refine hK _ _ ⟨_, r, i + 1, ts ++ [tq], _, _, _, rfl, by omega, by omega, by simp [hl], fun v hv => ?_, ?_, hst.mp ⟨tq, htq⟩, ?_, rfl⟩
        · rcases List.mem_append.mp hv with h | h
          · exact Nat.lt_of_lt_of_le (hts v h) (Nat.pow_le_pow_right (by decide) (by omega))
          · have ev : v = tq := by simpa using h
            rw [ev]
            refine Nat.lt_of_le_of_lt ?_ hgap
            rw [htq, Int.natAbs_mul]
            exact Nat.le_mul_of_pos_left _ (by omega)
        · rw [ez, take_snoc hp]
          exact hm.2
        · show ({ ls := (s.ls ++ [LO.op (ts.map PyData.int)]).set s.ls.length _, os := s.os, sc := s.sc } : S) = _
          rw [setL]
      · simp only [hd, decide_false, Bool.not_false, if_true]
        walk_at "dl"
        refine q false ⟨fun h => (by cases h), fun h => ?_⟩
        obtain ⟨P, _, hP⟩ := h.1
        refine absurd (hall P fun p hp' => hP p ?_) hd
        have : ps.take (i + 1) = (ps.take k).take (i + 1) := by rw [List.take_take, Nat.min_eq_left (by omega)]
        rw [this] at hp'
        exact List.mem_of_mem_take hp'
  · rintro ρ t ⟨lo, r, i, ts, a3, a4, a5, e1, rfl, e2, hl, hts, hnv, hw, rfl, rfl⟩
    cases r with
    | succ r => cases e1
    | zero =>
      have hik : i = k := by omega
      subst hik
      refine ⟨trivial, ?_⟩
      have el : ({ s with ls := s.ls ++ [.op (ts.map .int)] } : S).ls[s.ls.length]? = some (.op (ts.map .int)) := lastL _ _
      walk_at "dl"
      refine one i _ ts _ _ _ (Nat.le_refl _) el hl hts hnv fun x y hp hx hst hall hgap hpr hne => ?_
      walk_at "dl"
      refine ⟨_, _, rfl, _, rfl, ?_⟩
      have hc : cutS s.ls.length { ls := s.ls ++ [LO.op (ts.map PyData.int)], os := s.os, sc := s.sc } = s := cutS_own s _ _ _ rfl rfl
      rw [hc]
      refine q _ ?_
      rw [← hst]
      simp [hw]
/-! points as claims -/
def isPts (v : D) : Bool := match v with
  | .tuple xs => decide (1 ≤ xs.length) && decide (xs.length ≤ 13) && xs.all (fun x => isWhole x 2)
  | _ => false
def shownW (ps : Pts) (c : D) : Bool := match c with
  | .tuple xs => match intsOf xs with
    | some cs => decide (1 ≤ cs.length) && decide (cs.length ≤ ps.length) && ps.all fun p => decide (polyV cs p.1 = p.2)
    | none => false
  | _ => false
def sp_shownP : Spec := fun vs s Q _ => ∃ (never : Bool) (ps : Pts) (c : D), vs = [.d (.str (if never then "never whole" else "whole")), .d (ptsD ps), .d c] ∧ ps.length ≤ 13 ∧ PB ps ∧ (ps.map (·.1)).Nodup ∧ (∀ cs : List Int, c = .tuple (cs.map .int) → ∀ v ∈ cs, v.natAbs < 2 ^ 50000) ∧
  ∀ b : Bool, (if never then (b = true ↔ ∃ k : Nat, c = .int k ∧ k < ps.length ∧ Whole (ps.take k) ∧ ¬Whole (ps.take (k + 1))) else b = shownW ps c) → Q (.d (.bool b)) s
theorem sem_shownP : Sem (m_is_shown_of_points sp_isint sp_stopped sp_whole sp_vthere) 5 sp_shownP := by
  rintro vs s Q Ex ⟨never, ps, c, rfl, hl, hB, hn, hc, q⟩
  unfold m_is_shown_of_points
  unfold ptsD
  have hz : (1000000 : Nat) ≤ sizeLine := by decide
  walk_at "dl"
  cases never with
  | true =>
    refine cmpD_eqS _ _ _ ?_
    simp only [if_true, decide_true] at q ⊢
    refine ⟨c, rfl, _, rfl, ?_⟩
    cases ei : isInt c with
    | false =>
      simp only [Bool.false_eq_true, if_false]
      have := q false ⟨fun h => (by cases h), fun ⟨k, e, _⟩ => by rw [e] at ei; simp [isInt] at ei⟩
      simpa [cutS_self, retD_d] using this
    | true =>
      obtain ⟨i, rfl⟩ := isInt_of ei
      simp only [if_true]
      walk_at "dl"
      rw [List.length_map]
      by_cases h0 : 0 ≤ i
      · simp only [h0, if_true]
        by_cases h1 : i < (ps.length : Int)
        · simp only [h1, decide_true, if_true]
          obtain ⟨k, rfl⟩ := Int.eq_ofNat_of_zero_le h0
          refine ⟨ps, k, rfl, by omega, hl, hB, hn, fun b hb => ?_⟩
          walk_at "dl"
          refine q b ?_
          rw [hb]
          constructor
          · intro h
            exact ⟨k, rfl, by omega, h⟩
          · rintro ⟨k', e, _, h⟩
            injection e with e
            have : k = k' := by omega
            rw [this]; exact h
        · simp only [h1, decide_false, Bool.false_eq_true, if_false]
          refine q false ⟨fun h => (by cases h), ?_⟩
          rintro ⟨k, e, hk, _⟩
          injection e with e
          omega
      · simp only [h0, if_false, Bool.false_eq_true]
        refine q false ⟨fun h => (by cases h), ?_⟩
        rintro ⟨k, e, hk, _⟩
        injection e with e
        omega
  | false =>
    refine cmpD_eqS _ _ _ ?_
    have ne : ¬ (("whole" : Str) = "never whole") := by decide +kernel
    simp only [Bool.false_eq_true, if_false] at q
    simp only [ne, Bool.false_eq_true, if_false, decide_false]
    cases c with
    | tuple xs =>
      simp only [isiD, Bool.not_true, Bool.false_eq_true, if_false]
      walk_at "dl"
      rw [List.length_map]
      by_cases h1 : (1 : Int) ≤ xs.length
      · simp only [h1, if_true]
        by_cases h2 : (xs.length : Int) ≤ ps.length
        · simp only [h2, decide_true, Bool.not_true, Bool.false_eq_true, if_false]
          refine ⟨_, _, rfl, by omega, _, rfl, ?_⟩
          cases ew : isWhole (.tuple xs) xs.length with
          | false =>
            simp only [Bool.not_false, if_true]
            have := q false (by
              unfold shownW
              simp only
              cases ei : intsOf xs with
              | none => rfl
              | some cs =>
                have := intsOf_some ei
                subst this
                rw [isWhole_of (by simp)] at ew
                cases ew)
            simpa [cutS_self] using this
          | true =>
            obtain ⟨cs, e, hcl⟩ := isWhole_ints ew
            injection e with e
            subst e
            simp only [Bool.not_true, Bool.false_eq_true, if_false]
            rw [List.length_map] at h1 h2
            refine compD_map (fun d => match d with | .tuple [.int x, .int y] => .bool (decide (polyV cs x = y)) | _ => .none) trivial (fun d hd C hC => ?_) (by rw [List.length_map]; omega) ?_
            · obtain ⟨p, hp, rfl⟩ := List.mem_map.mp hd
              refine ⟨_, rfl, _, _, rfl, _, _, rfl, rfl, cs, _, rfl, by omega, hc cs rfl, hB.x p hp, ?_⟩
              walk_at "dl"
              exact hC
            · rw [List.map_map]
              have e : ((fun d => match d with | PyData.tuple [.int x, .int y] => PyData.bool (decide (polyV cs x = y)) | _ => .none) ∘ ptD) = fun p : Int × Int => PyData.bool (decide (polyV cs p.1 = p.2)) := rfl
              rw [e, boolsOf_map]
              walk_at "dl"
              refine q _ ?_
              unfold shownW
              simp only [intsOf_ints]
              have a1 : 1 ≤ cs.length := by omega
              have a2 : cs.length ≤ ps.length := by omega
              simp [a1, a2, List.all_map]
        · simp only [h2, decide_false, Bool.not_false, if_true]
          have := q false (by
            unfold shownW
            simp only
            cases ei : intsOf xs with
            | none => rfl
            | some cs =>
              have := intsOf_some ei
              subst this
              rw [List.length_map] at h2
              have a2 : ¬ cs.length ≤ ps.length := by omega
              simp [a2])
          exact this
      · simp only [h1, if_false, decide_false, Bool.not_false, if_true]
        have := q false (by
          unfold shownW
          simp only
          cases ei : intsOf xs with
          | none => rfl
          | some cs =>
            have := intsOf_some ei
            subst this
            rw [List.length_map] at h1
            have a2 : ¬ 1 ≤ cs.length := by omega
            simp only [a2, decide_false, Bool.false_and])
        simpa using this
    | _ =>
      simp only [isiD, Bool.not_false, if_true]
      exact q false rfl

/-! ### the checker: claims about points -/
def ascB : Pts → Bool
  | a :: b :: r => decide (a.1 < b.1) && ascB (b :: r)
  | _ => true
theorem ascB_lt : ∀ {ps : Pts} {a : Int × Int}, ascB (a :: ps) = true → ∀ p ∈ ps, a.1 < p.1
  | [], _, _, p, hp => by cases hp
  | b :: r, a, h, p, hp => by
    rw [ascB, Bool.and_eq_true, decide_eq_true_eq] at h
    rcases List.mem_cons.mp hp with rfl | hp
    · exact h.1
    · exact Int.lt_trans h.1 (ascB_lt h.2 p hp)
theorem ascB_tail : ∀ {ps : Pts} {a : Int × Int}, ascB (a :: ps) = true → ascB ps = true
  | [], _, _ => rfl
  | b :: r, a, h => by rw [ascB, Bool.and_eq_true] at h; exact h.2
theorem ascB_nodup : ∀ {ps : Pts}, ascB ps = true → (ps.map (·.1)).Nodup
  | [], _ => List.nodup_nil
  | a :: r, h => by
    rw [List.map_cons, List.nodup_cons]
    refine ⟨fun hm => ?_, ascB_nodup (ascB_tail h)⟩
    obtain ⟨p, hp, e⟩ := List.mem_map.mp hm
    have := ascB_lt h p hp
    omega
def ltD : D → D
  | .tuple [.tuple [.int a, _], .tuple [.int b, _]] => .bool (decide (a < b))
  | _ => .none
theorem asc_zip : ∀ ps : Pts, ∃ bs : List Bool, (zipD (ps.map ptD) ((ps.map ptD).drop 1)).map ltD = bs.map .bool ∧ bs.all id = ascB ps
  | [] => ⟨[], rfl, rfl⟩
  | [_] => ⟨[], rfl, rfl⟩
  | a :: b :: r => by
    obtain ⟨bs, h1, h2⟩ := asc_zip (b :: r)
    refine ⟨decide (a.1 < b.1) :: bs, ?_, by rw [List.all_cons, h2, ascB]; rfl⟩
    simp only [List.map_cons, List.drop_succ_cons, List.drop_zero] at h1 ⊢
    rw [zipD, List.map_cons, h1]
    rfl
def IsPts (v : D) : Prop := ∃ ps : Pts, v = ptsD ps ∧ 1 ≤ ps.length ∧ ps.length ≤ 13 ∧ ascB ps = true
def sp_points : Spec := fun vs s Q _ => ∃ v, vs = [.d v] ∧ ∀ b : Bool, (b = true ↔ IsPts v) → Q (.d (.bool b)) s
theorem pts_of_all : ∀ {xs : List D}, xs.all (fun x => isWhole x 2) = true → ∃ ps : Pts, xs = ps.map ptD
  | [], _ => ⟨[], rfl⟩
  | x :: r, h => by
    rw [List.all_cons, Bool.and_eq_true] at h
    obtain ⟨a, b, rfl⟩ := isWhole_2 h.1
    obtain ⟨ps, rfl⟩ := pts_of_all h.2
    exact ⟨(a, b) :: ps, rfl⟩
theorem all_pts (ps : Pts) : (ps.map ptD).all (fun x => isWhole x 2) = true := by
  rw [List.all_eq_true]
  intro x hx
  obtain ⟨p, _, rfl⟩ := List.mem_map.mp hx
  simp [ptD, isWhole, isInt]
theorem sem_points : Sem (m_are_points sp_whole) 4 sp_points := by
  rintro vs s Q Ex ⟨v, rfl, q⟩
  unfold m_are_points
  have hz : (1000000 : Nat) ≤ sizeLine := by decide
  walk_at "dl"
  cases v with
  | tuple xs =>
    simp only [isiD, Bool.not_true, Bool.false_eq_true, if_false]
    walk_at "dl"
    by_cases h1 : (1 : Int) ≤ xs.length
    · simp only [h1, if_true]
      by_cases h2 : (xs.length : Int) ≤ 13
      · simp only [h2, decide_true, Bool.not_true, Bool.false_eq_true, if_false]
        refine compD_map (fun x => .bool (isWhole x 2)) trivial (fun x hx C hC => ⟨_, _, rfl, by decide, hC⟩) (by omega) ?_
        simp only [boolsOf_map]
        walk_at "dl"
        have ea : (xs.map fun x => isWhole x 2).all id = xs.all fun x => isWhole x 2 := by simp [List.all_map]
        rw [ea]
        cases ha : xs.all (fun x => isWhole x 2) with
        | false =>
          simp only [Bool.not_false, if_true]
          refine q false ⟨fun h => (by cases h), ?_⟩
          rintro ⟨ps, e, _⟩
          injection e with e
          rw [e, all_pts] at ha
          cases ha
        | true =>
          obtain ⟨ps, rfl⟩ := pts_of_all ha
          simp only [Bool.not_true, Bool.false_eq_true, if_false]
          rw [List.length_map] at h1 h2
          refine ⟨fun zs h => (by cases h), ?_⟩
          obtain ⟨bs, hb1, hb2⟩ := asc_zip ps
          have hzl : (zipD (ps.map ptD) ((ps.map ptD).drop 1)).length ≤ 13 := by rw [zipD_len]; simp; omega
          refine compD_map ltD trivial (fun d hd C hC => ?_) (by omega) ?_
          · have hd2 : ∃ p r : Int × Int, d = .tuple [ptD p, ptD r] := by
              clear hC C
              have : ∀ (xs ys : Pts), d ∈ zipD (xs.map ptD) (ys.map ptD) → ∃ p r : Int × Int, d = .tuple [ptD p, ptD r] := by
                intro xs
                induction xs with
                | nil => intro ys h; cases h
                | cons x xs ih =>
                  intro ys h
                  cases ys with
                  | nil => cases h
                  | cons y ys =>
                    rw [List.map_cons, List.map_cons, zipD] at h
                    rcases List.mem_cons.mp h with rfl | h
                    · exact ⟨x, y, rfl⟩
                    · exact ih ys h
              refine this ps (ps.drop 1) ?_
              rw [List.map_drop]
              exact hd
            obtain ⟨p, r, rfl⟩ := hd2
            unfold ptD at hC ⊢
            walk_at "dl"
            exact hC
          · rw [hb1]
            refine ⟨bs, by simpa using boolsOf_map (fun b : Bool => b) bs, ?_⟩
            rw [hb2]
            walk_at "dl"
            refine q _ ⟨fun h => ⟨ps, rfl, by omega, by omega, h⟩, ?_⟩
            rintro ⟨ps', e, _, _, h⟩
            injection e with e
            have : ps = ps' := by
              have inj : ∀ (a b : Pts), a.map ptD = b.map ptD → a = b := by
                intro a
                induction a with
                | nil => intro b h; cases b with | nil => rfl | cons _ _ => cases h
                | cons x a ih =>
                  intro b h
                  cases b with
                  | nil => cases h
                  | cons y b =>
                    injection h with h1 h2
                    injection h1 with h1
                    injection h1 with h1 h3
                    injection h3 with h3 _
                    injection h1 with h1
                    injection h3 with h3
                    rw [ih b h2, Prod.ext h1 h3]
              exact inj _ _ e
            rw [this]; exact h
      · simp only [h2, decide_false, Bool.not_false, if_true]
        refine q false ⟨fun h => (by cases h), ?_⟩
        rintro ⟨ps, e, _, h, _⟩
        injection e with e
        rw [e, List.length_map] at h2
        omega
    · simp only [h1, if_false, decide_false, Bool.not_false, if_true]
      have := q false ⟨fun h => (by cases h), fun ⟨ps, e, h, _⟩ => by
        injection e with e
        rw [e, List.length_map] at h1
        omega⟩
      simpa using this
  | _ =>
    simp only [isiD, Bool.not_false, if_true]
    refine q false ⟨fun h => (by cases h), ?_⟩
    rintro ⟨ps, e, _⟩
    cases e
def sp_accP : Spec := fun vs s Q _ => ∃ (never : Bool) (ps : Pts) (c : D), vs = [.d (.tuple [.str (if never then "never whole" else "whole"), ptsD ps]), .d c] ∧ 1 ≤ ps.length ∧ ps.length ≤ 13 ∧ ascB ps = true ∧ PB ps ∧ (∀ cs : List Int, c = .tuple (cs.map .int) → ∀ v ∈ cs, v.natAbs < 2 ^ 50000) ∧
  ∀ b : Bool, (if never then (b = true ↔ ∃ k : Nat, c = .int k ∧ k < ps.length ∧ Whole (ps.take k) ∧ ¬Whole (ps.take (k + 1))) else b = shownW ps c) → Q (.d (.bool b)) s
theorem sem_accP {S1 S2 S3 S4 S5 S6 : Spec} : Sem (m_accepts S1 S2 S3 S4 S5 S6 sp_points sp_shownP) 4 sp_accP := by
  rintro vs s Q Ex ⟨never, ps, c, rfl, h1, hl, ha, hB, hc, q⟩
  unfold m_accepts
  walk_at "dl"
  simp only [isiD, if_true, Bool.not_true, Bool.false_eq_true, if_false]
  refine ⟨sz _ (by decide), ⟨["sure", "open"], rfl, ?_⟩⟩
  have m1 : decide ((if never = true then ("never whole" : Str) else "whole") ∈ (["sure", "open"] : List Str)) = false := by cases never <;> decide +kernel
  simp only [m1, Bool.false_eq_true, if_false]
  refine ⟨sz _ (by decide), ⟨["fits", "quarrel"], rfl, ?_⟩⟩
  have m2 : decide ((if never = true then ("never whole" : Str) else "whole") ∈ (["fits", "quarrel"] : List Str)) = false := by cases never <;> decide +kernel
  simp only [m2, Bool.false_eq_true, if_false]
  refine ⟨sz _ (by decide), ⟨["kept", "loose"], rfl, ?_⟩⟩
  have m3 : decide ((if never = true then ("never whole" : Str) else "whole") ∈ (["kept", "loose"] : List Str)) = false := by cases never <;> decide +kernel
  simp only [m3, Bool.false_eq_true, if_false]
  refine ⟨sz _ (by decide), ⟨["whole", "never whole"], rfl, ?_⟩⟩
  have m4 : decide ((if never = true then ("never whole" : Str) else "whole") ∈ (["whole", "never whole"] : List Str)) = true := by cases never <;> decide +kernel
  simp only [m4, if_true]
  refine ⟨_, rfl, fun b hb => ?_⟩
  have hb2 : b = true := hb.mpr ⟨ps, rfl, h1, hl, ha⟩
  subst hb2
  refine ⟨true, rfl, ?_⟩
  walk_at "dl"
  refine ⟨never, ps, c, rfl, hl, hB, ascB_nodup ha, hc, fun b hb => ?_⟩
  walk_at "dl"
  exact q b hb

/-! ### law k75: tables, certified -/
theorem shaped_ints (t : List Int) : SeqAt.shaped (.tuple (t.map .int)) = true := shaped_tup fun x hx => by
  obtain ⟨i, _, rfl⟩ := List.mem_map.mp hx
  exact lay_int i
theorem eqv_emp2 (xs : List D) : PyData.eqv (.tuple xs) (.tuple []) = xs.isEmpty := by
  cases xs <;> simp [PyData.eqv, PyData.eqvAll]
def sp_chkV : Spec := fun vs s Q _ => ∃ t : List Int, vs = [.d (.tuple (t.map .int))] ∧ 1 ≤ t.length ∧ t.length ≤ 40 ∧ Q (.d .none) s
theorem sem_chkV : Sem (m_check_values sp_isint) 3 sp_chkV := by
  rintro vs s Q Ex ⟨t, rfl, h1, hl, q⟩
  unfold m_check_values
  walk_at "dl"
  simp only [isiD, Bool.not_true, Bool.false_eq_true, if_false]
  refine ⟨sz _ (by decide), cmpD_eqD (shaped_ints t) shaped_emp ?_⟩
  rw [eqv_emp2]
  have he : (t.map PyData.int).isEmpty = false := by
    cases t with
    | nil => simp at h1
    | cons a r => rfl
  rw [he]
  simp only [Bool.false_eq_true, if_false]
  refine ⟨by rw [List.length_map]; omega, ?_⟩
  refine loopD_by (fun rest ρ u => ∃ (ca cb : List Int) (a1 a2 : Option Vl), t = ca ++ cb ∧ rest = enumD ca.length (cb.map .int) ∧ u = s ∧ ρ = [some (.d (.tuple (t.map .int))), a1, a2]) ?_ ?_ _ _ _ ⟨[], t, none, none, rfl, rfl, rfl, rfl⟩
  · rintro d r ρ u K ⟨ca, cb, a1, a2, e1, e2, rfl, rfl⟩ hK
    cases cb with
    | nil => cases e2
    | cons c cb =>
      injection e2 with e2 e3
      subst e2
      refine ⟨trivial, ?_⟩
      have hlen : t.length = ca.length + (cb.length + 1) := by rw [e1]; simp
      walk_at "dl"
      have hn : ¬ ((ca.length : Int) = 40) := by omega
      simp only [hn, decide_false, Bool.false_eq_true, if_false]
      refine ⟨_, rfl, _, rfl, ?_⟩
      simp only [isInt, Bool.not_true, Bool.false_eq_true, if_false]
      exact hK _ _ ⟨ca ++ [c], cb, _, _, by simp [e1], by rw [e3]; simp, rfl, rfl⟩
  · rintro ρ u ⟨ca, cb, a1, a2, e1, e2, rfl, rfl⟩
    refine ⟨trivial, ?_⟩
    walk_at "dl"
    exact q
theorem row_0 (t : List Int) : t.map PyData.int = rowD (gT t) 0 t.length := by
  apply List.ext_getElem?
  intro i
  by_cases h : i < t.length
  · simp [rowD, dlN, gT, at0, h]
  · rw [List.getElem?_eq_none (by simp; omega), List.getElem?_eq_none (by simp [rowD]; omega)]
theorem rowD_len (g : Nat → Int) (a m : Nat) : (rowD g a m).length = m := by simp [rowD]
theorem shaped_row (g : Nat → Int) (a m : Nat) : SeqAt.shaped (.list (rowD g a m)) = true := shaped_list fun x hx => by
  obtain ⟨i, _, rfl⟩ := List.mem_map.mp hx
  exact lay_int _
def sp_allSt : Spec := fun vs s Q _ => ∃ t : List Int, vs = [.d (.tuple (t.map .int))] ∧ t.length ≤ 40 ∧ Q (.d (.list ((stepsL t).map .int))) s
theorem sem_allSt : Sem m_all_steps 5 sp_allSt := by
  rintro vs s Q Ex ⟨t, rfl, hl, q⟩
  unfold m_all_steps
  have hz : (1000000 : Nat) ≤ sizeLine := by decide
  walk_at "dl"
  refine ⟨sz _ (by decide), t.length + 1, ?_⟩
  refine whileD_by (fun n ρ u => ∃ (k : Nat) (a3 a4 : Option Vl), k + n = t.length ∧ u = { s with ls := s.ls ++ [.op (((List.range k).map fun k => dlN k (gT t) 0).map .int)] } ∧ ρ = [some (.d (.tuple (t.map .int))), some (.loc s.ls.length), some (.d (.list (rowD (gT t) k n))), a3, a4]) ?_ t.length _ _ ⟨0, none, none, by omega, rfl, by rw [row_0]⟩
  rintro n ρ u K ⟨k, a3, a4, hk, rfl, rfl⟩ hK
  have el : ({ s with ls := s.ls ++ [.op (((List.range k).map fun k => dlN k (gT t) 0).map .int)] } : S).ls[s.ls.length]? = some (.op (((List.range k).map fun k => dlN k (gT t) 0).map .int)) := lastL _ _
  walk_at "dl"
  refine ⟨sz _ (by decide), cmpD_neD (shaped_row _ _ _) shaped_nil ?_⟩
  rw [eqv_nil]
  cases n with
  | zero =>
    have : rowD (gT t) k 0 = [] := rfl
    simp only [this, List.isEmpty_nil, Bool.not_true, Bool.false_eq_true, if_false]
    walk_at "dl"
    rw [retD_loc (lastL _ _) (Nat.le_refl _), cutS_own _ _ _ _ rfl rfl]
    have e : k = t.length := by omega
    rw [e]
    exact q
  | succ m =>
    have hne : (rowD (gT t) k (m + 1)).isEmpty = false := by
      cases h : rowD (gT t) k (m + 1) with
      | nil => have := rowD_len (gT t) k (m + 1); rw [h] at this; simp at this
      | cons _ _ => rfl
    have r0 : (rowD (gT t) k (m + 1))[0]? = some (.int (dlN k (gT t) 0)) := by simp [rowD]
    simp only [hne, Bool.not_false, if_true]
    refine ⟨⟨_, asT_op el⟩, _, r0, ?_⟩
    walk_at "dl"
    rw [chgL_loc el]
    refine ⟨by simp; omega, by intros; trivial, ?_⟩
    rw [rowD_step]
    refine compD_map dltD trivial (fun d hd C hC => ?_) (by rw [List.length_map, List.length_range]; omega) ?_
    · obtain ⟨i, _, rfl⟩ := List.mem_map.mp hd
      walk_at "dl"
      exact hC
    · have er : (((List.range m).map fun i => PyData.tuple [.int (dlN k (gT t) i), .int (dlN k (gT t) (i + 1))]).map dltD) = rowD (gT t) (k + 1) m := by
        rw [List.map_map]
        unfold rowD
        refine List.map_congr_left fun i _ => ?_
        show PyData.int (dlN k (gT t) (i + 1) - dlN k (gT t) i) = _
        rw [dlN_succ]
      rw [er]
      refine hK m _ _ (by omega) ⟨k + 1, _, _, by omega, ?_, rfl⟩
      show ({ ls := (s.ls ++ [LO.op _]).set s.ls.length _, os := s.os, sc := s.sc } : S) = _
      rw [setL, List.range_succ, List.map_append, List.map_append]
      rfl
/-! the pairs that do not agree -/
theorem compD2_pure {G : S → Prop} {step : D → List D → S → (List D → S → Prop) → Prop} {K : List D → S → Prop} {N : Nat} (f : D → List D) {s : S} (g : G s) : ∀ (xs acc : List D), (∀ x ∈ xs, ∀ (acc : List D) (C : List D → S → Prop), acc.length + (f x).length ≤ N → C (acc ++ f x) s → step x acc s C) → acc.length + (xs.flatMap f).length ≤ N → K (acc ++ xs.flatMap f) s → compD2 G step K xs acc s
  | [], acc, _, _, h => ⟨g, by simpa using h⟩
  | x :: r, acc, hs, hl, h => by
    rw [List.flatMap_cons, List.length_append] at hl
    rw [List.flatMap_cons] at h
    exact ⟨g, hs x List.mem_cons_self _ _ (by omega) (compD2_pure f g r (acc ++ f x) (fun y hy => hs y (List.mem_cons_of_mem _ hy)) (by rw [List.length_append]; omega) (by rwa [List.append_assoc]))⟩
def ijD (p : Nat × Nat) : D := .tuple [.int p.1, .int p.2]
def badIJ (t : List Int) (p : Nat × Nat) : Bool := !decide ((((p.2 : Int) - p.1) ∣ at0 t p.1 - at0 t p.2))
def upP (n : Nat) : List (Nat × Nat) := (List.range n).flatMap fun i => ((List.range n).filter fun j => decide (i < j)).map fun j => (i, j)
def looseL (t : List Int) : List (Nat × Nat) := (upP t.length).filter (badIJ t)
theorem mem_upP {n : Nat} {p : Nat × Nat} : p ∈ upP n ↔ p.1 < p.2 ∧ p.2 < n := by
  unfold upP
  rw [List.mem_flatMap]
  constructor
  · rintro ⟨i, hi, h⟩
    obtain ⟨j, hj, rfl⟩ := List.mem_map.mp h
    obtain ⟨h1, h2⟩ := List.mem_filter.mp hj
    exact ⟨by simpa using h2, List.mem_range.mp h1⟩
  · rintro ⟨h1, h2⟩
    exact ⟨p.1, List.mem_range.mpr (by omega), List.mem_map.mpr ⟨p.2, List.mem_filter.mpr ⟨List.mem_range.mpr h2, by simpa using h1⟩, rfl⟩⟩
theorem upP_len (n : Nat) : (upP n).length ≤ n * n := by
  unfold upP
  rw [List.length_flatMap]
  have h : ∀ l : List Nat, ((l.map fun i => (((List.range n).filter fun j => decide (i < j)).map fun j => (i, j)).length).sum) ≤ l.length * n := by
    intro l
    induction l with
    | nil => simp
    | cons a r ih =>
      rw [List.map_cons, List.sum_cons, List.length_cons, Nat.add_mul, Nat.one_mul]
      have := List.length_filter_le (fun j => decide (a < j)) (List.range n)
      rw [List.length_range] at this
      rw [List.length_map]
      omega
  simpa using h (List.range n)
theorem lay_ij (p : Nat × Nat) : (ijD p).canLay0 = true ∧ (ijD p).depth ≤ 63 := by simp [ijD, PyData.canLay0, PyData.canLayAll0, PyData.depth, PyData.depthAll]
theorem shaped_ijs (l : List (Nat × Nat)) : SeqAt.shaped (.list (l.map ijD)) = true := shaped_list fun x hx => by
  obtain ⟨p, _, rfl⟩ := List.mem_map.mp hx
  exact lay_ij p
def sp_loose : Spec := fun vs s Q _ => ∃ t : List Int, vs = [.d (.tuple (t.map .int))] ∧ t.length ≤ 40 ∧ Q (.d (.list ((looseL t).map ijD))) s
def upD (n : Nat) : D → List D
  | .int i => ((List.range n).filter fun (j : Nat) => decide (i < (j : Int))).map fun (j : Nat) => .tuple [.int i, .int j]
  | _ => []
def badD (t : List Int) : D → Bool
  | .tuple [.int i, .int j] => badIJ t (i.toNat, j.toNat)
  | _ => false
theorem rangeD_0 (n : Nat) : rangeD 0 n = (List.range n).map fun (i : Nat) => PyData.int i := by
  rw [rangeD_eq]
  refine List.map_congr_left fun i _ => ?_
  rw [Int.zero_add]
theorem up_eq (n : Nat) : (rangeD 0 n).flatMap (upD n) = (upP n).map ijD := by
  unfold upP
  rw [rangeD_0, List.flatMap_map, List.map_flatMap]
  refine congrArg List.flatten ?_
  refine List.map_congr_left fun i _ => ?_
  rw [List.map_map]
  show ((List.range n).filter fun (j : Nat) => decide ((i : Int) < (j : Int))).map _ = _
  have : (fun (j : Nat) => decide ((i : Int) < (j : Int))) = fun j => decide (i < j) := by
    funext j
    exact decide_eq_decide.mpr (by omega)
  rw [this]
  rfl
theorem sem_loose : Sem m_loose_pairs 6 sp_loose := by
  rintro vs s Q Ex ⟨t, rfl, hl, q⟩
  unfold m_loose_pairs
  have hz : (1000000 : Nat) ≤ sizeLine := by decide
  walk_at "dl"
  rw [List.length_map]
  have en : ((t.length : Int)).toNat = t.length := rfl
  rw [en]
  have hup : (upP t.length).length ≤ 1600 := Nat.le_trans (upP_len _) (Nat.mul_le_mul hl hl)
  refine ⟨by omega, by omega, ?_⟩
  refine compD2_pure (N := 1600) (upD t.length) trivial _ [] (fun x hx acc C hC1 hC => ?_) (by rw [up_eq]; simpa using hup) ?_
  · obtain ⟨i, rfl, _, _⟩ := mem_rangeD hx
    walk_at "dl"
    have key : (rangeD 0 t.length).filterMap (fun y => match y with | .int j => if decide (i < j) = true then some (.tuple [.int i, .int j]) else none | _ => none) = upD t.length (.int i) := by
      rw [rangeD_0, List.filterMap_map]
      unfold upD
      generalize List.range t.length = l
      induction l with
      | nil => rfl
      | cons a r ih =>
        simp only [List.filterMap_cons, Function.comp_apply, List.filter_cons]
        by_cases h : i < (a : Int)
        · simp only [h, decide_true, if_true, List.map_cons]
          rw [ih]
        · simp only [h, decide_false, Bool.false_eq_true, if_false]
          exact ih
    refine compD_pure (fun y => match y with | .int j => if decide (i < j) = true then some (.tuple [.int i, .int j]) else none | _ => none) trivial _ acc (fun y hy C2 hC2 => ?_) ?_ (by rw [key]; exact hC)
    · obtain ⟨j, rfl, _, _⟩ := mem_rangeD hy
      walk_at "dl"
      by_cases h : i < j
      · simp only [h, decide_true, if_true] at hC2 ⊢
        walk_at "dl"
        exact ⟨sz _ (by decide), hC2⟩
      · simp only [h, decide_false, Bool.false_eq_true, if_false] at hC2 ⊢
        exact hC2
    · rw [rangeD_len]; omega
  · rw [up_eq, List.nil_append]
    walk_at "dl"
    refine compD_filter (badD t) trivial (fun d hd C hC => ?_) (by rw [List.length_map]; omega) ?_
    · obtain ⟨p, hp, rfl⟩ := List.mem_map.mp hd
      obtain ⟨h1, h2⟩ := mem_upP.mp hp
      unfold ijD at hC ⊢
      have a1 := vals_at (t := t) (i := (p.1 : Int)) (by omega) (by omega)
      have a2 := vals_at (t := t) (i := (p.2 : Int)) (by omega) (by omega)
      walk_at "dl"
      refine ⟨_, a1, _, a2, ?_⟩
      walk_at "dl"
      refine ⟨by omega, ?_⟩
      have eb : badD t (.tuple [.int p.1, .int p.2]) = !decide ((at0 t (p.1 : Int).toNat - at0 t (p.2 : Int).toNat).fmod ((p.2 : Int) - p.1) = 0) := by
        show (!decide ((((p.2 : Int)) - (p.1 : Int)) ∣ at0 t p.1 - at0 t p.2)) = _
        congr 1
        exact decide_eq_decide.mpr (fmod_zero_iff _ _).symm
      rw [← eb]
      cases hb : badD t (.tuple [.int p.1, .int p.2]) with
      | true => rw [hb] at hC; simpa using hC
      | false => rw [hb] at hC; simpa using hC
    · have ef : ((upP t.length).map ijD).filter (badD t) = (looseL t).map ijD := by
        unfold looseL
        rw [List.filter_map]
        rfl
      rw [ef]
      rw [cutS_self]
      exact q
def certV (t : List Int) : D := match looseL t with
  | [] => .tuple [.tuple [.str "kept", .tuple (t.map .int)], .tuple ((stepsL t).map .int)]
  | p :: _ => .tuple [.tuple [.str "loose", .tuple (t.map .int)], ijD p]
def sp_certV : Spec := fun vs s Q _ => ∃ t : List Int, vs = [.d (.tuple (t.map .int))] ∧ 1 ≤ t.length ∧ t.length ≤ 40 ∧ Q (.d (certV t)) s
theorem sem_certV : Sem (m_certify_values sp_chkV sp_loose sp_allSt) 2 sp_certV := by
  rintro vs s Q Ex ⟨t, rfl, h1, hl, q⟩
  unfold m_certify_values
  walk_at "dl"
  refine ⟨t, rfl, h1, hl, ?_⟩
  walk_at "dl"
  refine ⟨t, rfl, hl, ?_⟩
  walk_at "dl"
  refine ⟨sz _ (by decide), cmpD_eqD (shaped_ijs _) shaped_nil ?_⟩
  rw [eqv_nil]
  cases h : looseL t with
  | nil =>
    simp only [List.map_nil, List.isEmpty_nil, if_true]
    refine ⟨sz _ (by decide), t, rfl, hl, ?_⟩
    walk_at "dl"
    refine ⟨sz _ (by decide), ?_⟩
    unfold certV at q
    rw [h] at q
    exact q
  | cons p r =>
    simp only [List.map_cons, List.isEmpty_cons, Bool.false_eq_true, if_false]
    refine ⟨sz _ (by decide), ?_⟩
    walk_at "dl"
    refine ⟨sz _ (by decide), ?_⟩
    unfold certV at q
    rw [h] at q
    exact q

/-! ### law k75: the law's tables -/
theorem sum_range (f : Nat → Int) : ∀ n : Nat, ((List.range n).map f).sum = sumN f n
  | 0 => rfl
  | n + 1 => by rw [List.range_succ, List.map_append, List.sum_append, sum_range f n]; simp [sumN]
theorem bin_small {n k : Nat} (h : n ≤ 50) : (bin n k : Int) < 2 ^ 51 := by
  have h1 := bin_le n k
  have h2 : (2 : Nat) ^ n ≤ 2 ^ 50 := Nat.pow_le_pow_right (by decide) h
  omega
theorem sgn_cases (i : Nat) : sgn i = 1 ∨ sgn i = -1 := by unfold sgn; split <;> simp
def Mid (i : Int) : Prop := i.natAbs < 2 ^ 400
theorem sum_le {B : Nat} : ∀ {l : List Int}, (∀ v ∈ l, v.natAbs ≤ B) → l.sum.natAbs ≤ l.length * B
  | [], _ => by simp
  | a :: r, h => by
    have h1 := h a List.mem_cons_self
    have h2 := sum_le (l := r) fun v hv => h v (List.mem_cons_of_mem _ hv)
    rw [List.sum_cons, List.length_cons, Nat.add_mul, Nat.one_mul]
    omega
def Tab (many : Nat) (t : List Int) : Prop := t.length = many ∧ ∀ v ∈ t, Mid v
theorem stepsL_log {t : List Int} (hl : t.length ≤ 40) (hm : ∀ v ∈ t, Mid v) : ∀ v ∈ stepsL t, v.natAbs.log2 < 1920 := by
  intro v hv
  obtain ⟨k, hk, rfl⟩ := List.mem_map.mp hv
  have hk := List.mem_range.mp hk
  rw [alt_sum k (gT t) 0, ← sum_range]
  have hs := sum_le (B := 2 ^ 451) (l := (List.range (k + 1)).map fun j => sgn (k - j) * bin k j * gT t (0 + j)) (fun v hv => by
    obtain ⟨j, hj, rfl⟩ := List.mem_map.mp hv
    have hj := List.mem_range.mp hj
    have hb := bin_small (n := k) (k := j) (by omega)
    have hr : (gT t (0 + j)).natAbs ≤ 2 ^ 400 := by
      have hjl : 0 + j < t.length := by omega
      unfold gT at0
      rw [List.getElem?_eq_getElem hjl]
      exact Nat.le_of_lt (hm _ (List.getElem_mem hjl))
    have h1 : (sgn (k - j) * (bin k j : Int)).natAbs ≤ 2 ^ 51 := by
      rcases sgn_cases (k - j) with h | h <;> rw [h] <;> omega
    rw [Int.natAbs_mul]
    have k1 := Nat.mul_le_mul h1 hr
    rwa [← Nat.pow_add] at k1)
  rw [List.length_map, List.length_range] at hs
  have k2 := Nat.mul_le_mul_right (2 ^ 451) (show k + 1 ≤ 2 ^ 6 by omega)
  rw [← Nat.pow_add] at k2
  have k3 : (2 : Nat) ^ (6 + 451) < 2 ^ 1900 := Nat.pow_lt_pow_right (by decide) (by decide)
  have := log2_le (n := ((List.range (k + 1)).map fun j => sgn (k - j) * (bin k j : Int) * gT t (0 + j)).sum.natAbs) (k := 1900) (by omega)
  omega
theorem accV_use {kept : Bool} {t : List Int} {c : D} {b : Bool} {s : S} {Q : DQ} {X : DX} (h1 : 1 ≤ t.length) (hl : t.length ≤ 40) (e : shownVals kept t c = b) (h : Q (.d (.bool b)) s) : sp_accV [.d (.tuple [.str (if kept then "kept" else "loose"), .tuple (t.map .int)]), .d c] s Q X :=
  ⟨kept, t, c, rfl, h1, hl, by rw [e]; exact h⟩
theorem bin_next (n k : Nat) : ((k : Int) + 1) * bin n (k + 1) = ((n : Int) - k) * bin n k := by
  have h := bin_abs n k
  have e : bin (n + 1) (k + 1) = bin n k + bin n (k + 1) := rfl
  rw [e] at h
  have h2 : ((k : Int) + 1) * ((bin n k : Int) + bin n (k + 1)) = ((n : Int) + 1) * bin n k := by exact_mod_cast h
  rw [Int.mul_add, Int.add_mul, Int.add_mul, Int.one_mul] at h2
  rw [Int.add_mul, Int.sub_mul, Int.one_mul]
  rw [Int.add_mul, Int.one_mul] at h2
  omega
def lotsD (x m : Nat) : List D := (List.range m).map fun k => .int (bin x k)
def sp_lotsAt : Spec := fun vs s Q _ => ∃ x m : Nat, vs = [.d (.int x), .d (.int m)] ∧ x ≤ 50 ∧ 1 ≤ m ∧ m ≤ 50 ∧ Q (.d (.list (lotsD x m))) s
theorem lotsD_succ (x m : Nat) : lotsD x (m + 1) = lotsD x m ++ [.int (bin x m)] := by
  unfold lotsD; rw [List.range_succ, List.map_append]; rfl
theorem sem_lotsAt : Sem m__law_lots_at 4 sp_lotsAt := by
  rintro vs s Q Ex ⟨x, m, rfl, hx, h1, hm, q⟩
  unfold m__law_lots_at
  have hz : (1000000 : Nat) ≤ sizeLine := by decide
  walk_at "dl"
  have er : rangeD 1 ((m : Int) - 1).toNat = rangeD 1 (m - 1) := by rw [show ((m : Int) - 1).toNat = m - 1 by omega]
  have e0 : lotsD x (0 + 1) = [.int 1] := by simp [lotsD, bin_zero]
  have el0 : ({ s with ls := s.ls ++ [.op [.int 1]] } : S) = { s with ls := s.ls ++ [.op (lotsD x (0 + 1))] } := by rw [e0]
  refine ⟨sz _ (by decide), by omega, by omega, ?_⟩
  refine loopD_by (fun rest ρ t => ∃ (lo : Int) (k r : Nat) (a3 : Option Vl), rest = rangeD lo r ∧ lo = (k : Int) + 1 ∧ k + 1 + r = m ∧ t = { s with ls := s.ls ++ [.op (lotsD x (k + 1))] } ∧ ρ = [some (.d (.int x)), some (.d (.int m)), some (.loc s.ls.length), a3]) ?_ ?_ _ _ _ ⟨1, 0, m - 1, none, er, rfl, by omega, el0, rfl⟩
  · rintro d r' ρ t K ⟨lo, k, r, a3, e1, rfl, e2, rfl, rfl⟩ hK
    cases r with
    | zero => cases e1
    | succ r =>
      injection e1 with e1 e3
      subst e1 e3
      refine ⟨trivial, ?_⟩
      have el : ({ s with ls := s.ls ++ [.op (lotsD x (k + 1))] } : S).ls[s.ls.length]? = some (.op (lotsD x (k + 1))) := lastL _ _
      walk_at "dl"
      rw [asD_op el]
      walk_at "dl"
      have hat : atI (lotsD x (k + 1)) (-1) = some (.int (bin x k)) := by rw [lotsD_succ]; exact atI_last _ _
      refine ⟨⟨_, asT_op el⟩, _, hat, ?_⟩
      walk_at "dl"
      have hb := bin_small (n := x) (k := k) hx
      have hb2 : ((bin x k : Int)).natAbs < 2 ^ 51 := by omega
      have hd2 : ((x : Int) - ((k : Int) + 1) + 1).natAbs < 2 ^ 20 := by omega
      rw [chgL_loc el]
      have hq : ((bin x k : Int) * ((x : Int) - ((k : Int) + 1) + 1)).fdiv ((k : Int) + 1) = bin x (k + 1) := by
        refine fdiv_of_mul (by omega) ?_
        rw [bin_next, Int.mul_comm]
        congr 1
        omega
      refine ⟨.inr (by unfold CMulW; have l1 := log2_le hb2; have l2 := log2_le hd2; omega), by omega, log_lt (by omega) (by omega), by simp [lotsD]; omega, ?_⟩
      rw [hq]
      refine hK _ _ ⟨_, k + 1, r, _, rfl, by omega, by omega, ?_, rfl⟩
      show ({ ls := (s.ls ++ [LO.op _]).set s.ls.length _, os := s.os, sc := s.sc } : S) = _
      rw [setL, lotsD_succ x (k + 1)]
  · rintro ρ t ⟨lo, k, r, a3, e1, rfl, e2, rfl, rfl⟩
    cases r with
    | succ r => cases e1
    | zero =>
      refine ⟨trivial, ?_⟩
      walk_at "dl"
      have e : k + 1 = m := by omega
      rw [retD_loc (lastL _ _) (Nat.le_refl _), cutS_own _ _ _ _ rfl rfl, e]
      exact q
def vby (row : List Int) (x : Nat) : Int := ((List.range row.length).map fun k => at0 row k * (bin x k : Int)).sum
theorem zip_lots (f : Nat → D) : ∀ row : List Int, zipD (row.map .int) ((List.range row.length).map f) = (List.range row.length).map fun k => .tuple [.int (at0 row k), f k]
  | [] => rfl
  | a :: r => by
    have ih := zip_lots (fun k => f (k + 1)) r
    rw [List.length_cons, List.range_succ_eq_map, List.map_cons, List.map_cons, List.map_map, zipD, List.map_cons, List.map_map]
    have e1 : (f ∘ Nat.succ) = fun k => f (k + 1) := rfl
    rw [e1, ih]
    rfl
def mulD : D → D
  | .tuple [.int a, .int b] => .int (a * b)
  | _ => .none
def RowAt (v : Vl) (row : List Int) (s : S) : Prop := v = .d (.tuple (row.map .int)) ∨ ∃ n, v = .loc n ∧ s.ls[n]? = some (.op (row.map .int))
def sp_valBy : Spec := fun vs s Q _ => ∃ (v : Vl) (row : List Int) (x : Nat), vs = [v, .d (.int x)] ∧ RowAt v row s ∧ 1 ≤ row.length ∧ row.length ≤ 40 ∧ x ≤ 40 ∧ (∀ v ∈ row, v.natAbs < 2 ^ 2000) ∧ Q (.d (.int (vby row x))) s
theorem sem_valBy : Sem (m__law_value_by sp_lotsAt) 4 sp_valBy := by
  rintro vs s Q Ex ⟨v, row, x, rfl, hv, h1, hl, hx, hr, q⟩
  unfold m__law_value_by
  have hz : (1000000 : Nat) ≤ sizeLine := by decide
  have el : zipD (row.map .int) (lotsD x row.length) = (List.range row.length).map fun k => .tuple [.int (at0 row k), .int (bin x k)] := zip_lots _ row
  have em : ((List.range row.length).map fun k => PyData.tuple [.int (at0 row k), .int (bin x k)]).map mulD = (List.range row.length).map fun k => PyData.int (at0 row k * (bin x k : Int)) := by rw [List.map_map]; rfl
  have wid : ∀ k, k < row.length → CMul (at0 row k) (bin x k) ∨ CMulW (at0 row k) (bin x k) := fun k hk => by
    have hb := bin_small (n := x) (k := k) (by omega)
    have hb2 : ((bin x k : Int)).natAbs < 2 ^ 51 := by omega
    have hr2 : (at0 row k).natAbs < 2 ^ 2000 := by
      unfold at0
      rw [List.getElem?_eq_getElem hk]
      exact hr _ (List.getElem_mem hk)
    exact .inr (by unfold CMulW; have l1 := log2_le hb2; have l2 := log2_le hr2; omega)
  have hsum : intsOf ((List.range row.length).map fun k => PyData.int (at0 row k * (bin x k : Int))) = some ((List.range row.length).map fun k => at0 row k * (bin x k : Int)) := intsOf_map _ _
  rcases hv with rfl | ⟨n, rfl, hn⟩
  · walk_at "dl"
    rw [List.length_map]
    refine ⟨x, row.length, rfl, by omega, h1, by omega, ?_⟩
    refine ⟨_, rfl, _, rfl, fun zs h => (by cases h), ?_⟩
    rw [el]
    refine compD_map mulD trivial (fun d hd C hC => ?_) (by simp; omega) ?_
    · obtain ⟨k, hk, rfl⟩ := List.mem_map.mp hd
      walk_at "dl"
      exact ⟨wid k (List.mem_range.mp hk), hC⟩
    · rw [em]
      refine ⟨_, hsum, ?_⟩
      rw [cutS_self]
      exact q
  · walk_at "dl"
    simp only [asDs, asD_op hn, Option.bind_some, Option.map_some]
    refine ⟨_, rfl, ?_⟩
    walk_at "dl"
    rw [List.length_map]
    refine ⟨x, row.length, rfl, by omega, h1, by omega, ?_⟩
    refine ⟨_, asD_op hn, _, rfl, _, rfl, _, rfl, fun zs h => rfl, ?_⟩
    rw [el]
    refine compD_map mulD ⟨.inl hn, trivial⟩ (fun d hd C hC => ?_) (by simp; omega) ?_
    · obtain ⟨k, hk, rfl⟩ := List.mem_map.mp hd
      walk_at "dl"
      exact ⟨wid k (List.mem_range.mp hk), hC⟩
    · rw [em]
      refine ⟨_, hsum, ?_⟩
      rw [cutS_self]
      exact q
theorem vby_steps {t : List Int} {x : Nat} (h : x < t.length) : vby (stepsL t) x = at0 t x := by
  have e := newton x (gT t) 0
  rw [Nat.zero_add] at e
  have e0 : at0 t x = gT t x := rfl
  rw [e0, e, vby, stepsL_len, sum_range]
  have e2 : sumN (fun k => at0 (stepsL t) k * (bin x k : Int)) t.length = sumN (fun m => (bin x m : Int) * dlN m (gT t) 0) t.length := by
    refine sumN_congr fun k hk => ?_
    have : at0 (stepsL t) k = dlN k (gT t) 0 := by simp [at0, stepsL, hk]
    rw [this, Int.mul_comm]
  rw [e2, show t.length = x + 1 + (t.length - (x + 1)) by omega]
  exact sumN_tail (fun i hi => by rw [bin_gt x i (by omega)]; simp) _
/-! the pairs that do not agree, by the law -/
def lofN (t : List Int) (n : Nat) : List (Nat × Nat) := (List.range n).flatMap fun j => ((List.range j).filter fun i => badIJ t (i, j)).map fun i => (i, j)
theorem lofN_succ (t : List Int) (n : Nat) : lofN t (n + 1) = lofN t n ++ ((List.range n).filter fun i => badIJ t (i, n)).map fun i => (i, n) := by
  unfold lofN; rw [List.range_succ, List.flatMap_append]; simp
theorem lofN_len (t : List Int) : ∀ n, n ≤ 40 → (lofN t n).length ≤ n * 40
  | 0, _ => by simp [lofN]
  | n + 1, h => by
    rw [lofN_succ, List.length_append, List.length_map]
    have h1 := lofN_len t n (by omega)
    have h2 := List.length_filter_le (fun i => badIJ t (i, n)) (List.range n)
    rw [List.length_range] at h2
    omega
theorem mem_lof {t : List Int} {p : Nat × Nat} : p ∈ lofN t t.length ↔ p ∈ looseL t := by
  unfold lofN looseL
  rw [List.mem_filter, mem_upP, List.mem_flatMap]
  constructor
  · rintro ⟨j, hj, h⟩
    obtain ⟨i, hi, rfl⟩ := List.mem_map.mp h
    obtain ⟨h1, h2⟩ := List.mem_filter.mp hi
    exact ⟨⟨List.mem_range.mp h1, List.mem_range.mp hj⟩, h2⟩
  · rintro ⟨⟨h1, h2⟩, h3⟩
    exact ⟨p.2, List.mem_range.mpr h2, List.mem_map.mpr ⟨p.1, List.mem_filter.mpr ⟨List.mem_range.mpr h1, h3⟩, rfl⟩⟩
def sp_lof : Spec := fun vs s Q _ => ∃ t : List Int, vs = [.d (.tuple (t.map .int))] ∧ t.length ≤ 40 ∧ Q (.d (.list ((lofN t t.length).map ijD))) s
theorem sem_lof : Sem m__law_loose_of 4 sp_lof := by
  rintro vs s Q Ex ⟨t, rfl, hl, q⟩
  unfold m__law_loose_of
  have hz : (1000000 : Nat) ≤ sizeLine := by decide
  walk_at "dl"
  rw [List.length_map]
  refine ⟨sz _ (by decide), by omega, by omega, ?_⟩
  refine loopD_by (fun rest ρ u => ∃ (lo : Int) (r j : Nat) (a2 a3 : Option Vl), rest = rangeD lo r ∧ lo = j ∧ j + r = t.length ∧ u = { s with ls := s.ls ++ [.op ((lofN t j).map ijD)] } ∧ ρ = [some (.d (.tuple (t.map .int))), some (.loc s.ls.length), a2, a3]) ?_ ?_ _ _ _ ⟨0, t.length, 0, none, none, rfl, rfl, by omega, rfl, rfl⟩
  · rintro d r' ρ u K ⟨lo, r, j, a2, a3, e1, rfl, e2, rfl, rfl⟩ hK
    cases r with
    | zero => cases e1
    | succ r =>
      injection e1 with e1 e3
      subst e1 e3
      refine ⟨trivial, ?_⟩
      have el : ({ s with ls := s.ls ++ [.op ((lofN t j).map ijD)] } : S).ls[s.ls.length]? = some (.op ((lofN t j).map ijD)) := lastL _ _
      walk_at "dl"
      refine ⟨⟨_, asT_op el⟩, by omega, by omega, ?_⟩
      have key : (rangeD 0 ((j : Int)).toNat).filterMap (fun y => match y with | .int i => if badIJ t (i.toNat, j) = true then some (.tuple [.int i, .int j]) else none | _ => none) = (((List.range j).filter fun i => badIJ t (i, j)).map fun i => (i, j)).map ijD := by
        rw [show ((j : Int)).toNat = j from rfl, rangeD_0, List.filterMap_map, List.map_map]
        generalize List.range j = l
        induction l with
        | nil => rfl
        | cons a r ih =>
          simp only [List.filterMap_cons, Function.comp_apply, List.filter_cons, Int.toNat_natCast]
          by_cases h : badIJ t (a, j) = true
          · simp only [h, if_true, List.map_cons]
            rw [ih]
            rfl
          · simp only [h, if_false]
            exact ih
      refine compD_pure (fun y => match y with | .int i => if badIJ t (i.toNat, j) = true then some (.tuple [.int i, .int j]) else none | _ => none) trivial _ [] (fun y hy C hC => ?_) (by rw [rangeD_len]; simp; omega) ?_
      · obtain ⟨i, rfl, i0, i1⟩ := mem_rangeD hy
        have a1 := vals_at (t := t) (i := (j : Int)) (by omega) (by omega)
        have a2 := vals_at (t := t) (i := i) (by omega) (by omega)
        walk_at "dl"
        refine ⟨_, a1, _, a2, ?_⟩
        walk_at "dl"
        refine ⟨by omega, ?_⟩
        have eb : badIJ t (i.toNat, j) = !decide ((at0 t (j : Int).toNat - at0 t i.toNat).fmod ((j : Int) - i) = 0) := by
          unfold badIJ
          dsimp only
          congr 1
          refine decide_eq_decide.mpr ?_
          rw [fmod_zero_iff, show ((i.toNat : Nat) : Int) = i by omega, show ((j : Int)).toNat = j from rfl]
          rw [show at0 t i.toNat - at0 t j = -(at0 t j - at0 t i.toNat) by omega, Int.dvd_neg]
        rw [← eb]
        cases hb : badIJ t (i.toNat, j) with
        | true =>
          simp only [hb, if_true] at hC ⊢
          walk_at "dl"
          exact ⟨sz _ (by decide), hC⟩
        | false =>
          simp only [hb, Bool.false_eq_true, if_false] at hC ⊢
          exact hC
      · rw [List.nil_append, key]
        walk_at "dl"
        rw [chgL_loc el]
        have hlen := lofN_len t j (by omega)
        have hf := List.length_filter_le (fun i => badIJ t (i, j)) (List.range j)
        rw [List.length_range] at hf
        refine ⟨by simp only [List.length_map]; omega, ?_⟩
        refine hK _ _ ⟨_, r, j + 1, _, _, rfl, by omega, by omega, ?_, rfl⟩
        show ({ ls := (s.ls ++ [LO.op _]).set s.ls.length _, os := s.os, sc := s.sc } : S) = _
        rw [setL, lofN_succ, List.map_append]
  · rintro ρ u ⟨lo, r, j, a2, a3, e1, rfl, e2, rfl, rfl⟩
    cases r with
    | succ r => cases e1
    | zero =>
      refine ⟨trivial, ?_⟩
      have hj : j = t.length := by omega
      subst hj
      walk_at "dl"
      rw [retD_loc (lastL _ _) (Nat.le_refl _), cutS_own _ _ _ _ rfl rfl]
      exact q

/-! ### law k75: drawn tables -/
def sp_table : Spec := fun vs s Q _ => ∃ (n many : Nat), vs = [.obj n, .d (.int many)] ∧ Vial s n ∧ 1 ≤ many ∧ many ≤ 40 ∧ ∀ (t : List Int) s', Tab many t → VSt n s s' → Q (.d (.tuple (t.map .int))) s'
theorem table_b2 {Ex : EX} {X : DE} {s t : S} {n many k : Nat} {wide : Int} {row : List Int} {a2 a6 a7 a8 : Option Vl} (vo : VOs n s t) (hls : t.ls = s.ls ++ [.op (row.map .int)]) (hk : k < 40) (hw0 : 0 < wide) (hw : wide.natAbs < 2 ^ (6 * k + 1)) (hrl : row.length = k) (hrow : ∀ v ∈ row, v.natAbs < 2 ^ 300)
    (hX : ∀ (w z : Int) t', VOs n s t' → t'.ls = s.ls ++ [.op ((row ++ [z]).map .int)] → 0 < w → w.natAbs < 2 ^ (6 * (k + 1) + 1) → z.natAbs < 2 ^ 300 → X.nx [some (.obj n), some (.d (.int many)), a2, some (.loc s.ls.length), some (.d (.int w)), some (.d (.int k)), a6, a7, a8] t') :
    rdC Ex (m__law_table_b2 sp_drop sp_any sp_lshared sp_valBy) X [some (.obj n), some (.d (.int many)), a2, some (.loc s.ls.length), some (.d (.int wide)), some (.d (.int k)), a6, a7, a8] t := by
  unfold m__law_table_b2
  walk_at "dl"
  have hmk : ∃ m : Int, (if (1 : Int) > (k : Int) then (1 : Int) else (k : Int)) = m ∧ 0 < m ∧ m < 64 := ⟨_, rfl, by split <;> omega, by split <;> omega⟩
  obtain ⟨mk, emk, m0, m1⟩ := hmk
  rw [emk]
  refine ⟨_, _, rfl, ?_⟩
  have g0 : 0 < Int.gcd wide mk := Int.gcd_pos_of_ne_zero_left mk (by omega)
  have g1 : Int.gcd wide mk ≤ mk.natAbs := Int.gcd_le_natAbs_right wide (by omega)
  have g2 : (Int.gcd wide mk).log2 < 9000 := by
    have := log2_le (n := Int.gcd wide mk) (k := 64) (by omega)
    omega
  have q0 : 0 ≤ wide.fdiv (Int.gcd wide mk) := Int.fdiv_nonneg (by omega) (by omega)
  have q1 : wide.fdiv (Int.gcd wide mk) ≤ wide := Int.fdiv_le_self _ (by omega)
  have q2 : 0 < wide.fdiv (Int.gcd wide mk) := by
    obtain ⟨c, hc⟩ := Int.gcd_dvd_left wide mk
    rw [fdiv_of_mul (by omega) hc]
    rcases Int.lt_or_le 0 c with h | h
    · exact h
    · have := Int.mul_nonpos_of_nonneg_of_nonpos (show (0 : Int) ≤ (Int.gcd wide mk : Nat) by omega) h
      omega
  have el : t.ls[s.ls.length]? = some (.op (row.map .int)) := by rw [hls]; exact lastL _ _
  walk_at "dl"
  refine ⟨by omega, by simpa using g2, .inl (.inr ⟨by omega, by omega⟩), ⟨_, asT_op el⟩, ?_⟩
  generalize hw' : wide.fdiv (Int.gcd wide mk) * mk = w'
  have w0 : 0 < w' := by rw [← hw']; exact Int.mul_pos q2 m0
  have pw : (2 : Nat) ^ (6 * (k + 1) + 1) = 2 ^ (6 * k + 1) * 64 := by rw [show 6 * (k + 1) + 1 = 6 * k + 1 + 6 by omega, Nat.pow_add]
  have w1 : w'.natAbs < 2 ^ (6 * (k + 1) + 1) := by
    rw [← hw', Int.natAbs_mul, pw]
    exact Nat.mul_lt_mul'' (by omega) (by omega)
  have w2 : (2 : Nat) ^ (6 * (k + 1) + 1) ≤ 2 ^ 241 := Nat.pow_le_pow_right (by decide) (by omega)
  refine ⟨n, _, rfl, vo.vial, by decide, by decide, fun d1 t1 d10 d11 v1 => ?_⟩
  walk_at "dl"
  refine ⟨.inl (.inr ⟨by omega, by omega⟩), ⟨by decide, by decide, by decide⟩, sz _ (by decide), n, _, rfl, v1.vial, by simp, by simp, fun y t2 hy v2 => ?_⟩
  have hy2 : ∃ c : Int, y = .int c ∧ 0 < c ∧ c < 2 ^ 40 := by
    simp only [List.mem_cons, List.not_mem_nil, or_false] at hy
    rcases hy with rfl | rfl | rfl | rfl <;> exact ⟨_, rfl, by decide, by decide⟩
  obtain ⟨c, rfl, c0, c1⟩ := hy2
  walk_at "dl"
  have v := v1.trans v2
  have el2 : t2.ls[s.ls.length]? = some (.op (row.map .int)) := by rw [v.1]; exact el
  rw [chgL_loc el2]
  have hz : (1000000 : Nat) ≤ sizeLine := by decide
  refine ⟨.inl (.inr ⟨by omega, by omega⟩), by simp; omega, ?_⟩
  have e : row.map PyData.int ++ [.int (w' * (d1 - 3) * c)] = (row ++ [w' * (d1 - 3) * c]).map .int := by simp
  rw [e]
  refine hX w' (w' * (d1 - 3) * c) _ ((vo.trans v).ls _) ?_ w0 w1 ?_
  · show t2.ls.set _ _ = _
    rw [v.1, hls, setL]
  · rw [Int.natAbs_mul, Int.natAbs_mul]
    have k1 := Nat.mul_le_mul (Nat.mul_le_mul (Nat.le_of_lt (Nat.lt_of_lt_of_le w1 w2)) (show (d1 - 3).natAbs ≤ 2 ^ 2 by omega)) (show c.natAbs ≤ 2 ^ 40 by omega)
    rw [← Nat.pow_add, ← Nat.pow_add] at k1
    exact Nat.lt_of_le_of_lt k1 (Nat.pow_lt_pow_right (by decide) (by decide))
theorem vby_small {row : List Int} {x : Nat} (hl : row.length ≤ 40) (hx : x ≤ 40) (hr : ∀ v ∈ row, v.natAbs < 2 ^ 300) : (vby row x).natAbs < 2 ^ 390 := by
  have hsum := sum_le (B := 2 ^ 351) (l := (List.range row.length).map fun j => at0 row j * (bin x j : Int)) (fun v hv => by
    obtain ⟨j, hj, rfl⟩ := List.mem_map.mp hv
    have hj := List.mem_range.mp hj
    have hb := bin_small (n := x) (k := j) (by omega)
    have hr : (at0 row j).natAbs < 2 ^ 300 := by
      unfold at0
      rw [List.getElem?_eq_getElem hj]
      exact hr _ (List.getElem_mem hj)
    rw [Int.natAbs_mul]
    have k1 := Nat.mul_le_mul (Nat.le_of_lt hr) (show (bin x j : Int).natAbs ≤ 2 ^ 51 by omega)
    rwa [← Nat.pow_add] at k1)
  rw [List.length_map, List.length_range] at hsum
  have k2 := Nat.mul_le_mul_right (2 ^ 351) (show row.length ≤ 2 ^ 6 by omega)
  rw [← Nat.pow_add] at k2
  have k3 : (2 : Nat) ^ (6 + 351) < 2 ^ 390 := Nat.pow_lt_pow_right (by decide) (by decide)
  unfold vby
  omega
def vbyD (row : List Int) : D → D
  | .int x => .int (vby row x.toNat)
  | _ => .none
theorem sem_table : Sem (m__law_table sp_drop sp_any sp_lshared sp_valBy) 9 sp_table := by
  rintro vs s Q Ex ⟨n, many, rfl, hv, hm1, hm40, q⟩
  unfold m__law_table
  walk_at "dl"
  refine ⟨n, _, rfl, hv, by decide, by decide, fun way s1 w0 w1 v1 => ?_⟩
  walk_at "dl"
  have hz : (1000000 : Nat) ≤ sizeLine := by decide
  have nl : s1.ls.length = s.ls.length := by rw [v1.1]
  rw [nl]
  have vo1 : VOs n s { ls := s1.ls ++ [.op []], os := s1.os, sc := s1.sc } := v1.vo.ls _
  have hls1 : s1.ls ++ [LO.op []] = s.ls ++ [.op (([] : List Int).map .int)] := by rw [v1.1]; rfl
  refine ⟨sz _ (by decide), ?_⟩
  by_cases hw : way = 0
  · subst hw
    simp only [decide_true, if_true]
    refine ⟨by omega, by omega, ?_⟩
    refine compD_by (fun rest acc t => ∃ (lo : Int) (k : Nat) (t0 : List Int), rest = rangeD lo k ∧ t0.length + k = many ∧ acc = t0.map .int ∧ (∀ v ∈ t0, Mid v) ∧ VOs n s t ∧ t.ls = s.ls ++ [.op []]) ?_ ?_ _ _ _ ⟨0, many, [], rfl, by simp, rfl, by simp, vo1, by rw [← v1.1]⟩
    · rintro d r acc t C ⟨lo, k, t0, e1, e2, rfl, hm, vo, hls⟩ hC
      cases k with
      | zero => cases e1
      | succ k =>
        injection e1 with e1 e3
        subst e1 e3
        refine ⟨trivial, n, _, rfl, vo.vial, by decide, by decide, fun d2 t2 d20 d21 v2 => ?_⟩
        walk_at "dl"
        refine ⟨sz _ (by decide), n, _, rfl, v2.vial, by simp, by simp, fun x t3 hx v3 => ?_⟩
        have hx2 : ∃ c : Int, x = .int c ∧ c.natAbs < 100 := by
          simp only [List.mem_cons, List.not_mem_nil, or_false] at hx
          rcases hx with rfl | rfl | rfl | rfl | rfl | rfl | rfl <;> exact ⟨_, rfl, by omega⟩
        obtain ⟨c, rfl, hc⟩ := hx2
        walk_at "dl"
        refine hC (some _) t3 ⟨by rw [List.length_map]; omega, lo + 1, k, t0 ++ [c], rfl, by simp; omega, by simp, fun v h => ?_, (vo.trans v2).trans v3, by rw [v3.1, v2.1, hls]⟩
        rcases List.mem_append.mp h with h | h
        · exact hm v h
        · have : v = c := by simpa using h
          have h100 : (100 : Nat) < 2 ^ 400 := Nat.lt_of_lt_of_le (show 100 < 2 ^ 7 by decide) (Nat.pow_le_pow_right (by decide) (by decide))
          unfold Mid; omega
    · rintro acc t ⟨lo, k, t0, e1, e2, rfl, hm, vo, hls⟩
      cases k with
      | succ k => cases e1
      | zero =>
        refine ⟨trivial, ?_⟩
        walk_at "dl"
        exact q t0 _ ⟨by omega, hm⟩ (vo.done hls)
  · simp only [hw, decide_false, Bool.false_eq_true, if_false]
    unfold m__law_table_1
    walk_at "dl"
    refine ⟨by omega, by omega, ?_⟩
    refine loopD_by (fun rest ρ t => ∃ (lo : Int) (k r : Nat) (wide : Int) (row : List Int) (a5 a6 a7 a8 : Option Vl), rest = rangeD lo r ∧ lo = k ∧ k + r = many ∧ 0 < wide ∧ wide.natAbs < 2 ^ (6 * k + 1) ∧ row.length = k ∧ (∀ v ∈ row, v.natAbs < 2 ^ 300) ∧ VOs n s t ∧ t.ls = s.ls ++ [.op (row.map .int)] ∧
      ρ = [some (.obj n), some (.d (.int many)), some (.d (.int way)), some (.loc s.ls.length), some (.d (.int wide)), a5, a6, a7, a8]) ?_ ?_ _ _ _ ⟨0, 0, many, 1, [], none, none, none, none, rfl, rfl, by omega, by decide, by decide, rfl, by simp, vo1, by rw [← hls1], rfl⟩
    · rintro d r' ρ t K ⟨lo, k, r, wide, row, a5, a6, a7, a8, e1, rfl, e2, hw0, hw1, hrl, hrow, vo, hls, rfl⟩ hK
      cases r with
      | zero => cases e1
      | succ r =>
        injection e1 with e1 e3
        subst e1 e3
        refine ⟨trivial, ?_⟩
        walk_at "dl"
        refine table_b2 vo hls (by omega) hw0 hw1 hrl hrow fun w z t' vo' hls' w0' w1' hz' => ?_
        refine hK _ _ ⟨_, k + 1, r, w, row ++ [z], _, _, _, _, rfl, by omega, by omega, w0', w1', by simp [hrl], fun v hv => ?_, vo', hls', rfl⟩
        rcases List.mem_append.mp hv with h | h
        · exact hrow v h
        · have : v = z := by simpa using h
          rw [this]; exact hz'
    · rintro ρ t ⟨lo, k, r, wide, row, a5, a6, a7, a8, e1, rfl, e2, hw0, hw1, hrl, hrow, vo, hls, rfl⟩
      cases r with
      | succ r => cases e1
      | zero =>
        have hk : k = many := by omega
        subst hk
        refine ⟨trivial, ?_⟩
        have el0 : t.ls[s.ls.length]? = some (.op (row.map .int)) := by rw [hls]; exact lastL _ _
        walk_at "dl"
        refine ⟨by omega, by omega, ?_⟩
        rw [show ((k : Int)).toNat = k from rfl]
        refine compD_map (vbyD row) trivial (fun d hd C hC => ?_) (by rw [rangeD_len]; omega) ?_
        · obtain ⟨x, rfl, x0, x1⟩ := mem_rangeD hd
          walk_at "dl"
          refine ⟨.loc s.ls.length, row, x.toNat, by rw [show ((x.toNat : Nat) : Int) = x by omega], .inr ⟨_, rfl, el0⟩, by omega, by omega, by omega, fun v hv => Nat.lt_of_lt_of_le (hrow v hv) (Nat.pow_le_pow_right (by decide) (by decide)), ?_⟩
          walk_at "dl"
          exact hC
        obtain ⟨found, hfd⟩ : ∃ found : List Int, found = (List.range k).map fun x => vby row x := ⟨_, rfl⟩
        have efd : (rangeD 0 k).map (vbyD row) = found.map .int := by
          rw [rangeD_0, hfd, List.map_map, List.map_map]
          rfl
        have hfl : found.length = k := by rw [hfd]; simp
        have hfb : ∀ v ∈ found, v.natAbs < 2 ^ 390 := fun v hv => by
          rw [hfd] at hv
          obtain ⟨x, hx, rfl⟩ := List.mem_map.mp hv
          have := List.mem_range.mp hx
          exact vby_small (by omega) (by omega) hrow
        clear hfd
        rw [efd]
        have nl2 : t.ls.length = s.ls.length + 1 := by rw [hls]; simp
        rw [nl2]
        have vo2 : VOs n s { ls := t.ls ++ [.op (found.map .int)], os := t.os, sc := t.sc } := vo.ls _
        have hls2 : ({ ls := t.ls ++ [.op (found.map .int)], os := t.os, sc := t.sc } : S).ls = s.ls ++ [.op (row.map .int), .op (found.map .int)] := by
          show t.ls ++ _ = _
          rw [hls]; simp
        generalize ({ ls := t.ls ++ [.op (found.map .int)], os := t.os, sc := t.sc } : S) = u at vo2 hls2
        have el1 : u.ls[s.ls.length + 1]? = some (.op (found.map .int)) := by rw [hls2]; simp
        have p1 : (2 : Nat) ^ 390 * 2 ≤ 2 ^ 400 := by rw [← Nat.pow_succ]; exact Nat.pow_le_pow_right (by decide) (by decide)
        have p2 : (100 : Nat) < 2 ^ 390 := Nat.lt_of_lt_of_le (show 100 < 2 ^ 7 by decide) (Nat.pow_le_pow_right (by decide) (by decide))
        have hfm : ∀ v ∈ found, Mid v := fun v hv => by have := hfb v hv; unfold Mid; omega
        have fin : ∀ (f2 : List Int) (u2 : S) (b5 b7 b8 : Option Vl) (Ex2 : EX) (X2 : DE), X2.rt = (fun x s' => retD s.ls.length x s' Q) → Tab k f2 → VOs n s u2 → u2.ls = s.ls ++ [.op (row.map .int), .op (f2.map .int)] → rdC Ex2 (m__law_table_3 sp_drop sp_any sp_lshared sp_valBy) X2 [some (.obj n), some (.d (.int k)), some (.d (.int way)), some (.loc s.ls.length), some (.d (.int wide)), b5, some (.loc (s.ls.length + 1)), b7, b8] u2 := by
          intro f2 u2 b5 b7 b8 Ex2 X2 hX2 ht vo3 hls3
          unfold m__law_table_3
          have el3 : u2.ls[s.ls.length + 1]? = some (.op (f2.map .int)) := by rw [hls3]; simp
          walk_at "dl"
          rw [asD_op el3]
          walk_at "dl"
          rw [hX2]
          exact q _ _ ht (vo3.done hls3)
        walk_at "dl"
        by_cases hw1 : way = 1
        · simp only [hw1, eq_self, decide_true, if_true]
          rw [hw1] at fin
          refine ⟨n, _, rfl, vo2.vial, by omega, log_lt (by omega) (by omega), fun at' t1 a0 a1 v1 => ?_⟩
          walk_at "dl"
          have el2 : t1.ls[s.ls.length + 1]? = some (.op (found.map .int)) := by rw [v1.1]; exact el1
          rw [asD_op el2]
          walk_at "dl"
          obtain ⟨i, rfl⟩ := Int.eq_ofNat_of_zero_le a0
          have hi : i < found.length := by omega
          refine ⟨_, vals_at (t := found) a0 (by omega), sz _ (by decide), n, _, rfl, v1.vial, by simp, by simp, fun y t2 hy v2 => ?_⟩
          have hy2 : ∃ c : Int, y = .int c ∧ c.natAbs < 100 := by
            simp only [List.mem_cons, List.not_mem_nil, or_false] at hy
            rcases hy with rfl | rfl | rfl | rfl <;> exact ⟨_, rfl, by decide⟩
          obtain ⟨c, rfl, hc⟩ := hy2
          walk_at "dl"
          have v := v1.trans v2
          have el3 : t2.ls[s.ls.length + 1]? = some (.op (found.map .int)) := by rw [v.1]; exact el1
          rw [chgL_loc el3]
          refine ⟨i, ixN_pos (by omega) (by simpa using hi), ?_⟩
          have es : (found.map PyData.int).set i (.int (at0 found (i : Int).toNat + c)) = (found.set i (at0 found i + c)).map .int := by rw [List.map_set]; rfl
          rw [es]
          refine fin (found.set i (at0 found i + c)) _ _ _ _ _ _ rfl ⟨by rw [List.length_set]; exact hfl, fun w hw => ?_⟩ ((vo2.trans v).ls _) (by show t2.ls.set _ _ = _; rw [v.1, hls2]; simp)
          rcases List.mem_or_eq_of_mem_set hw with h | h
          · exact hfm w h
          · have h3 : (at0 found i).natAbs < 2 ^ 390 := by
              unfold at0
              rw [List.getElem?_eq_getElem hi]
              exact hfb _ (List.getElem_mem hi)
            rw [h]; unfold Mid; omega
        · simp only [hw1, decide_false, Bool.false_eq_true, if_false]
          exact fin found u _ _ _ _ _ rfl ⟨hfl, hfm⟩ vo2 hls2

/-! ### law k75: the checker, tables right -/
inductive Acc5 : D → D → Bool → Prop
  | vals (kept : Bool) (t : List Int) (c : D) (h1 : 1 ≤ t.length) (hl : t.length ≤ 40) : Acc5 (.tuple [.str (if kept then "kept" else "loose"), .tuple (t.map .int)]) c (shownVals kept t c)
  | pts (never : Bool) (ps : Pts) (c : D) (b : Bool) (h1 : 1 ≤ ps.length) (hl : ps.length ≤ 13) (ha : ascB ps = true) (hB : PB ps) (hc : ∀ cs : List Int, c = .tuple (cs.map .int) → ∀ v ∈ cs, v.natAbs < 2 ^ 50000)
      (hb : if never then (b = true ↔ ∃ k : Nat, c = .int k ∧ k < ps.length ∧ Whole (ps.take k) ∧ ¬Whole (ps.take (k + 1))) else b = shownW ps c) : Acc5 (.tuple [.str (if never then "never whole" else "whole"), ptsD ps]) c b
def sp_acc5 : Spec := fun vs s Q _ => ∃ (m c : D) (b : Bool), vs = [.d m, .d c] ∧ Acc5 m c b ∧ Q (.d (.bool b)) s
theorem sem_acc5 {S1 S2 S3 S4 : Spec} : Sem (m_accepts S1 S2 S3 S4 sp_values sp_shownV sp_points sp_shownP) 4 sp_acc5 := by
  rintro vs s Q Ex ⟨m, c, b, rfl, h, q⟩
  cases h with
  | vals kept t c h1 hl => exact sem_accV _ _ _ _ ⟨kept, t, c, rfl, h1, hl, q⟩
  | pts never ps c b h1 hl ha hB hc hb => exact sem_accP _ _ _ _ ⟨never, ps, c, rfl, h1, hl, ha, hB, hc, fun b' hb' => by
      have : b' = b := by
        cases never with
        | true => simp only [if_true] at hb hb'; rw [Bool.eq_iff_iff, hb, hb']
        | false => simp only [Bool.false_eq_true, if_false] at hb hb'; rw [hb, hb']
      rw [this]; exact q⟩
theorem loose_kept {t : List Int} (h : looseL t = []) : agreeB (gT t) t.length = true := by
  unfold agreeB
  rw [List.all_eq_true]
  intro j hj
  rw [List.all_eq_true]
  intro i hi
  have h1 := List.mem_range.mp hj
  have h2 := List.mem_range.mp hi
  have h3 : ¬ (i, j) ∈ looseL t := by rw [h]; simp
  unfold looseL at h3
  rw [List.mem_filter, mem_upP] at h3
  have h4 : ¬ badIJ t (i, j) = true := fun e => h3 ⟨⟨h2, h1⟩, e⟩
  unfold badIJ at h4
  simp only [Bool.not_eq_true', decide_eq_false_iff_not, Classical.not_not] at h4
  refine decide_eq_true ?_
  show ((j : Int) - i) ∣ at0 t j - at0 t i
  rw [show at0 t j - at0 t i = -(at0 t i - at0 t j) by omega, Int.dvd_neg]
  exact h4
theorem loose_shown {t : List Int} {p : Nat × Nat} (h : p ∈ looseL t) : shownVals false t (ijD p) = true := by
  unfold looseL at h
  rw [List.mem_filter, mem_upP] at h
  obtain ⟨⟨h1, h2⟩, h3⟩ := h
  unfold badIJ at h3
  simp only [Bool.not_eq_true', decide_eq_false_iff_not] at h3
  unfold shownVals ijD
  simp only [Bool.false_eq_true, if_false, Int.toNat_natCast]
  have a1 : (0 : Int) ≤ (p.1 : Int) := by omega
  have a2 : (p.1 : Int) < p.2 := by omega
  have a3 : (p.2 : Int) < t.length := by omega
  have a4 : ¬ ((p.2 : Int) - p.1 ∣ at0 t p.2 - at0 t p.1) := fun e => h3 (by rw [show at0 t p.1 - at0 t p.2 = -(at0 t p.2 - at0 t p.1) by omega, Int.dvd_neg]; exact e)
  simp [a1, a2, a3, a4]
/-- flat enough to be told apart -/
def Lay (n : Nat) (d : D) : Prop := d.canLay0 = true ∧ d.depth ≤ n
theorem lay_i {n : Nat} (i : Int) : Lay n (.int i) := ⟨by simp [PyData.canLay0], by simp [PyData.depth]⟩
theorem lay_s {n : Nat} {x : Str} (h : PyData.strOk x = true) : Lay n (.str x) := ⟨by simp [PyData.canLay0, h], by simp [PyData.depth]⟩
theorem lay_t {n : Nat} {xs : List D} (h : ∀ x ∈ xs, Lay n x) : Lay (n + 1) (.tuple xs) := by
  refine ⟨?_, ?_⟩
  · simp only [PyData.canLay0]; exact canLay_all fun x hx => (h x hx).1
  · simp only [PyData.depth]; exact Nat.succ_le_succ (depth_all fun x hx => (h x hx).2)
theorem lay_l {n : Nat} {xs : List D} (h : ∀ x ∈ xs, Lay n x) : Lay (n + 1) (.list xs) := by
  refine ⟨?_, ?_⟩
  · simp only [PyData.canLay0]; exact canLay_all fun x hx => (h x hx).1
  · simp only [PyData.depth]; exact Nat.succ_le_succ (depth_all fun x hx => (h x hx).2)
theorem Lay.sh {d : D} (h : Lay 64 d) : SeqAt.shaped d = true := by
  simp only [SeqAt.shaped, Bool.and_eq_true, decide_eq_true_eq]
  exact ⟨h.1, by first | exact h.2 | exact decide_eq_true h.2⟩
theorem Lay.up {n m : Nat} {d : D} (h : Lay n d) (hn : n ≤ m) : Lay m d := ⟨h.1, Nat.le_trans h.2 hn⟩
theorem Lay.self {n : Nat} {d : D} (h : Lay n d) : PyData.eqv d d = true := PySem.SeqAt.eqv_refl d h.1
theorem lay_ints (t : List Int) : Lay 1 (.tuple (t.map .int)) := lay_t fun x hx => by
  obtain ⟨i, _, rfl⟩ := List.mem_map.mp hx
  exact lay_i i
theorem lay_two {n : Nat} {a b : D} (ha : Lay n a) (hb : Lay n b) : Lay (n + 1) (.tuple [a, b]) := lay_t fun x hx => by
  simp only [List.mem_cons, List.not_mem_nil, or_false] at hx
  rcases hx with rfl | rfl
  · exact ha
  · exact hb
theorem lay_p (p : Nat × Nat) : Lay 1 (ijD p) := lay_two (lay_i _) (lay_i _)
theorem ok_kept : PyData.strOk ("kept" : Str) = true := by decide +kernel
theorem ok_loose : PyData.strOk ("loose" : Str) = true := by decide +kernel
theorem permK_1 (x : Str) (a : Vl) : permK [x] [x] [a] = [a] := by simp [permK, List.lookup]
def sp_tabR : Spec := fun vs s Q _ => ∃ t : List Int, vs = [.d (.tuple (t.map .int))] ∧ 1 ≤ t.length ∧ t.length ≤ 40 ∧ (∀ v ∈ t, Mid v) ∧ Q (.d (.bool true)) s
theorem sem_tabR : Sem (m__law_table_right sp_certV sp_lof sp_acc5 sp_valBy) 4 sp_tabR := by
  rintro vs s Q Ex ⟨t, rfl, h1, hl, hm, q⟩
  unfold m__law_table_right
  have hz : (1000000 : Nat) ≤ sizeLine := by decide
  walk_at "dl"
  refine ⟨t, rfl, h1, hl, ?_⟩
  walk_at "dl"
  refine ⟨t, rfl, hl, ?_⟩
  walk_at "dl"
  rw [permK_1]
  refine ⟨t, rfl, h1, hl, ?_⟩
  walk_at "dl"
  have lk : Lay 2 (.tuple [.str "kept", .tuple (t.map .int)]) := lay_two (lay_s ok_kept) (lay_ints t)
  have ll : Lay 2 (.tuple [.str "loose", .tuple (t.map .int)]) := lay_two (lay_s ok_loose) (lay_ints t)
  cases hL : looseL t with
  | nil =>
    have ec : certV t = .tuple [.tuple [.str "kept", .tuple (t.map .int)], .tuple ((stepsL t).map .int)] := by unfold certV; rw [hL]
    have lc : Lay 3 (certV t) := by rw [ec]; exact lay_two lk ((lay_ints _).up (by decide))
    refine cmpD_neD (lc.up (by decide)).sh (lc.up (by decide)).sh ?_
    rw [lc.self, ec]
    simp only [Bool.not_true, Bool.false_eq_true, if_false]
    walk_at "dl"
    refine ⟨_, _, true, rfl, ?_, ?_⟩
    · have := Acc5.vals true t (.tuple ((stepsL t).map .int)) h1 hl
      rw [shownV_due, loose_kept hL] at this
      exact this
    walk_at "dl"
    have eb : lofN t t.length = [] := by
      cases h : lofN t t.length with
      | nil => rfl
      | cons p r =>
        have : p ∈ looseL t := mem_lof.mp (by rw [h]; simp)
        rw [hL] at this
        simp at this
    rw [eb]
    refine ⟨sz _ (by decide), cmpD_neD shaped_nil shaped_nil ?_⟩
    rw [eqv_nil]
    simp only [List.map_nil, List.isEmpty_nil, Bool.not_true, Bool.false_eq_true, if_false]
    refine ⟨sz _ (by decide), cmpD_neD (lk.up (by decide)).sh (lk.up (by decide)).sh ?_⟩
    rw [lk.self]
    simp only [isiD, Bool.not_true, Bool.false_eq_true, if_false]
    walk_at "dl"
    rw [List.length_map, stepsL_len, List.length_map]
    simp only [eq_self, decide_true, Bool.not_true, Bool.false_eq_true, if_false]
    walk_at "dl"
    refine ⟨by omega, by omega, ?_⟩
    rw [show ((t.length : Int)).toNat = t.length from rfl]
    refine compD_map (vbyD (stepsL t)) trivial (fun d hd C hC => ?_) (by rw [rangeD_len]; omega) ?_
    · obtain ⟨x, rfl, x0, x1⟩ := mem_rangeD hd
      walk_at "dl"
      refine ⟨.d (.tuple ((stepsL t).map .int)), stepsL t, x.toNat, by rw [show ((x.toNat : Nat) : Int) = x by omega], .inl rfl, by rw [stepsL_len]; omega, by rw [stepsL_len]; omega, by omega, fun v hv => ?_, ?_⟩
      · have := stepsL_log hl hm v hv
        by_cases h0 : v.natAbs = 0
        · rw [h0]; exact Nat.two_pow_pos _
        · exact Nat.lt_of_lt_of_le ((Nat.log2_lt h0).mp this) (Nat.pow_le_pow_right (by decide) (by decide))
      · walk_at "dl"
        exact hC
    · have er : (rangeD 0 t.length).map (vbyD (stepsL t)) = t.map .int := by
        rw [rangeD_0, List.map_map, row_0]
        unfold rowD
        refine List.map_congr_left fun x hx => ?_
        have := List.mem_range.mp hx
        show PyData.int (vby (stepsL t) x) = PyData.int (gT t x)
        rw [vby_steps this]
        rfl
      rw [er]
      walk_at "dl"
      have ls : Lay 1 (.list (t.map PyData.int)) := lay_l fun x hx => by
        obtain ⟨i, _, rfl⟩ := List.mem_map.mp hx
        exact lay_i i
      refine cmpD_eqD (ls.up (by decide)).sh (ls.up (by decide)).sh ?_
      rw [ls.self]
      walk_at "dl"
      exact q
  | cons p r =>
    have ec : certV t = .tuple [.tuple [.str "loose", .tuple (t.map .int)], ijD p] := by unfold certV; rw [hL]
    have lc : Lay 3 (certV t) := by rw [ec]; exact lay_two ll ((lay_p _).up (by decide))
    have hp : p ∈ looseL t := by rw [hL]; simp
    refine cmpD_neD (lc.up (by decide)).sh (lc.up (by decide)).sh ?_
    rw [lc.self, ec]
    simp only [Bool.not_true, Bool.false_eq_true, if_false]
    walk_at "dl"
    refine ⟨_, _, true, rfl, ?_, ?_⟩
    · have := Acc5.vals false t (ijD p) h1 hl
      rw [loose_shown hp] at this
      exact this
    walk_at "dl"
    have hp2 : p ∈ lofN t t.length := mem_lof.mpr hp
    have hne : ((lofN t t.length).map ijD).isEmpty = false := by
      cases h : lofN t t.length with
      | nil => rw [h] at hp2; simp at hp2
      | cons _ _ => rfl
    refine ⟨sz _ (by decide), cmpD_neD (shaped_ijs _) shaped_nil ?_⟩
    rw [eqv_nil, hne]
    simp only [Bool.not_false, if_true]
    refine ⟨sz _ (by decide), cmpD_eqD (ll.up (by decide)).sh (ll.up (by decide)).sh ?_⟩
    rw [ll.self]
    simp only [if_true]
    rw [cmpD_inL]
    refine ⟨((lay_p p).up (by decide)).sh, shaped_ijs _, ?_⟩
    have ha : (((lofN t t.length).map ijD).any fun z => PyData.eqv z (ijD p)) = true := List.any_eq_true.mpr ⟨ijD p, List.mem_map.mpr ⟨p, hp2, rfl⟩, (lay_p p).self⟩
    rw [ha]
    walk_at "dl"
    exact q

/-! ### law k75: the whole polynomial through points -/
theorem basis_snoc (l : List Int) (a : Int) : basis (l ++ [a]) = mulXc a 0 (basis l) := by simp [basis]
theorem prodX_snoc (x a : Int) : ∀ l : List Int, prodX x (l ++ [a]) = prodX x l * (x - a)
  | [] => by simp [prodX]
  | b :: r => by rw [List.cons_append, prodX, prodX_snoc x a r, prodX, Int.mul_assoc]
theorem mulXc_bound {a : Int} {B : Nat} (ha : a.natAbs < 2 ^ 60) : ∀ (c : Int) (p : List Int), c.natAbs ≤ B → (∀ q ∈ p, q.natAbs ≤ B) → ∀ q ∈ mulXc a c p, q.natAbs ≤ 2 ^ 61 * B
  | c, [], hc, _, q, hq => by
    have : q = c := by simpa [mulXc] using hq
    rw [this]
    have : B ≤ 2 ^ 61 * B := Nat.le_mul_of_pos_left _ (by decide)
    omega
  | c, d :: r, hc, h, q, hq => by
    rw [mulXc] at hq
    have hd := h d List.mem_cons_self
    rcases List.mem_cons.mp hq with rfl | hq
    · have h1 : (a * d).natAbs ≤ 2 ^ 60 * B := by rw [Int.natAbs_mul]; exact Nat.mul_le_mul (Nat.le_of_lt ha) hd
      have h2 : B ≤ 2 ^ 60 * B := Nat.le_mul_of_pos_left _ (by decide)
      have h3 : 2 ^ 61 * B = 2 ^ 60 * B + 2 ^ 60 * B := by rw [show (2 : Nat) ^ 61 = 2 ^ 60 + 2 ^ 60 by decide, Nat.add_mul]
      omega
    · exact mulXc_bound ha d r hd (fun q hq => h q (List.mem_cons_of_mem _ hq)) q hq
theorem basis_bound : ∀ (l : List Int), (∀ a ∈ l, a.natAbs < 2 ^ 60) → ∀ q ∈ basis l, q.natAbs ≤ 2 ^ (61 * l.length) := by
  intro l
  have key : ∀ (l : List Int) (p : List Int) (k : Nat), (∀ a ∈ l, a.natAbs < 2 ^ 60) → (∀ q ∈ p, q.natAbs ≤ 2 ^ (61 * k)) → ∀ q ∈ l.foldl (fun p a => mulXc a 0 p) p, q.natAbs ≤ 2 ^ (61 * (k + l.length)) := by
    intro l
    induction l with
    | nil => intro p k _ h q hq; exact h q hq
    | cons a r ih =>
      intro p k hl hp q hq
      rw [List.foldl_cons] at hq
      have := ih (mulXc a 0 p) (k + 1) (fun b hb => hl b (List.mem_cons_of_mem _ hb)) (fun q hq => by
        have := mulXc_bound (B := 2 ^ (61 * k)) (hl a List.mem_cons_self) 0 p (by simp) hp q hq
        rwa [← Nat.pow_add, show 61 + 61 * k = 61 * (k + 1) by omega] at this) q hq
      rwa [show k + 1 + r.length = k + (a :: r).length by simp; omega] at this
  intro h q hq
  have := key l [1] 0 h (by simp) q hq
  rwa [Nat.zero_add] at this
abbrev X1 (ps : Pts) : List Int := ps.map (·.1)
abbrev Y1 (ps : Pts) : List Int := ps.map (·.2)
theorem at0_map {α : Type} (f : α → Int) {ps : List α} {k : Nat} (h : k < ps.length) : at0 (ps.map f) k = f ps[k] := by
  unfold at0
  rw [List.getElem?_map, List.getElem?_eq_getElem h]; rfl
theorem pts_at {ps : Pts} {k : Nat} (h : k < ps.length) : atI (ps.map ptD) (k : Int) = some (.tuple [.int (at0 (X1 ps) k), .int (at0 (Y1 ps) k)]) := by
  rw [atI_of, List.getElem?_map, List.getElem?_eq_getElem h, at0_map _ h, at0_map _ h]; rfl
theorem X1_mem {ps : Pts} {k : Nat} (h : k < ps.length) : ∃ p ∈ ps, p.1 = at0 (X1 ps) k ∧ p.2 = at0 (Y1 ps) k := ⟨ps[k], List.getElem_mem h, by rw [at0_map _ h], by rw [at0_map _ h]⟩
structure PS (ps : Pts) : Prop where
  x : ∀ p ∈ ps, p.1.natAbs < 2 ^ 60
  y : ∀ p ∈ ps, p.2.natAbs < 2 ^ 500
theorem PS.pb {ps : Pts} (h : PS ps) : PB ps := ⟨fun p hp => Nat.lt_of_lt_of_le (h.x p hp) (Nat.pow_le_pow_right (by decide) (by decide)), fun p hp => Nat.lt_of_lt_of_le (h.y p hp) (Nat.pow_le_pow_right (by decide) (by decide))⟩
theorem polyV_ltM {x : Int} {M : Nat} (hx : x.natAbs < 2 ^ 100) : ∀ {cs : List Int}, (∀ c ∈ cs, c.natAbs < 2 ^ M) → (polyV cs x).natAbs < 2 ^ (M + 101 * cs.length + 1)
  | [], _ => by simp only [polyV, Int.natAbs_zero]; exact Nat.two_pow_pos _
  | c :: r, h => by
    have ih := polyV_ltM hx (cs := r) fun d hd => h d (List.mem_cons_of_mem _ hd)
    have hc := h c List.mem_cons_self
    have e1 : (polyV (c :: r) x).natAbs ≤ (polyV r x).natAbs * x.natAbs + c.natAbs := by
      rw [← Int.natAbs_mul]; simp only [polyV]; omega
    have e2 := Nat.mul_le_mul (Nat.le_of_lt ih) (Nat.le_of_lt hx)
    have e3 : 2 ^ (M + 101 * (c :: r).length + 1) = 2 ^ (M + 101 * r.length + 1) * 2 ^ 100 * 2 := by
      rw [← Nat.pow_add, ← Nat.pow_succ, List.length_cons]; congr 1 <;> try omega
    have e4 : (2 : Nat) ^ M ≤ 2 ^ (M + 101 * r.length + 1) * 2 ^ 100 := by
      rw [← Nat.pow_add]; exact Nat.pow_le_pow_right (by decide) (by omega)
    omega
theorem prodX_boundM {x : Int} {m : Nat} : ∀ (l : List Int), (∀ a ∈ l, (x - a).natAbs ≤ 2 ^ m) → (prodX x l).natAbs ≤ 2 ^ (m * l.length)
  | [], _ => by simp [prodX]
  | a :: r, h => by
    rw [prodX, Int.natAbs_mul, List.length_cons, show m * (r.length + 1) = m + m * r.length by rw [Nat.mul_add]; omega, Nat.pow_add]
    exact Nat.mul_le_mul (h a List.mem_cons_self) (prodX_boundM r fun b hb => h b (List.mem_cons_of_mem _ hb))
/-- what holds of the factors and the spread behind the first points -/
structure NI (pre : Pts) (cs sp : List Int) : Prop where
  l : cs.length = pre.length
  s : sp = basis (pre.map (·.1))
  v : ∀ p ∈ pre, polyV cs p.1 = p.2
  b : ∀ c ∈ cs, c.natAbs < 2 ^ (1000 + 3000 * pre.length)
theorem NI.spl {pre : Pts} {cs sp : List Int} (h : NI pre cs sp) : sp.length = pre.length + 1 := by rw [h.s, basis_len, List.length_map]
theorem NI.spv {pre : Pts} {cs sp : List Int} (h : NI pre cs sp) (x : Int) : polyV sp x = prodX x (pre.map (·.1)) := by rw [h.s, basis_val]
theorem NI.whole {pre : Pts} {cs sp : List Int} (h : NI pre cs sp) : Whole pre := ⟨cs, by rw [h.l]; exact Nat.le_refl _, h.v⟩
theorem NI.nil : NI [] [] [1] := ⟨rfl, rfl, by simp, by simp⟩
theorem lin0_val (x t : Int) (cs sp : List Int) (h : sp.length = cs.length + 1) : polyV (linP 1 t (cs ++ [0]) sp) x = polyV cs x + t * polyV sp x := by
  rw [linP_val _ _ _ _ _ (by simp [h]), polyV_snoc]; simp
theorem NI.iff {pre : Pts} {cs sp : List Int} (h : NI pre cs sp) {p : Int × Int} (hn : ((pre ++ [p]).map (·.1)).Nodup) : Whole (pre ++ [p]) ↔ prodX p.1 (pre.map (·.1)) ∣ p.2 - polyV cs p.1 := by
  have hn' : (pre.map (·.1)).Nodup ∧ p.1 ∉ pre.map (·.1) := by
    rw [List.map_append, List.nodup_append] at hn
    refine ⟨hn.1, fun h => ?_⟩
    exact hn.2.2 p.1 h p.1 (by simp) rfl
  constructor
  · rintro ⟨P, hP1, hP2⟩
    have hl : (padP (pre.length + 1) P).length = (padP (pre.length + 1) cs).length := by
      rw [padP_len (by simpa using hP1), padP_len (by rw [h.l]; omega)]
    have hv : ∀ z, polyV (linP 1 (-1) (padP (pre.length + 1) P) (padP (pre.length + 1) cs)) z = polyV P z - polyV cs z := fun z => by
      rw [linP_val _ _ _ _ _ hl, padP_val, padP_val]; omega
    have := prodX_dvd p.1 (pre.map (·.1)) (linP 1 (-1) (padP (pre.length + 1) P) (padP (pre.length + 1) cs)) hn'.1 fun z hz => by
      obtain ⟨q, hq, rfl⟩ := List.mem_map.mp hz
      rw [hv, hP2 q (List.mem_append_left _ hq), h.v q hq]; omega
    rw [hv, hP2 p (by simp)] at this
    exact this
  · rintro ⟨t, ht⟩
    refine ⟨linP 1 t (cs ++ [0]) sp, by rw [linP_len _ _ _ _ (by rw [h.spl]; simp [h.l])]; simp [h.l], fun q hq => ?_⟩
    rw [lin0_val _ _ _ _ (by rw [h.spl, h.l]), h.spv]
    rcases List.mem_append.mp hq with hq | hq
    · rw [prodX_zero (List.mem_map.mpr ⟨q, hq, rfl⟩), h.v q hq]; simp
    · have e : q = p := by simpa using hq
      rw [e, Int.mul_comm]
      omega
theorem NI.step {pre : Pts} {cs sp : List Int} (h : NI pre cs sp) {p : Int × Int} (hn : ((pre ++ [p]).map (·.1)).Nodup) (hB : PS (pre ++ [p])) (hl : pre.length ≤ 12) (hz : (p.2 - polyV cs p.1).fmod (polyV sp p.1) = 0) :
    ((p.2 - polyV cs p.1).fdiv (polyV sp p.1)).natAbs < 2 ^ 70000 ∧ NI (pre ++ [p]) (linP 1 ((p.2 - polyV cs p.1).fdiv (polyV sp p.1)) (cs ++ [0]) sp) (mulXc p.1 0 sp) := by
  have hn' : p.1 ∉ pre.map (·.1) := by
    rw [List.map_append, List.nodup_append] at hn
    intro h
    exact hn.2.2 p.1 h p.1 (by simp) rfl
  have hne : polyV sp p.1 ≠ 0 := by rw [h.spv]; exact prodX_ne hn'
  obtain ⟨t, ht⟩ := (fmod_zero_iff _ _).mp hz
  have hfd : (p.2 - polyV cs p.1).fdiv (polyV sp p.1) = t := by
    have h1 := Int.mul_fdiv_add_fmod (p.2 - polyV cs p.1) (polyV sp p.1)
    rw [hz, Int.add_zero] at h1
    exact Int.eq_of_mul_eq_mul_left hne (h1.trans ht)
  rw [hfd]
  have hx := hB.x p (by simp)
  have hy := hB.y p (by simp)
  have hpv := polyV_ltM (x := p.1) (M := 1000 + 3000 * pre.length) (Nat.lt_of_lt_of_le hx (Nat.pow_le_pow_right (by decide) (by decide))) h.b
  have htb : t.natAbs < 2 ^ (1000 + 3000 * pre.length + 101 * cs.length + 2) := by
    have h5 : t.natAbs ≤ (p.2 - polyV cs p.1).natAbs := by
      rw [ht, Int.natAbs_mul]
      exact Nat.le_mul_of_pos_left _ (by omega)
    have h6 : (2 : Nat) ^ 500 ≤ 2 ^ (1000 + 3000 * pre.length + 101 * cs.length + 1) := Nat.pow_le_pow_right (by decide) (by omega)
    have h7 : (2 : Nat) ^ (1000 + 3000 * pre.length + 101 * cs.length + 2) = 2 ^ (1000 + 3000 * pre.length + 101 * cs.length + 1) * 2 := Nat.pow_succ ..
    omega
  have hcl := h.l
  refine ⟨Nat.lt_of_lt_of_le htb (Nat.pow_le_pow_right (by decide) (by omega)), ⟨by rw [linP_len _ _ _ _ (by rw [h.spl]; simp [h.l])]; simp [h.l], ?_, fun q hq => ?_, fun c hc => ?_⟩⟩
  · rw [List.map_append, h.s]
    exact (basis_snoc _ _).symm
  · rw [lin0_val _ _ _ _ (by rw [h.spl, h.l]), h.spv]
    rcases List.mem_append.mp hq with hq | hq
    · rw [prodX_zero (List.mem_map.mpr ⟨q, hq, rfl⟩), h.v q hq]; simp
    · have e : q = p := by simpa using hq
      rw [e, ← h.spv, Int.mul_comm]
      omega
  · have key : ∀ (u v : List Int), (∀ c ∈ u, c.natAbs < 2 ^ (1000 + 3000 * pre.length)) → (∀ c ∈ v, c.natAbs ≤ 2 ^ 800) → ∀ c ∈ linP 1 t u v, c.natAbs < 2 ^ (1000 + 3000 * (pre ++ [p]).length) := by
      intro u
      induction u with
      | nil => intro v _ _ c hc; simp [linP] at hc
      | cons a u ih =>
        intro v hu hv c hc
        cases v with
        | nil => simp [linP] at hc
        | cons b v =>
          rw [linP] at hc
          rcases List.mem_cons.mp hc with rfl | hc
          · have k1 := hu a List.mem_cons_self
            have k2 := hv b List.mem_cons_self
            have k3 : (t * b).natAbs ≤ 2 ^ (1000 + 3000 * pre.length + 101 * cs.length + 2) * 2 ^ 800 := by
              rw [Int.natAbs_mul]; exact Nat.mul_le_mul (Nat.le_of_lt htb) k2
            rw [← Nat.pow_add] at k3
            have k4 : (2 : Nat) ^ (1000 + 3000 * pre.length) ≤ 2 ^ (1000 + 3000 * pre.length + 101 * cs.length + 2 + 800) := Nat.pow_le_pow_right (by decide) (by omega)
            have k5 : (2 : Nat) ^ (1000 + 3000 * pre.length + 101 * cs.length + 2 + 800) * 2 ≤ 2 ^ (1000 + 3000 * (pre ++ [p]).length) := by
              rw [← Nat.pow_succ]; exact Nat.pow_le_pow_right (by decide) (by simp; omega)
            generalize (2 : Nat) ^ (1000 + 3000 * pre.length + 101 * cs.length + 2 + 800) = Z at k3 k4 k5
            generalize (2 : Nat) ^ (1000 + 3000 * (pre ++ [p]).length) = Y at k5 ⊢
            generalize (2 : Nat) ^ (1000 + 3000 * pre.length) = W at k1 k4
            generalize t * b = tb at k3 ⊢
            clear htb
            omega
          · exact ih v (fun c h => hu c (List.mem_cons_of_mem _ h)) (fun c h => hv c (List.mem_cons_of_mem _ h)) c hc
    refine key (cs ++ [0]) sp (fun c hc => ?_) (fun c hc => ?_) c hc
    · rcases List.mem_append.mp hc with h1 | h1
      · exact h.b c h1
      · have : c = 0 := by simpa using h1
        rw [this]; exact Nat.two_pow_pos _
    · rw [h.s] at hc
      refine Nat.le_trans (basis_bound _ (fun a ha => ?_) c hc) (Nat.pow_le_pow_right (by decide) (by rw [List.length_map]; omega))
      obtain ⟨q, hq, rfl⟩ := List.mem_map.mp ha
      exact hB.x q (by simp [hq])
def wtF : List Int → List Int → Nat → Pts → List Int × Nat
  | cs, _, k, [] => (cs, k)
  | cs, sp, k, p :: r => if (p.2 - polyV cs p.1).fmod (polyV sp p.1) = 0 then wtF (linP 1 ((p.2 - polyV cs p.1).fdiv (polyV sp p.1)) (cs ++ [0]) sp) (mulXc p.1 0 sp) (k + 1) r else (cs, k)
theorem PS.sub {ps qs : Pts} (h : PS ps) (hs : ∀ p ∈ qs, p ∈ ps) : PS qs := ⟨fun p hp => h.x p (hs p hp), fun p hp => h.y p (hs p hp)⟩
theorem wtF_spec : ∀ (suf pre : Pts) (cs sp : List Int), NI pre cs sp → PS (pre ++ suf) → ((pre ++ suf).map (·.1)).Nodup → (pre ++ suf).length ≤ 13 →
    ((wtF cs sp pre.length suf).2 = (pre ++ suf).length ∧ ∃ sp', NI (pre ++ suf) (wtF cs sp pre.length suf).1 sp') ∨
    (pre.length ≤ (wtF cs sp pre.length suf).2 ∧ (wtF cs sp pre.length suf).2 < (pre ++ suf).length ∧ Whole ((pre ++ suf).take (wtF cs sp pre.length suf).2) ∧ ¬Whole ((pre ++ suf).take ((wtF cs sp pre.length suf).2 + 1)))
  | [], pre, cs, sp, h, _, _, _ => .inl ⟨by simp [wtF], sp, by rw [List.append_nil]; exact h⟩
  | p :: r, pre, cs, sp, h, hB, hn, hl => by
    have ea : pre ++ p :: r = (pre ++ [p]) ++ r := by simp
    have hB1 : PS (pre ++ [p]) := hB.sub fun q hq => by rw [ea]; exact List.mem_append_left _ hq
    have hn1 : ((pre ++ [p]).map (·.1)).Nodup := by
      rw [ea, List.map_append, List.nodup_append] at hn
      exact hn.1
    have hpl : pre.length ≤ 12 := by simp at hl; omega
    rw [wtF]
    by_cases hz : (p.2 - polyV cs p.1).fmod (polyV sp p.1) = 0
    · rw [if_pos hz]
      have hs := (h.step hn1 hB1 hpl hz).2
      have := wtF_spec r (pre ++ [p]) _ _ hs (by rwa [← ea]) (by rwa [← ea]) (by rwa [← ea])
      rw [List.length_append, List.length_singleton, ← ea] at this
      rcases this with h1 | ⟨h1, h2⟩
      · exact .inl h1
      · exact .inr ⟨by omega, h2⟩
    · rw [if_neg hz]
      refine .inr ⟨Nat.le_refl _, by simp, ?_, ?_⟩
      · rw [List.take_left']
        · exact h.whole
        · rfl
      · have : (pre ++ p :: r).take (pre.length + 1) = pre ++ [p] := by
          rw [ea, List.take_left']
          simp
        show ¬Whole ((pre ++ p :: r).take (pre.length + 1))
        rw [this, h.iff hn1]
        intro hd
        exact hz ((fmod_zero_iff _ _).mpr (by rw [h.spv]; exact hd))
def trimN : Nat → List Int → List Int
  | 0, l => l
  | n + 1, l => if 1 < l.length ∧ l.getLast? = some 0 then trimN n l.dropLast else l
def trimL (l : List Int) : List Int := trimN l.length l
theorem trimN_spec : ∀ (n : Nat) (l : List Int), 1 ≤ l.length → ∃ z, l = trimN n l ++ List.replicate z 0 ∧ 1 ≤ (trimN n l).length
  | 0, l, h => ⟨0, by simp [trimN], by simpa [trimN] using h⟩
  | n + 1, l, h => by
    rw [trimN]
    by_cases hc : 1 < l.length ∧ l.getLast? = some 0
    · rw [if_pos hc]
      have e : l = l.dropLast ++ [0] := by
        obtain ⟨h1, h2⟩ := hc
        rcases List.eq_nil_or_concat l with rfl | ⟨i, c, rfl⟩
        · simp at h1
        · rw [List.concat_eq_append] at h2 ⊢
          simp at h2
          simp [h2]
      obtain ⟨z, h1, h2⟩ := trimN_spec n l.dropLast (by rw [List.length_dropLast]; omega)
      refine ⟨z + 1, ?_, h2⟩
      rw [List.replicate_succ', ← List.append_assoc, ← h1]
      exact e
    · rw [if_neg hc]
      exact ⟨0, by simp, h⟩
def certP (ps : Pts) : D := if (wtF [] [1] 0 ps).2 = ps.length then .tuple [.tuple [.str "whole", ptsD ps], .tuple ((trimL (wtF [] [1] 0 ps).1).map .int)] else .tuple [.tuple [.str "never whole", ptsD ps], .int (wtF [] [1] 0 ps).2]
structure GP (ps : Pts) : Prop where
  h1 : 1 ≤ ps.length
  hl : ps.length ≤ 13
  a : ascB ps = true
  b : PS ps
/-- what the certificate is -/
inductive CP (ps : Pts) : D → Prop
  | whole (cs : List Int) (h : Whole ps) (hl : 1 ≤ cs.length ∧ cs.length ≤ ps.length) (hv : ∀ p ∈ ps, polyV cs p.1 = p.2) (hb : ∀ c ∈ cs, c.natAbs < 2 ^ 50000) : CP ps (.tuple [.tuple [.str "whole", ptsD ps], .tuple (cs.map .int)])
  | never (k : Nat) (h0 : 1 ≤ k) (hk : k < ps.length) (hw : Whole (ps.take k)) (hn : ¬Whole (ps.take (k + 1))) : CP ps (.tuple [.tuple [.str "never whole", ptsD ps], .int k])
theorem certP_is {ps : Pts} (g : GP ps) : CP ps (certP ps) := by
  have h := wtF_spec ps [] [] [1] NI.nil (by simpa using g.b) (by simpa using ascB_nodup g.a) (by simpa using g.hl)
  simp only [List.nil_append, List.length_nil] at h
  unfold certP
  rcases h with ⟨h1, sp', h2⟩ | ⟨h0, h1, h2, h3⟩
  · rw [if_pos h1]
    have hlen : 1 ≤ (wtF [] [1] 0 ps).1.length := by rw [h2.l]; exact g.h1
    obtain ⟨z, e1, e2⟩ := trimN_spec (wtF [] [1] 0 ps).1.length _ hlen
    have e3 : (wtF [] [1] 0 ps).1 = trimL (wtF [] [1] 0 ps).1 ++ List.replicate z 0 := e1
    refine .whole _ h2.whole ⟨e2, ?_⟩ (fun p hp => ?_) (fun c hc => ?_)
    · have := congrArg List.length e3
      rw [List.length_append, h2.l] at this
      omega
    · have := h2.v p hp
      rw [e3, polyV_pad] at this
      exact this
    · have := h2.b c (by rw [e3]; exact List.mem_append_left _ hc)
      exact Nat.lt_of_lt_of_le this (Nat.pow_le_pow_right (by decide) (by have := g.hl; omega))
  · rw [if_neg (by omega)]
    refine .never _ ?_ h1 h2 h3
    rcases Nat.eq_zero_or_pos (wtF [] [1] 0 ps).2 with e | e
    · rw [e] at h3
      refine absurd ?_ h3
      cases ps with
      | nil => have := g.h1; simp at this
      | cons p r =>
        refine ⟨[p.2], by simp, fun q hq => ?_⟩
        have : q = p := by simpa using hq
        rw [this]; simp [polyV]
    · exact e

/-! ### law k75: the program's polynomials -/
def sp_areints : Spec := fun vs s Q _ => ∃ v n, vs = [.d v, .d (.int n)] ∧ n ≤ 1000 ∧ Q (.d (.bool (isWhole v n))) s
theorem sem_areints : Sem (m_are_integers sp_isint) 3 sp_areints := by
  rintro vs s Q Ex ⟨v, n, rfl, hn, q⟩
  unfold m_are_integers
  walk_at "dl"
  cases v with
  | tuple xs =>
    simp only [isiD, if_true]
    walk_at "dl"
    by_cases h : (xs.length : Int) = n
    · simp only [h, if_true]
      refine compD_map (fun x => .bool (isInt x)) trivial (fun x hx C hC => ⟨_, rfl, hC⟩) (sz _ (by omega)) ?_
      simp only [boolsOf_map]
      walk_at "dl"
      have e : (xs.map isInt).all id = isWhole (.tuple xs) n := by simp [isWhole, h, List.all_map]
      rwa [e]
    · simp only [h, if_false]
      have e : isWhole (.tuple xs) n = false := by simp [isWhole, h]
      rwa [e] at q
  | _ => simpa [isiD, isWhole] using q
theorem lay_pt {n : Nat} (p : Int × Int) : Lay (n + 1) (ptD p) := lay_two (lay_i _) (lay_i _)
theorem lay_pts (ps : Pts) : Lay 2 (ptsD ps) := lay_t fun x hx => by
  obtain ⟨p, _, rfl⟩ := List.mem_map.mp hx
  exact lay_pt p
def sp_chkP : Spec := fun vs s Q _ => ∃ ps : Pts, vs = [.d (ptsD ps)] ∧ 1 ≤ ps.length ∧ ps.length ≤ 13 ∧ ascB ps = true ∧ Q (.d .none) s
theorem ascB_at : ∀ {ps : Pts} {i : Nat}, ascB ps = true → i + 1 < ps.length → at0 (X1 ps) i < at0 (X1 ps) (i + 1)
  | [], _, _, h => by simp at h
  | [_], _, _, h => by simp at h
  | a :: b :: r, 0, h, _ => by
    rw [ascB, Bool.and_eq_true, decide_eq_true_eq] at h
    simpa [at0, X1] using h.1
  | a :: b :: r, i + 1, h, hl => by
    have := ascB_at (ps := b :: r) (i := i) (ascB_tail h) (by simpa using hl)
    simpa [at0, X1] using this
theorem sem_chkP : Sem (m_check_points sp_areints) 3 sp_chkP := by
  rintro vs s Q Ex ⟨ps, rfl, h1, hl, ha, q⟩
  unfold m_check_points ptsD
  walk_at "dl"
  simp only [isiD, Bool.not_true, Bool.false_eq_true, if_false]
  have lp := lay_pts ps
  unfold ptsD at lp
  refine ⟨sz _ (by decide), cmpD_eqD (lp.up (by decide)).sh shaped_emp ?_⟩
  rw [eqv_emp2]
  have he : (ps.map ptD).isEmpty = false := by
    cases ps with
    | nil => simp at h1
    | cons a r => rfl
  rw [he]
  simp only [Bool.false_eq_true, if_false]
  refine ⟨by rw [List.length_map]; omega, ?_⟩
  refine loopD_by (fun rest ρ u => ∃ (pa pb : Pts) (a1 a2 : Option Vl), ps = pa ++ pb ∧ rest = enumD pa.length (pb.map ptD) ∧ u = s ∧ ρ = [some (.d (.tuple (ps.map ptD))), a1, a2]) ?_ ?_ _ _ _ ⟨[], ps, none, none, rfl, rfl, rfl, rfl⟩
  · rintro d r ρ u K ⟨pa, pb, a1, a2, e1, e2, rfl, rfl⟩ hK
    cases pb with
    | nil => cases e2
    | cons p pb =>
      injection e2 with e2 e3
      subst e2
      refine ⟨trivial, ?_⟩
      have hlen : ps.length = pa.length + (pb.length + 1) := by rw [e1]; simp
      have hpa : pa.length < ps.length := by omega
      have hat : at0 (X1 ps) pa.length = p.1 := by rw [at0_map _ hpa]; simp [e1]
      walk_at "dl"
      have hn : ¬ ((12 : Int) < (pa.length : Int)) := by omega
      simp only [hn, decide_false, Bool.false_eq_true, if_false]
      refine ⟨_, _, rfl, by decide, _, rfl, ?_⟩
      have ew : isWhole (ptD p) 2 = true := by simp [ptD, isWhole, isInt]
      rw [ew]
      simp only [Bool.not_true, Bool.false_eq_true, if_false]
      have next : ∀ a1 a2 : Option Vl, K [some (.d (.tuple (ps.map ptD))), a1, a2] u := fun a1 a2 => hK _ _ ⟨pa ++ [p], pb, _, _, by simp [e1], by rw [e3]; simp, rfl, rfl⟩
      by_cases h0 : (0 : Int) < (pa.length : Int)
      · simp only [h0, decide_true, if_true]
        have hi : (pa.length : Int) - 1 = ((pa.length - 1 : Nat) : Int) := by omega
        rw [hi]
        refine ⟨_, pts_at (show pa.length - 1 < ps.length by omega), ?_⟩
        unfold ptD
        walk_at "dl"
        have hlt := ascB_at (ps := ps) (i := pa.length - 1) ha (by omega)
        rw [show pa.length - 1 + 1 = pa.length by omega, hat] at hlt
        have hn2 : ¬ (p.1 ≤ at0 (X1 ps) (pa.length - 1)) := by omega
        simp only [hn2, decide_false, Bool.false_eq_true, if_false]
        exact next _ _
      · simp only [h0, decide_false, Bool.false_eq_true, if_false]
        exact next _ _
  · rintro ρ u ⟨pa, pb, a1, a2, e1, e2, rfl, rfl⟩
    refine ⟨trivial, ?_⟩
    walk_at "dl"
    exact q
def sp_wv : Spec := fun vs s Q _ => ∃ (cs : List Int) (x : Int), vs = [.d (.list (cs.map .int)), .d (.int x)] ∧ cs.length ≤ 50 ∧ (∀ c ∈ cs, c.natAbs < 2 ^ 70000) ∧ x.natAbs < 2 ^ 100 ∧ Q (.d (.int (polyV cs x))) s
theorem sem_wv : Sem m_whole_value 4 sp_wv := by
  rintro vs s Q Ex ⟨cs, x, rfl, hl, hc, hx, q⟩
  unfold m_whole_value
  walk_at "dl"
  refine loopD_by (fun rest ρ t => ∃ (ca cb : List Int) (a3 : Option Vl), cs = ca ++ cb ∧ rest = (ca.map PyData.int).reverse ∧ t = s ∧ ρ = [some (.d (.list (cs.map .int))), some (.d (.int x)), some (.d (.int (polyV cb x))), a3]) ?_ ?_ _ _ _ ⟨cs, [], none, by simp, rfl, rfl, rfl⟩
  · rintro d r ρ t K ⟨ca, cb, a3, e1, e2, rfl, rfl⟩ hK
    rcases List.eq_nil_or_concat ca with rfl | ⟨ci, c, rfl⟩
    · cases e2
    · rw [List.concat_eq_append] at e1 e2
      rw [List.map_append, List.reverse_append] at e2
      injection e2 with e2 e3
      subst e2
      refine ⟨trivial, ?_⟩
      walk_at "dl"
      have hcb : ∀ c ∈ cb, c.natAbs < 2 ^ 70000 := fun c h => hc c (by rw [e1]; simp [h])
      have lb : cb.length ≤ 50 := by
        have : cs.length = ci.length + 1 + cb.length := by rw [e1]; simp; omega
        omega
      exact ⟨wid_mulE (polyV_ltM hx hcb) hx (by omega), hK _ _ ⟨ci, c :: cb, _, by simp [e1], e3, rfl, rfl⟩⟩
  · rintro ρ t ⟨ca, cb, a3, e1, e2, rfl, rfl⟩
    have : ca = [] := by
      cases ca with
      | nil => rfl
      | cons a r => simp at e2
    subst this
    rw [List.nil_append] at e1
    subst e1
    refine ⟨trivial, ?_⟩
    walk_at "dl"
    exact q
theorem frzs_dm : ∀ (ds : List D) (s : S) (K : List D → S → Prop), frzs (ds.map Vl.d) s K = K ds s
  | [], _, _ => rfl
  | d :: r, s, K => by
    show frzs (r.map Vl.d) s (fun ds s => K (d :: ds) s) = _
    rw [frzs_dm r]
theorem mem_zipI {d : D} : ∀ {u v : List Int}, d ∈ zipD (u.map .int) (v.map .int) → ∃ a b : Int, d = .tuple [.int a, .int b] ∧ a ∈ u ∧ b ∈ v
  | [], _, h => by simp [zipD] at h
  | _ :: _, [], h => by simp [zipD] at h
  | a :: u, b :: v, h => by
    rw [List.map_cons, List.map_cons, zipD] at h
    rcases List.mem_cons.mp h with rfl | h
    · exact ⟨a, b, rfl, by simp, by simp⟩
    · obtain ⟨a', b', e, h1, h2⟩ := mem_zipI h
      exact ⟨a', b', e, by simp [h1], by simp [h2]⟩
def grD (t : Int) : D → D
  | .tuple [.int a, .int b] => .int (a + t * b)
  | _ => .none
theorem zip_gr (t : Int) : ∀ u v : List Int, (zipD (u.map .int) (v.map .int)).map (grD t) = (linP 1 t u v).map .int
  | [], _ => by simp [zipD, linP]
  | _ :: _, [] => by simp [zipD, linP]
  | a :: u, b :: v => by
    rw [List.map_cons, List.map_cons, zipD, List.map_cons, zip_gr t u v, linP, List.map_cons, Int.one_mul]
    rfl
def stD (t : Int) : D → D
  | .tuple [.int a, .int b] => .int (a - t * b)
  | _ => .none
theorem zip_st (t : Int) : ∀ (c : Int) (p : List Int), (zipD ((c :: p).map .int) ((p ++ [0]).map .int)).map (stD t) = (mulXc t c p).map .int
  | c, [] => by simp [zipD, mulXc, stD]
  | c, q :: r => by
    have ih := zip_st t q r
    show (stD t (.tuple [.int c, .int q])) :: (zipD ((q :: r).map PyData.int) ((r ++ [0]).map .int)).map (stD t) = _
    rw [ih]
    rfl
def sp_grown : Spec := fun vs s Q _ => ∃ (p q : List Int) (t : Int), vs = [.d (.list (p.map .int)), .d (.list (q.map .int)), .d (.int t)] ∧ p.length ≤ 50 ∧ (∀ c ∈ q, c.natAbs < 2 ^ 5000) ∧ t.natAbs < 2 ^ 70000 ∧ Q (.d (.list ((linP 1 t (p ++ [0]) q).map .int))) s
theorem sem_grown : Sem m_grown 5 sp_grown := by
  rintro vs s Q Ex ⟨p, r, t, rfl, hl, hr, ht, q⟩
  unfold m_grown
  have hz : (1000000 : Nat) ≤ sizeLine := by decide
  walk_at "dl"
  have e0 : ((p.map PyData.int).map Vl.d ++ [Vl.d (PyData.int 0)]) = (((p ++ [0]).map PyData.int).map Vl.d) := by simp
  rw [e0, frzs_dm]
  walk_at "dl"
  refine ⟨by simp; omega, by intros; trivial, ?_⟩
  have hzl : (zipD ((p ++ [0]).map PyData.int) (r.map .int)).length ≤ 51 := by rw [zipD_len]; simp; omega
  refine compD_map (grD t) trivial (fun d hd C hC => ?_) (by omega) ?_
  · obtain ⟨a, b, rfl, ha, hb⟩ := mem_zipI hd
    walk_at "dl"
    exact ⟨wid_mulE ht (hr b hb) (by decide), hC⟩
  · rw [zip_gr]
    simpa [cutS_self, retD_d] using q
def sp_stretched : Spec := fun vs s Q _ => ∃ (p : List Int) (t : Int), vs = [.d (.list (p.map .int)), .d (.int t)] ∧ p.length ≤ 50 ∧ (∀ c ∈ p, c.natAbs < 2 ^ 5000) ∧ t.natAbs < 2 ^ 100 ∧ Q (.d (.list ((mulXc t 0 p).map .int))) s
theorem sem_stretched : Sem m_stretched 4 sp_stretched := by
  rintro vs s Q Ex ⟨p, t, rfl, hl, hr, ht, q⟩
  unfold m_stretched
  have hz : (1000000 : Nat) ≤ sizeLine := by decide
  walk_at "dl"
  have e0 : ((p.map PyData.int).map Vl.d ++ [Vl.d (PyData.int 0)]) = (((p ++ [0]).map PyData.int).map Vl.d) := by simp
  have e1 : (Vl.d (PyData.int 0) :: ((p.map PyData.int).map Vl.d ++ [])) = (((0 :: p).map PyData.int).map Vl.d) := by simp
  simp only [e0, e1, frzs_dm]
  simp only [List.append_nil, frzs_dm]
  rw [show (PyData.int 0 :: p.map PyData.int) = (0 :: p).map PyData.int from rfl]
  refine ⟨by simp; omega, by simp; omega, by intros; trivial, ?_⟩
  have hzl : (zipD ((0 :: p).map PyData.int) ((p ++ [0]).map .int)).length ≤ 51 := by rw [zipD_len]; simp; omega
  refine compD_map (stD t) trivial (fun d hd C hC => ?_) (by omega) ?_
  · obtain ⟨a, b, rfl, ha, hb⟩ := mem_zipI hd
    have hb2 : b.natAbs < 2 ^ 5000 := by
      rcases List.mem_append.mp hb with h | h
      · exact hr b h
      · have : b = 0 := by simpa using h
        rw [this]; exact Nat.two_pow_pos _
    walk_at "dl"
    exact ⟨wid_mulE ht hb2 (by decide), hC⟩
  · rw [zip_st]
    simpa [cutS_self, retD_d] using q
def sp_wt : Spec := fun vs s Q _ => ∃ ps : Pts, vs = [.d (ptsD ps)] ∧ ps.length ≤ 13 ∧ ascB ps = true ∧ PS ps ∧ Q (.d (.tuple [.list ((wtF [] [1] 0 ps).1.map .int), .int (wtF [] [1] 0 ps).2])) s
theorem sem_wt : Sem (m_whole_through sp_wv sp_grown sp_stretched) 8 sp_wt := by
  rintro vs s Q Ex ⟨ps, rfl, hl, ha, hB, q⟩
  unfold m_whole_through ptsD
  have hz : (1000000 : Nat) ≤ sizeLine := by decide
  walk_at "dl"
  refine ⟨sz _ (by decide), sz _ (by decide), by rw [List.length_map]; omega, ?_⟩
  have hnd := ascB_nodup ha
  refine loopD_by (fun rest ρ u => ∃ (pre suf : Pts) (cs sp : List Int) (a3 a4 a5 a6 a7 : Option Vl), ps = pre ++ suf ∧ rest = enumD pre.length (suf.map ptD) ∧ u = s ∧ NI pre cs sp ∧ wtF [] [1] 0 ps = wtF cs sp pre.length suf ∧
    ρ = [some (.d (.tuple (ps.map ptD))), some (.d (.list (cs.map .int))), some (.d (.list (sp.map .int))), a3, a4, a5, a6, a7]) ?_ ?_ _ _ _ ⟨[], ps, [], [1], none, none, none, none, none, rfl, rfl, rfl, NI.nil, rfl, rfl⟩
  · rintro d r ρ u K ⟨pre, suf, cs, sp, a3, a4, a5, a6, a7, e1, e2, rfl, hN, hw, rfl⟩ hK
    cases suf with
    | nil => cases e2
    | cons p suf =>
      injection e2 with e2 e3
      subst e2
      refine ⟨trivial, ?_⟩
      have hlen : ps.length = pre.length + (suf.length + 1) := by rw [e1]; simp
      have ea : ps = (pre ++ [p]) ++ suf := by simp [e1]
      have hB1 : PS (pre ++ [p]) := hB.sub fun q hq => by rw [ea]; exact List.mem_append_left _ hq
      have hn1 : ((pre ++ [p]).map (·.1)).Nodup := by
        rw [ea, List.map_append, List.nodup_append] at hnd
        exact hnd.1
      have hn' : p.1 ∉ pre.map (·.1) := by
        rw [List.map_append, List.nodup_append] at hn1
        intro h
        exact hn1.2.2 p.1 h p.1 (by simp) rfl
      have hx60 := hB1.x p (by simp)
      have hx : p.1.natAbs < 2 ^ 100 := Nat.lt_of_lt_of_le hx60 (Nat.pow_le_pow_right (by decide) (by decide))
      have hcl := hN.l
      have hspl := hN.spl
      have hcb : ∀ c ∈ cs, c.natAbs < 2 ^ 70000 := fun c hc => Nat.lt_of_lt_of_le (hN.b c hc) (Nat.pow_le_pow_right (by decide) (by omega))
      have hsb : ∀ c ∈ sp, c.natAbs < 2 ^ 5000 := fun c hc => by
        rw [hN.s] at hc
        refine Nat.lt_of_le_of_lt (basis_bound _ (fun a ha => ?_) c hc) (Nat.pow_lt_pow_right (by decide) (by rw [List.length_map]; omega))
        obtain ⟨q, hq, rfl⟩ := List.mem_map.mp ha
        exact hB1.x q (by simp [hq])
      have hsb2 : ∀ c ∈ sp, c.natAbs < 2 ^ 70000 := fun c hc => Nat.lt_of_lt_of_le (hsb c hc) (Nat.pow_le_pow_right (by decide) (by decide))
      have hne : polyV sp p.1 ≠ 0 := by rw [hN.spv]; exact prodX_ne hn'
      have hlog : (polyV sp p.1).natAbs.log2 < 9000 := by
        have h1 : (polyV sp p.1).natAbs < 2 ^ 8000 := by
          rw [hN.spv]
          refine Nat.lt_of_le_of_lt (prodX_boundM (m := 61) _ fun a ha => ?_) (Nat.pow_lt_pow_right (by decide) (by rw [List.length_map]; omega))
          obtain ⟨q, hq, rfl⟩ := List.mem_map.mp ha
          have := hB1.x q (by simp [hq])
          omega
        have := log2_le h1
        omega
      rw [show ptD p = PyData.tuple [.int p.1, .int p.2] from rfl]
      walk_at "dl"
      refine ⟨cs, p.1, rfl, by omega, hcb, hx, ?_⟩
      walk_at "dl"
      refine ⟨sp, p.1, rfl, by omega, hsb2, hx, ?_⟩
      walk_at "dl"
      refine ⟨hne, hlog, ?_⟩
      rw [wtF] at hw
      by_cases h0 : (p.2 - polyV cs p.1).fmod (polyV sp p.1) = 0
      · rw [if_pos h0] at hw
        simp only [h0, decide_true, Bool.not_true, Bool.false_eq_true, if_false]
        obtain ⟨ht, hN'⟩ := hN.step hn1 hB1 (by omega) h0
        refine ⟨cs, sp, _, rfl, by omega, hsb, ht, ?_⟩
        walk_at "dl"
        refine ⟨sp, p.1, rfl, by omega, hsb, hx, ?_⟩
        walk_at "dl"
        refine hK _ _ ⟨pre ++ [p], suf, _, _, _, _, _, _, _, ea, by rw [e3]; simp, rfl, hN', by rw [hw]; simp, rfl⟩
      · rw [if_neg h0] at hw
        simp only [h0, decide_false, Bool.not_false, if_true]
        walk_at "dl"
        refine ⟨sz _ (by decide), ?_⟩
        rw [hw] at q
        exact q
  · rintro ρ u ⟨pre, suf, cs, sp, a3, a4, a5, a6, a7, e1, e2, rfl, hN, hw, rfl⟩
    cases suf with
    | cons p suf => cases e2
    | nil =>
      refine ⟨trivial, ?_⟩
      walk_at "dl"
      refine ⟨sz _ (by decide), ?_⟩
      rw [hw, wtF] at q
      rw [List.append_nil] at e1
      rw [List.length_map, e1]
      exact q
def sp_trimmed : Spec := fun vs s Q _ => ∃ own : List Int, vs = [.d (.list (own.map .int))] ∧ 1 ≤ own.length ∧ own.length ≤ 50 ∧ Q (.d (.tuple ((trimL own).map .int))) s
theorem sem_trimmed : Sem m_trimmed 2 sp_trimmed := by
  rintro vs s Q Ex ⟨own, rfl, h1, h50, q⟩
  unfold m_trimmed
  have hz : (1000000 : Nat) ≤ sizeLine := by decide
  walk_at "dl"
  refine ⟨by rw [List.length_map]; omega, own.length + 1, ?_⟩
  refine whileD_by (fun n ρ t => ∃ tr : List Int, trimL own = trimN n tr ∧ 1 ≤ tr.length ∧ n = tr.length ∧ t = { s with ls := s.ls ++ [.op (tr.map .int)] } ∧ ρ = [some (.d (.list (own.map .int))), some (.loc s.ls.length)]) ?_ own.length _ _ ⟨own, rfl, h1, rfl, rfl, rfl⟩
  rintro n ρ t K ⟨tr, e, h1, rfl, rfl, rfl⟩ hK
  have el : ({ s with ls := s.ls ++ [.op (tr.map .int)] } : S).ls[s.ls.length]? = some (.op (tr.map .int)) := lastL _ _
  walk_at "dl"
  rw [asD_op el]
  walk_at "dl"
  rw [List.length_map]
  obtain ⟨m, hm⟩ : ∃ m, tr.length = m + 1 := ⟨tr.length - 1, by omega⟩
  rw [hm, trimN] at e
  by_cases h2 : (1 : Int) < tr.length
  · simp only [h2, decide_true, if_true]
    rcases List.eq_nil_or_concat tr with rfl | ⟨ti, c, rfl⟩
    · simp at h1
    rw [List.concat_eq_append] at *
    have hat : atI ((ti ++ [c]).map PyData.int) (-1) = some (.int c) := by rw [List.map_append]; exact atI_last _ _
    have hla : (ti ++ [c]).getLast? = some c := by simp
    rw [hla] at e
    refine ⟨_, hat, ?_⟩
    walk_at "dl"
    by_cases hc : c = 0
    · subst hc
      rw [if_pos ⟨by omega, rfl⟩] at e
      have hdl : (ti ++ [(0 : Int)]).dropLast = ti := by simp
      rw [hdl] at e
      simp only [eq_self, decide_true, if_true]
      rw [chgL_loc el]
      refine ⟨by simp, ?_⟩
      have hml : m = ti.length := by simp at hm; omega
      subst hml
      refine hK ti.length _ _ (by simp) ⟨ti, e, by simp at h2; omega, rfl, ?_, rfl⟩
      show ({ ls := (s.ls ++ [LO.op _]).set s.ls.length _, os := s.os, sc := s.sc } : S) = _
      rw [setL]
      simp
    · rw [if_neg (by rintro ⟨_, h⟩; injection h with h; exact hc h)] at e
      simp only [hc, decide_false, Bool.false_eq_true, if_false]
      walk_at "dl"
      rw [e] at q
      exact q
  · rw [if_neg (by rintro ⟨h, _⟩; omega)] at e
    simp only [h2, decide_false, Bool.false_eq_true, if_false]
    walk_at "dl"
    rw [e] at q
    exact q
def sp_certP : Spec := fun vs s Q _ => ∃ ps : Pts, vs = [.d (ptsD ps)] ∧ GP ps ∧ Q (.d (certP ps)) s
theorem sem_certP : Sem (m_certify_points sp_chkP sp_wt sp_trimmed) 3 sp_certP := by
  rintro vs s Q Ex ⟨ps, rfl, g, q⟩
  unfold m_certify_points
  walk_at "dl"
  refine ⟨ps, rfl, g.h1, g.hl, g.a, ?_⟩
  walk_at "dl"
  refine ⟨ps, rfl, g.hl, g.a, g.b, ?_⟩
  walk_at "dl"
  unfold ptsD
  walk_at "dl"
  rw [List.length_map]
  have h := wtF_spec ps [] [] [1] NI.nil (by simpa using g.b) (by simpa using ascB_nodup g.a) (by simpa using g.hl)
  simp only [List.nil_append, List.length_nil] at h
  unfold certP ptsD at q
  by_cases he : (wtF [] [1] 0 ps).2 = ps.length
  · rw [if_pos he] at q
    have he2 : ((wtF [] [1] 0 ps).2 : Int) = ps.length := by omega
    simp only [he2, decide_true, if_true]
    rcases h with ⟨_, sp', h2⟩ | ⟨_, h1, _⟩
    · have hl := h2.l
      have := g.h1
      have := g.hl
      refine ⟨sz _ (by decide), _, rfl, by omega, by omega, ?_⟩
      walk_at "dl"
      exact ⟨sz _ (by decide), q⟩
    · omega
  · rw [if_neg he] at q
    have he2 : ¬ (((wtF [] [1] 0 ps).2 : Int) = ps.length) := by omega
    simp only [he2, decide_false, Bool.false_eq_true, if_false]
    exact ⟨sz _ (by decide), sz _ (by decide), q⟩

/-! ### law k75: lines of points -/
def sp_made5 : Spec := fun vs s Q _ => ∃ (v : D) (cs : List Int) (x : Int), vs = [.d v, .d (.int x)] ∧ (v = .list (cs.map .int) ∨ v = .tuple (cs.map .int)) ∧ cs.length ≤ 50 ∧ (∀ c ∈ cs, c.natAbs < 2 ^ 50000) ∧ x.natAbs < 2 ^ 100 ∧ Q (.d (.int (polyV cs x))) s
theorem sem_made5 : Sem m__law_made_value 4 sp_made5 := by
  rintro vs s Q Ex ⟨v, cs, x, rfl, hv, hl, hc, hx, q⟩
  unfold m__law_made_value
  rcases hv with rfl | rfl
  · walk_at "dl"
    refine loopD_by (fun rest ρ t => ∃ (ca cb : List Int) (a3 : Option Vl), cs = ca ++ cb ∧ rest = (ca.map PyData.int).reverse ∧ t = s ∧ ρ = [some (.d (.list (cs.map .int))), some (.d (.int x)), some (.d (.int (polyV cb x))), a3]) ?_ ?_ _ _ _ ⟨cs, [], none, by simp, rfl, rfl, rfl⟩
    · rintro d r ρ t K ⟨ca, cb, a3, e1, e2, rfl, rfl⟩ hK
      rcases List.eq_nil_or_concat ca with rfl | ⟨ci, c, rfl⟩
      · cases e2
      · rw [List.concat_eq_append] at e1 e2
        rw [List.map_append, List.reverse_append] at e2
        injection e2 with e2 e3
        subst e2
        refine ⟨trivial, ?_⟩
        walk_at "dl"
        have hcb : ∀ c ∈ cb, c.natAbs < 2 ^ 50000 := fun c h => hc c (by rw [e1]; simp [h])
        have lb : cb.length ≤ 50 := by
          have : cs.length = ci.length + 1 + cb.length := by rw [e1]; simp; omega
          omega
        exact ⟨wid_mulE (polyV_ltM hx hcb) hx (by omega), hK _ _ ⟨ci, c :: cb, _, by simp [e1], e3, rfl, rfl⟩⟩
    · rintro ρ t ⟨ca, cb, a3, e1, e2, rfl, rfl⟩
      have : ca = [] := by
        cases ca with
        | nil => rfl
        | cons a r => simp at e2
      subst this
      rw [List.nil_append] at e1
      subst e1
      refine ⟨trivial, ?_⟩
      walk_at "dl"
      exact q
  · walk_at "dl"
    refine loopD_by (fun rest ρ t => ∃ (ca cb : List Int) (a3 : Option Vl), cs = ca ++ cb ∧ rest = (ca.map PyData.int).reverse ∧ t = s ∧ ρ = [some (.d (.tuple (cs.map .int))), some (.d (.int x)), some (.d (.int (polyV cb x))), a3]) ?_ ?_ _ _ _ ⟨cs, [], none, by simp, rfl, rfl, rfl⟩
    · rintro d r ρ t K ⟨ca, cb, a3, e1, e2, rfl, rfl⟩ hK
      rcases List.eq_nil_or_concat ca with rfl | ⟨ci, c, rfl⟩
      · cases e2
      · rw [List.concat_eq_append] at e1 e2
        rw [List.map_append, List.reverse_append] at e2
        injection e2 with e2 e3
        subst e2
        refine ⟨trivial, ?_⟩
        walk_at "dl"
        have hcb : ∀ c ∈ cb, c.natAbs < 2 ^ 50000 := fun c h => hc c (by rw [e1]; simp [h])
        have lb : cb.length ≤ 50 := by
          have : cs.length = ci.length + 1 + cb.length := by rw [e1]; simp; omega
          omega
        exact ⟨wid_mulE (polyV_ltM hx hcb) hx (by omega), hK _ _ ⟨ci, c :: cb, _, by simp [e1], e3, rfl, rfl⟩⟩
    · rintro ρ t ⟨ca, cb, a3, e1, e2, rfl, rfl⟩
      have : ca = [] := by
        cases ca with
        | nil => rfl
        | cons a r => simp at e2
      subst this
      rw [List.nil_append] at e1
      subst e1
      refine ⟨trivial, ?_⟩
      walk_at "dl"
      exact q
theorem ascB_snoc {x y : Int} : ∀ {ps : Pts}, ascB ps = true → (∀ p ∈ ps, p.1 < x) → ascB (ps ++ [(x, y)]) = true
  | [], _, _ => rfl
  | [a], _, h => by simp [ascB, h a (by simp)]
  | a :: b :: r, h, hx => by
    rw [ascB, Bool.and_eq_true] at h
    rw [List.cons_append, List.cons_append, ascB, Bool.and_eq_true]
    exact ⟨h.1, ascB_snoc (ps := b :: r) h.2 fun p hp => hx p (List.mem_cons_of_mem _ hp)⟩
theorem polyV_near {x : Int} (hx : x.natAbs < 2 ^ 60) : ∀ {cs : List Int}, (∀ c ∈ cs, c.natAbs < 2 ^ 50) → (polyV cs x).natAbs < 2 ^ (61 * cs.length + 51)
  | [], _ => by simp [polyV]
  | c :: r, h => by
    have ih := polyV_near hx (cs := r) fun d hd => h d (List.mem_cons_of_mem _ hd)
    have hc := h c List.mem_cons_self
    have e1 : (polyV (c :: r) x).natAbs ≤ (polyV r x).natAbs * x.natAbs + c.natAbs := by
      rw [← Int.natAbs_mul]; simp only [polyV]; omega
    have e2 := Nat.mul_le_mul (Nat.le_of_lt ih) (Nat.le_of_lt hx)
    have e3 : 2 ^ (61 * (c :: r).length + 51) = 2 ^ (61 * r.length + 51) * 2 ^ 60 * 2 := by
      rw [← Nat.pow_add, ← Nat.pow_succ]; congr 1
    have e4 : (2 : Nat) ^ 50 ≤ 2 ^ (61 * r.length + 51) * 2 ^ 60 := by
      rw [← Nat.pow_add]; exact Nat.pow_le_pow_right (by decide) (by omega)
    omega
structure Near (x0 : Int) (ps : Pts) (x : Int) (k : Nat) : Prop where
  l : ps.length = k
  a : ascB ps = true
  lt : ∀ p ∈ ps, p.1 < x
  lo : ∀ p ∈ ps, x0 ≤ p.1
  f0 : x0 ≤ x
  hi : x ≤ x0 + 9 * k
  y : ∀ p ∈ ps, p.2.natAbs < 2 ^ 400
theorem ascB_same : ∀ {ps qs : Pts}, qs.map (·.1) = ps.map (·.1) → ascB qs = ascB ps
  | [], [], _ => rfl
  | [], _ :: _, h => by simp at h
  | _ :: _, [], h => by simp at h
  | [a], [b], _ => rfl
  | [_], _ :: _ :: _, h => by simp at h
  | _ :: _ :: _, [_], h => by simp at h
  | a :: b :: r, c :: d :: t, h => by
    have h1 : c.1 = a.1 := by simpa using congrArg List.head? h
    have h2 : (d :: t).map (·.1) = (b :: r).map (·.1) := by simpa using congrArg List.tail h
    have h3 : d.1 = b.1 := by simpa using congrArg List.head? h2
    rw [ascB, ascB, ascB_same h2, h1, h3]
theorem Near.ps {x0 x : Int} {ps : Pts} {k : Nat} (h : Near x0 ps x k) (hk : k ≤ 7) (h0 : x0.natAbs < 2 ^ 55) {qs : Pts} (hq : qs.map (·.1) = ps.map (·.1)) (hy : ∀ p ∈ qs, p.2.natAbs < 2 ^ 500) : PS qs := by
  have hm : ∀ p ∈ qs, x0 ≤ p.1 ∧ p.1 < x := fun p hp => by
    have : p.1 ∈ ps.map (·.1) := by rw [← hq]; exact List.mem_map.mpr ⟨p, hp, rfl⟩
    obtain ⟨r, hr, e⟩ := List.mem_map.mp this
    rw [← e]; exact ⟨h.lo r hr, h.lt r hr⟩
  have hh := h.hi
  exact ⟨fun p hp => by have := hm p hp; omega, hy⟩
theorem dots_1 {Ex : EX} {X : DE} {s t : S} {n m k : Nat} {ps : Pts} {x x0 y : Int} {a1 a4 a5 a6 a8 : Option Vl} {l : List LO} (N : Near x0 ps x k) (hy : y.natAbs < 2 ^ 400) (hk : k ≤ 100) (vo : VOs n s t) (hls : t.ls = s.ls ++ [.op (ps.map ptD)])
    (hX : ∀ (x' : Int) t', Near x0 (ps ++ [(x, y)]) x' (k + 1) → VOs n s t' → t'.ls = s.ls ++ [.op ((ps ++ [(x, y)]).map ptD)] → X.nx [some (.obj n), a1, some (.loc s.ls.length), some (.d (.int x')), a4, a5, a6, some (.d (.int y)), a8] t') :
    rdC Ex (m__law_dots_1 sp_drop sp_any sp_made5) X [some (.obj n), a1, some (.loc s.ls.length), some (.d (.int x)), a4, a5, a6, some (.d (.int y)), a8] t := by
  unfold m__law_dots_1
  have hz : (1000000 : Nat) ≤ sizeLine := by decide
  have el : t.ls[s.ls.length]? = some (.op (ps.map ptD)) := by rw [hls]; exact lastL _ _
  walk_at "dl"
  rw [chgL_loc el]
  refine ⟨⟨_, asT_op el⟩, sz _ (by decide), by have := N.l; rw [List.length_map]; omega, ?_⟩
  have e : ps.map ptD ++ [.tuple [.int x, .int y]] = (ps ++ [(x, y)]).map ptD := by simp [ptD]
  have hls2 : t.ls.set s.ls.length (.op (ps.map ptD ++ [.tuple [.int x, .int y]])) = s.ls ++ [.op ((ps ++ [(x, y)]).map ptD)] := by rw [hls, setL, e]
  have vo2 : VOs n s { ls := t.ls.set s.ls.length (.op (ps.map ptD ++ [.tuple [.int x, .int y]])), os := t.os, sc := t.sc } := vo.ls _
  refine ⟨n, _, rfl, vo2.vial, by decide, by decide, fun d1 t1 d10 d11 v1 => ?_⟩
  walk_at "dl"
  refine ⟨sz _ (by decide), n, _, rfl, v1.vial, by simp, by simp, fun z t2 hz' v2 => ?_⟩
  have hz2 : ∃ c : Int, z = .int c ∧ 1 ≤ c ∧ c ≤ 9 := by
    simp only [List.mem_cons, List.not_mem_nil, or_false] at hz'
    rcases hz' with rfl | rfl | rfl | rfl | rfl <;> exact ⟨_, rfl, by omega, by omega⟩
  obtain ⟨c, rfl, c1, c9⟩ := hz2
  walk_at "dl"
  have hh := N.hi
  have hf := N.f0
  refine hX (x + c) t2 ⟨by rw [List.length_append, N.l]; rfl, ascB_snoc N.a N.lt, fun p hp => ?_, fun p hp => ?_, by omega, by omega, fun p hp => ?_⟩ ((vo2.trans v1).trans v2) (by rw [v2.1, v1.1]; exact hls2)
  · rcases List.mem_append.mp hp with h | h
    · have := N.lt p h; omega
    · have e : p = (x, y) := by simpa using h
      rw [e]; show x < x + c; omega
  · rcases List.mem_append.mp hp with h | h
    · exact N.lo p h
    · have e : p = (x, y) := by simpa using h
      rw [e]; exact hf
  · rcases List.mem_append.mp hp with h | h
    · exact N.y p h
    · have e : p = (x, y) := by simpa using h
      rw [e]; exact hy
theorem hw_snoc {way x y : Int} {ps : Pts} {cs : List Int} (h : way = 0 ∨ ∀ p ∈ ps, polyV cs p.1 = p.2) (h2 : way = 0 ∨ y = polyV cs x) : way = 0 ∨ ∀ p ∈ ps ++ [(x, y)], polyV cs p.1 = p.2 := by
  rcases h with h | h
  · exact .inl h
  · rcases h2 with h2 | h2
    · exact .inl h2
    · refine .inr fun p hp => ?_
      rcases List.mem_append.mp hp with h3 | h3
      · exact h p h3
      · have e : p = (x, y) := by simpa using h3
        rw [e, h2]
def sp_dots5 : Spec := fun vs s Q _ => ∃ n : Nat, vs = [.obj n] ∧ Vial s n ∧ ∀ (ps : Pts) (mk : Bool) s', GP ps → ps.length ≤ 7 → (mk = true → Whole ps) → VSt n s s' → Q (.d (.tuple [ptsD ps, .bool mk])) s'
theorem sem_dots5 : Sem (m__law_dots sp_drop sp_any sp_made5) 9 sp_dots5 := by
  rintro vs s Q Ex ⟨n, rfl, hv, q⟩
  unfold m__law_dots
  have hz : (1000000 : Nat) ≤ sizeLine := by decide
  walk_at "dl"
  refine ⟨n, _, rfl, hv, by decide, by decide, fun d1 s1 d10 d11 v1 => ?_⟩
  walk_at "dl"
  have vo1 : VOs n s { ls := s1.ls ++ [.op []], os := s1.os, sc := s1.sc } := v1.vo.ls _
  refine ⟨sz _ (by decide), n, _, rfl, vo1.vial, by decide, by decide, fun d2 s2 d20 d21 v2 => ?_⟩
  walk_at "dl"
  refine ⟨⟨by decide, by decide, by decide⟩, sz _ (by decide), n, _, rfl, v2.vial, by simp, by simp, fun z s3 hz' v3 => ?_⟩
  have hz2 : ∃ c : Int, z = .int c ∧ c.natAbs < 2 ^ 55 := by
    simp only [List.mem_cons, List.not_mem_nil, or_false] at hz'
    rcases hz' with rfl | rfl | rfl | rfl <;> exact ⟨_, rfl, by omega⟩
  obtain ⟨x0, rfl, hx0⟩ := hz2
  walk_at "dl"
  have vo3 := (vo1.trans v2).trans v3
  have nl : s1.ls.length = s.ls.length := by rw [v1.1]
  have ls3 : s3.ls = s.ls ++ [.op []] := by rw [v3.1, v2.1]; show s1.ls ++ _ = _; rw [v1.1]
  rw [nl]
  have hmn : ∃ mn : Int, (if (4 : Int) < 1 + d1 then (4 : Int) else 1 + d1) = mn ∧ 0 < mn ∧ mn ≤ 4 ∧ mn ≤ 1 + d1 := ⟨_, rfl, by split <;> omega, by split <;> omega, by split <;> omega⟩
  obtain ⟨mn, emn, mn0, mn4, mnd⟩ := hmn
  rw [emn]
  refine ⟨n, _, rfl, v3.vial, mn0, log_lt (by omega) (by omega), fun d4 s4 d40 d41 v4 => ?_⟩
  walk_at "dl"
  refine ⟨by omega, by omega, ?_⟩
  refine compD_by (fun rest acc t => ∃ (lo : Int) (r : Nat) (cs : List Int), rest = rangeD lo r ∧ ((cs.length : Int) + r ≤ mn) ∧ acc = cs.map .int ∧ (∀ c ∈ cs, c.natAbs < 2 ^ 50) ∧ VOs n s t ∧ t.ls = s.ls ++ [.op []]) ?_ ?_ _ _ _ ⟨0, _, [], rfl, by simp only [List.length_nil]; omega, rfl, by simp, vo3.trans v4, by rw [v4.1, ls3]⟩
  · rintro d r' acc t C ⟨lo, r, cs, e1, e2, rfl, hc, vo, hls⟩ hC
    cases r with
    | zero => cases e1
    | succ r =>
      injection e1 with e1 e3
      subst e1 e3
      refine ⟨trivial, n, _, rfl, vo.vial, by decide, by decide, fun d5 t5 d50 d51 v5 => ?_⟩
      walk_at "dl"
      refine hC (some _) t5 ⟨by rw [List.length_map]; omega, lo + 1, r, cs ++ [d5 - 4], rfl, by simp; omega, by simp, fun c h => ?_, vo.trans v5, by rw [v5.1, hls]⟩
      rcases List.mem_append.mp h with h | h
      · exact hc c h
      · have : c = d5 - 4 := by simpa using h
        omega
  · rintro acc t ⟨lo, r, cs, e1, e2, rfl, hc, vo, hls⟩
    refine ⟨trivial, n, _, rfl, vo.vial, by decide, by decide, fun way t6 w0 w1 v6 => ?_⟩
    walk_at "dl"
    obtain ⟨many, hmany⟩ : ∃ many : Nat, 1 + d1 = many := ⟨(1 + d1).toNat, by omega⟩
    rw [hmany]
    refine ⟨by omega, by omega, ?_⟩
    have N0 : Near x0 [] x0 0 := ⟨rfl, rfl, by simp, by simp, Int.le_refl _, by omega, by simp⟩
    refine loopD_by (fun rest ρ u => ∃ (lo : Int) (r k : Nat) (ps : Pts) (x : Int) (a6 a7 a8 : Option Vl), rest = rangeD lo r ∧ k + r = many ∧ Near x0 ps x k ∧ (way = 0 ∨ ∀ p ∈ ps, polyV cs p.1 = p.2) ∧ VOs n s u ∧ u.ls = s.ls ++ [.op (ps.map ptD)] ∧
      ρ = [some (.obj n), some (.d (.int many)), some (.loc s.ls.length), some (.d (.int x)), some (.d (.list (cs.map .int))), some (.d (.int way)), a6, a7, a8]) ?_ ?_ _ _ _ ⟨0, many, 0, [], x0, none, none, none, rfl, by omega, N0, .inr (by simp), vo.trans v6, by rw [v6.1, hls]; rfl, rfl⟩
    · rintro d r' ρ u K ⟨lo, r, k, ps, x, a6, a7, a8, e1, e2, N, hwy, vo, hls, rfl⟩ hK
      cases r with
      | zero => cases e1
      | succ r =>
        injection e1 with e1 e3
        subst e1 e3
        refine ⟨trivial, ?_⟩
        unfold m__law_dots_b2
        walk_at "dl"
        have hh := N.hi
        have hf := N.f0
        have go : ∀ (X : DE) (hXn : ∀ ρ t, K ρ t → X.nx ρ t) (y : Int) u2, y.natAbs < 2 ^ 400 → (way = 0 ∨ y = polyV cs x) → VSt n u u2 → rdC (fun x _ s' => Ex x (cutS s.ls.length s')) (m__law_dots_1 sp_drop sp_any sp_made5) X [some (.obj n), some (.d (.int many)), some (.loc s.ls.length), some (.d (.int x)), some (.d (.list (cs.map .int))), some (.d (.int way)), some (.d (.int lo)), some (.d (.int y)), a8] u2 :=
          fun X hXn y u2 hy hyw v => dots_1 (m := 0) (l := []) N hy (by omega) (vo.trans v) (by rw [v.1, hls]) fun x' t' N' vo' hls' => hXn _ _ <| hK _ _ ⟨lo + 1, r, k + 1, _, x', _, _, _, rfl, by omega, N', hw_snoc hwy hyw, vo', hls', rfl⟩
        by_cases hw : way = 0
        · simp only [hw, eq_self, decide_true, if_true]
          rw [hw] at go
          refine ⟨n, _, rfl, vo.vial, by decide, by decide, fun d9 u2 d90 d91 v9 => ?_⟩
          exact go _ (fun _ _ h => h) d9 u2 (Nat.lt_of_lt_of_le (show d9.natAbs < 2 ^ 5 by omega) (Nat.pow_le_pow_right (by decide) (by decide))) (.inl rfl) v9
        · simp only [hw, decide_false, Bool.false_eq_true, if_false]
          refine ⟨_, cs, x, rfl, .inl rfl, by omega, fun c h => Nat.lt_of_lt_of_le (hc c h) (Nat.pow_le_pow_right (by decide) (by decide)), by omega, ?_⟩
          refine go _ (fun _ _ h => h) _ u ?_ (.inr rfl) (VSt.rfl' vo.vial)
          exact Nat.lt_of_lt_of_le (polyV_near (by omega) hc) (Nat.pow_le_pow_right (by decide) (by omega))
    · rintro ρ u ⟨lo, r, k, ps, x, a6, a7, a8, e1, e2, N, hwy, vo, hls, rfl⟩
      cases r with
      | succ r => cases e1
      | zero =>
        have hk : k = many := by omega
        subst hk
        refine ⟨trivial, ?_⟩
        have el : u.ls[s.ls.length]? = some (.op (ps.map ptD)) := by rw [hls]; exact lastL _ _
        have h400 : (2 : Nat) ^ 400 * 2 ≤ 2 ^ 500 := by rw [← Nat.pow_succ]; exact Nat.pow_le_pow_right (by decide) (by decide)
        have h7 : (100 : Nat) < 2 ^ 400 := Nat.lt_of_lt_of_le (show 100 < 2 ^ 7 by decide) (Nat.pow_le_pow_right (by decide) (by decide))
        have fin : ∀ (qs : Pts) (u2 : S) (a8 : Option Vl), qs.map (·.1) = ps.map (·.1) → (∀ p ∈ qs, p.2.natAbs < 2 ^ 500) → (1 < way → Whole qs) → VOs n s u2 → u2.ls = s.ls ++ [.op (qs.map ptD)] → rdC (fun x _ s' => Ex x (cutS s.ls.length s')) (m__law_dots_3 sp_drop sp_any sp_made5) (DEnd s Q) [some (.obj n), some (.d (.int k)), some (.loc s.ls.length), some (.d (.int x)), some (.d (.list (cs.map .int))), some (.d (.int way)), a6, a7, a8] u2 := by
          intro qs u2 a8 hqs hqy hqw vo2 hls2
          unfold m__law_dots_3
          have el2 : u2.ls[s.ls.length]? = some (.op (qs.map ptD)) := by rw [hls2]; exact lastL _ _
          walk_at "dl"
          rw [asD_op el2]
          walk_at "dl"
          have hlq : qs.length = ps.length := by simpa using congrArg List.length hqs
          exact ⟨sz _ (by decide), q qs _ _ ⟨by rw [hlq, N.l]; omega, by rw [hlq, N.l]; omega, by rw [ascB_same hqs]; exact N.a, N.ps (by omega) hx0 hqs hqy⟩ (by rw [hlq, N.l]; omega) (fun h => hqw (of_decide_eq_true h)) (vo2.done hls2)⟩
        walk_at "dl"
        by_cases hw1 : way = 1
        · simp only [hw1, eq_self, decide_true, if_true]
          rw [hw1] at fin
          refine ⟨n, _, rfl, vo.vial, by omega, log_lt (by omega) (by omega), fun a u1 a0 a1 v1 => ?_⟩
          walk_at "dl"
          have el2 : u1.ls[s.ls.length]? = some (.op (ps.map ptD)) := by rw [v1.1]; exact el
          rw [asD_op el2]
          walk_at "dl"
          obtain ⟨i, rfl⟩ := Int.eq_ofNat_of_zero_le a0
          have hi : i < ps.length := by rw [N.l]; omega
          refine ⟨_, pts_at hi, ?_⟩
          walk_at "dl"
          refine ⟨_, pts_at hi, ?_⟩
          walk_at "dl"
          refine ⟨sz _ (by decide), n, _, rfl, v1.vial, by simp, by simp, fun y u2 hy v2 => ?_⟩
          have hy2 : ∃ c : Int, y = .int c ∧ c.natAbs < 100 := by
            simp only [List.mem_cons, List.not_mem_nil, or_false] at hy
            rcases hy with rfl | rfl | rfl | rfl | rfl <;> exact ⟨_, rfl, by decide⟩
          obtain ⟨c, rfl, hc9⟩ := hy2
          walk_at "dl"
          have v := v1.trans v2
          have el3 : u2.ls[s.ls.length]? = some (.op (ps.map ptD)) := by rw [v.1]; exact el
          rw [chgL_loc el3]
          refine ⟨sz _ (by decide), i, ixN_pos (by omega) (by rw [List.length_map]; omega), ?_⟩
          have es : (ps.map ptD).set i (.tuple [.int (at0 (X1 ps) i), .int (at0 (Y1 ps) i + c)]) = (ps.set i (at0 (X1 ps) i, at0 (Y1 ps) i + c)).map ptD := by rw [List.map_set]; rfl
          rw [es]
          refine fin (ps.set i (at0 (X1 ps) i, at0 (Y1 ps) i + c)) _ _ ?_ (fun p hp => ?_) (fun h => absurd h (by decide)) ((vo.trans v).ls _) (by show u2.ls.set _ _ = _; rw [v.1, hls, setL])
          · rw [List.map_set]
            show (ps.map (·.1)).set i (at0 (X1 ps) i) = _
            apply List.ext_getElem?
            intro j
            rw [List.getElem?_set]
            split
            · rename_i e
              subst e
              rw [if_pos (by simpa using hi), List.getElem?_map, List.getElem?_eq_getElem hi, at0_map _ hi]; rfl
            · rfl
          · rcases List.mem_or_eq_of_mem_set hp with h | h
            · have := N.y p h; omega
            · obtain ⟨p', hp', _, e2⟩ := X1_mem hi
              have := N.y p' hp'
              rw [h, ← e2]
              show (p'.2 + c).natAbs < _
              omega
        · simp only [hw1, decide_false, Bool.false_eq_true, if_false]
          refine fin ps u a8 rfl (fun p hp => by have := N.y p hp; omega) (fun h => ?_) vo hls
          rcases hwy with h2 | h2
          · omega
          · exact ⟨cs, by rw [N.l]; omega, h2⟩

/-! ### law k75: points right -/
theorem shownW_ints {ps : Pts} {cs : List Int} {b : Bool} (h1 : 1 ≤ cs.length) (hl : cs.length ≤ ps.length) (e : (ps.all fun p => decide (polyV cs p.1 = p.2)) = b) : shownW ps (.tuple (cs.map .int)) = b := by
  unfold shownW
  simp only [intsOf_ints, h1, hl, decide_true, Bool.true_and]
  exact e
theorem NI.dvd {pre : Pts} {cs sp : List Int} (h : NI pre cs sp) {p : Int × Int} {P : List Int} (hn : (pre.map (·.1)).Nodup) (hP : ∀ q ∈ pre ++ [p], polyV P q.1 = q.2) : prodX p.1 (pre.map (·.1)) ∣ p.2 - polyV cs p.1 := by
  have hl : (padP (P.length + cs.length) P).length = (padP (P.length + cs.length) cs).length := by
    rw [padP_len (by omega), padP_len (by omega)]
  have hv : ∀ z, polyV (linP 1 (-1) (padP (P.length + cs.length) P) (padP (P.length + cs.length) cs)) z = polyV P z - polyV cs z := fun z => by
    rw [linP_val _ _ _ _ _ hl, padP_val, padP_val]; omega
  have := prodX_dvd p.1 (pre.map (·.1)) (linP 1 (-1) (padP (P.length + cs.length) P) (padP (P.length + cs.length) cs)) hn fun z hz => by
    obtain ⟨q, hq, rfl⟩ := List.mem_map.mp hz
    rw [hv, hP q (List.mem_append_left _ hq), h.v q hq]; omega
  rw [hv, hP p (by simp)] at this
  exact this
theorem whole_take {ps : Pts} (g : GP ps) (hw : Whole ps) : ∀ j, j ≤ ps.length → ∃ cs sp, NI (ps.take j) cs sp
  | 0, _ => ⟨[], [1], by simpa using NI.nil⟩
  | j + 1, hj => by
    obtain ⟨cs, sp, h⟩ := whole_take g hw j (by omega)
    obtain ⟨P, _, hP⟩ := hw
    have hp : ps[j]? = some ps[j] := List.getElem?_eq_getElem (by omega)
    have hs : ps.take (j + 1) = ps.take j ++ [ps[j]] := take_snoc hp
    have hsub : ∀ q ∈ ps.take j ++ [ps[j]], q ∈ ps := fun q hq => by
      rw [← hs] at hq; exact List.mem_of_mem_take hq
    have hnd : ((ps.take j ++ [ps[j]]).map (·.1)).Nodup := by
      rw [← hs, List.map_take]
      exact (ascB_nodup g.a).sublist (List.take_sublist _ _)
    have hn1 : ((ps.take j).map (·.1)).Nodup := by
      rw [List.map_append, List.nodup_append] at hnd
      exact hnd.1
    have hd := h.dvd (p := ps[j]) hn1 fun q hq => hP q (hsub q hq)
    have hz : ((ps[j]).2 - polyV cs (ps[j]).1).fmod (polyV sp (ps[j]).1) = 0 := (fmod_zero_iff _ _).mpr (by rw [h.spv]; exact hd)
    have := h.step hnd (g.b.sub hsub) (by rw [List.length_take]; have := g.hl; omega) hz
    rw [← hs] at this
    exact ⟨_, _, this.2⟩
theorem ascB_take : ∀ (ps : Pts) (n : Nat), ascB ps = true → ascB (ps.take n) = true
  | [], n, _ => by simp [ascB]
  | [a], 0, _ => rfl
  | [a], n + 1, _ => by simp [ascB]
  | a :: b :: r, 0, _ => rfl
  | a :: b :: r, 1, _ => rfl
  | a :: b :: r, n + 2, h => by
    rw [ascB, Bool.and_eq_true] at h
    have ih := ascB_take (b :: r) (n + 1) h.2
    rw [List.take_succ_cons] at ih
    rw [List.take_succ_cons, List.take_succ_cons, ascB, Bool.and_eq_true]
    exact ⟨h.1, ih⟩
theorem GP.take {ps : Pts} (g : GP ps) {k : Nat} (h : 1 ≤ k) : GP (ps.take k) := ⟨by rw [List.length_take]; have := g.h1; omega, by rw [List.length_take]; have := g.hl; omega, ascB_take _ _ g.a, g.b.sub fun p hp => List.mem_of_mem_take hp⟩
theorem ints_inj {a b : List Int} (h : a.map PyData.int = b.map PyData.int) : a = b := by
  have := congrArg intsOf h
  rw [intsOf_ints, intsOf_ints] at this
  injection this
theorem ok_whole : PyData.strOk ("whole" : Str) = true := by decide +kernel
theorem ok_never : PyData.strOk ("never whole" : Str) = true := by decide +kernel
theorem lay_whole (ps : Pts) : Lay 3 (.tuple [.str "whole", ptsD ps]) := lay_two (lay_s ok_whole) (lay_pts ps)
theorem lay_never (ps : Pts) : Lay 3 (.tuple [.str "never whole", ptsD ps]) := lay_two (lay_s ok_never) (lay_pts ps)
theorem never_not (ps : Pts) : PyData.eqv (.tuple [.str "never whole", ptsD ps]) (.tuple [.str "whole", ptsD ps]) = false := by
  have : ¬ (("never whole" : Str) = "whole") := by decide +kernel
  simp [PyData.eqv, PyData.eqvAll, this]
def fstD (cs : List Int) : D → D
  | .tuple [.int x, _] => .int (polyV cs x)
  | _ => .none
def sndD : D → D
  | .tuple [_, y] => y
  | _ => .none
def sp_dotsR : Spec := fun vs s Q _ => ∃ (ps : Pts) (mk : Bool), vs = [.d (ptsD ps), .d (.bool mk)] ∧ GP ps ∧ ps.length ≤ 7 ∧ (mk = true → Whole ps) ∧ Q (.d (.bool true)) s
theorem dots_3 {Ex : EX} {X : DE} {s : S} {ps : Pts} {k : Nat} {mk : Bool} {a3 a4 a5 a6 a7 : Option Vl} (g : GP ps) (h0 : 1 ≤ k) (hk : k < ps.length) (hw : Whole (ps.take k)) (hX : X.rt (.d (.bool true)) s) :
    rdC Ex (m__law_dots_right_3 sp_certP sp_acc5 sp_made5) X [some (.d (ptsD ps)), some (.d (.bool mk)), some (.d (.tuple [.tuple [.str "never whole", ptsD ps], .int k])), a3, a4, a5, a6, a7] s := by
  unfold m__law_dots_right_3
  have hl := g.hl
  walk_at "dl"
  refine ⟨by omega, by omega, ?_⟩
  obtain ⟨P, _, hP⟩ := id hw
  have hPi : ∀ i, i < k → polyV P (at0 (X1 ps) i) = at0 (Y1 ps) i := fun i hi => by
    have hi2 : i < ps.length := by omega
    have := hP ps[i] (List.mem_of_getElem? (i := i) (by rw [List.getElem?_take, if_pos hi, List.getElem?_eq_getElem hi2]))
    rw [at0_map _ hi2, at0_map _ hi2]; exact this
  have hnd := ascB_nodup g.a
  refine loopD_by (fun rest ρ t => ∃ (lo : Int) (r i : Nat) (a3 a4 a5 : Option Vl), rest = rangeD lo r ∧ lo = i ∧ i + r = k ∧ t = s ∧ ρ = [some (.d (ptsD ps)), some (.d (.bool mk)), some (.d (.tuple [.tuple [.str "never whole", ptsD ps], .int k])), a3, a4, a5, a6, a7]) ?_ ?_ _ _ _ ⟨0, k, 0, a3, a4, a5, rfl, rfl, by omega, rfl, rfl⟩
  · rintro d r' ρ t K ⟨lo, r, i, a3, a4, a5, e1, rfl, e2, rfl, rfl⟩ hK
    cases r with
    | zero => cases e1
    | succ r =>
      injection e1 with e1 e3
      subst e1 e3
      refine ⟨trivial, ?_⟩
      unfold m__law_dots_right_b5
      walk_at "dl"
      refine ⟨by omega, by omega, ?_⟩
      refine loopD_by (fun rest ρ t2 => ∃ (lo : Int) (r j : Nat) (a4 a5 : Option Vl), rest = rangeD lo r ∧ lo = j ∧ j + r = i ∧ t2 = t ∧ ρ = [some (.d (ptsD ps)), some (.d (.bool mk)), some (.d (.tuple [.tuple [.str "never whole", ptsD ps], .int k])), some (.d (.int i)), a4, a5, a6, a7]) ?_ ?_ _ _ _ ⟨0, i, 0, a4, a5, rfl, rfl, by omega, rfl, rfl⟩
      · rintro d r' ρ t2 K2 ⟨lo, r, j, a4, a5, e1, rfl, e4, rfl, rfl⟩ hK2
        cases r with
        | zero => cases e1
        | succ r =>
          injection e1 with e1 e3
          subst e1 e3
          refine ⟨trivial, ?_⟩
          unfold m__law_dots_right_b4 ptsD
          have hi : i < ps.length := by omega
          have hj : j < ps.length := by omega
          walk_at "dl"
          refine ⟨_, pts_at hi, ?_⟩
          walk_at "dl"
          refine ⟨_, pts_at hj, ?_⟩
          walk_at "dl"
          refine ⟨_, pts_at hi, ?_⟩
          walk_at "dl"
          refine ⟨_, pts_at hj, ?_⟩
          walk_at "dl"
          have hd := polyV_dvd (at0 (X1 ps) i) (at0 (X1 ps) j) P
          rw [hPi i (by omega), hPi j (by omega)] at hd
          have hne : at0 (X1 ps) i - at0 (X1 ps) j ≠ 0 := by
            intro e
            have h1 : at0 (X1 ps) i = at0 (X1 ps) j := by omega
            have h2 : (X1 ps)[i]? = (X1 ps)[j]? := by
              have l1 : i < (X1 ps).length := by simpa using hi
              have l2 : j < (X1 ps).length := by simpa using hj
              unfold at0 at h1
              rw [List.getElem?_eq_getElem l1, List.getElem?_eq_getElem l2] at h1 ⊢
              simpa using h1
            have l1 : i < (X1 ps).length := by simpa using hi
            have l2 : j < (X1 ps).length := by simpa using hj
            rw [List.getElem?_eq_getElem l1, List.getElem?_eq_getElem l2] at h2
            injection h2 with h2
            have := (List.getElem_inj hnd).mp h2
            omega
          have hz := (fmod_zero_iff _ _).mpr hd
          refine ⟨hne, ?_⟩
          simp only [hz, decide_true, Bool.not_true, Bool.false_eq_true, if_false]
          exact hK2 _ _ ⟨_, r, j + 1, _, _, rfl, by omega, by omega, rfl, rfl⟩
      · rintro ρ t2 ⟨lo, r, j, a4, a5, e1, rfl, e4, rfl, rfl⟩
        exact ⟨trivial, hK _ _ ⟨_, _, i + 1, _, _, _, rfl, by omega, by omega, rfl, rfl⟩⟩
  · rintro ρ t ⟨lo, r, i, a3, a4, a5, e1, rfl, e2, rfl, rfl⟩
    refine ⟨trivial, ?_⟩
    unfold ptsD
    walk_at "dl"
    have hc : cutD (ps.map ptD) none (some (k : Int)) = (ps.take k).map ptD := by rw [cutD_to, List.map_take]
    rw [hc]
    have gk := g.take h0
    refine ⟨ps.take k, rfl, gk, ?_⟩
    have hcp := certP_is gk
    generalize certP (ps.take k) = c at hcp
    cases hcp with
    | whole cs _ _ _ _ =>
      walk_at "dl"
      refine cmpD_eqS _ _ _ ?_
      simpa using hX
    | never k' h0' hk' hw' hn' =>
      obtain ⟨cs, sp, h⟩ := whole_take gk hw (k' + 1) (by omega)
      exact absurd h.whole hn'
theorem sem_dotsR : Sem (m__law_dots_right sp_certP sp_acc5 sp_made5) 8 sp_dotsR := by
  rintro vs s Q Ex ⟨ps, mk, rfl, g, hl7, hmk, q⟩
  unfold m__law_dots_right
  have hz : (1000000 : Nat) ≤ sizeLine := by decide
  walk_at "dl"
  refine ⟨ps, rfl, g, ?_⟩
  walk_at "dl"
  rw [permK_1]
  refine ⟨ps, rfl, g, ?_⟩
  walk_at "dl"
  have hcp := certP_is g
  generalize certP ps = c at hcp
  have hlen : (ps.map ptD).length = ps.length := List.length_map _
  cases hcp with
  | whole cs hw hcl hv hb =>
    have lc : Lay 4 (.tuple [.tuple [.str "whole", ptsD ps], .tuple (cs.map .int)]) := lay_two (lay_whole ps) ((lay_ints _).up (by decide))
    refine cmpD_neD (lc.up (by decide)).sh (lc.up (by decide)).sh ?_
    rw [lc.self]
    simp only [Bool.not_true, Bool.false_eq_true, if_false]
    walk_at "dl"
    refine ⟨_, _, true, rfl, ?_, ?_⟩
    · have hs : shownW ps (.tuple (cs.map .int)) = true := shownW_ints hcl.1 hcl.2 (List.all_eq_true.mpr fun p hp => decide_eq_true (hv p hp))
      exact Acc5.pts false ps (.tuple (cs.map .int)) true g.h1 g.hl g.a g.b.pb (fun cs' e v hv' => by
        injection e with e
        rw [← ints_inj e] at hv'
        exact hb v hv') (by simp [hs])
    walk_at "dl"
    unfold m__law_dots_right_1
    walk_at "dl"
    refine ⟨sz _ (by decide), cmpD_eqD ((lay_whole ps).up (by decide)).sh ((lay_whole ps).up (by decide)).sh ?_⟩
    rw [(lay_whole ps).self]
    simp only [if_true]
    unfold ptsD
    walk_at "dl"
    refine compD_map (fstD cs) trivial (fun d hd C hC => ?_) (by rw [hlen]; omega) ?_
    · obtain ⟨p, hp, rfl⟩ := List.mem_map.mp hd
      unfold ptD at hC ⊢
      walk_at "dl"
      have hx := g.b.x p hp
      refine ⟨_, cs, p.1, rfl, .inr rfl, by omega, hb, Nat.lt_of_lt_of_le hx (Nat.pow_le_pow_right (by decide) (by decide)), ?_⟩
      walk_at "dl"
      exact hC
    · refine compD_map sndD trivial (fun d hd C hC => ?_) (by rw [hlen]; omega) ?_
      · obtain ⟨p, hp, rfl⟩ := List.mem_map.mp hd
        unfold ptD at hC ⊢
        walk_at "dl"
        exact hC
      · have e1 : (ps.map ptD).map (fstD cs) = (ps.map (·.2)).map .int := by
          rw [List.map_map, List.map_map]
          refine List.map_congr_left fun p hp => ?_
          show PyData.int (polyV cs p.1) = PyData.int p.2
          rw [hv p hp]
        have e2 : (ps.map ptD).map sndD = (ps.map (·.2)).map .int := by
          rw [List.map_map, List.map_map]; rfl
        rw [e1, e2]
        walk_at "dl"
        have ls : Lay 1 (.list ((ps.map (·.2)).map PyData.int)) := lay_l fun x hx => by
          obtain ⟨i, _, rfl⟩ := List.mem_map.mp hx
          exact lay_i i
        refine cmpD_eqD (ls.up (by decide)).sh (ls.up (by decide)).sh ?_
        rw [ls.self]
        walk_at "dl"
        exact q
  | never k h0 hk hw hn =>
    have hk2 : mk = false := by
      cases mk with
      | false => rfl
      | true =>
        obtain ⟨cs, sp, h⟩ := whole_take g (hmk rfl) (k + 1) (by omega)
        exact absurd h.whole hn
    subst hk2
    have lc : Lay 4 (.tuple [.tuple [.str "never whole", ptsD ps], .int k]) := lay_two (lay_never ps) (lay_i _)
    refine cmpD_neD (lc.up (by decide)).sh (lc.up (by decide)).sh ?_
    rw [lc.self]
    simp only [Bool.not_true, Bool.false_eq_true, if_false]
    walk_at "dl"
    refine ⟨_, _, true, rfl, ?_, ?_⟩
    · exact Acc5.pts true ps (.int k) true g.h1 g.hl g.a g.b.pb (fun cs' e => (by cases e)) (by simp only [if_true, true_iff]; exact ⟨k, rfl, hk, hw, hn⟩)
    walk_at "dl"
    unfold m__law_dots_right_1
    walk_at "dl"
    refine ⟨sz _ (by decide), cmpD_eqD ((lay_never ps).up (by decide)).sh ((lay_whole ps).up (by decide)).sh ?_⟩
    rw [never_not]
    simp only [Bool.false_eq_true, if_false]
    unfold m__law_dots_right_2
    walk_at "dl"
    refine ⟨sz _ (by decide), cmpD_neD ((lay_never ps).up (by decide)).sh ((lay_never ps).up (by decide)).sh ?_⟩
    rw [(lay_never ps).self]
    have k0 : (0 : Int) < (k : Int) := by omega
    have k1 : (k : Int) < (ps.length : Int) := by omega
    have el : ptsD ps = .tuple (ps.map ptD) := rfl
    simp only [Bool.not_true, Bool.false_eq_true, if_false, k0, decide_true, if_true]
    rw [el]
    walk_at "dl"
    rw [hlen]
    simp only [k1, decide_true, Bool.not_true, Bool.false_eq_true, if_false]
    exact dots_3 g h0 hk hw (by
      show retD s.ls.length (.d (.bool true)) s Q
      simpa [retD_d, cutS_self] using q)
theorem right75_1 {Ex : EX} {X : DE} {t : S} {n m : Nat} {lo : Int} {a3 a4 : Option Vl} (hv : Vial t n) (h1 : 1 ≤ m) (h40 : m ≤ 40) (hX : ∀ b3 b4 t', VSt n t t' → X.nx [some (.obj n), some (.d (.int lo)), some (.d (.int m)), b3, b4] t') :
    rdC Ex (m__law_right_1 sp_any sp_drop sp_dots5 sp_tabR sp_table sp_dotsR) X [some (.obj n), some (.d (.int lo)), some (.d (.int m)), a3, a4] t := by
  unfold m__law_right_1
  walk_at "dl"
  refine ⟨n, rfl, hv, fun ps mk t1 g hl7 hmk v1 => ?_⟩
  walk_at "dl"
  refine ⟨n, m, rfl, v1.vial, h1, h40, fun tt t2 ht v2 => ?_⟩
  walk_at "dl"
  refine ⟨tt, rfl, by rw [ht.1]; exact h1, by rw [ht.1]; exact h40, ht.2, true, rfl, ?_⟩
  simp only [Bool.not_true, Bool.false_eq_true, if_false]
  refine ⟨ps, mk, rfl, g, hl7, hmk, true, rfl, ?_⟩
  simp only [Bool.not_true, Bool.false_eq_true, if_false]
  exact hX _ _ _ (v1.trans v2)
theorem sem_right75 : Sem (m__law_right sp_any sp_drop sp_dots5 sp_tabR sp_table sp_dotsR) 5 sp_right := by
  rintro vs s Q Ex ⟨n, rfl, hv, q⟩
  unfold m__law_right
  walk_at "dl"
  refine loopD_by (fun rest ρ t => VSt n s t ∧ ∃ a1 a2 a3 a4 : Option Vl, (∃ (lo : Int) (r : Nat), rest = rangeD lo r) ∧ ρ = [some (.obj n), a1, a2, a3, a4]) ?_ ?_ _ _ _ ⟨VSt.rfl' hv, none, none, none, none, ⟨0, _, rfl⟩, rfl⟩
  · rintro d r' ρ t K ⟨v, a1, a2, a3, a4, ⟨lo, r, e1⟩, rfl⟩ hK
    cases r with
    | zero => cases e1
    | succ r =>
      injection e1 with e1 e3
      subst e1 e3
      refine ⟨trivial, ?_⟩
      unfold m__law_right_b2
      walk_at "dl"
      refine ⟨n, _, rfl, v.vial, by decide, by decide, fun d1 t1 d10 d11 v1 => ?_⟩
      walk_at "dl"
      by_cases h0 : lo = 0
      · simp only [h0, eq_self, decide_true, if_true]
        rw [h0] at hK
        refine ⟨sz _ (by decide), n, _, rfl, v1.vial, by simp, by simp, fun x t2 hx v2 => ?_⟩
        have hx2 : ∃ m : Nat, x = .int m ∧ 1 ≤ m ∧ m ≤ 40 := by
          simp only [List.mem_cons, List.not_mem_nil, or_false] at hx
          rcases hx with rfl | rfl | rfl | rfl | rfl | rfl | rfl | rfl | rfl
          · exact ⟨1, rfl, by decide, by decide⟩
          · exact ⟨2, rfl, by decide, by decide⟩
          · exact ⟨3, rfl, by decide, by decide⟩
          · exact ⟨4, rfl, by decide, by decide⟩
          · exact ⟨5, rfl, by decide, by decide⟩
          · exact ⟨6, rfl, by decide, by decide⟩
          · exact ⟨9, rfl, by decide, by decide⟩
          · exact ⟨(1 + d1).toNat, by rw [show (((1 + d1).toNat : Nat) : Int) = 1 + d1 by omega], by omega, by omega⟩
          · exact ⟨40, rfl, by decide, by decide⟩
        obtain ⟨m, rfl, m1, m40⟩ := hx2
        exact right75_1 v2.vial m1 m40 fun b3 b4 t' v' => hK _ _ ⟨((v.trans v1).trans v2).trans v', _, _, _, _, ⟨0 + 1, r, rfl⟩, rfl⟩
      · simp only [h0, decide_false, Bool.false_eq_true, if_false]
        refine ⟨sz _ (by decide), n, _, rfl, v1.vial, by simp, by simp, fun x t2 hx v2 => ?_⟩
        have hx2 : ∃ m : Nat, x = .int m ∧ 1 ≤ m ∧ m ≤ 40 := by
          simp only [List.mem_cons, List.not_mem_nil, or_false] at hx
          rcases hx with rfl | rfl | rfl | rfl | rfl | rfl | rfl | rfl | rfl
          · exact ⟨1, rfl, by decide, by decide⟩
          · exact ⟨2, rfl, by decide, by decide⟩
          · exact ⟨3, rfl, by decide, by decide⟩
          · exact ⟨4, rfl, by decide, by decide⟩
          · exact ⟨5, rfl, by decide, by decide⟩
          · exact ⟨6, rfl, by decide, by decide⟩
          · exact ⟨9, rfl, by decide, by decide⟩
          · exact ⟨(1 + d1).toNat, by rw [show (((1 + d1).toNat : Nat) : Int) = 1 + d1 by omega], by omega, by omega⟩
          · exact ⟨2, rfl, by decide, by decide⟩
        obtain ⟨m, rfl, m1, m40⟩ := hx2
        exact right75_1 v2.vial m1 m40 fun b3 b4 t' v' => hK _ _ ⟨((v.trans v1).trans v2).trans v', _, _, _, _, ⟨lo + 1, r, rfl⟩, rfl⟩
  · rintro ρ t ⟨v, a1, a2, a3, a4, _, rfl⟩
    refine ⟨trivial, ?_⟩
    walk_at "dl"
    rw [v.cut]
    exact q _ v

def top (i : Nat) : Stmt := PySem.Challenge.pw_keptrests_k75_whole_tables_and_points_ce.main.body.getD i (.Pass ⟨0, 0, 0, 0⟩)
abbrev s_are_facts : Stmt := top 30
abbrev ps_are_facts : List Str := ["value"]
abbrev ks_are_facts : List (List Str) := []
abbrev N_are_facts : List Str := ["value"]
theorem sc_are_facts : FnScope N_are_facts ps_are_facts (defScope s_are_facts) := ⟨rfl, rfl, rfl, by decide +kernel, rfl, by decide +kernel, by decide +kernel⟩
abbrev s_is_shown_of_answer : Stmt := top 39
abbrev ps_is_shown_of_answer : List Str := ["word", "facts", "fact", "certificate"]
abbrev ks_is_shown_of_answer : List (List Str) := []
abbrev N_is_shown_of_answer : List Str := ["word", "facts", "fact", "certificate"]
theorem sc_is_shown_of_answer : FnScope N_is_shown_of_answer ps_is_shown_of_answer (defScope s_is_shown_of_answer) := ⟨rfl, rfl, rfl, by decide +kernel, rfl, by decide +kernel, by decide +kernel⟩
abbrev s_is_shown_of_facts : Stmt := top 38
abbrev ps_is_shown_of_facts : List Str := ["word", "facts", "certificate"]
abbrev ks_is_shown_of_facts : List (List Str) := []
abbrev N_is_shown_of_facts : List Str := ["word", "facts", "certificate"]
theorem sc_is_shown_of_facts : FnScope N_is_shown_of_facts ps_is_shown_of_facts (defScope s_is_shown_of_facts) := ⟨rfl, rfl, rfl, by decide +kernel, rfl, by decide +kernel, by decide +kernel⟩
abbrev s__law_drop : Stmt := top 48
abbrev N__law_drop : List Str := ["_law_vial_here", "_law_size", "_law_digit"]
abbrev ps__law_drop : List Str := ["_law_vial_here", "_law_size"]
abbrev ks__law_drop : List (List Str) := []
theorem sc__law_drop : FnScope N__law_drop ps__law_drop (defScope s__law_drop) := ⟨rfl, rfl, rfl, by decide +kernel, rfl, by decide +kernel, by decide +kernel⟩
abbrev s__law_any : Stmt := top 49
abbrev N__law_any : List Str := ["_law_vial_here", "_law_some"]
abbrev ps__law_any : List Str := ["_law_vial_here", "_law_some"]
abbrev ks__law_any : List (List Str) := []
theorem sc__law_any : FnScope N__law_any ps__law_any (defScope s__law_any) := ⟨rfl, rfl, rfl, by decide +kernel, rfl, by decide +kernel, by decide +kernel⟩
abbrev s__law_made_value : Stmt := top 51
abbrev N__law_made_value : List Str := ["_law_spec", "_law_spot", "_law_found", "_law_each"]
abbrev ps__law_made_value : List Str := ["_law_spec", "_law_spot"]
abbrev ks__law_made_value : List (List Str) := []
theorem sc__law_made_value : FnScope N__law_made_value ps__law_made_value (defScope s__law_made_value) := ⟨rfl, rfl, rfl, by decide +kernel, rfl, by decide +kernel, by decide +kernel⟩
abbrev s__law_dots : Stmt := top 57
abbrev N__law_dots : List Str := ["_law_vial_here", "_law_many", "_law_found", "_law_spot", "_law_spec", "_law_way", "_law_k", "_law_low", "_law_at"]
abbrev ps__law_dots : List Str := ["_law_vial_here"]
abbrev ks__law_dots : List (List Str) := []
theorem sc__law_dots : FnScope N__law_dots ps__law_dots (defScope s__law_dots) := ⟨rfl, rfl, rfl, by decide +kernel, rfl, by decide +kernel, by decide +kernel⟩
abbrev s_is_integer : Stmt := top 7
abbrev N_is_integer : List Str := ["value"]
abbrev ps_is_integer : List Str := ["value"]
abbrev ks_is_integer : List (List Str) := []
theorem sc_is_integer : FnScope N_is_integer ps_is_integer (defScope s_is_integer) := ⟨rfl, rfl, rfl, by decide +kernel, rfl, by decide +kernel, by decide +kernel⟩
abbrev s_check_values : Stmt := top 17
abbrev N_check_values : List Str := ["values", "at", "value"]
abbrev ps_check_values : List Str := ["values"]
abbrev ks_check_values : List (List Str) := []
theorem sc_check_values : FnScope N_check_values ps_check_values (defScope s_check_values) := ⟨rfl, rfl, rfl, by decide +kernel, rfl, by decide +kernel, by decide +kernel⟩
abbrev s_loose_pairs : Stmt := top 19
abbrev N_loose_pairs : List Str := ["values", "many", "pairs", "first", "second", "pair"]
abbrev ps_loose_pairs : List Str := ["values"]
abbrev ks_loose_pairs : List (List Str) := []
theorem sc_loose_pairs : FnScope N_loose_pairs ps_loose_pairs (defScope s_loose_pairs) := ⟨rfl, rfl, rfl, by decide +kernel, rfl, by decide +kernel, by decide +kernel⟩
abbrev s_all_steps : Stmt := top 18
abbrev N_all_steps : List Str := ["values", "found", "row", "before", "after"]
abbrev ps_all_steps : List Str := ["values"]
abbrev ks_all_steps : List (List Str) := []
theorem sc_all_steps : FnScope N_all_steps ps_all_steps (defScope s_all_steps) := ⟨rfl, rfl, rfl, by decide +kernel, rfl, by decide +kernel, by decide +kernel⟩
abbrev s_certify_values : Stmt := top 21
abbrev N_certify_values : List Str := ["values", "found"]
abbrev ps_certify_values : List Str := ["values"]
abbrev ks_certify_values : List (List Str) := [["values"]]
theorem sc_certify_values : FnScope N_certify_values ps_certify_values (defScope s_certify_values) := ⟨rfl, rfl, rfl, by decide +kernel, rfl, by decide +kernel, by decide +kernel⟩
abbrev s__law_loose_of : Stmt := top 55
abbrev N__law_loose_of : List Str := ["_law_table_here", "_law_found", "_law_j", "_law_i"]
abbrev ps__law_loose_of : List Str := ["_law_table_here"]
abbrev ks__law_loose_of : List (List Str) := []
theorem sc__law_loose_of : FnScope N__law_loose_of ps__law_loose_of (defScope s__law_loose_of) := ⟨rfl, rfl, rfl, by decide +kernel, rfl, by decide +kernel, by decide +kernel⟩
abbrev s_are_whole_numbers : Stmt := top 29
abbrev N_are_whole_numbers : List Str := ["value", "many", "each"]
abbrev ps_are_whole_numbers : List Str := ["value", "many"]
abbrev ks_are_whole_numbers : List (List Str) := []
theorem sc_are_whole_numbers : FnScope N_are_whole_numbers ps_are_whole_numbers (defScope s_are_whole_numbers) := ⟨rfl, rfl, rfl, by decide +kernel, rfl, by decide +kernel, by decide +kernel⟩
abbrev s_are_values : Stmt := top 31
abbrev N_are_values : List Str := ["value"]
abbrev ps_are_values : List Str := ["value"]
abbrev ks_are_values : List (List Str) := []
theorem sc_are_values : FnScope N_are_values ps_are_values (defScope s_are_values) := ⟨rfl, rfl, rfl, by decide +kernel, rfl, by decide +kernel, by decide +kernel⟩
abbrev s_is_pair_below : Stmt := top 33
abbrev N_is_pair_below : List Str := ["value", "many"]
abbrev ps_is_pair_below : List Str := ["value", "many"]
abbrev ks_is_pair_below : List (List Str) := []
theorem sc_is_pair_below : FnScope N_is_pair_below ps_is_pair_below (defScope s_is_pair_below) := ⟨rfl, rfl, rfl, by decide +kernel, rfl, by decide +kernel, by decide +kernel⟩
abbrev s_divides : Stmt := top 28
abbrev N_divides : List Str := ["base", "number"]
abbrev ps_divides : List Str := ["base", "number"]
abbrev ks_divides : List (List Str) := []
theorem sc_divides : FnScope N_divides ps_divides (defScope s_divides) := ⟨rfl, rfl, rfl, by decide +kernel, rfl, by decide +kernel, by decide +kernel⟩
abbrev s_is_shown_of_values : Stmt := top 40
abbrev N_is_shown_of_values : List Str := ["word", "values", "certificate", "first", "second", "row", "at", "step", "part", "before", "after"]
abbrev ps_is_shown_of_values : List Str := ["word", "values", "certificate"]
abbrev ks_is_shown_of_values : List (List Str) := []
theorem sc_is_shown_of_values : FnScope N_is_shown_of_values ps_is_shown_of_values (defScope s_is_shown_of_values) := ⟨rfl, rfl, rfl, by decide +kernel, rfl, by decide +kernel, by decide +kernel⟩
abbrev s_are_points : Stmt := top 32
abbrev N_are_points : List Str := ["value", "point", "before", "after"]
abbrev ps_are_points : List Str := ["value"]
abbrev ks_are_points : List (List Str) := []
theorem sc_are_points : FnScope N_are_points ps_are_points (defScope s_are_points) := ⟨rfl, rfl, rfl, by decide +kernel, rfl, by decide +kernel, by decide +kernel⟩
abbrev s_gap_and_product : Stmt := top 42
abbrev N_gap_and_product : List Str := ["points", "times", "place", "value", "product", "spot", "here", "factor"]
abbrev ps_gap_and_product : List Str := ["points", "times"]
abbrev ks_gap_and_product : List (List Str) := []
theorem sc_gap_and_product : FnScope N_gap_and_product ps_gap_and_product (defScope s_gap_and_product) := ⟨rfl, rfl, rfl, by decide +kernel, rfl, by decide +kernel, by decide +kernel⟩
abbrev s_is_stopped_at : Stmt := top 43
abbrev N_is_stopped_at : List Str := ["points", "index", "times", "at", "gap", "product"]
abbrev ps_is_stopped_at : List Str := ["points", "index"]
abbrev ks_is_stopped_at : List (List Str) := []
theorem sc_is_stopped_at : FnScope N_is_stopped_at ps_is_stopped_at (defScope s_is_stopped_at) := ⟨rfl, rfl, rfl, by decide +kernel, rfl, by decide +kernel, by decide +kernel⟩
abbrev s_value_there : Stmt := top 41
abbrev N_value_there : List Str := ["factors", "place", "found", "power", "factor"]
abbrev ps_value_there : List Str := ["factors", "place"]
abbrev ks_value_there : List (List Str) := []
theorem sc_value_there : FnScope N_value_there ps_value_there (defScope s_value_there) := ⟨rfl, rfl, rfl, by decide +kernel, rfl, by decide +kernel, by decide +kernel⟩
abbrev s_is_shown_of_points : Stmt := top 44
abbrev N_is_shown_of_points : List Str := ["word", "points", "certificate", "place", "value"]
abbrev ps_is_shown_of_points : List Str := ["word", "points", "certificate"]
abbrev ks_is_shown_of_points : List (List Str) := []
theorem sc_is_shown_of_points : FnScope N_is_shown_of_points ps_is_shown_of_points (defScope s_is_shown_of_points) := ⟨rfl, rfl, rfl, by decide +kernel, rfl, by decide +kernel, by decide +kernel⟩
abbrev s_accepts : Stmt := top 45
abbrev N_accepts : List Str := ["claim", "certificate", "word", "told"]
abbrev ps_accepts : List Str := ["claim", "certificate"]
abbrev ks_accepts : List (List Str) := []
theorem sc_accepts : FnScope N_accepts ps_accepts (defScope s_accepts) := ⟨rfl, rfl, rfl, by decide +kernel, rfl, by decide +kernel, by decide +kernel⟩
abbrev s__law_lots_at : Stmt := top 52
abbrev N__law_lots_at : List Str := ["_law_x", "_law_many", "_law_found", "_law_k"]
abbrev ps__law_lots_at : List Str := ["_law_x", "_law_many"]
abbrev ks__law_lots_at : List (List Str) := []
theorem sc__law_lots_at : FnScope N__law_lots_at ps__law_lots_at (defScope s__law_lots_at) := ⟨rfl, rfl, rfl, by decide +kernel, rfl, by decide +kernel, by decide +kernel⟩
abbrev s__law_value_by : Stmt := top 53
abbrev N__law_value_by : List Str := ["_law_row", "_law_x", "_law_step_here", "_law_lots"]
abbrev ps__law_value_by : List Str := ["_law_row", "_law_x"]
abbrev ks__law_value_by : List (List Str) := []
theorem sc__law_value_by : FnScope N__law_value_by ps__law_value_by (defScope s__law_value_by) := ⟨rfl, rfl, rfl, by decide +kernel, rfl, by decide +kernel, by decide +kernel⟩
abbrev s__law_table_right : Stmt := top 56
abbrev N__law_table_right : List Str := ["_law_table_here", "_law_found", "_law_bad", "_law_x"]
abbrev ps__law_table_right : List Str := ["_law_table_here"]
abbrev ks__law_table_right : List (List Str) := []
theorem sc__law_table_right : FnScope N__law_table_right ps__law_table_right (defScope s__law_table_right) := ⟨rfl, rfl, rfl, by decide +kernel, rfl, by decide +kernel, by decide +kernel⟩
abbrev s__law_shared : Stmt := top 50
abbrev N__law_shared : List Str := ["_law_a", "_law_b"]
abbrev ps__law_shared : List Str := ["_law_a", "_law_b"]
abbrev ks__law_shared : List (List Str) := []
theorem sc__law_shared : FnScope N__law_shared ps__law_shared (defScope s__law_shared) := ⟨rfl, rfl, rfl, by decide +kernel, rfl, by decide +kernel, by decide +kernel⟩
abbrev s__law_table : Stmt := top 54
abbrev N__law_table : List Str := ["_law_vial_here", "_law_many", "_law_way", "_law_row", "_law_wide", "_law_k", "_law_found", "_law_at", "_law_x"]
abbrev ps__law_table : List Str := ["_law_vial_here", "_law_many"]
abbrev ks__law_table : List (List Str) := []
theorem sc__law_table : FnScope N__law_table ps__law_table (defScope s__law_table) := ⟨rfl, rfl, rfl, by decide +kernel, rfl, by decide +kernel, by decide +kernel⟩
abbrev s_are_integers : Stmt := top 8
abbrev N_are_integers : List Str := ["value", "many", "number"]
abbrev ps_are_integers : List Str := ["value", "many"]
abbrev ks_are_integers : List (List Str) := []
theorem sc_are_integers : FnScope N_are_integers ps_are_integers (defScope s_are_integers) := ⟨rfl, rfl, rfl, by decide +kernel, rfl, by decide +kernel, by decide +kernel⟩
abbrev s_check_points : Stmt := top 10
abbrev N_check_points : List Str := ["points", "at", "point"]
abbrev ps_check_points : List Str := ["points"]
abbrev ks_check_points : List (List Str) := []
theorem sc_check_points : FnScope N_check_points ps_check_points (defScope s_check_points) := ⟨rfl, rfl, rfl, by decide +kernel, rfl, by decide +kernel, by decide +kernel⟩
abbrev s_whole_value : Stmt := top 11
abbrev N_whole_value : List Str := ["numbers", "place", "found", "number"]
abbrev ps_whole_value : List Str := ["numbers", "place"]
abbrev ks_whole_value : List (List Str) := []
theorem sc_whole_value : FnScope N_whole_value ps_whole_value (defScope s_whole_value) := ⟨rfl, rfl, rfl, by decide +kernel, rfl, by decide +kernel, by decide +kernel⟩
abbrev s_grown : Stmt := top 12
abbrev N_grown : List Str := ["numbers", "spread", "times", "number", "more"]
abbrev ps_grown : List Str := ["numbers", "spread", "times"]
abbrev ks_grown : List (List Str) := []
theorem sc_grown : FnScope N_grown ps_grown (defScope s_grown) := ⟨rfl, rfl, rfl, by decide +kernel, rfl, by decide +kernel, by decide +kernel⟩
abbrev s_stretched : Stmt := top 13
abbrev N_stretched : List Str := ["spread", "place", "before", "here"]
abbrev ps_stretched : List Str := ["spread", "place"]
abbrev ks_stretched : List (List Str) := []
theorem sc_stretched : FnScope N_stretched ps_stretched (defScope s_stretched) := ⟨rfl, rfl, rfl, by decide +kernel, rfl, by decide +kernel, by decide +kernel⟩
abbrev s_whole_through : Stmt := top 14
abbrev N_whole_through : List Str := ["points", "numbers", "spread", "at", "place", "value", "times", "left"]
abbrev ps_whole_through : List Str := ["points"]
abbrev ks_whole_through : List (List Str) := []
theorem sc_whole_through : FnScope N_whole_through ps_whole_through (defScope s_whole_through) := ⟨rfl, rfl, rfl, by decide +kernel, rfl, by decide +kernel, by decide +kernel⟩
abbrev s_trimmed : Stmt := top 15
abbrev N_trimmed : List Str := ["numbers", "found"]
abbrev ps_trimmed : List Str := ["numbers"]
abbrev ks_trimmed : List (List Str) := []
theorem sc_trimmed : FnScope N_trimmed ps_trimmed (defScope s_trimmed) := ⟨rfl, rfl, rfl, by decide +kernel, rfl, by decide +kernel, by decide +kernel⟩
abbrev s_certify_points : Stmt := top 22
abbrev N_certify_points : List Str := ["points", "numbers", "many"]
abbrev ps_certify_points : List Str := ["points"]
abbrev ks_certify_points : List (List Str) := [["points"]]
theorem sc_certify_points : FnScope N_certify_points ps_certify_points (defScope s_certify_points) := ⟨rfl, rfl, rfl, by decide +kernel, rfl, by decide +kernel, by decide +kernel⟩
abbrev s__law_dots_right : Stmt := top 58
abbrev N__law_dots_right : List Str := ["_law_dots_here", "_law_is_made", "_law_found", "_law_i", "_law_j", "_law_apart", "_law_spot", "_law_low"]
abbrev ps__law_dots_right : List Str := ["_law_dots_here", "_law_is_made"]
abbrev ks__law_dots_right : List (List Str) := []
theorem sc__law_dots_right : FnScope N__law_dots_right ps__law_dots_right (defScope s__law_dots_right) := ⟨rfl, rfl, rfl, by decide +kernel, rfl, by decide +kernel, by decide +kernel⟩
abbrev s__law_right : Stmt := top 59
abbrev N__law_right : List Str := ["_law_vial_here", "_law_turn", "_law_many", "_law_dots_here", "_law_is_made"]
abbrev ps__law_right : List Str := ["_law_vial_here"]
abbrev ks__law_right : List (List Str) := []
theorem sc__law_right : FnScope N__law_right ps__law_right (defScope s__law_right) := ⟨rfl, rfl, rfl, by decide +kernel, rfl, by decide +kernel, by decide +kernel⟩
abbrev s__law_vial : Stmt := top 47
abbrev N__law_vial : List Str := ["_law_script", "_law_turn", "_law_cell", "_law_stirred", "_law_each"]
abbrev ps__law_vial : List Str := ["_law_script", "_law_turn"]
abbrev ks__law_vial : List (List Str) := []
theorem sc__law_vial : FnScope N__law_vial ps__law_vial (defScope s__law_vial) := ⟨rfl, rfl, rfl, by decide +kernel, rfl, by decide +kernel, by decide +kernel⟩
abbrev s_law : Stmt := top 60
abbrev N_law : List Str := ["_law_script", "_law_k"]
abbrev ps_law : List Str := ["_law_script"]
abbrev ks_law : List (List Str) := []
theorem sc_law : FnScope N_law ps_law (defScope s_law) := ⟨rfl, rfl, rfl, by decide +kernel, rfl, by decide +kernel, by decide +kernel⟩
theorem w__law_drop {P : Program} {w : World} {K : Fg} {mg : Str → Option Value} {base : Heap} {T : Tb} {k : Nat} (z_divmod : mg "divmod" = none) (z_int : mg "int" = none) (f : Addr) (cd : Value) (A : Around) (outer : List Env) (s : Shared) (H : Hp) (E : XK) (V : Wd) (Ex : EX) (hg : A.guards = some [])
    (hr : Room k (A.deeper (envOfC "_law_drop" (defScope s__law_drop) s.heap.objs.size f cd))) (hx : XT (cxN P w K mg base N__law_drop "_law_drop" (defScope s__law_drop) f cd A outer s H E) ⟨V, T, mg, none⟩ Ex) (hp : PsO (cxN P w K mg base N__law_drop "_law_drop" (defScope s__law_drop) f cd A outer s H E)) : QC (cxN P w K mg base N__law_drop "_law_drop" (defScope s__law_drop) f cd A outer s H E) ⟨V, T, mg, none⟩ Ex (defBody s__law_drop) (m__law_drop) := by
  have nd : (N__law_drop).Nodup := sc__law_drop.nd
  unfold m__law_drop
  exact (s_if (t_cmp (o := .gt) hr (c_ix (c_var (i := 0) rfl (.inl rfl)) c_int (fun _ _ => rfl)) c_int (nomark _)) (s_asg (sl := [2]) (c_biB (b := .divmod) hr hg rfl rfl (fun _ => rfl) (by rfl) z_divmod bo_divmod (a_cons (c_ix (c_var (i := 0) rfl (.inl rfl)) c_int (fun _ _ => rfl)) (a_cons (c_var (i := 1) rfl (.inl rfl)) a_nil))) (g_tup (n := 2) rfl (g_cons (g_sub (sl := [2]) (c_var (i := 0) rfl (.inl rfl)) c_int) (g_cons (g_name (i := 2) (sl := [2]) nd rfl (.inl rfl) (.inl rfl) (by decide)) g_nil)) (l_sub (l_name l_nil))) (s_ret (c_var (i := 2) rfl (.inl rfl)))) s_done (s_asg (sl := []) (c_bin (o := .mod) (c_biT (b := .int) hr hg rfl rfl (fun _ => rfl) (by rfl) z_int bo_int (a_cons (c_bin (o := .add) (c_bin (o := .mul) (c_ix (c_var (i := 0) rfl (.inl rfl)) c_int (fun _ _ => rfl)) c_int) c_int) a_nil)) c_int) (g_sub (sl := []) (c_var (i := 0) rfl (.inl rfl)) c_int) (s_ret (c_bin (o := .mod) (c_biT (b := .int) hr hg rfl rfl (fun _ => rfl) (by rfl) z_int bo_int (a_cons (c_bin (o := .fdiv) (c_ix (c_var (i := 0) rfl (.inl rfl)) c_int (fun _ _ => rfl)) c_int) a_nil)) (c_var (i := 1) rfl (.inl rfl))))))
theorem w__law_any {P : Program} {w : World} {K : Fg} {mg : Str → Option Value} {base : Heap} {T : Tb} {k : Nat} {S__law_drop : Spec} (F__law_drop : FOk P w K mg base T k "_law_drop" ps__law_drop ks__law_drop S__law_drop) (z_len : mg "len" = none) (f : Addr) (cd : Value) (A : Around) (outer : List Env) (s : Shared) (H : Hp) (E : XK) (V : Wd) (Ex : EX) (hg : A.guards = some [])
    (hr : Room k (A.deeper (envOfC "_law_any" (defScope s__law_any) s.heap.objs.size f cd))) (hx : XT (cxN P w K mg base N__law_any "_law_any" (defScope s__law_any) f cd A outer s H E) ⟨V, T, mg, none⟩ Ex) (hp : PsO (cxN P w K mg base N__law_any "_law_any" (defScope s__law_any) f cd A outer s H E)) : QC (cxN P w K mg base N__law_any "_law_any" (defScope s__law_any) f cd A outer s H E) ⟨V, T, mg, none⟩ Ex (defBody s__law_any) (m__law_any S__law_drop) := by
  have nd : (N__law_any).Nodup := sc__law_any.nd
  unfold m__law_any
  exact (s_ret (c_ix (c_var (i := 1) rfl (.inl rfl)) (c_call F__law_drop hx rfl hr hg (by rfl) (a_cons (c_var (i := 0) rfl (.inl rfl)) (a_cons (c_biB (b := .len) hr hg rfl rfl (fun _ => rfl) (by rfl) z_len bo_len (a_cons (c_var (i := 1) rfl (.inl rfl)) a_nil)) a_nil))) (fun _ _ => rfl)))
theorem w__law_made_value {P : Program} {w : World} {K : Fg} {mg : Str → Option Value} {base : Heap} {T : Tb} {k : Nat} (f : Addr) (cd : Value) (A : Around) (outer : List Env) (s : Shared) (H : Hp) (E : XK) (V : Wd) (Ex : EX) (hg : A.guards = some [])
    (hr : Room k (A.deeper (envOfC "_law_made_value" (defScope s__law_made_value) s.heap.objs.size f cd))) (hx : XT (cxN P w K mg base N__law_made_value "_law_made_value" (defScope s__law_made_value) f cd A outer s H E) ⟨V, T, mg, none⟩ Ex) (hp : PsO (cxN P w K mg base N__law_made_value "_law_made_value" (defScope s__law_made_value) f cd A outer s H E)) : QC (cxN P w K mg base N__law_made_value "_law_made_value" (defScope s__law_made_value) f cd A outer s H E) ⟨V, T, mg, none⟩ Ex (defBody s__law_made_value) (m__law_made_value) := by
  have nd : (N__law_made_value).Nodup := sc__law_made_value.nd
  unfold m__law_made_value
  exact (s_set (i := 2) nd rfl (.inl rfl) (.inl rfl) c_int (s_for (sl := [3]) hp rfl (i_val (c_rev (c_var (i := 0) rfl (.inl rfl)))) (g_name (i := 3) (sl := [3]) nd rfl (.inl rfl) (.inl rfl) (by decide)) (s_set (i := 2) nd rfl (.inl rfl) (.inl rfl) (c_bin (o := .add) (c_bin (o := .mul) (c_var (i := 2) rfl (.inl rfl)) (c_var (i := 1) rfl (.inl rfl))) (c_var (i := 3) rfl (.inl rfl))) s_done) (s_ret (c_var (i := 2) rfl (.inl rfl)))))
theorem w__law_dots {P : Program} {w : World} {K : Fg} {mg : Str → Option Value} {base : Heap} {T : Tb} {k : Nat} {S__law_drop : Spec} (F__law_drop : FOk P w K mg base T k "_law_drop" ps__law_drop ks__law_drop S__law_drop) {S__law_any : Spec} (F__law_any : FOk P w K mg base T k "_law_any" ps__law_any ks__law_any S__law_any) {S__law_made_value : Spec} (F__law_made_value : FOk P w K mg base T k "_law_made_value" ps__law_made_value ks__law_made_value S__law_made_value) (z_min : mg "min" = none) (z_range : mg "range" = none) (z_tuple : mg "tuple" = none) (f : Addr) (cd : Value) (A : Around) (outer : List Env) (s : Shared) (H : Hp) (E : XK) (V : Wd) (Ex : EX) (hg : A.guards = some [])
    (hr : Room k (A.deeper (envOfC "_law_dots" (defScope s__law_dots) s.heap.objs.size f cd))) (hx : XT (cxN P w K mg base N__law_dots "_law_dots" (defScope s__law_dots) f cd A outer s H E) ⟨V, T, mg, none⟩ Ex) (hp : PsO (cxN P w K mg base N__law_dots "_law_dots" (defScope s__law_dots) f cd A outer s H E)) : QC (cxN P w K mg base N__law_dots "_law_dots" (defScope s__law_dots) f cd A outer s H E) ⟨V, T, mg, none⟩ Ex (defBody s__law_dots) (m__law_dots S__law_drop S__law_any S__law_made_value) := by
  have nd : (N__law_dots).Nodup := sc__law_dots.nd
  unfold m__law_dots m__law_dots_3 m__law_dots_b2 m__law_dots_1
  exact (s_par3 (i := 1) (i2 := 2) (i3 := 3) rfl nd rfl rfl rfl (by decide) (by decide) (by decide) rfl rfl rfl (a_cons (c_bin (o := .add) c_int (c_call F__law_drop hx rfl hr hg (by rfl) (a_cons (c_var (i := 0) rfl (.inr (.inl rfl))) (a_cons c_int a_nil)))) (a_cons (c_lst (q := .loc) a_nil) (a_cons (c_call F__law_any hx rfl hr hg (by rfl) (a_cons (c_var (i := 0) rfl (.inr (.inl rfl))) (a_cons (c_lst (q := .fz) (a_cons c_int (a_cons (c_neg c_int) (a_cons (c_bin (o := .sub) (c_call F__law_drop hx rfl hr hg (by rfl) (a_cons (c_var (i := 0) rfl (.inr (.inl rfl))) (a_cons c_int a_nil))) c_int) (a_cons (c_bin (o := .pow) c_int c_int) a_nil))))) a_nil))) a_nil))) (s_par (i := 4) (i2 := 5) rfl nd rfl rfl (by decide) rfl rfl (a_cons (c_lc (own := [("_law_k", 6)]) (sl := [6]) rfl nd rfl (i_r1 (by rfl) z_range (c_bin (o := .add) c_int (c_call F__law_drop hx rfl hr hg (by rfl) (a_cons (c_var (i := 0) rfl (.inr (.inl rfl))) (a_cons (c_biB (b := .min2) hr hg rfl rfl (fun _ => rfl) (by rfl) z_min bo_min (a_cons (c_var (i := 1) rfl (.inl rfl)) (a_cons c_int a_nil))) a_nil))))) (blkOk_by (by kernel_rfl)) (fun _ _ _ _ _ => (g_name (i := 6) (sl := [6]) nd rfl (.inl rfl) (.inr rfl) (by decide))) (fun _ _ _ _ _ => ts_nil) (fun _ _ _ _ _ => (c_bin (o := .sub) (c_call F__law_drop xt0 rfl hr hg (by rfl) (a_cons (c_var (i := 0) rfl (by first | exact .inr (.inl rfl) | exact .inr (.inr rfl))) (a_cons c_int a_nil))) c_int))) (a_cons (c_call F__law_drop hx rfl hr hg (by rfl) (a_cons (c_var (i := 0) rfl (.inr (.inl rfl))) (a_cons c_int a_nil))) a_nil)) (s_for (sl := [6]) hp rfl (i_r1 (by rfl) z_range (c_var (i := 1) rfl (.inl rfl))) (g_name (i := 6) (sl := [6]) nd rfl (.inl rfl) (.inl rfl) (by decide)) (s_set (i := 7) nd rfl (.inl rfl) (.inl rfl) (c_ite (t_cmp (o := .eq) hr (c_var (i := 5) rfl (.inl rfl)) c_int (nomark _)) (c_call F__law_drop hx rfl hr hg (by rfl) (a_cons (c_var (i := 0) rfl (.inr (.inl rfl))) (a_cons c_int a_nil))) (c_call F__law_made_value hx rfl hr hg (by rfl) (a_cons (c_var (i := 4) rfl (.inl rfl)) (a_cons (c_var (i := 3) rfl (.inl rfl)) a_nil)))) (s_app (c_var (i := 2) rfl (.inl rfl)) (c_tup (a_cons (c_var (i := 3) rfl (.inl rfl)) (a_cons (c_var (i := 7) rfl (.inl rfl)) a_nil))) (s_set (i := 3) nd rfl (.inl rfl) (.inl rfl) (c_bin (o := .add) (c_var (i := 3) rfl (.inl rfl)) (c_call F__law_any hx rfl hr hg (by rfl) (a_cons (c_var (i := 0) rfl (.inr (.inl rfl))) (a_cons (c_lst (q := .fz) (a_cons c_int (a_cons c_int (a_cons c_int (a_cons c_int (a_cons (c_bin (o := .add) c_int (c_call F__law_drop hx rfl hr hg (by rfl) (a_cons (c_var (i := 0) rfl (.inr (.inl rfl))) (a_cons c_int a_nil)))) a_nil)))))) a_nil)))) s_done))) (s_if (t_cmp (o := .eq) hr (c_var (i := 5) rfl (.inl rfl)) c_int (nomark _)) (s_set (i := 8) nd rfl (.inl rfl) (.inl rfl) (c_call F__law_drop hx rfl hr hg (by rfl) (a_cons (c_var (i := 0) rfl (.inr (.inl rfl))) (a_cons (c_var (i := 1) rfl (.inl rfl)) a_nil))) (s_asg (sl := []) (c_tup (a_cons (c_ix (c_ix (c_var (i := 2) rfl (.inl rfl)) (c_var (i := 8) rfl (.inl rfl)) (fun _ _ => rfl)) c_int (fun _ _ => rfl)) (a_cons (c_bin (o := .add) (c_ix (c_ix (c_var (i := 2) rfl (.inl rfl)) (c_var (i := 8) rfl (.inl rfl)) (fun _ _ => rfl)) c_int (fun _ _ => rfl)) (c_call F__law_any hx rfl hr hg (by rfl) (a_cons (c_var (i := 0) rfl (.inr (.inl rfl))) (a_cons (c_lst (q := .fz) (a_cons c_int (a_cons (c_neg c_int) (a_cons c_int (a_cons c_int (a_cons c_int a_nil)))))) a_nil)))) a_nil))) (g_sub (sl := []) (c_var (i := 2) rfl (.inl rfl)) (c_var (i := 8) rfl (.inl rfl))) s_done)) s_done (s_ret (c_tup (a_cons (c_biT (b := .tuple) hr hg rfl rfl (fun _ => rfl) (by rfl) z_tuple bo_tuple (a_cons (c_var (i := 2) rfl (.inl rfl)) a_nil)) (a_cons (c_cmp (o := .gt) hr (c_var (i := 5) rfl (.inl rfl)) c_int (nomark _)) a_nil))))))))
theorem w_is_integer {P : Program} {w : World} {K : Fg} {mg : Str → Option Value} {base : Heap} {T : Tb} {k : Nat} (z_isinstance : mg "isinstance" = none) (z_int : mg "int" = none) (z_bool : mg "bool" = none) (f : Addr) (cd : Value) (A : Around) (outer : List Env) (s : Shared) (H : Hp) (E : XK) (V : Wd) (Ex : EX) (hg : A.guards = some [])
    (hr : Room k (A.deeper (envOfC "is_integer" (defScope s_is_integer) s.heap.objs.size f cd))) (hx : XT (cxN P w K mg base N_is_integer "is_integer" (defScope s_is_integer) f cd A outer s H E) ⟨V, T, mg, none⟩ Ex) (hp : PsO (cxN P w K mg base N_is_integer "is_integer" (defScope s_is_integer) f cd A outer s H E)) : QC (cxN P w K mg base N_is_integer "is_integer" (defScope s_is_integer) f cd A outer s H E) ⟨V, T, mg, none⟩ Ex (defBody s_is_integer) (m_is_integer) := by
  have nd : (N_is_integer).Nodup := sc_is_integer.nd
  unfold m_is_integer
  exact (s_ret (c_and (c_isi (t := .int) hr hg rfl rfl (by rfl) z_isinstance (by rfl) z_int bt_int (c_var (i := 0) rfl (.inl rfl))) (c_one (c_not (c_isi (t := .bool) hr hg rfl rfl (by rfl) z_isinstance (by rfl) z_bool bt_bool (c_var (i := 0) rfl (.inl rfl))) tv_bi))))
theorem w_check_values {P : Program} {w : World} {K : Fg} {mg : Str → Option Value} {base : Heap} {T : Tb} {k : Nat} {S_is_integer : Spec} (F_is_integer : FOk P w K mg base T k "is_integer" ps_is_integer ks_is_integer S_is_integer) {t_MOST_PLACES : Nat} (z_MOST_PLACES : mg "MOST_PLACES" = some (.int 40 t_MOST_PLACES)) (z_isinstance : mg "isinstance" = none) (z_tuple : mg "tuple" = none) (z_enumerate : mg "enumerate" = none) (f : Addr) (cd : Value) (A : Around) (outer : List Env) (s : Shared) (H : Hp) (E : XK) (V : Wd) (Ex : EX) (hg : A.guards = some [])
    (hr : Room k (A.deeper (envOfC "check_values" (defScope s_check_values) s.heap.objs.size f cd))) (hx : XT (cxN P w K mg base N_check_values "check_values" (defScope s_check_values) f cd A outer s H E) ⟨V, T, mg, none⟩ Ex) (hp : PsO (cxN P w K mg base N_check_values "check_values" (defScope s_check_values) f cd A outer s H E)) : QC (cxN P w K mg base N_check_values "check_values" (defScope s_check_values) f cd A outer s H E) ⟨V, T, mg, none⟩ Ex (defBody s_check_values) (m_check_values S_is_integer) := by
  have nd : (N_check_values).Nodup := sc_check_values.nd
  unfold m_check_values
  exact (s_if (t_w (w_or (t_not (t_val (c_isi (t := .tuple) hr hg rfl rfl (by rfl) z_isinstance (by rfl) z_tuple bt_tuple (c_var (i := 0) rfl (.inl rfl))) tv_bi)) (w_or1 (t_cmp (o := .eq) hr (c_var (i := 0) rfl (.inl rfl)) (c_tup a_nil) (nomark _))))) s_nev s_done (s_for (sl := [1, 2]) hp rfl (i_en (by rfl) z_enumerate (c_var (i := 0) rfl (.inl rfl))) (g_tup (n := 2) rfl (g_cons (g_name (i := 1) (sl := [1, 2]) nd rfl (.inl rfl) (.inl rfl) (by decide)) (g_cons (g_name (i := 2) (sl := [1, 2]) nd rfl (.inl rfl) (.inl rfl) (by decide)) g_nil)) (l_name (l_name l_nil))) (s_if (t_w (w_or (t_cmp (o := .eq) hr (c_var (i := 1) rfl (.inl rfl)) (c_glob (by rfl) z_MOST_PLACES) (nomark _)) (w_or1 (t_not (t_val (c_call F_is_integer hx rfl hr hg (by rfl) (a_cons (c_var (i := 2) rfl (.inl rfl)) a_nil)) tv_call))))) s_nev s_done s_done) s_done))
theorem w_loose_pairs {P : Program} {w : World} {K : Fg} {mg : Str → Option Value} {base : Heap} {T : Tb} {k : Nat} (z_len : mg "len" = none) (z_list : mg "list" = none) (z_range : mg "range" = none) (f : Addr) (cd : Value) (A : Around) (outer : List Env) (s : Shared) (H : Hp) (E : XK) (V : Wd) (Ex : EX) (hg : A.guards = some [])
    (hr : Room k (A.deeper (envOfC "loose_pairs" (defScope s_loose_pairs) s.heap.objs.size f cd))) (hx : XT (cxN P w K mg base N_loose_pairs "loose_pairs" (defScope s_loose_pairs) f cd A outer s H E) ⟨V, T, mg, none⟩ Ex) (hp : PsO (cxN P w K mg base N_loose_pairs "loose_pairs" (defScope s_loose_pairs) f cd A outer s H E)) : QC (cxN P w K mg base N_loose_pairs "loose_pairs" (defScope s_loose_pairs) f cd A outer s H E) ⟨V, T, mg, none⟩ Ex (defBody s_loose_pairs) (m_loose_pairs) := by
  have nd : (N_loose_pairs).Nodup := sc_loose_pairs.nd
  unfold m_loose_pairs
  exact (s_set (i := 1) nd rfl (.inr rfl) (.inl rfl) (c_lRng rfl (by rfl) z_list (by rfl) z_range (c_biB (b := .len) hr hg rfl rfl (fun _ => rfl) (by rfl) z_len bo_len (a_cons (c_var (i := 0) rfl (.inr (.inl rfl))) a_nil))) (s_setLc2 (i := 2) (own := [("first", 3), ("second", 4)]) (sl := [3, 4]) (sl1 := [4]) (vs1 := [4]) rfl nd rfl rfl rfl rfl (i_val (c_var (i := 1) rfl (.inr (.inl rfl)))) (blkOk_by (by kernel_rfl)) (by decide) (fun _ _ _ _ _ => (g_name (i := 3) (sl := [3, 4]) nd rfl (.inl rfl) (.inr rfl) (by decide))) (fun _ _ _ _ _ => ts_nil) (fun _ _ _ _ _ => (i_val (c_var (i := 1) rfl (by first | exact .inr (.inl rfl) | exact .inr (.inr rfl))))) (fun _ _ _ _ _ => (g_name (i := 4) (sl := [4]) nd rfl (.inl rfl) (.inr rfl) (by decide))) (fun _ _ _ _ _ => (ts_one (t_cmp (o := .lt) hr (c_var (i := 3) rfl (by first | exact .inl rfl | exact .inr (.inl rfl))) (c_var (i := 4) rfl (by first | exact .inl rfl | exact .inr (.inl rfl))) (nomark _)))) (fun _ _ _ _ _ => (c_tup (a_cons (c_var (i := 3) rfl (by first | exact .inl rfl | exact .inr (.inl rfl))) (a_cons (c_var (i := 4) rfl (by first | exact .inl rfl | exact .inr (.inl rfl))) a_nil)))) (s_ret (c_lc (own := [("pair", 5)]) (sl := [5]) rfl nd rfl (i_val (c_var (i := 2) rfl (.inl rfl))) (blkOk_by (by kernel_rfl)) (fun _ _ _ _ _ => (g_name (i := 5) (sl := [5]) nd rfl (.inl rfl) (.inr rfl) (by decide))) (fun _ _ _ _ _ => (ts_one (t_cmp (o := .ne) hr (c_bin (o := .mod) (c_bin (o := .sub) (c_ix (c_var (i := 0) rfl (by first | exact .inr (.inl rfl) | exact .inr (.inr rfl))) (c_ix (c_var (i := 5) rfl (by first | exact .inl rfl | exact .inr (.inl rfl))) c_int (fun _ _ => rfl)) (fun _ _ => rfl)) (c_ix (c_var (i := 0) rfl (by first | exact .inr (.inl rfl) | exact .inr (.inr rfl))) (c_ix (c_var (i := 5) rfl (by first | exact .inl rfl | exact .inr (.inl rfl))) c_int (fun _ _ => rfl)) (fun _ _ => rfl))) (c_bin (o := .sub) (c_ix (c_var (i := 5) rfl (by first | exact .inl rfl | exact .inr (.inl rfl))) c_int (fun _ _ => rfl)) (c_ix (c_var (i := 5) rfl (by first | exact .inl rfl | exact .inr (.inl rfl))) c_int (fun _ _ => rfl)))) c_int (nomark _)))) (fun _ _ _ _ _ => (c_var (i := 5) rfl (by first | exact .inl rfl | exact .inr (.inl rfl))))))))
theorem w_all_steps {P : Program} {w : World} {K : Fg} {mg : Str → Option Value} {base : Heap} {T : Tb} {k : Nat} (z_list : mg "list" = none) (z_zip : mg "zip" = none) (f : Addr) (cd : Value) (A : Around) (outer : List Env) (s : Shared) (H : Hp) (E : XK) (V : Wd) (Ex : EX) (hg : A.guards = some [])
    (hr : Room k (A.deeper (envOfC "all_steps" (defScope s_all_steps) s.heap.objs.size f cd))) (hx : XT (cxN P w K mg base N_all_steps "all_steps" (defScope s_all_steps) f cd A outer s H E) ⟨V, T, mg, none⟩ Ex) (hp : PsO (cxN P w K mg base N_all_steps "all_steps" (defScope s_all_steps) f cd A outer s H E)) : QC (cxN P w K mg base N_all_steps "all_steps" (defScope s_all_steps) f cd A outer s H E) ⟨V, T, mg, none⟩ Ex (defBody s_all_steps) (m_all_steps) := by
  have nd : (N_all_steps).Nodup := sc_all_steps.nd
  unfold m_all_steps
  exact (s_par (i := 1) (i2 := 2) rfl nd rfl rfl (by decide) rfl rfl (a_cons (c_lst (q := .loc) a_nil) (a_cons (c_biT (b := .list) hr hg rfl rfl (fun _ => rfl) (by rfl) z_list bo_list (a_cons (c_var (i := 0) rfl (.inl rfl)) a_nil)) a_nil)) (s_while hp (t_cmp (o := .ne) hr (c_var (i := 2) rfl (.inl rfl)) (c_lst (q := .fz) a_nil) (nomark _)) (s_app (c_var (i := 1) rfl (.inl rfl)) (c_ix (c_var (i := 2) rfl (.inl rfl)) c_int (fun _ _ => rfl)) (s_setLc (i := 2) (own := [("before", 3), ("after", 4)]) (sl := [3, 4]) rfl nd rfl rfl rfl (i_zip (by rfl) z_zip (c_var (i := 2) rfl (.inl rfl)) (c_slc (c_var (i := 2) rfl (.inl rfl)) (o_some c_int) o_none)) (blkOk_by (by kernel_rfl)) (fun _ _ _ _ _ => (g_tup (n := 2) rfl (g_cons (g_name (i := 3) (sl := [3, 4]) nd rfl (.inl rfl) (.inr rfl) (by decide)) (g_cons (g_name (i := 4) (sl := [3, 4]) nd rfl (.inl rfl) (.inr rfl) (by decide)) g_nil)) (l_name (l_name l_nil)))) (fun _ _ _ _ _ => ts_nil) (fun _ _ _ _ _ => (c_bin (o := .sub) (c_var (i := 4) rfl (by first | exact .inl rfl | exact .inr (.inl rfl))) (c_var (i := 3) rfl (by first | exact .inl rfl | exact .inr (.inl rfl))))) s_done)) (s_ret (c_var (i := 1) rfl (.inl rfl)))))
theorem w_certify_values {P : Program} {w : World} {K : Fg} {mg : Str → Option Value} {base : Heap} {T : Tb} {k : Nat} {S_check_values : Spec} (F_check_values : FOk P w K mg base T k "check_values" ps_check_values ks_check_values S_check_values) {S_loose_pairs : Spec} (F_loose_pairs : FOk P w K mg base T k "loose_pairs" ps_loose_pairs ks_loose_pairs S_loose_pairs) {S_all_steps : Spec} (F_all_steps : FOk P w K mg base T k "all_steps" ps_all_steps ks_all_steps S_all_steps) (z_tuple : mg "tuple" = none) (f : Addr) (cd : Value) (A : Around) (outer : List Env) (s : Shared) (H : Hp) (E : XK) (V : Wd) (Ex : EX) (hg : A.guards = some [])
    (hr : Room k (A.deeper (envOfC "certify_values" (defScope s_certify_values) s.heap.objs.size f cd))) (hx : XT (cxN P w K mg base N_certify_values "certify_values" (defScope s_certify_values) f cd A outer s H E) ⟨V, T, mg, none⟩ Ex) (hp : PsO (cxN P w K mg base N_certify_values "certify_values" (defScope s_certify_values) f cd A outer s H E)) : QC (cxN P w K mg base N_certify_values "certify_values" (defScope s_certify_values) f cd A outer s H E) ⟨V, T, mg, none⟩ Ex (defBody s_certify_values) (m_certify_values S_check_values S_loose_pairs S_all_steps) := by
  have nd : (N_certify_values).Nodup := sc_certify_values.nd
  unfold m_certify_values
  exact (s_expr (c_call F_check_values hx rfl hr hg (by rfl) (a_cons (c_var (i := 0) rfl (.inl rfl)) a_nil)) (s_set (i := 1) nd rfl (.inl rfl) (.inl rfl) (c_call F_loose_pairs hx rfl hr hg (by rfl) (a_cons (c_var (i := 0) rfl (.inl rfl)) a_nil)) (s_ret (c_ite (t_cmp (o := .eq) hr (c_var (i := 1) rfl (.inl rfl)) (c_lst (q := .fz) a_nil) (nomark _)) (c_tup (a_cons (c_tup (a_cons c_str (a_cons (c_var (i := 0) rfl (.inl rfl)) a_nil))) (a_cons (c_biT (b := .tuple) hr hg rfl rfl (fun _ => rfl) (by rfl) z_tuple bo_tuple (a_cons (c_call F_all_steps hx rfl hr hg (by rfl) (a_cons (c_var (i := 0) rfl (.inl rfl)) a_nil)) a_nil)) a_nil))) (c_tup (a_cons (c_tup (a_cons c_str (a_cons (c_var (i := 0) rfl (.inl rfl)) a_nil))) (a_cons (c_ix (c_var (i := 1) rfl (.inl rfl)) c_int (fun _ _ => rfl)) a_nil)))))))
theorem w__law_loose_of {P : Program} {w : World} {K : Fg} {mg : Str → Option Value} {base : Heap} {T : Tb} {k : Nat} (z_len : mg "len" = none) (z_range : mg "range" = none) (z_int : mg "int" = none) (f : Addr) (cd : Value) (A : Around) (outer : List Env) (s : Shared) (H : Hp) (E : XK) (V : Wd) (Ex : EX) (hg : A.guards = some [])
    (hr : Room k (A.deeper (envOfC "_law_loose_of" (defScope s__law_loose_of) s.heap.objs.size f cd))) (hx : XT (cxN P w K mg base N__law_loose_of "_law_loose_of" (defScope s__law_loose_of) f cd A outer s H E) ⟨V, T, mg, none⟩ Ex) (hp : PsO (cxN P w K mg base N__law_loose_of "_law_loose_of" (defScope s__law_loose_of) f cd A outer s H E)) : QC (cxN P w K mg base N__law_loose_of "_law_loose_of" (defScope s__law_loose_of) f cd A outer s H E) ⟨V, T, mg, none⟩ Ex (defBody s__law_loose_of) (m__law_loose_of) := by
  have nd : (N__law_loose_of).Nodup := sc__law_loose_of.nd
  unfold m__law_loose_of
  exact (s_set (i := 1) nd rfl (.inl rfl) (.inl rfl) (c_lst (q := .loc) a_nil) (s_for (sl := [2]) hp rfl (i_r1 (by rfl) z_range (c_biB (b := .len) hr hg rfl rfl (fun _ => rfl) (by rfl) z_len bo_len (a_cons (c_var (i := 0) rfl (.inr (.inl rfl))) a_nil))) (g_name (i := 2) (sl := [2]) nd rfl (.inr rfl) (.inl rfl) (by decide)) (s_ext (c_var (i := 1) rfl (.inl rfl)) (c_lc (own := [("_law_i", 3)]) (sl := [3]) rfl nd rfl (i_r1 (by rfl) z_range (c_var (i := 2) rfl (.inr (.inl rfl)))) (blkOk_by (by kernel_rfl)) (fun _ _ _ _ _ => (g_name (i := 3) (sl := [3]) nd rfl (.inl rfl) (.inr rfl) (by decide))) (fun _ _ _ _ _ => (ts_one (t_cmp (o := .ne) hr (c_bin (o := .mod) (c_biT (b := .int) hr hg rfl rfl (fun _ => rfl) (by rfl) z_int bo_int (a_cons (c_bin (o := .sub) (c_ix (c_var (i := 0) rfl (by first | exact .inr (.inl rfl) | exact .inr (.inr rfl))) (c_var (i := 2) rfl (by first | exact .inr (.inl rfl) | exact .inr (.inr rfl))) (fun _ _ => rfl)) (c_ix (c_var (i := 0) rfl (by first | exact .inr (.inl rfl) | exact .inr (.inr rfl))) (c_var (i := 3) rfl (by first | exact .inl rfl | exact .inr (.inl rfl))) (fun _ _ => rfl))) a_nil)) (c_bin (o := .sub) (c_var (i := 2) rfl (by first | exact .inr (.inl rfl) | exact .inr (.inr rfl))) (c_var (i := 3) rfl (by first | exact .inl rfl | exact .inr (.inl rfl))))) c_int (nomark _)))) (fun _ _ _ _ _ => (c_tup (a_cons (c_var (i := 3) rfl (by first | exact .inl rfl | exact .inr (.inl rfl))) (a_cons (c_var (i := 2) rfl (by first | exact .inr (.inl rfl) | exact .inr (.inr rfl))) a_nil))))) s_done) (s_ret (c_var (i := 1) rfl (.inl rfl)))))
theorem w_are_whole_numbers {P : Program} {w : World} {K : Fg} {mg : Str → Option Value} {base : Heap} {T : Tb} {k : Nat} {S_is_integer : Spec} (F_is_integer : FOk P w K mg base T k "is_integer" ps_is_integer ks_is_integer S_is_integer) (z_isinstance : mg "isinstance" = none) (z_tuple : mg "tuple" = none) (z_len : mg "len" = none) (z_all : mg "all" = none) (f : Addr) (cd : Value) (A : Around) (outer : List Env) (s : Shared) (H : Hp) (E : XK) (V : Wd) (Ex : EX) (hg : A.guards = some [])
    (hr : Room k (A.deeper (envOfC "are_whole_numbers" (defScope s_are_whole_numbers) s.heap.objs.size f cd))) (hx : XT (cxN P w K mg base N_are_whole_numbers "are_whole_numbers" (defScope s_are_whole_numbers) f cd A outer s H E) ⟨V, T, mg, none⟩ Ex) (hp : PsO (cxN P w K mg base N_are_whole_numbers "are_whole_numbers" (defScope s_are_whole_numbers) f cd A outer s H E)) : QC (cxN P w K mg base N_are_whole_numbers "are_whole_numbers" (defScope s_are_whole_numbers) f cd A outer s H E) ⟨V, T, mg, none⟩ Ex (defBody s_are_whole_numbers) (m_are_whole_numbers S_is_integer) := by
  have nd : (N_are_whole_numbers).Nodup := sc_are_whole_numbers.nd
  unfold m_are_whole_numbers
  exact (s_ret (c_and (c_isi (t := .tuple) hr hg rfl rfl (by rfl) z_isinstance (by rfl) z_tuple bt_tuple (c_var (i := 0) rfl (.inl rfl))) (c_and (c_cmp (o := .eq) hr (c_biB (b := .len) hr hg rfl rfl (fun _ => rfl) (by rfl) z_len bo_len (a_cons (c_var (i := 0) rfl (.inl rfl)) a_nil)) (c_var (i := 1) rfl (.inl rfl)) (nomark _)) (c_one (c_biB (b := .all) hr hg rfl rfl (fun _ => rfl) (by rfl) z_all bo_all (a_cons (c_lc (own := [("each", 2)]) (sl := [2]) rfl nd rfl (i_val (c_var (i := 0) rfl (.inl rfl))) (blkOk_by (by kernel_rfl)) (fun _ _ _ _ _ => (g_name (i := 2) (sl := [2]) nd rfl (.inl rfl) (.inr rfl) (by decide))) (fun _ _ _ _ _ => ts_nil) (fun _ _ _ _ _ => (c_call F_is_integer xt0 rfl hr hg (by rfl) (a_cons (c_var (i := 2) rfl (by first | exact .inl rfl | exact .inr (.inl rfl))) a_nil)))) a_nil))))))
theorem w_are_values {P : Program} {w : World} {K : Fg} {mg : Str → Option Value} {base : Heap} {T : Tb} {k : Nat} {S_are_whole_numbers : Spec} (F_are_whole_numbers : FOk P w K mg base T k "are_whole_numbers" ps_are_whole_numbers ks_are_whole_numbers S_are_whole_numbers) {t_LONGEST_VALUES : Nat} (z_LONGEST_VALUES : mg "LONGEST_VALUES" = some (.int 40 t_LONGEST_VALUES)) (z_isinstance : mg "isinstance" = none) (z_tuple : mg "tuple" = none) (z_len : mg "len" = none) (f : Addr) (cd : Value) (A : Around) (outer : List Env) (s : Shared) (H : Hp) (E : XK) (V : Wd) (Ex : EX) (hg : A.guards = some [])
    (hr : Room k (A.deeper (envOfC "are_values" (defScope s_are_values) s.heap.objs.size f cd))) (hx : XT (cxN P w K mg base N_are_values "are_values" (defScope s_are_values) f cd A outer s H E) ⟨V, T, mg, none⟩ Ex) (hp : PsO (cxN P w K mg base N_are_values "are_values" (defScope s_are_values) f cd A outer s H E)) : QC (cxN P w K mg base N_are_values "are_values" (defScope s_are_values) f cd A outer s H E) ⟨V, T, mg, none⟩ Ex (defBody s_are_values) (m_are_values S_are_whole_numbers) := by
  have nd : (N_are_values).Nodup := sc_are_values.nd
  unfold m_are_values
  exact (s_ret (c_and (c_isi (t := .tuple) hr hg rfl rfl (by rfl) z_isinstance (by rfl) z_tuple bt_tuple (c_var (i := 0) rfl (.inl rfl))) (c_and (c_ch2 (o1 := .le) (o2 := .le) hr c_int (c_biB (b := .len) hr hg rfl rfl (fun _ => rfl) (by rfl) z_len bo_len (a_cons (c_var (i := 0) rfl (.inl rfl)) a_nil)) (c_glob (by rfl) z_LONGEST_VALUES)) (c_one (c_call F_are_whole_numbers hx rfl hr hg (by rfl) (a_cons (c_var (i := 0) rfl (.inl rfl)) (a_cons (c_biB (b := .len) hr hg rfl rfl (fun _ => rfl) (by rfl) z_len bo_len (a_cons (c_var (i := 0) rfl (.inl rfl)) a_nil)) a_nil)))))))
theorem w_is_pair_below {P : Program} {w : World} {K : Fg} {mg : Str → Option Value} {base : Heap} {T : Tb} {k : Nat} {S_are_whole_numbers : Spec} (F_are_whole_numbers : FOk P w K mg base T k "are_whole_numbers" ps_are_whole_numbers ks_are_whole_numbers S_are_whole_numbers) (f : Addr) (cd : Value) (A : Around) (outer : List Env) (s : Shared) (H : Hp) (E : XK) (V : Wd) (Ex : EX) (hg : A.guards = some [])
    (hr : Room k (A.deeper (envOfC "is_pair_below" (defScope s_is_pair_below) s.heap.objs.size f cd))) (hx : XT (cxN P w K mg base N_is_pair_below "is_pair_below" (defScope s_is_pair_below) f cd A outer s H E) ⟨V, T, mg, none⟩ Ex) (hp : PsO (cxN P w K mg base N_is_pair_below "is_pair_below" (defScope s_is_pair_below) f cd A outer s H E)) : QC (cxN P w K mg base N_is_pair_below "is_pair_below" (defScope s_is_pair_below) f cd A outer s H E) ⟨V, T, mg, none⟩ Ex (defBody s_is_pair_below) (m_is_pair_below S_are_whole_numbers) := by
  have nd : (N_is_pair_below).Nodup := sc_is_pair_below.nd
  unfold m_is_pair_below
  exact (s_ret (c_and (c_call F_are_whole_numbers hx rfl hr hg (by rfl) (a_cons (c_var (i := 0) rfl (.inl rfl)) (a_cons c_int a_nil))) (c_one (c_ch3 (o1 := .le) (o2 := .lt) (o3 := .lt) hr c_int (c_ix (c_var (i := 0) rfl (.inl rfl)) c_int (fun _ _ => rfl)) (c_ix (c_var (i := 0) rfl (.inl rfl)) c_int (fun _ _ => rfl)) (c_var (i := 1) rfl (.inl rfl))))))
theorem w_divides {P : Program} {w : World} {K : Fg} {mg : Str → Option Value} {base : Heap} {T : Tb} {k : Nat} (f : Addr) (cd : Value) (A : Around) (outer : List Env) (s : Shared) (H : Hp) (E : XK) (V : Wd) (Ex : EX) (hg : A.guards = some [])
    (hr : Room k (A.deeper (envOfC "divides" (defScope s_divides) s.heap.objs.size f cd))) (hx : XT (cxN P w K mg base N_divides "divides" (defScope s_divides) f cd A outer s H E) ⟨V, T, mg, none⟩ Ex) (hp : PsO (cxN P w K mg base N_divides "divides" (defScope s_divides) f cd A outer s H E)) : QC (cxN P w K mg base N_divides "divides" (defScope s_divides) f cd A outer s H E) ⟨V, T, mg, none⟩ Ex (defBody s_divides) (m_divides) := by
  have nd : (N_divides).Nodup := sc_divides.nd
  unfold m_divides
  exact (s_ret (c_ite (t_cmp (o := .eq) hr (c_var (i := 0) rfl (.inl rfl)) c_int (nomark _)) (c_cmp (o := .eq) hr (c_var (i := 1) rfl (.inl rfl)) c_int (nomark _)) (c_cmp (o := .eq) hr (c_bin (o := .mod) (c_var (i := 1) rfl (.inl rfl)) (c_var (i := 0) rfl (.inl rfl))) c_int (nomark _))))
theorem w_is_shown_of_values {P : Program} {w : World} {K : Fg} {mg : Str → Option Value} {base : Heap} {T : Tb} {k : Nat} {S_is_pair_below : Spec} (F_is_pair_below : FOk P w K mg base T k "is_pair_below" ps_is_pair_below ks_is_pair_below S_is_pair_below) {S_divides : Spec} (F_divides : FOk P w K mg base T k "divides" ps_divides ks_divides S_divides) {S_are_whole_numbers : Spec} (F_are_whole_numbers : FOk P w K mg base T k "are_whole_numbers" ps_are_whole_numbers ks_are_whole_numbers S_are_whole_numbers) (z_len : mg "len" = none) (z_list : mg "list" = none) (z_enumerate : mg "enumerate" = none) (z_range : mg "range" = none) (z_all : mg "all" = none) (z_zip : mg "zip" = none) (f : Addr) (cd : Value) (A : Around) (outer : List Env) (s : Shared) (H : Hp) (E : XK) (V : Wd) (Ex : EX) (hg : A.guards = some [])
    (hr : Room k (A.deeper (envOfC "is_shown_of_values" (defScope s_is_shown_of_values) s.heap.objs.size f cd))) (hx : XT (cxN P w K mg base N_is_shown_of_values "is_shown_of_values" (defScope s_is_shown_of_values) f cd A outer s H E) ⟨V, T, mg, none⟩ Ex) (hp : PsO (cxN P w K mg base N_is_shown_of_values "is_shown_of_values" (defScope s_is_shown_of_values) f cd A outer s H E)) : QC (cxN P w K mg base N_is_shown_of_values "is_shown_of_values" (defScope s_is_shown_of_values) f cd A outer s H E) ⟨V, T, mg, none⟩ Ex (defBody s_is_shown_of_values) (m_is_shown_of_values S_is_pair_below S_divides S_are_whole_numbers) := by
  have nd : (N_is_shown_of_values).Nodup := sc_is_shown_of_values.nd
  unfold m_is_shown_of_values
  exact (s_if (t_cmp (o := .eq) hr (c_var (i := 0) rfl (.inl rfl)) c_str (nomark _)) (s_if (t_not (t_val (c_call F_is_pair_below hx rfl hr hg (by rfl) (a_cons (c_var (i := 2) rfl (.inl rfl)) (a_cons (c_biB (b := .len) hr hg rfl rfl (fun _ => rfl) (by rfl) z_len bo_len (a_cons (c_var (i := 1) rfl (.inl rfl)) a_nil)) a_nil))) tv_call)) (s_ret c_bl) s_done (s_asg (sl := [3, 4]) (c_var (i := 2) rfl (.inl rfl)) (g_tup (n := 2) rfl (g_cons (g_name (i := 3) (sl := [3, 4]) nd rfl (.inl rfl) (.inl rfl) (by decide)) (g_cons (g_name (i := 4) (sl := [3, 4]) nd rfl (.inl rfl) (.inl rfl) (by decide)) g_nil)) (l_name (l_name l_nil))) (s_ret (c_not (c_call F_divides hx rfl hr hg (by rfl) (a_cons (c_bin (o := .sub) (c_var (i := 4) rfl (.inl rfl)) (c_var (i := 3) rfl (.inl rfl))) (a_cons (c_bin (o := .sub) (c_ix (c_var (i := 1) rfl (.inl rfl)) (c_var (i := 4) rfl (.inl rfl)) (fun _ _ => rfl)) (c_ix (c_var (i := 1) rfl (.inl rfl)) (c_var (i := 3) rfl (.inl rfl)) (fun _ _ => rfl))) a_nil))) tv_call)))) s_done (s_if (t_not (t_val (c_call F_are_whole_numbers hx rfl hr hg (by rfl) (a_cons (c_var (i := 2) rfl (.inl rfl)) (a_cons (c_biB (b := .len) hr hg rfl rfl (fun _ => rfl) (by rfl) z_len bo_len (a_cons (c_var (i := 1) rfl (.inl rfl)) a_nil)) a_nil))) tv_call)) (s_ret c_bl) s_done (s_set (i := 5) nd rfl (.inl rfl) (.inl rfl) (c_biT (b := .list) hr hg rfl rfl (fun _ => rfl) (by rfl) z_list bo_list (a_cons (c_var (i := 1) rfl (.inl rfl)) a_nil)) (s_for (sl := [6, 7]) hp rfl (i_en (by rfl) z_enumerate (c_var (i := 2) rfl (.inl rfl))) (g_tup (n := 2) rfl (g_cons (g_name (i := 6) (sl := [6, 7]) nd rfl (.inl rfl) (.inl rfl) (by decide)) (g_cons (g_name (i := 7) (sl := [6, 7]) nd rfl (.inr rfl) (.inl rfl) (by decide)) g_nil)) (l_name (l_name l_nil))) (s_if (t_w (w_or (t_cmp (o := .ne) hr (c_ix (c_var (i := 5) rfl (.inl rfl)) c_int (fun _ _ => rfl)) (c_var (i := 7) rfl (.inr (.inl rfl))) (nomark _)) (w_or1 (t_not (t_val (c_biB (b := .all) hr hg rfl rfl (fun _ => rfl) (by rfl) z_all bo_all (a_cons (c_lc (own := [("part", 8)]) (sl := [8]) rfl nd rfl (i_r2 (by rfl) z_range c_int (c_bin (o := .add) (c_var (i := 6) rfl (.inl rfl)) c_int)) (blkOk_by (by kernel_rfl)) (fun _ _ _ _ _ => (g_name (i := 8) (sl := [8]) nd rfl (.inl rfl) (.inr rfl) (by decide))) (fun _ _ _ _ _ => ts_nil) (fun _ _ _ _ _ => (c_call F_divides xt0 rfl hr hg (by rfl) (a_cons (c_var (i := 8) rfl (by first | exact .inl rfl | exact .inr (.inl rfl))) (a_cons (c_var (i := 7) rfl (by first | exact .inr (.inl rfl) | exact .inr (.inr rfl))) a_nil))))) a_nil)) tv_bi))))) (s_ret c_bl) s_done (s_setLc (i := 5) (own := [("before", 9), ("after", 10)]) (sl := [9, 10]) rfl nd rfl rfl rfl (i_zip (by rfl) z_zip (c_var (i := 5) rfl (.inl rfl)) (c_slc (c_var (i := 5) rfl (.inl rfl)) (o_some c_int) o_none)) (blkOk_by (by kernel_rfl)) (fun _ _ _ _ _ => (g_tup (n := 2) rfl (g_cons (g_name (i := 9) (sl := [9, 10]) nd rfl (.inl rfl) (.inr rfl) (by decide)) (g_cons (g_name (i := 10) (sl := [9, 10]) nd rfl (.inl rfl) (.inr rfl) (by decide)) g_nil)) (l_name (l_name l_nil)))) (fun _ _ _ _ _ => ts_nil) (fun _ _ _ _ _ => (c_bin (o := .sub) (c_var (i := 10) rfl (by first | exact .inl rfl | exact .inr (.inl rfl))) (c_var (i := 9) rfl (by first | exact .inl rfl | exact .inr (.inl rfl))))) s_done)) (s_ret c_bl)))))
theorem w_are_points {P : Program} {w : World} {K : Fg} {mg : Str → Option Value} {base : Heap} {T : Tb} {k : Nat} {S_are_whole_numbers : Spec} (F_are_whole_numbers : FOk P w K mg base T k "are_whole_numbers" ps_are_whole_numbers ks_are_whole_numbers S_are_whole_numbers) {t_LONGEST_POINTS : Nat} (z_LONGEST_POINTS : mg "LONGEST_POINTS" = some (.int 13 t_LONGEST_POINTS)) (z_isinstance : mg "isinstance" = none) (z_tuple : mg "tuple" = none) (z_len : mg "len" = none) (z_all : mg "all" = none) (z_zip : mg "zip" = none) (f : Addr) (cd : Value) (A : Around) (outer : List Env) (s : Shared) (H : Hp) (E : XK) (V : Wd) (Ex : EX) (hg : A.guards = some [])
    (hr : Room k (A.deeper (envOfC "are_points" (defScope s_are_points) s.heap.objs.size f cd))) (hx : XT (cxN P w K mg base N_are_points "are_points" (defScope s_are_points) f cd A outer s H E) ⟨V, T, mg, none⟩ Ex) (hp : PsO (cxN P w K mg base N_are_points "are_points" (defScope s_are_points) f cd A outer s H E)) : QC (cxN P w K mg base N_are_points "are_points" (defScope s_are_points) f cd A outer s H E) ⟨V, T, mg, none⟩ Ex (defBody s_are_points) (m_are_points S_are_whole_numbers) := by
  have nd : (N_are_points).Nodup := sc_are_points.nd
  unfold m_are_points
  exact (s_if (t_w (w_or (t_not (t_val (c_isi (t := .tuple) hr hg rfl rfl (by rfl) z_isinstance (by rfl) z_tuple bt_tuple (c_var (i := 0) rfl (.inl rfl))) tv_bi)) (w_or1 (t_not (t_ch2 (o1 := .le) (o2 := .le) hr c_int (c_biB (b := .len) hr hg rfl rfl (fun _ => rfl) (by rfl) z_len bo_len (a_cons (c_var (i := 0) rfl (.inl rfl)) a_nil)) (c_glob (by rfl) z_LONGEST_POINTS)))))) (s_ret c_bl) s_done (s_if (t_not (t_val (c_biB (b := .all) hr hg rfl rfl (fun _ => rfl) (by rfl) z_all bo_all (a_cons (c_lc (own := [("point", 1)]) (sl := [1]) rfl nd rfl (i_val (c_var (i := 0) rfl (.inl rfl))) (blkOk_by (by kernel_rfl)) (fun _ _ _ _ _ => (g_name (i := 1) (sl := [1]) nd rfl (.inl rfl) (.inr rfl) (by decide))) (fun _ _ _ _ _ => ts_nil) (fun _ _ _ _ _ => (c_call F_are_whole_numbers xt0 rfl hr hg (by rfl) (a_cons (c_var (i := 1) rfl (by first | exact .inl rfl | exact .inr (.inl rfl))) (a_cons c_int a_nil))))) a_nil)) tv_bi)) (s_ret c_bl) s_done (s_ret (c_biB (b := .all) hr hg rfl rfl (fun _ => rfl) (by rfl) z_all bo_all (a_cons (c_lc (own := [("before", 2), ("after", 3)]) (sl := [2, 3]) rfl nd rfl (i_zip (by rfl) z_zip (c_var (i := 0) rfl (.inl rfl)) (c_slc (c_var (i := 0) rfl (.inl rfl)) (o_some c_int) o_none)) (blkOk_by (by kernel_rfl)) (fun _ _ _ _ _ => (g_tup (n := 2) rfl (g_cons (g_name (i := 2) (sl := [2, 3]) nd rfl (.inl rfl) (.inr rfl) (by decide)) (g_cons (g_name (i := 3) (sl := [2, 3]) nd rfl (.inl rfl) (.inr rfl) (by decide)) g_nil)) (l_name (l_name l_nil)))) (fun _ _ _ _ _ => ts_nil) (fun _ _ _ _ _ => (c_cmp (o := .lt) hr (c_ix (c_var (i := 2) rfl (by first | exact .inl rfl | exact .inr (.inl rfl))) c_int (fun _ _ => rfl)) (c_ix (c_var (i := 3) rfl (by first | exact .inl rfl | exact .inr (.inl rfl))) c_int (fun _ _ => rfl)) (nomark _)))) a_nil)))))
theorem w_gap_and_product {P : Program} {w : World} {K : Fg} {mg : Str → Option Value} {base : Heap} {T : Tb} {k : Nat} (z_zip : mg "zip" = none) (f : Addr) (cd : Value) (A : Around) (outer : List Env) (s : Shared) (H : Hp) (E : XK) (V : Wd) (Ex : EX) (hg : A.guards = some [])
    (hr : Room k (A.deeper (envOfC "gap_and_product" (defScope s_gap_and_product) s.heap.objs.size f cd))) (hx : XT (cxN P w K mg base N_gap_and_product "gap_and_product" (defScope s_gap_and_product) f cd A outer s H E) ⟨V, T, mg, none⟩ Ex) (hp : PsO (cxN P w K mg base N_gap_and_product "gap_and_product" (defScope s_gap_and_product) f cd A outer s H E)) : QC (cxN P w K mg base N_gap_and_product "gap_and_product" (defScope s_gap_and_product) f cd A outer s H E) ⟨V, T, mg, none⟩ Ex (defBody s_gap_and_product) (m_gap_and_product) := by
  have nd : (N_gap_and_product).Nodup := sc_gap_and_product.nd
  unfold m_gap_and_product
  exact (s_asg (sl := [2, 3]) (c_ix (c_var (i := 0) rfl (.inl rfl)) (c_neg c_int) (fun _ _ => rfl)) (g_tup (n := 2) rfl (g_cons (g_name (i := 2) (sl := [2, 3]) nd rfl (.inl rfl) (.inl rfl) (by decide)) (g_cons (g_name (i := 3) (sl := [2, 3]) nd rfl (.inl rfl) (.inl rfl) (by decide)) g_nil)) (l_name (l_name l_nil))) (s_set (i := 4) nd rfl (.inl rfl) (.inl rfl) c_int (s_for (sl := [5, 6, 7]) hp rfl (i_zip (by rfl) z_zip (c_var (i := 0) rfl (.inl rfl)) (c_var (i := 1) rfl (.inl rfl))) (g_tup (n := 2) rfl (g_cons (g_tup (n := 2) rfl (g_cons (g_name (i := 5) (sl := [5, 6, 7]) nd rfl (.inl rfl) (.inl rfl) (by decide)) (g_cons (g_name (i := 6) (sl := [5, 6, 7]) nd rfl (.inl rfl) (.inl rfl) (by decide)) g_nil)) (l_name (l_name l_nil))) (g_cons (g_name (i := 7) (sl := [5, 6, 7]) nd rfl (.inl rfl) (.inl rfl) (by decide)) g_nil)) (l_tup (rch_name (rch_name rch_nil)) (l_name l_nil))) (s_par (i := 3) (i2 := 4) rfl nd rfl rfl (by decide) rfl rfl (a_cons (c_bin (o := .sub) (c_var (i := 3) rfl (.inl rfl)) (c_bin (o := .mul) (c_var (i := 7) rfl (.inl rfl)) (c_var (i := 4) rfl (.inl rfl)))) (a_cons (c_bin (o := .mul) (c_var (i := 4) rfl (.inl rfl)) (c_bin (o := .sub) (c_var (i := 2) rfl (.inl rfl)) (c_var (i := 5) rfl (.inl rfl)))) a_nil)) s_done) (s_ret (c_tup (a_cons (c_var (i := 3) rfl (.inl rfl)) (a_cons (c_var (i := 4) rfl (.inl rfl)) a_nil)))))))
theorem w_is_stopped_at {P : Program} {w : World} {K : Fg} {mg : Str → Option Value} {base : Heap} {T : Tb} {k : Nat} {S_gap_and_product : Spec} (F_gap_and_product : FOk P w K mg base T k "gap_and_product" ps_gap_and_product ks_gap_and_product S_gap_and_product) {S_divides : Spec} (F_divides : FOk P w K mg base T k "divides" ps_divides ks_divides S_divides) (z_range : mg "range" = none) (f : Addr) (cd : Value) (A : Around) (outer : List Env) (s : Shared) (H : Hp) (E : XK) (V : Wd) (Ex : EX) (hg : A.guards = some [])
    (hr : Room k (A.deeper (envOfC "is_stopped_at" (defScope s_is_stopped_at) s.heap.objs.size f cd))) (hx : XT (cxN P w K mg base N_is_stopped_at "is_stopped_at" (defScope s_is_stopped_at) f cd A outer s H E) ⟨V, T, mg, none⟩ Ex) (hp : PsO (cxN P w K mg base N_is_stopped_at "is_stopped_at" (defScope s_is_stopped_at) f cd A outer s H E)) : QC (cxN P w K mg base N_is_stopped_at "is_stopped_at" (defScope s_is_stopped_at) f cd A outer s H E) ⟨V, T, mg, none⟩ Ex (defBody s_is_stopped_at) (m_is_stopped_at S_gap_and_product S_divides) := by
  have nd : (N_is_stopped_at).Nodup := sc_is_stopped_at.nd
  unfold m_is_stopped_at
  exact (s_set (i := 2) nd rfl (.inl rfl) (.inl rfl) (c_lst (q := .loc) a_nil) (s_for (sl := [3]) hp rfl (i_r1 (by rfl) z_range (c_var (i := 1) rfl (.inl rfl))) (g_name (i := 3) (sl := [3]) nd rfl (.inl rfl) (.inl rfl) (by decide)) (s_asg (sl := [4, 5]) (c_call F_gap_and_product hx rfl hr hg (by rfl) (a_cons (c_slc (c_var (i := 0) rfl (.inl rfl)) o_none (o_some (c_bin (o := .add) (c_var (i := 3) rfl (.inl rfl)) c_int))) (a_cons (c_var (i := 2) rfl (.inl rfl)) a_nil))) (g_tup (n := 2) rfl (g_cons (g_name (i := 4) (sl := [4, 5]) nd rfl (.inl rfl) (.inl rfl) (by decide)) (g_cons (g_name (i := 5) (sl := [4, 5]) nd rfl (.inl rfl) (.inl rfl) (by decide)) g_nil)) (l_name (l_name l_nil))) (s_if (t_not (t_val (c_call F_divides hx rfl hr hg (by rfl) (a_cons (c_var (i := 5) rfl (.inl rfl)) (a_cons (c_var (i := 4) rfl (.inl rfl)) a_nil))) tv_call)) (s_ret c_bl) s_done (s_app (c_var (i := 2) rfl (.inl rfl)) (c_bin (o := .fdiv) (c_var (i := 4) rfl (.inl rfl)) (c_var (i := 5) rfl (.inl rfl))) s_done))) (s_asg (sl := [4, 5]) (c_call F_gap_and_product hx rfl hr hg (by rfl) (a_cons (c_slc (c_var (i := 0) rfl (.inl rfl)) o_none (o_some (c_bin (o := .add) (c_var (i := 1) rfl (.inl rfl)) c_int))) (a_cons (c_var (i := 2) rfl (.inl rfl)) a_nil))) (g_tup (n := 2) rfl (g_cons (g_name (i := 4) (sl := [4, 5]) nd rfl (.inl rfl) (.inl rfl) (by decide)) (g_cons (g_name (i := 5) (sl := [4, 5]) nd rfl (.inl rfl) (.inl rfl) (by decide)) g_nil)) (l_name (l_name l_nil))) (s_ret (c_not (c_call F_divides hx rfl hr hg (by rfl) (a_cons (c_var (i := 5) rfl (.inl rfl)) (a_cons (c_var (i := 4) rfl (.inl rfl)) a_nil))) tv_call)))))
theorem w_value_there {P : Program} {w : World} {K : Fg} {mg : Str → Option Value} {base : Heap} {T : Tb} {k : Nat} (f : Addr) (cd : Value) (A : Around) (outer : List Env) (s : Shared) (H : Hp) (E : XK) (V : Wd) (Ex : EX) (hg : A.guards = some [])
    (hr : Room k (A.deeper (envOfC "value_there" (defScope s_value_there) s.heap.objs.size f cd))) (hx : XT (cxN P w K mg base N_value_there "value_there" (defScope s_value_there) f cd A outer s H E) ⟨V, T, mg, none⟩ Ex) (hp : PsO (cxN P w K mg base N_value_there "value_there" (defScope s_value_there) f cd A outer s H E)) : QC (cxN P w K mg base N_value_there "value_there" (defScope s_value_there) f cd A outer s H E) ⟨V, T, mg, none⟩ Ex (defBody s_value_there) (m_value_there) := by
  have nd : (N_value_there).Nodup := sc_value_there.nd
  unfold m_value_there
  exact (s_asg (sl := [2, 3]) (c_tup (a_cons c_int (a_cons c_int a_nil))) (g_tup (n := 2) rfl (g_cons (g_name (i := 2) (sl := [2, 3]) nd rfl (.inl rfl) (.inl rfl) (by decide)) (g_cons (g_name (i := 3) (sl := [2, 3]) nd rfl (.inl rfl) (.inl rfl) (by decide)) g_nil)) (l_name (l_name l_nil))) (s_for (sl := [4]) hp rfl (i_val (c_var (i := 0) rfl (.inl rfl))) (g_name (i := 4) (sl := [4]) nd rfl (.inl rfl) (.inl rfl) (by decide)) (s_par (i := 2) (i2 := 3) rfl nd rfl rfl (by decide) rfl rfl (a_cons (c_bin (o := .add) (c_var (i := 2) rfl (.inl rfl)) (c_bin (o := .mul) (c_var (i := 4) rfl (.inl rfl)) (c_var (i := 3) rfl (.inl rfl)))) (a_cons (c_bin (o := .mul) (c_var (i := 3) rfl (.inl rfl)) (c_var (i := 1) rfl (.inl rfl))) a_nil)) s_done) (s_ret (c_var (i := 2) rfl (.inl rfl)))))
theorem w_is_shown_of_points {P : Program} {w : World} {K : Fg} {mg : Str → Option Value} {base : Heap} {T : Tb} {k : Nat} {S_is_integer : Spec} (F_is_integer : FOk P w K mg base T k "is_integer" ps_is_integer ks_is_integer S_is_integer) {S_is_stopped_at : Spec} (F_is_stopped_at : FOk P w K mg base T k "is_stopped_at" ps_is_stopped_at ks_is_stopped_at S_is_stopped_at) {S_are_whole_numbers : Spec} (F_are_whole_numbers : FOk P w K mg base T k "are_whole_numbers" ps_are_whole_numbers ks_are_whole_numbers S_are_whole_numbers) {S_value_there : Spec} (F_value_there : FOk P w K mg base T k "value_there" ps_value_there ks_value_there S_value_there) (z_len : mg "len" = none) (z_isinstance : mg "isinstance" = none) (z_tuple : mg "tuple" = none) (z_all : mg "all" = none) (f : Addr) (cd : Value) (A : Around) (outer : List Env) (s : Shared) (H : Hp) (E : XK) (V : Wd) (Ex : EX) (hg : A.guards = some [])
    (hr : Room k (A.deeper (envOfC "is_shown_of_points" (defScope s_is_shown_of_points) s.heap.objs.size f cd))) (hx : XT (cxN P w K mg base N_is_shown_of_points "is_shown_of_points" (defScope s_is_shown_of_points) f cd A outer s H E) ⟨V, T, mg, none⟩ Ex) (hp : PsO (cxN P w K mg base N_is_shown_of_points "is_shown_of_points" (defScope s_is_shown_of_points) f cd A outer s H E)) : QC (cxN P w K mg base N_is_shown_of_points "is_shown_of_points" (defScope s_is_shown_of_points) f cd A outer s H E) ⟨V, T, mg, none⟩ Ex (defBody s_is_shown_of_points) (m_is_shown_of_points S_is_integer S_is_stopped_at S_are_whole_numbers S_value_there) := by
  have nd : (N_is_shown_of_points).Nodup := sc_is_shown_of_points.nd
  unfold m_is_shown_of_points
  exact (s_if (t_cmp (o := .eq) hr (c_var (i := 0) rfl (.inl rfl)) c_str (nomark _)) (s_ret (c_and (c_call F_is_integer hx rfl hr hg (by rfl) (a_cons (c_var (i := 2) rfl (.inr (.inl rfl))) a_nil)) (c_and (c_ch2 (o1 := .le) (o2 := .lt) hr c_int (c_var (i := 2) rfl (.inr (.inl rfl))) (c_biB (b := .len) hr hg rfl rfl (fun _ => rfl) (by rfl) z_len bo_len (a_cons (c_var (i := 1) rfl (.inl rfl)) a_nil))) (c_one (c_call F_is_stopped_at hx rfl hr hg (by rfl) (a_cons (c_var (i := 1) rfl (.inl rfl)) (a_cons (c_var (i := 2) rfl (.inr (.inl rfl))) a_nil))))))) s_done (s_if (t_w (w_or (t_not (t_val (c_isi (t := .tuple) hr hg rfl rfl (by rfl) z_isinstance (by rfl) z_tuple bt_tuple (c_var (i := 2) rfl (.inr (.inl rfl)))) tv_bi)) (w_or1 (t_not (t_ch2 (o1 := .le) (o2 := .le) hr c_int (c_biB (b := .len) hr hg rfl rfl (fun _ => rfl) (by rfl) z_len bo_len (a_cons (c_var (i := 2) rfl (.inr (.inl rfl))) a_nil)) (c_biB (b := .len) hr hg rfl rfl (fun _ => rfl) (by rfl) z_len bo_len (a_cons (c_var (i := 1) rfl (.inl rfl)) a_nil))))))) (s_ret c_bl) s_done (s_if (t_not (t_val (c_call F_are_whole_numbers hx rfl hr hg (by rfl) (a_cons (c_var (i := 2) rfl (.inr (.inl rfl))) (a_cons (c_biB (b := .len) hr hg rfl rfl (fun _ => rfl) (by rfl) z_len bo_len (a_cons (c_var (i := 2) rfl (.inr (.inl rfl))) a_nil)) a_nil))) tv_call)) (s_ret c_bl) s_done (s_ret (c_biB (b := .all) hr hg rfl rfl (fun _ => rfl) (by rfl) z_all bo_all (a_cons (c_lc (own := [("place", 3), ("value", 4)]) (sl := [3, 4]) rfl nd rfl (i_val (c_var (i := 1) rfl (.inl rfl))) (blkOk_by (by kernel_rfl)) (fun _ _ _ _ _ => (g_tup (n := 2) rfl (g_cons (g_name (i := 3) (sl := [3, 4]) nd rfl (.inl rfl) (.inr rfl) (by decide)) (g_cons (g_name (i := 4) (sl := [3, 4]) nd rfl (.inl rfl) (.inr rfl) (by decide)) g_nil)) (l_name (l_name l_nil)))) (fun _ _ _ _ _ => ts_nil) (fun _ _ _ _ _ => (c_cmp (o := .eq) hr (c_call F_value_there xt0 rfl hr hg (by rfl) (a_cons (c_var (i := 2) rfl (by first | exact .inr (.inl rfl) | exact .inr (.inr rfl))) (a_cons (c_var (i := 3) rfl (by first | exact .inl rfl | exact .inr (.inl rfl))) a_nil))) (c_var (i := 4) rfl (by first | exact .inl rfl | exact .inr (.inl rfl))) (nomark _)))) a_nil))))))
theorem w_accepts {P : Program} {w : World} {K : Fg} {mg : Str → Option Value} {base : Heap} {T : Tb} {k : Nat} {S_are_facts : Spec} (F_are_facts : FOk P w K mg base T k "are_facts" ps_are_facts ks_are_facts S_are_facts) {S_are_whole_numbers : Spec} (F_are_whole_numbers : FOk P w K mg base T k "are_whole_numbers" ps_are_whole_numbers ks_are_whole_numbers S_are_whole_numbers) {S_is_shown_of_answer : Spec} (F_is_shown_of_answer : FOk P w K mg base T k "is_shown_of_answer" ps_is_shown_of_answer ks_is_shown_of_answer S_is_shown_of_answer) {S_is_shown_of_facts : Spec} (F_is_shown_of_facts : FOk P w K mg base T k "is_shown_of_facts" ps_is_shown_of_facts ks_is_shown_of_facts S_is_shown_of_facts) {S_are_values : Spec} (F_are_values : FOk P w K mg base T k "are_values" ps_are_values ks_are_values S_are_values) {S_is_shown_of_values : Spec} (F_is_shown_of_values : FOk P w K mg base T k "is_shown_of_values" ps_is_shown_of_values ks_is_shown_of_values S_is_shown_of_values) {S_are_points : Spec} (F_are_points : FOk P w K mg base T k "are_points" ps_are_points ks_are_points S_are_points) {S_is_shown_of_points : Spec} (F_is_shown_of_points : FOk P w K mg base T k "is_shown_of_points" ps_is_shown_of_points ks_is_shown_of_points S_is_shown_of_points) (z_isinstance : mg "isinstance" = none) (z_tuple : mg "tuple" = none) (z_len : mg "len" = none) (z_str : mg "str" = none) (f : Addr) (cd : Value) (A : Around) (outer : List Env) (s : Shared) (H : Hp) (E : XK) (V : Wd) (Ex : EX) (hg : A.guards = some [])
    (hr : Room k (A.deeper (envOfC "accepts" (defScope s_accepts) s.heap.objs.size f cd))) (hx : XT (cxN P w K mg base N_accepts "accepts" (defScope s_accepts) f cd A outer s H E) ⟨V, T, mg, none⟩ Ex) (hp : PsO (cxN P w K mg base N_accepts "accepts" (defScope s_accepts) f cd A outer s H E)) : QC (cxN P w K mg base N_accepts "accepts" (defScope s_accepts) f cd A outer s H E) ⟨V, T, mg, none⟩ Ex (defBody s_accepts) (m_accepts S_are_facts S_are_whole_numbers S_is_shown_of_answer S_is_shown_of_facts S_are_values S_is_shown_of_values S_are_points S_is_shown_of_points) := by
  have nd : (N_accepts).Nodup := sc_accepts.nd
  unfold m_accepts
  exact (s_if (t_w (w_or (t_not (t_val (c_isi (t := .tuple) hr hg rfl rfl (by rfl) z_isinstance (by rfl) z_tuple bt_tuple (c_var (i := 0) rfl (.inl rfl))) tv_bi)) (w_or (t_cmp (o := .lt) hr (c_biB (b := .len) hr hg rfl rfl (fun _ => rfl) (by rfl) z_len bo_len (a_cons (c_var (i := 0) rfl (.inl rfl)) a_nil)) c_int (nomark _)) (w_or1 (t_not (t_val (c_isi (t := .str) hr hg rfl rfl (by rfl) z_isinstance (by rfl) z_str bt_str (c_ix (c_var (i := 0) rfl (.inl rfl)) c_int (fun _ _ => rfl))) tv_bi)))))) (s_ret c_bl) s_done (s_par (i := 2) (i2 := 3) rfl nd rfl rfl (by decide) rfl rfl (a_cons (c_ix (c_var (i := 0) rfl (.inl rfl)) c_int (fun _ _ => rfl)) (a_cons (c_slc (c_var (i := 0) rfl (.inl rfl)) (o_some c_int) o_none) a_nil)) (s_if (t_cmp (o := .isIn) hr (c_var (i := 2) rfl (.inl rfl)) (c_tup (a_cons c_str (a_cons c_str a_nil))) (by with_unfolding_all rfl)) (s_if (t_w (w_or (t_cmp (o := .ne) hr (c_biB (b := .len) hr hg rfl rfl (fun _ => rfl) (by rfl) z_len bo_len (a_cons (c_var (i := 3) rfl (.inl rfl)) a_nil)) c_int (nomark _)) (w_or (t_not (t_val (c_call F_are_facts hx rfl hr hg (by rfl) (a_cons (c_ix (c_var (i := 3) rfl (.inl rfl)) c_int (fun _ _ => rfl)) a_nil)) tv_call)) (w_or (t_not (t_val (c_call F_are_whole_numbers hx rfl hr hg (by rfl) (a_cons (c_slc (c_var (i := 3) rfl (.inl rfl)) (o_some c_int) o_none) (a_cons c_int a_nil))) tv_call)) (w_or1 (t_cmp (o := .lt) hr (c_ix (c_var (i := 3) rfl (.inl rfl)) c_int (fun _ _ => rfl)) c_int (nomark _))))))) (s_ret c_bl) s_done (s_ret (c_call F_is_shown_of_answer hx rfl hr hg (by rfl) (a_cons (c_var (i := 2) rfl (.inl rfl)) (a_cons (c_ix (c_var (i := 3) rfl (.inl rfl)) c_int (fun _ _ => rfl)) (a_cons (c_slc (c_var (i := 3) rfl (.inl rfl)) (o_some c_int) o_none) (a_cons (c_var (i := 1) rfl (.inl rfl)) a_nil))))))) s_done (s_if (t_cmp (o := .ne) hr (c_biB (b := .len) hr hg rfl rfl (fun _ => rfl) (by rfl) z_len bo_len (a_cons (c_var (i := 3) rfl (.inl rfl)) a_nil)) c_int (nomark _)) (s_ret c_bl) s_done (s_if (t_cmp (o := .isIn) hr (c_var (i := 2) rfl (.inl rfl)) (c_tup (a_cons c_str (a_cons c_str a_nil))) (by with_unfolding_all rfl)) (s_ret (c_and (c_call F_are_facts hx rfl hr hg (by rfl) (a_cons (c_ix (c_var (i := 3) rfl (.inl rfl)) c_int (fun _ _ => rfl)) a_nil)) (c_one (c_call F_is_shown_of_facts hx rfl hr hg (by rfl) (a_cons (c_var (i := 2) rfl (.inl rfl)) (a_cons (c_ix (c_var (i := 3) rfl (.inl rfl)) c_int (fun _ _ => rfl)) (a_cons (c_var (i := 1) rfl (.inl rfl)) a_nil))))))) s_done (s_if (t_cmp (o := .isIn) hr (c_var (i := 2) rfl (.inl rfl)) (c_tup (a_cons c_str (a_cons c_str a_nil))) (by with_unfolding_all rfl)) (s_ret (c_and (c_call F_are_values hx rfl hr hg (by rfl) (a_cons (c_ix (c_var (i := 3) rfl (.inl rfl)) c_int (fun _ _ => rfl)) a_nil)) (c_one (c_call F_is_shown_of_values hx rfl hr hg (by rfl) (a_cons (c_var (i := 2) rfl (.inl rfl)) (a_cons (c_ix (c_var (i := 3) rfl (.inl rfl)) c_int (fun _ _ => rfl)) (a_cons (c_var (i := 1) rfl (.inl rfl)) a_nil))))))) s_done (s_if (t_cmp (o := .isIn) hr (c_var (i := 2) rfl (.inl rfl)) (c_tup (a_cons c_str (a_cons c_str a_nil))) (by with_unfolding_all rfl)) (s_ret (c_and (c_call F_are_points hx rfl hr hg (by rfl) (a_cons (c_ix (c_var (i := 3) rfl (.inl rfl)) c_int (fun _ _ => rfl)) a_nil)) (c_one (c_call F_is_shown_of_points hx rfl hr hg (by rfl) (a_cons (c_var (i := 2) rfl (.inl rfl)) (a_cons (c_ix (c_var (i := 3) rfl (.inl rfl)) c_int (fun _ _ => rfl)) (a_cons (c_var (i := 1) rfl (.inl rfl)) a_nil))))))) s_done (s_ret c_bl))))))))
theorem w__law_lots_at {P : Program} {w : World} {K : Fg} {mg : Str → Option Value} {base : Heap} {T : Tb} {k : Nat} (z_range : mg "range" = none) (f : Addr) (cd : Value) (A : Around) (outer : List Env) (s : Shared) (H : Hp) (E : XK) (V : Wd) (Ex : EX) (hg : A.guards = some [])
    (hr : Room k (A.deeper (envOfC "_law_lots_at" (defScope s__law_lots_at) s.heap.objs.size f cd))) (hx : XT (cxN P w K mg base N__law_lots_at "_law_lots_at" (defScope s__law_lots_at) f cd A outer s H E) ⟨V, T, mg, none⟩ Ex) (hp : PsO (cxN P w K mg base N__law_lots_at "_law_lots_at" (defScope s__law_lots_at) f cd A outer s H E)) : QC (cxN P w K mg base N__law_lots_at "_law_lots_at" (defScope s__law_lots_at) f cd A outer s H E) ⟨V, T, mg, none⟩ Ex (defBody s__law_lots_at) (m__law_lots_at) := by
  have nd : (N__law_lots_at).Nodup := sc__law_lots_at.nd
  unfold m__law_lots_at
  exact (s_set (i := 2) nd rfl (.inl rfl) (.inl rfl) (c_lst (q := .loc) (a_cons c_int a_nil)) (s_for (sl := [3]) hp rfl (i_r2 (by rfl) z_range c_int (c_var (i := 1) rfl (.inl rfl))) (g_name (i := 3) (sl := [3]) nd rfl (.inl rfl) (.inl rfl) (by decide)) (s_app (c_var (i := 2) rfl (.inl rfl)) (c_bin (o := .fdiv) (c_bin (o := .mul) (c_ix (c_var (i := 2) rfl (.inl rfl)) (c_neg c_int) (fun _ _ => rfl)) (c_bin (o := .add) (c_bin (o := .sub) (c_var (i := 0) rfl (.inl rfl)) (c_var (i := 3) rfl (.inl rfl))) c_int)) (c_var (i := 3) rfl (.inl rfl))) s_done) (s_ret (c_var (i := 2) rfl (.inl rfl)))))
theorem w__law_value_by {P : Program} {w : World} {K : Fg} {mg : Str → Option Value} {base : Heap} {T : Tb} {k : Nat} {S__law_lots_at : Spec} (F__law_lots_at : FOk P w K mg base T k "_law_lots_at" ps__law_lots_at ks__law_lots_at S__law_lots_at) (z_len : mg "len" = none) (z_zip : mg "zip" = none) (z_sum : mg "sum" = none) (f : Addr) (cd : Value) (A : Around) (outer : List Env) (s : Shared) (H : Hp) (E : XK) (V : Wd) (Ex : EX) (hg : A.guards = some [])
    (hr : Room k (A.deeper (envOfC "_law_value_by" (defScope s__law_value_by) s.heap.objs.size f cd))) (hx : XT (cxN P w K mg base N__law_value_by "_law_value_by" (defScope s__law_value_by) f cd A outer s H E) ⟨V, T, mg, none⟩ Ex) (hp : PsO (cxN P w K mg base N__law_value_by "_law_value_by" (defScope s__law_value_by) f cd A outer s H E)) : QC (cxN P w K mg base N__law_value_by "_law_value_by" (defScope s__law_value_by) f cd A outer s H E) ⟨V, T, mg, none⟩ Ex (defBody s__law_value_by) (m__law_value_by S__law_lots_at) := by
  have nd : (N__law_value_by).Nodup := sc__law_value_by.nd
  unfold m__law_value_by
  exact (s_ret (c_biB (b := .sum) hr hg rfl rfl (fun _ => rfl) (by rfl) z_sum bo_sum (a_cons (c_lc (own := [("_law_step_here", 2), ("_law_lots", 3)]) (sl := [2, 3]) rfl nd rfl (i_zip (by rfl) z_zip (c_var (i := 0) rfl (.inl rfl)) (c_call F__law_lots_at hx rfl hr hg (by rfl) (a_cons (c_var (i := 1) rfl (.inl rfl)) (a_cons (c_biB (b := .len) hr hg rfl rfl (fun _ => rfl) (by rfl) z_len bo_len (a_cons (c_var (i := 0) rfl (.inl rfl)) a_nil)) a_nil)))) (blkOk_by (by kernel_rfl)) (fun _ _ _ _ _ => (g_tup (n := 2) rfl (g_cons (g_name (i := 2) (sl := [2, 3]) nd rfl (.inl rfl) (.inr rfl) (by decide)) (g_cons (g_name (i := 3) (sl := [2, 3]) nd rfl (.inl rfl) (.inr rfl) (by decide)) g_nil)) (l_name (l_name l_nil)))) (fun _ _ _ _ _ => ts_nil) (fun _ _ _ _ _ => (c_bin (o := .mul) (c_var (i := 2) rfl (by first | exact .inl rfl | exact .inr (.inl rfl))) (c_var (i := 3) rfl (by first | exact .inl rfl | exact .inr (.inl rfl)))))) a_nil)))
theorem w__law_table_right {P : Program} {w : World} {K : Fg} {mg : Str → Option Value} {base : Heap} {T : Tb} {k : Nat} {S_certify_values : Spec} (F_certify_values : FOk P w K mg base T k "certify_values" ps_certify_values ks_certify_values S_certify_values) {S__law_loose_of : Spec} (F__law_loose_of : FOk P w K mg base T k "_law_loose_of" ps__law_loose_of ks__law_loose_of S__law_loose_of) {S_accepts : Spec} (F_accepts : FOk P w K mg base T k "accepts" ps_accepts ks_accepts S_accepts) {S__law_value_by : Spec} (F__law_value_by : FOk P w K mg base T k "_law_value_by" ps__law_value_by ks__law_value_by S__law_value_by) (z_isinstance : mg "isinstance" = none) (z_tuple : mg "tuple" = none) (z_len : mg "len" = none) (z_range : mg "range" = none) (z_list : mg "list" = none) (f : Addr) (cd : Value) (A : Around) (outer : List Env) (s : Shared) (H : Hp) (E : XK) (V : Wd) (Ex : EX) (hg : A.guards = some [])
    (hr : Room k (A.deeper (envOfC "_law_table_right" (defScope s__law_table_right) s.heap.objs.size f cd))) (hx : XT (cxN P w K mg base N__law_table_right "_law_table_right" (defScope s__law_table_right) f cd A outer s H E) ⟨V, T, mg, none⟩ Ex) (hp : PsO (cxN P w K mg base N__law_table_right "_law_table_right" (defScope s__law_table_right) f cd A outer s H E)) : QC (cxN P w K mg base N__law_table_right "_law_table_right" (defScope s__law_table_right) f cd A outer s H E) ⟨V, T, mg, none⟩ Ex (defBody s__law_table_right) (m__law_table_right S_certify_values S__law_loose_of S_accepts S__law_value_by) := by
  have nd : (N__law_table_right).Nodup := sc__law_table_right.nd
  unfold m__law_table_right
  exact (s_parG (is := [1, 2]) (n := 2) rfl rfl (sz _ (by decide)) (a_cons (c_call F_certify_values hx rfl hr hg (by rfl) (a_cons (c_var (i := 0) rfl (.inl rfl)) a_nil)) (a_cons (c_call F__law_loose_of hx rfl hr hg (by rfl) (a_cons (c_var (i := 0) rfl (.inl rfl)) a_nil)) a_nil)) (pgs_cons (pg_name (i := 1) nd rfl (.inr rfl) (.inl rfl)) (pgs_cons (pg_name (i := 2) nd rfl (.inl rfl) (.inl rfl)) pgs_nil)) (s_if (t_w (w_or (t_cmp (o := .ne) hr (c_callK F_certify_values hx (ks := ["values"]) (by decide +kernel) rfl hr hg (by rfl) (k_cons (c_var (i := 0) rfl (.inl rfl)) k_nil)) (c_var (i := 1) rfl (.inr (.inl rfl))) (nomark _)) (w_or1 (t_not (t_val (c_call F_accepts hx rfl hr hg (by rfl) (a_cons (c_ix (c_var (i := 1) rfl (.inr (.inl rfl))) c_int (fun _ _ => rfl)) (a_cons (c_ix (c_var (i := 1) rfl (.inr (.inl rfl))) c_int (fun _ _ => rfl)) a_nil))) tv_call))))) (s_ret c_bl) s_done (s_if (t_cmp (o := .ne) hr (c_var (i := 2) rfl (.inl rfl)) (c_lst (q := .fz) a_nil) (nomark _)) (s_ret (c_and (c_cmp (o := .eq) hr (c_ix (c_var (i := 1) rfl (.inr (.inl rfl))) c_int (fun _ _ => rfl)) (c_tup (a_cons c_str (a_cons (c_var (i := 0) rfl (.inl rfl)) a_nil))) (nomark _)) (c_one (c_cmp (o := .isIn) hr (c_ix (c_var (i := 1) rfl (.inr (.inl rfl))) c_int (fun _ _ => rfl)) (c_var (i := 2) rfl (.inl rfl)) (by with_unfolding_all rfl))))) s_done (s_if (t_w (w_or (t_cmp (o := .ne) hr (c_ix (c_var (i := 1) rfl (.inr (.inl rfl))) c_int (fun _ _ => rfl)) (c_tup (a_cons c_str (a_cons (c_var (i := 0) rfl (.inl rfl)) a_nil))) (nomark _)) (w_or (t_not (t_val (c_isi (t := .tuple) hr hg rfl rfl (by rfl) z_isinstance (by rfl) z_tuple bt_tuple (c_ix (c_var (i := 1) rfl (.inr (.inl rfl))) c_int (fun _ _ => rfl))) tv_bi)) (w_or1 (t_cmp (o := .ne) hr (c_biB (b := .len) hr hg rfl rfl (fun _ => rfl) (by rfl) z_len bo_len (a_cons (c_ix (c_var (i := 1) rfl (.inr (.inl rfl))) c_int (fun _ _ => rfl)) a_nil)) (c_biB (b := .len) hr hg rfl rfl (fun _ => rfl) (by rfl) z_len bo_len (a_cons (c_var (i := 0) rfl (.inl rfl)) a_nil)) (nomark _)))))) (s_ret c_bl) s_done (s_ret (c_cmp (o := .eq) hr (c_lc (own := [("_law_x", 3)]) (sl := [3]) rfl nd rfl (i_r1 (by rfl) z_range (c_biB (b := .len) hr hg rfl rfl (fun _ => rfl) (by rfl) z_len bo_len (a_cons (c_var (i := 0) rfl (.inl rfl)) a_nil))) (blkOk_by (by kernel_rfl)) (fun _ _ _ _ _ => (g_name (i := 3) (sl := [3]) nd rfl (.inl rfl) (.inr rfl) (by decide))) (fun _ _ _ _ _ => ts_nil) (fun _ _ _ _ _ => (c_call F__law_value_by xt0 rfl hr hg (by rfl) (a_cons (c_ix (c_var (i := 1) rfl (by first | exact .inr (.inl rfl) | exact .inr (.inr rfl))) c_int (fun _ _ => rfl)) (a_cons (c_var (i := 3) rfl (by first | exact .inl rfl | exact .inr (.inl rfl))) a_nil))))) (c_biT (b := .list) hr hg rfl rfl (fun _ => rfl) (by rfl) z_list bo_list (a_cons (c_var (i := 0) rfl (.inl rfl)) a_nil)) (nomark _)))))))
theorem w__law_shared {P : Program} {w : World} {K : Fg} {mg : Str → Option Value} {base : Heap} {T : Tb} {k : Nat} (z_abs : mg "abs" = none) (z_int : mg "int" = none) (f : Addr) (cd : Value) (A : Around) (outer : List Env) (s : Shared) (H : Hp) (E : XK) (V : Wd) (Ex : EX) (hg : A.guards = some [])
    (hr : Room k (A.deeper (envOfC "_law_shared" (defScope s__law_shared) s.heap.objs.size f cd))) (hx : XT (cxN P w K mg base N__law_shared "_law_shared" (defScope s__law_shared) f cd A outer s H E) ⟨V, T, mg, none⟩ Ex) (hp : PsO (cxN P w K mg base N__law_shared "_law_shared" (defScope s__law_shared) f cd A outer s H E)) : QC (cxN P w K mg base N__law_shared "_law_shared" (defScope s__law_shared) f cd A outer s H E) ⟨V, T, mg, none⟩ Ex (defBody s__law_shared) (m__law_shared) := by
  have nd : (N__law_shared).Nodup := sc__law_shared.nd
  unfold m__law_shared
  exact (s_par (i := 0) (i2 := 1) rfl nd rfl rfl (by decide) rfl rfl (a_cons (c_biB (b := .abs) hr hg rfl rfl (fun _ => rfl) (by rfl) z_abs bo_abs (a_cons (c_var (i := 0) rfl (.inl rfl)) a_nil)) (a_cons (c_biB (b := .abs) hr hg rfl rfl (fun _ => rfl) (by rfl) z_abs bo_abs (a_cons (c_var (i := 1) rfl (.inl rfl)) a_nil)) a_nil)) (s_while hp (t_cmp (o := .gt) hr (c_var (i := 1) rfl (.inl rfl)) c_int (nomark _)) (s_par (i := 0) (i2 := 1) rfl nd rfl rfl (by decide) rfl rfl (a_cons (c_var (i := 1) rfl (.inl rfl)) (a_cons (c_bin (o := .mod) (c_biT (b := .int) hr hg rfl rfl (fun _ => rfl) (by rfl) z_int bo_int (a_cons (c_var (i := 0) rfl (.inl rfl)) a_nil)) (c_var (i := 1) rfl (.inl rfl))) a_nil)) s_done) (s_ret (c_var (i := 0) rfl (.inl rfl)))))
theorem w__law_table {P : Program} {w : World} {K : Fg} {mg : Str → Option Value} {base : Heap} {T : Tb} {k : Nat} {S__law_drop : Spec} (F__law_drop : FOk P w K mg base T k "_law_drop" ps__law_drop ks__law_drop S__law_drop) {S__law_any : Spec} (F__law_any : FOk P w K mg base T k "_law_any" ps__law_any ks__law_any S__law_any) {S__law_shared : Spec} (F__law_shared : FOk P w K mg base T k "_law_shared" ps__law_shared ks__law_shared S__law_shared) {S__law_value_by : Spec} (F__law_value_by : FOk P w K mg base T k "_law_value_by" ps__law_value_by ks__law_value_by S__law_value_by) (z_range : mg "range" = none) (z_tuple : mg "tuple" = none) (z_max : mg "max" = none) (f : Addr) (cd : Value) (A : Around) (outer : List Env) (s : Shared) (H : Hp) (E : XK) (V : Wd) (Ex : EX) (hg : A.guards = some [])
    (hr : Room k (A.deeper (envOfC "_law_table" (defScope s__law_table) s.heap.objs.size f cd))) (hx : XT (cxN P w K mg base N__law_table "_law_table" (defScope s__law_table) f cd A outer s H E) ⟨V, T, mg, none⟩ Ex) (hp : PsO (cxN P w K mg base N__law_table "_law_table" (defScope s__law_table) f cd A outer s H E)) : QC (cxN P w K mg base N__law_table "_law_table" (defScope s__law_table) f cd A outer s H E) ⟨V, T, mg, none⟩ Ex (defBody s__law_table) (m__law_table S__law_drop S__law_any S__law_shared S__law_value_by) := by
  have nd : (N__law_table).Nodup := sc__law_table.nd
  unfold m__law_table m__law_table_1 m__law_table_3 m__law_table_b2
  exact (s_parG (is := [2, 3, 4]) (n := 3) rfl rfl (sz _ (by decide)) (a_cons (c_call F__law_drop hx rfl hr hg (by rfl) (a_cons (c_var (i := 0) rfl (.inr (.inl rfl))) (a_cons c_int a_nil))) (a_cons (c_lst (q := .loc) a_nil) (a_cons c_int a_nil))) (pgs_cons (pg_name (i := 2) nd rfl (.inl rfl) (.inl rfl)) (pgs_cons (pg_name (i := 3) nd rfl (.inr rfl) (.inl rfl)) (pgs_cons (pg_name (i := 4) nd rfl (.inl rfl) (.inl rfl)) pgs_nil))) (s_if (t_cmp (o := .eq) hr (c_var (i := 2) rfl (.inl rfl)) c_int (nomark _)) (s_ret (c_biT (b := .tuple) hr hg rfl rfl (fun _ => rfl) (by rfl) z_tuple bo_tuple (a_cons (c_lc (own := [("_law_k", 5)]) (sl := [5]) rfl nd rfl (i_r1 (by rfl) z_range (c_var (i := 1) rfl (.inl rfl))) (blkOk_by (by kernel_rfl)) (fun _ _ _ _ _ => (g_name (i := 5) (sl := [5]) nd rfl (.inl rfl) (.inr rfl) (by decide))) (fun _ _ _ _ _ => ts_nil) (fun _ _ _ _ _ => (c_call F__law_any xt0 rfl hr hg (by rfl) (a_cons (c_var (i := 0) rfl (by first | exact .inr (.inl rfl) | exact .inr (.inr rfl))) (a_cons (c_lst (q := .fz) (a_cons c_int (a_cons c_int (a_cons c_int (a_cons c_int (a_cons c_int (a_cons c_int (a_cons (c_call F__law_drop xt0 rfl hr hg (by rfl) (a_cons (c_var (i := 0) rfl (by first | exact .inr (.inl rfl) | exact .inr (.inr rfl))) (a_cons c_int a_nil))) a_nil)))))))) a_nil))))) a_nil))) s_done (s_for (sl := [5]) hp rfl (i_r1 (by rfl) z_range (c_var (i := 1) rfl (.inl rfl))) (g_name (i := 5) (sl := [5]) nd rfl (.inl rfl) (.inl rfl) (by decide)) (s_set (i := 4) nd rfl (.inl rfl) (.inl rfl) (c_bin (o := .mul) (c_bin (o := .fdiv) (c_var (i := 4) rfl (.inl rfl)) (c_call F__law_shared hx rfl hr hg (by rfl) (a_cons (c_var (i := 4) rfl (.inl rfl)) (a_cons (c_biB (b := .max2) hr hg rfl rfl (fun _ => rfl) (by rfl) z_max bo_max (a_cons (c_var (i := 5) rfl (.inl rfl)) (a_cons c_int a_nil))) a_nil)))) (c_biB (b := .max2) hr hg rfl rfl (fun _ => rfl) (by rfl) z_max bo_max (a_cons (c_var (i := 5) rfl (.inl rfl)) (a_cons c_int a_nil)))) (s_app (c_var (i := 3) rfl (.inr (.inl rfl))) (c_bin (o := .mul) (c_bin (o := .mul) (c_var (i := 4) rfl (.inl rfl)) (c_bin (o := .sub) (c_call F__law_drop hx rfl hr hg (by rfl) (a_cons (c_var (i := 0) rfl (.inr (.inl rfl))) (a_cons c_int a_nil))) c_int)) (c_call F__law_any hx rfl hr hg (by rfl) (a_cons (c_var (i := 0) rfl (.inr (.inl rfl))) (a_cons (c_lst (q := .fz) (a_cons c_int (a_cons c_int (a_cons c_int (a_cons (c_bin (o := .pow) c_int c_int) a_nil))))) a_nil)))) s_done)) (s_setLcL (i := 6) (own := [("_law_x", 8)]) (sl := [8]) rfl nd rfl rfl rfl (i_r1 (by rfl) z_range (c_var (i := 1) rfl (.inl rfl))) (blkOk_by (by kernel_rfl)) (fun _ _ _ _ _ => (g_name (i := 8) (sl := [8]) nd rfl (.inl rfl) (.inr rfl) (by decide))) (fun _ _ _ _ _ => ts_nil) (fun _ _ _ _ _ => (c_call F__law_value_by xt0 rfl hr hg (by rfl) (a_cons (c_var (i := 3) rfl (by first | exact .inr (.inl rfl) | exact .inr (.inr rfl))) (a_cons (c_var (i := 8) rfl (by first | exact .inl rfl | exact .inr (.inl rfl))) a_nil)))) (s_if (t_cmp (o := .eq) hr (c_var (i := 2) rfl (.inl rfl)) c_int (nomark _)) (s_set (i := 7) nd rfl (.inl rfl) (.inl rfl) (c_call F__law_drop hx rfl hr hg (by rfl) (a_cons (c_var (i := 0) rfl (.inr (.inl rfl))) (a_cons (c_var (i := 1) rfl (.inl rfl)) a_nil))) (s_asg (sl := []) (c_bin (o := .add) (c_ix (c_var (i := 6) rfl (.inl rfl)) (c_var (i := 7) rfl (.inl rfl)) (fun _ _ => rfl)) (c_call F__law_any hx rfl hr hg (by rfl) (a_cons (c_var (i := 0) rfl (.inr (.inl rfl))) (a_cons (c_lst (q := .fz) (a_cons c_int (a_cons (c_neg c_int) (a_cons c_int (a_cons c_int a_nil))))) a_nil)))) (g_sub (sl := []) (c_var (i := 6) rfl (.inl rfl)) (c_var (i := 7) rfl (.inl rfl))) s_done)) s_done (s_ret (c_biT (b := .tuple) hr hg rfl rfl (fun _ => rfl) (by rfl) z_tuple bo_tuple (a_cons (c_var (i := 6) rfl (.inl rfl)) a_nil))))))))
theorem w_are_integers {P : Program} {w : World} {K : Fg} {mg : Str → Option Value} {base : Heap} {T : Tb} {k : Nat} {S_is_integer : Spec} (F_is_integer : FOk P w K mg base T k "is_integer" ps_is_integer ks_is_integer S_is_integer) (z_isinstance : mg "isinstance" = none) (z_tuple : mg "tuple" = none) (z_len : mg "len" = none) (z_all : mg "all" = none) (f : Addr) (cd : Value) (A : Around) (outer : List Env) (s : Shared) (H : Hp) (E : XK) (V : Wd) (Ex : EX) (hg : A.guards = some [])
    (hr : Room k (A.deeper (envOfC "are_integers" (defScope s_are_integers) s.heap.objs.size f cd))) (hx : XT (cxN P w K mg base N_are_integers "are_integers" (defScope s_are_integers) f cd A outer s H E) ⟨V, T, mg, none⟩ Ex) (hp : PsO (cxN P w K mg base N_are_integers "are_integers" (defScope s_are_integers) f cd A outer s H E)) : QC (cxN P w K mg base N_are_integers "are_integers" (defScope s_are_integers) f cd A outer s H E) ⟨V, T, mg, none⟩ Ex (defBody s_are_integers) (m_are_integers S_is_integer) := by
  have nd : (N_are_integers).Nodup := sc_are_integers.nd
  unfold m_are_integers
  exact (s_ret (c_and (c_isi (t := .tuple) hr hg rfl rfl (by rfl) z_isinstance (by rfl) z_tuple bt_tuple (c_var (i := 0) rfl (.inl rfl))) (c_and (c_cmp (o := .eq) hr (c_biB (b := .len) hr hg rfl rfl (fun _ => rfl) (by rfl) z_len bo_len (a_cons (c_var (i := 0) rfl (.inl rfl)) a_nil)) (c_var (i := 1) rfl (.inl rfl)) (nomark _)) (c_one (c_biB (b := .all) hr hg rfl rfl (fun _ => rfl) (by rfl) z_all bo_all (a_cons (c_lc (own := [("number", 2)]) (sl := [2]) rfl nd rfl (i_val (c_var (i := 0) rfl (.inl rfl))) (blkOk_by (by kernel_rfl)) (fun _ _ _ _ _ => (g_name (i := 2) (sl := [2]) nd rfl (.inl rfl) (.inr rfl) (by decide))) (fun _ _ _ _ _ => ts_nil) (fun _ _ _ _ _ => (c_call F_is_integer xt0 rfl hr hg (by rfl) (a_cons (c_var (i := 2) rfl (by first | exact .inl rfl | exact .inr (.inl rfl))) a_nil)))) a_nil))))))
theorem w_check_points {P : Program} {w : World} {K : Fg} {mg : Str → Option Value} {base : Heap} {T : Tb} {k : Nat} {S_are_integers : Spec} (F_are_integers : FOk P w K mg base T k "are_integers" ps_are_integers ks_are_integers S_are_integers) {t_MOST_DEGREE : Nat} (z_MOST_DEGREE : mg "MOST_DEGREE" = some (.int 12 t_MOST_DEGREE)) (z_isinstance : mg "isinstance" = none) (z_tuple : mg "tuple" = none) (z_enumerate : mg "enumerate" = none) (f : Addr) (cd : Value) (A : Around) (outer : List Env) (s : Shared) (H : Hp) (E : XK) (V : Wd) (Ex : EX) (hg : A.guards = some [])
    (hr : Room k (A.deeper (envOfC "check_points" (defScope s_check_points) s.heap.objs.size f cd))) (hx : XT (cxN P w K mg base N_check_points "check_points" (defScope s_check_points) f cd A outer s H E) ⟨V, T, mg, none⟩ Ex) (hp : PsO (cxN P w K mg base N_check_points "check_points" (defScope s_check_points) f cd A outer s H E)) : QC (cxN P w K mg base N_check_points "check_points" (defScope s_check_points) f cd A outer s H E) ⟨V, T, mg, none⟩ Ex (defBody s_check_points) (m_check_points S_are_integers) := by
  have nd : (N_check_points).Nodup := sc_check_points.nd
  unfold m_check_points
  exact (s_if (t_w (w_or (t_not (t_val (c_isi (t := .tuple) hr hg rfl rfl (by rfl) z_isinstance (by rfl) z_tuple bt_tuple (c_var (i := 0) rfl (.inl rfl))) tv_bi)) (w_or1 (t_cmp (o := .eq) hr (c_var (i := 0) rfl (.inl rfl)) (c_tup a_nil) (nomark _))))) s_nev s_done (s_for (sl := [1, 2]) hp rfl (i_en (by rfl) z_enumerate (c_var (i := 0) rfl (.inl rfl))) (g_tup (n := 2) rfl (g_cons (g_name (i := 1) (sl := [1, 2]) nd rfl (.inl rfl) (.inl rfl) (by decide)) (g_cons (g_name (i := 2) (sl := [1, 2]) nd rfl (.inl rfl) (.inl rfl) (by decide)) g_nil)) (l_name (l_name l_nil))) (s_if (t_w (w_or (t_cmp (o := .gt) hr (c_var (i := 1) rfl (.inl rfl)) (c_glob (by rfl) z_MOST_DEGREE) (nomark _)) (w_or (t_not (t_val (c_call F_are_integers hx rfl hr hg (by rfl) (a_cons (c_var (i := 2) rfl (.inl rfl)) (a_cons c_int a_nil))) tv_call)) (w_or1 (t_w (w_and (t_cmp (o := .gt) hr (c_var (i := 1) rfl (.inl rfl)) c_int (nomark _)) (w_and1 (t_cmp (o := .ge) hr (c_ix (c_ix (c_var (i := 0) rfl (.inl rfl)) (c_bin (o := .sub) (c_var (i := 1) rfl (.inl rfl)) c_int) (fun _ _ => rfl)) c_int (fun _ _ => rfl)) (c_ix (c_var (i := 2) rfl (.inl rfl)) c_int (fun _ _ => rfl)) (nomark _))))))))) s_nev s_done s_done) s_done))
theorem w_whole_value {P : Program} {w : World} {K : Fg} {mg : Str → Option Value} {base : Heap} {T : Tb} {k : Nat} (z_list : mg "list" = none) (z_reversed : mg "reversed" = none) (f : Addr) (cd : Value) (A : Around) (outer : List Env) (s : Shared) (H : Hp) (E : XK) (V : Wd) (Ex : EX) (hg : A.guards = some [])
    (hr : Room k (A.deeper (envOfC "whole_value" (defScope s_whole_value) s.heap.objs.size f cd))) (hx : XT (cxN P w K mg base N_whole_value "whole_value" (defScope s_whole_value) f cd A outer s H E) ⟨V, T, mg, none⟩ Ex) (hp : PsO (cxN P w K mg base N_whole_value "whole_value" (defScope s_whole_value) f cd A outer s H E)) : QC (cxN P w K mg base N_whole_value "whole_value" (defScope s_whole_value) f cd A outer s H E) ⟨V, T, mg, none⟩ Ex (defBody s_whole_value) (m_whole_value) := by
  have nd : (N_whole_value).Nodup := sc_whole_value.nd
  unfold m_whole_value
  exact (s_set (i := 2) nd rfl (.inl rfl) (.inl rfl) c_int (s_for (sl := [3]) hp rfl (i_rev (by rfl) z_reversed (c_biT (b := .list) hr hg rfl rfl (fun _ => rfl) (by rfl) z_list bo_list (a_cons (c_var (i := 0) rfl (.inl rfl)) a_nil))) (g_name (i := 3) (sl := [3]) nd rfl (.inl rfl) (.inl rfl) (by decide)) (s_set (i := 2) nd rfl (.inl rfl) (.inl rfl) (c_bin (o := .add) (c_bin (o := .mul) (c_var (i := 2) rfl (.inl rfl)) (c_var (i := 1) rfl (.inl rfl))) (c_var (i := 3) rfl (.inl rfl))) s_done) (s_ret (c_var (i := 2) rfl (.inl rfl)))))
theorem w_grown {P : Program} {w : World} {K : Fg} {mg : Str → Option Value} {base : Heap} {T : Tb} {k : Nat} (z_zip : mg "zip" = none) (f : Addr) (cd : Value) (A : Around) (outer : List Env) (s : Shared) (H : Hp) (E : XK) (V : Wd) (Ex : EX) (hg : A.guards = some [])
    (hr : Room k (A.deeper (envOfC "grown" (defScope s_grown) s.heap.objs.size f cd))) (hx : XT (cxN P w K mg base N_grown "grown" (defScope s_grown) f cd A outer s H E) ⟨V, T, mg, none⟩ Ex) (hp : PsO (cxN P w K mg base N_grown "grown" (defScope s_grown) f cd A outer s H E)) : QC (cxN P w K mg base N_grown "grown" (defScope s_grown) f cd A outer s H E) ⟨V, T, mg, none⟩ Ex (defBody s_grown) (m_grown) := by
  have nd : (N_grown).Nodup := sc_grown.nd
  unfold m_grown
  exact (s_ret (c_lc (own := [("number", 3), ("more", 4)]) (sl := [3, 4]) rfl nd rfl (i_zip (by rfl) z_zip (c_lstS (q := .fz) (as_star (c_var (i := 0) rfl (.inl rfl)) (as_cons c_int as_nil))) (c_var (i := 1) rfl (.inl rfl))) (blkOk_by (by kernel_rfl)) (fun _ _ _ _ _ => (g_tup (n := 2) rfl (g_cons (g_name (i := 3) (sl := [3, 4]) nd rfl (.inl rfl) (.inr rfl) (by decide)) (g_cons (g_name (i := 4) (sl := [3, 4]) nd rfl (.inl rfl) (.inr rfl) (by decide)) g_nil)) (l_name (l_name l_nil)))) (fun _ _ _ _ _ => ts_nil) (fun _ _ _ _ _ => (c_bin (o := .add) (c_var (i := 3) rfl (by first | exact .inl rfl | exact .inr (.inl rfl))) (c_bin (o := .mul) (c_var (i := 2) rfl (by first | exact .inr (.inl rfl) | exact .inr (.inr rfl))) (c_var (i := 4) rfl (by first | exact .inl rfl | exact .inr (.inl rfl))))))))
theorem w_stretched {P : Program} {w : World} {K : Fg} {mg : Str → Option Value} {base : Heap} {T : Tb} {k : Nat} (z_zip : mg "zip" = none) (f : Addr) (cd : Value) (A : Around) (outer : List Env) (s : Shared) (H : Hp) (E : XK) (V : Wd) (Ex : EX) (hg : A.guards = some [])
    (hr : Room k (A.deeper (envOfC "stretched" (defScope s_stretched) s.heap.objs.size f cd))) (hx : XT (cxN P w K mg base N_stretched "stretched" (defScope s_stretched) f cd A outer s H E) ⟨V, T, mg, none⟩ Ex) (hp : PsO (cxN P w K mg base N_stretched "stretched" (defScope s_stretched) f cd A outer s H E)) : QC (cxN P w K mg base N_stretched "stretched" (defScope s_stretched) f cd A outer s H E) ⟨V, T, mg, none⟩ Ex (defBody s_stretched) (m_stretched) := by
  have nd : (N_stretched).Nodup := sc_stretched.nd
  unfold m_stretched
  exact (s_ret (c_lc (own := [("before", 2), ("here", 3)]) (sl := [2, 3]) rfl nd rfl (i_zip (by rfl) z_zip (c_lstS (q := .fz) (as_cons c_int (as_star (c_var (i := 0) rfl (.inl rfl)) as_nil))) (c_lstS (q := .fz) (as_star (c_var (i := 0) rfl (.inl rfl)) (as_cons c_int as_nil)))) (blkOk_by (by kernel_rfl)) (fun _ _ _ _ _ => (g_tup (n := 2) rfl (g_cons (g_name (i := 2) (sl := [2, 3]) nd rfl (.inl rfl) (.inr rfl) (by decide)) (g_cons (g_name (i := 3) (sl := [2, 3]) nd rfl (.inl rfl) (.inr rfl) (by decide)) g_nil)) (l_name (l_name l_nil)))) (fun _ _ _ _ _ => ts_nil) (fun _ _ _ _ _ => (c_bin (o := .sub) (c_var (i := 2) rfl (by first | exact .inl rfl | exact .inr (.inl rfl))) (c_bin (o := .mul) (c_var (i := 1) rfl (by first | exact .inr (.inl rfl) | exact .inr (.inr rfl))) (c_var (i := 3) rfl (by first | exact .inl rfl | exact .inr (.inl rfl))))))))
theorem w_whole_through {P : Program} {w : World} {K : Fg} {mg : Str → Option Value} {base : Heap} {T : Tb} {k : Nat} {S_whole_value : Spec} (F_whole_value : FOk P w K mg base T k "whole_value" ps_whole_value ks_whole_value S_whole_value) {S_grown : Spec} (F_grown : FOk P w K mg base T k "grown" ps_grown ks_grown S_grown) {S_stretched : Spec} (F_stretched : FOk P w K mg base T k "stretched" ps_stretched ks_stretched S_stretched) (z_enumerate : mg "enumerate" = none) (z_divmod : mg "divmod" = none) (z_len : mg "len" = none) (f : Addr) (cd : Value) (A : Around) (outer : List Env) (s : Shared) (H : Hp) (E : XK) (V : Wd) (Ex : EX) (hg : A.guards = some [])
    (hr : Room k (A.deeper (envOfC "whole_through" (defScope s_whole_through) s.heap.objs.size f cd))) (hx : XT (cxN P w K mg base N_whole_through "whole_through" (defScope s_whole_through) f cd A outer s H E) ⟨V, T, mg, none⟩ Ex) (hp : PsO (cxN P w K mg base N_whole_through "whole_through" (defScope s_whole_through) f cd A outer s H E)) : QC (cxN P w K mg base N_whole_through "whole_through" (defScope s_whole_through) f cd A outer s H E) ⟨V, T, mg, none⟩ Ex (defBody s_whole_through) (m_whole_through S_whole_value S_grown S_stretched) := by
  have nd : (N_whole_through).Nodup := sc_whole_through.nd
  unfold m_whole_through
  exact (s_par (i := 1) (i2 := 2) rfl nd rfl rfl (by decide) rfl rfl (a_cons (c_lst (q := .fz) a_nil) (a_cons (c_lst (q := .fz) (a_cons c_int a_nil)) a_nil)) (s_for (sl := [3, 4, 5]) hp rfl (i_en (by rfl) z_enumerate (c_var (i := 0) rfl (.inl rfl))) (g_tup (n := 2) rfl (g_cons (g_name (i := 3) (sl := [3, 4, 5]) nd rfl (.inl rfl) (.inl rfl) (by decide)) (g_cons (g_tup (n := 2) rfl (g_cons (g_name (i := 4) (sl := [3, 4, 5]) nd rfl (.inl rfl) (.inl rfl) (by decide)) (g_cons (g_name (i := 5) (sl := [3, 4, 5]) nd rfl (.inl rfl) (.inl rfl) (by decide)) g_nil)) (l_name (l_name l_nil))) g_nil)) (l_name (l_tup (rch_name (rch_name rch_nil)) l_nil))) (s_asg (sl := [6, 7]) (c_biB (b := .divmod) hr hg rfl rfl (fun _ => rfl) (by rfl) z_divmod bo_divmod (a_cons (c_bin (o := .sub) (c_var (i := 5) rfl (.inl rfl)) (c_call F_whole_value hx rfl hr hg (by rfl) (a_cons (c_var (i := 1) rfl (.inl rfl)) (a_cons (c_var (i := 4) rfl (.inl rfl)) a_nil)))) (a_cons (c_call F_whole_value hx rfl hr hg (by rfl) (a_cons (c_var (i := 2) rfl (.inl rfl)) (a_cons (c_var (i := 4) rfl (.inl rfl)) a_nil))) a_nil))) (g_tup (n := 2) rfl (g_cons (g_name (i := 6) (sl := [6, 7]) nd rfl (.inl rfl) (.inl rfl) (by decide)) (g_cons (g_name (i := 7) (sl := [6, 7]) nd rfl (.inl rfl) (.inl rfl) (by decide)) g_nil)) (l_name (l_name l_nil))) (s_if (t_cmp (o := .ne) hr (c_var (i := 7) rfl (.inl rfl)) c_int (nomark _)) (s_ret (c_tup (a_cons (c_var (i := 1) rfl (.inl rfl)) (a_cons (c_var (i := 3) rfl (.inl rfl)) a_nil)))) s_done (s_par (i := 1) (i2 := 2) rfl nd rfl rfl (by decide) rfl rfl (a_cons (c_call F_grown hx rfl hr hg (by rfl) (a_cons (c_var (i := 1) rfl (.inl rfl)) (a_cons (c_var (i := 2) rfl (.inl rfl)) (a_cons (c_var (i := 6) rfl (.inl rfl)) a_nil)))) (a_cons (c_call F_stretched hx rfl hr hg (by rfl) (a_cons (c_var (i := 2) rfl (.inl rfl)) (a_cons (c_var (i := 4) rfl (.inl rfl)) a_nil))) a_nil)) s_done))) (s_ret (c_tup (a_cons (c_var (i := 1) rfl (.inl rfl)) (a_cons (c_biB (b := .len) hr hg rfl rfl (fun _ => rfl) (by rfl) z_len bo_len (a_cons (c_var (i := 0) rfl (.inl rfl)) a_nil)) a_nil))))))
theorem w_trimmed {P : Program} {w : World} {K : Fg} {mg : Str → Option Value} {base : Heap} {T : Tb} {k : Nat} (z_list : mg "list" = none) (z_len : mg "len" = none) (z_tuple : mg "tuple" = none) (f : Addr) (cd : Value) (A : Around) (outer : List Env) (s : Shared) (H : Hp) (E : XK) (V : Wd) (Ex : EX) (hg : A.guards = some [])
    (hr : Room k (A.deeper (envOfC "trimmed" (defScope s_trimmed) s.heap.objs.size f cd))) (hx : XT (cxN P w K mg base N_trimmed "trimmed" (defScope s_trimmed) f cd A outer s H E) ⟨V, T, mg, none⟩ Ex) (hp : PsO (cxN P w K mg base N_trimmed "trimmed" (defScope s_trimmed) f cd A outer s H E)) : QC (cxN P w K mg base N_trimmed "trimmed" (defScope s_trimmed) f cd A outer s H E) ⟨V, T, mg, none⟩ Ex (defBody s_trimmed) (m_trimmed) := by
  have nd : (N_trimmed).Nodup := sc_trimmed.nd
  unfold m_trimmed
  exact (s_set (i := 1) nd rfl (.inl rfl) (.inl rfl) (c_lstOf (q := .loc) (by rfl) z_list (a_cons (c_var (i := 0) rfl (.inl rfl)) a_nil)) (s_while hp (t_w (w_and (t_cmp (o := .gt) hr (c_biB (b := .len) hr hg rfl rfl (fun _ => rfl) (by rfl) z_len bo_len (a_cons (c_var (i := 1) rfl (.inl rfl)) a_nil)) c_int (nomark _)) (w_and1 (t_cmp (o := .eq) hr (c_ix (c_var (i := 1) rfl (.inl rfl)) (c_neg c_int) (fun _ _ => rfl)) c_int (nomark _))))) (s_pop (c_var (i := 1) rfl (.inl rfl)) s_done) (s_ret (c_biT (b := .tuple) hr hg rfl rfl (fun _ => rfl) (by rfl) z_tuple bo_tuple (a_cons (c_var (i := 1) rfl (.inl rfl)) a_nil)))))
theorem w_certify_points {P : Program} {w : World} {K : Fg} {mg : Str → Option Value} {base : Heap} {T : Tb} {k : Nat} {S_check_points : Spec} (F_check_points : FOk P w K mg base T k "check_points" ps_check_points ks_check_points S_check_points) {S_whole_through : Spec} (F_whole_through : FOk P w K mg base T k "whole_through" ps_whole_through ks_whole_through S_whole_through) {S_trimmed : Spec} (F_trimmed : FOk P w K mg base T k "trimmed" ps_trimmed ks_trimmed S_trimmed) (z_len : mg "len" = none) (f : Addr) (cd : Value) (A : Around) (outer : List Env) (s : Shared) (H : Hp) (E : XK) (V : Wd) (Ex : EX) (hg : A.guards = some [])
    (hr : Room k (A.deeper (envOfC "certify_points" (defScope s_certify_points) s.heap.objs.size f cd))) (hx : XT (cxN P w K mg base N_certify_points "certify_points" (defScope s_certify_points) f cd A outer s H E) ⟨V, T, mg, none⟩ Ex) (hp : PsO (cxN P w K mg base N_certify_points "certify_points" (defScope s_certify_points) f cd A outer s H E)) : QC (cxN P w K mg base N_certify_points "certify_points" (defScope s_certify_points) f cd A outer s H E) ⟨V, T, mg, none⟩ Ex (defBody s_certify_points) (m_certify_points S_check_points S_whole_through S_trimmed) := by
  have nd : (N_certify_points).Nodup := sc_certify_points.nd
  unfold m_certify_points
  exact (s_expr (c_call F_check_points hx rfl hr hg (by rfl) (a_cons (c_var (i := 0) rfl (.inl rfl)) a_nil)) (s_asg (sl := [1, 2]) (c_call F_whole_through hx rfl hr hg (by rfl) (a_cons (c_var (i := 0) rfl (.inl rfl)) a_nil)) (g_tup (n := 2) rfl (g_cons (g_name (i := 1) (sl := [1, 2]) nd rfl (.inl rfl) (.inl rfl) (by decide)) (g_cons (g_name (i := 2) (sl := [1, 2]) nd rfl (.inl rfl) (.inl rfl) (by decide)) g_nil)) (l_name (l_name l_nil))) (s_ret (c_ite (t_cmp (o := .eq) hr (c_var (i := 2) rfl (.inl rfl)) (c_biB (b := .len) hr hg rfl rfl (fun _ => rfl) (by rfl) z_len bo_len (a_cons (c_var (i := 0) rfl (.inl rfl)) a_nil)) (nomark _)) (c_tup (a_cons (c_tup (a_cons c_str (a_cons (c_var (i := 0) rfl (.inl rfl)) a_nil))) (a_cons (c_call F_trimmed hx rfl hr hg (by rfl) (a_cons (c_var (i := 1) rfl (.inl rfl)) a_nil)) a_nil))) (c_tup (a_cons (c_tup (a_cons c_str (a_cons (c_var (i := 0) rfl (.inl rfl)) a_nil))) (a_cons (c_var (i := 2) rfl (.inl rfl)) a_nil)))))))
theorem w__law_dots_right {P : Program} {w : World} {K : Fg} {mg : Str → Option Value} {base : Heap} {T : Tb} {k : Nat} {S_certify_points : Spec} (F_certify_points : FOk P w K mg base T k "certify_points" ps_certify_points ks_certify_points S_certify_points) {S_accepts : Spec} (F_accepts : FOk P w K mg base T k "accepts" ps_accepts ks_accepts S_accepts) {S__law_made_value : Spec} (F__law_made_value : FOk P w K mg base T k "_law_made_value" ps__law_made_value ks__law_made_value S__law_made_value) (z_len : mg "len" = none) (z_range : mg "range" = none) (z_int : mg "int" = none) (f : Addr) (cd : Value) (A : Around) (outer : List Env) (s : Shared) (H : Hp) (E : XK) (V : Wd) (Ex : EX) (hg : A.guards = some [])
    (hr : Room k (A.deeper (envOfC "_law_dots_right" (defScope s__law_dots_right) s.heap.objs.size f cd))) (hx : XT (cxN P w K mg base N__law_dots_right "_law_dots_right" (defScope s__law_dots_right) f cd A outer s H E) ⟨V, T, mg, none⟩ Ex) (hp : PsO (cxN P w K mg base N__law_dots_right "_law_dots_right" (defScope s__law_dots_right) f cd A outer s H E)) : QC (cxN P w K mg base N__law_dots_right "_law_dots_right" (defScope s__law_dots_right) f cd A outer s H E) ⟨V, T, mg, none⟩ Ex (defBody s__law_dots_right) (m__law_dots_right S_certify_points S_accepts S__law_made_value) := by
  have nd : (N__law_dots_right).Nodup := sc__law_dots_right.nd
  unfold m__law_dots_right m__law_dots_right_1 m__law_dots_right_2 m__law_dots_right_3 m__law_dots_right_b5 m__law_dots_right_b4
  exact (s_set (i := 2) nd rfl (.inr rfl) (.inl rfl) (c_call F_certify_points hx rfl hr hg (by rfl) (a_cons (c_var (i := 0) rfl (.inl rfl)) a_nil)) (s_if (t_w (w_or (t_cmp (o := .ne) hr (c_callK F_certify_points hx (ks := ["points"]) (by decide +kernel) rfl hr hg (by rfl) (k_cons (c_var (i := 0) rfl (.inl rfl)) k_nil)) (c_var (i := 2) rfl (.inr (.inl rfl))) (nomark _)) (w_or1 (t_not (t_val (c_call F_accepts hx rfl hr hg (by rfl) (a_cons (c_ix (c_var (i := 2) rfl (.inr (.inl rfl))) c_int (fun _ _ => rfl)) (a_cons (c_ix (c_var (i := 2) rfl (.inr (.inl rfl))) c_int (fun _ _ => rfl)) a_nil))) tv_call))))) (s_ret c_bl) s_done (s_if (t_cmp (o := .eq) hr (c_ix (c_var (i := 2) rfl (.inr (.inl rfl))) c_int (fun _ _ => rfl)) (c_tup (a_cons c_str (a_cons (c_var (i := 0) rfl (.inl rfl)) a_nil))) (nomark _)) (s_ret (c_cmp (o := .eq) hr (c_lc (own := [("_law_spot", 6), ("_law_low", 7)]) (sl := [6, 7]) rfl nd rfl (i_val (c_var (i := 0) rfl (.inl rfl))) (blkOk_by (by kernel_rfl)) (fun _ _ _ _ _ => (g_tup (n := 2) rfl (g_cons (g_name (i := 6) (sl := [6, 7]) nd rfl (.inl rfl) (.inr rfl) (by decide)) (g_cons (g_name (i := 7) (sl := [6, 7]) nd rfl (.inl rfl) (.inr rfl) (by decide)) g_nil)) (l_name (l_name l_nil)))) (fun _ _ _ _ _ => ts_nil) (fun _ _ _ _ _ => (c_call F__law_made_value xt0 rfl hr hg (by rfl) (a_cons (c_ix (c_var (i := 2) rfl (by first | exact .inr (.inl rfl) | exact .inr (.inr rfl))) c_int (fun _ _ => rfl)) (a_cons (c_var (i := 6) rfl (by first | exact .inl rfl | exact .inr (.inl rfl))) a_nil))))) (c_lc (own := [("_law_spot", 6), ("_law_low", 7)]) (sl := [6, 7]) rfl nd rfl (i_val (c_var (i := 0) rfl (.inl rfl))) (blkOk_by (by kernel_rfl)) (fun _ _ _ _ _ => (g_tup (n := 2) rfl (g_cons (g_name (i := 6) (sl := [6, 7]) nd rfl (.inl rfl) (.inr rfl) (by decide)) (g_cons (g_name (i := 7) (sl := [6, 7]) nd rfl (.inl rfl) (.inr rfl) (by decide)) g_nil)) (l_name (l_name l_nil)))) (fun _ _ _ _ _ => ts_nil) (fun _ _ _ _ _ => (c_var (i := 7) rfl (by first | exact .inl rfl | exact .inr (.inl rfl))))) (nomark _))) s_done (s_if (t_w (w_or (t_val (c_var (i := 1) rfl (.inl rfl)) tv_var) (w_or (t_cmp (o := .ne) hr (c_ix (c_var (i := 2) rfl (.inr (.inl rfl))) c_int (fun _ _ => rfl)) (c_tup (a_cons c_str (a_cons (c_var (i := 0) rfl (.inl rfl)) a_nil))) (nomark _)) (w_or1 (t_not (t_ch2 (o1 := .lt) (o2 := .lt) hr c_int (c_ix (c_var (i := 2) rfl (.inr (.inl rfl))) c_int (fun _ _ => rfl)) (c_biB (b := .len) hr hg rfl rfl (fun _ => rfl) (by rfl) z_len bo_len (a_cons (c_var (i := 0) rfl (.inl rfl)) a_nil)))))))) (s_ret c_bl) s_done (s_for (sl := [3]) hp rfl (i_r1 (by rfl) z_range (c_ix (c_var (i := 2) rfl (.inr (.inl rfl))) c_int (fun _ _ => rfl))) (g_name (i := 3) (sl := [3]) nd rfl (.inl rfl) (.inl rfl) (by decide)) (s_for (sl := [4]) hp rfl (i_r1 (by rfl) z_range (c_var (i := 3) rfl (.inl rfl))) (g_name (i := 4) (sl := [4]) nd rfl (.inl rfl) (.inl rfl) (by decide)) (s_set (i := 5) nd rfl (.inl rfl) (.inl rfl) (c_bin (o := .sub) (c_ix (c_ix (c_var (i := 0) rfl (.inl rfl)) (c_var (i := 3) rfl (.inl rfl)) (fun _ _ => rfl)) c_int (fun _ _ => rfl)) (c_ix (c_ix (c_var (i := 0) rfl (.inl rfl)) (c_var (i := 4) rfl (.inl rfl)) (fun _ _ => rfl)) c_int (fun _ _ => rfl))) (s_if (t_cmp (o := .ne) hr (c_bin (o := .mod) (c_biT (b := .int) hr hg rfl rfl (fun _ => rfl) (by rfl) z_int bo_int (a_cons (c_bin (o := .sub) (c_ix (c_ix (c_var (i := 0) rfl (.inl rfl)) (c_var (i := 3) rfl (.inl rfl)) (fun _ _ => rfl)) c_int (fun _ _ => rfl)) (c_ix (c_ix (c_var (i := 0) rfl (.inl rfl)) (c_var (i := 4) rfl (.inl rfl)) (fun _ _ => rfl)) c_int (fun _ _ => rfl))) a_nil)) (c_var (i := 5) rfl (.inl rfl))) c_int (nomark _)) (s_ret c_bl) s_done s_done)) s_done) (s_ret (c_cmp (o := .eq) hr (c_ix (c_ix (c_call F_certify_points hx rfl hr hg (by rfl) (a_cons (c_slc (c_var (i := 0) rfl (.inl rfl)) o_none (o_some (c_ix (c_var (i := 2) rfl (.inr (.inl rfl))) c_int (fun _ _ => rfl)))) a_nil)) c_int (fun _ _ => rfl)) c_int (fun _ _ => rfl)) c_str (nomark _))))))))
theorem w__law_right {P : Program} {w : World} {K : Fg} {mg : Str → Option Value} {base : Heap} {T : Tb} {k : Nat} {S__law_any : Spec} (F__law_any : FOk P w K mg base T k "_law_any" ps__law_any ks__law_any S__law_any) {S__law_drop : Spec} (F__law_drop : FOk P w K mg base T k "_law_drop" ps__law_drop ks__law_drop S__law_drop) {S__law_dots : Spec} (F__law_dots : FOk P w K mg base T k "_law_dots" ps__law_dots ks__law_dots S__law_dots) {S__law_table_right : Spec} (F__law_table_right : FOk P w K mg base T k "_law_table_right" ps__law_table_right ks__law_table_right S__law_table_right) {S__law_table : Spec} (F__law_table : FOk P w K mg base T k "_law_table" ps__law_table ks__law_table S__law_table) {S__law_dots_right : Spec} (F__law_dots_right : FOk P w K mg base T k "_law_dots_right" ps__law_dots_right ks__law_dots_right S__law_dots_right) (z_range : mg "range" = none) (f : Addr) (cd : Value) (A : Around) (outer : List Env) (s : Shared) (H : Hp) (E : XK) (V : Wd) (Ex : EX) (hg : A.guards = some [])
    (hr : Room k (A.deeper (envOfC "_law_right" (defScope s__law_right) s.heap.objs.size f cd))) (hx : XT (cxN P w K mg base N__law_right "_law_right" (defScope s__law_right) f cd A outer s H E) ⟨V, T, mg, none⟩ Ex) (hp : PsO (cxN P w K mg base N__law_right "_law_right" (defScope s__law_right) f cd A outer s H E)) : QC (cxN P w K mg base N__law_right "_law_right" (defScope s__law_right) f cd A outer s H E) ⟨V, T, mg, none⟩ Ex (defBody s__law_right) (m__law_right S__law_any S__law_drop S__law_dots S__law_table_right S__law_table S__law_dots_right) := by
  have nd : (N__law_right).Nodup := sc__law_right.nd
  unfold m__law_right m__law_right_b2 m__law_right_1
  exact (s_for (sl := [1]) hp rfl (i_r1 (by rfl) z_range c_int) (g_name (i := 1) (sl := [1]) nd rfl (.inl rfl) (.inl rfl) (by decide)) (s_set (i := 2) nd rfl (.inl rfl) (.inl rfl) (c_call F__law_any hx rfl hr hg (by rfl) (a_cons (c_var (i := 0) rfl (.inl rfl)) (a_cons (c_lst (q := .fz) (a_cons c_int (a_cons c_int (a_cons c_int (a_cons c_int (a_cons c_int (a_cons c_int (a_cons c_int (a_cons (c_bin (o := .add) c_int (c_call F__law_drop hx rfl hr hg (by rfl) (a_cons (c_var (i := 0) rfl (.inl rfl)) (a_cons c_int a_nil)))) (a_cons (c_ite (t_cmp (o := .eq) hr (c_var (i := 1) rfl (.inl rfl)) c_int (nomark _)) c_int c_int) a_nil)))))))))) a_nil))) (s_asg (sl := [3, 4]) (c_call F__law_dots hx rfl hr hg (by rfl) (a_cons (c_var (i := 0) rfl (.inl rfl)) a_nil)) (g_tup (n := 2) rfl (g_cons (g_name (i := 3) (sl := [3, 4]) nd rfl (.inl rfl) (.inl rfl) (by decide)) (g_cons (g_name (i := 4) (sl := [3, 4]) nd rfl (.inl rfl) (.inl rfl) (by decide)) g_nil)) (l_name (l_name l_nil))) (s_if (t_w (w_or (t_not (t_val (c_call F__law_table_right hx rfl hr hg (by rfl) (a_cons (c_call F__law_table hx rfl hr hg (by rfl) (a_cons (c_var (i := 0) rfl (.inl rfl)) (a_cons (c_var (i := 2) rfl (.inl rfl)) a_nil))) a_nil)) tv_call)) (w_or1 (t_not (t_val (c_call F__law_dots_right hx rfl hr hg (by rfl) (a_cons (c_var (i := 3) rfl (.inl rfl)) (a_cons (c_var (i := 4) rfl (.inl rfl)) a_nil))) tv_call))))) (s_ret c_bl) s_done s_done))) (s_ret c_bl))
theorem w__law_vial {P : Program} {w : World} {K : Fg} {mg : Str → Option Value} {base : Heap} {T : Tb} {k : Nat} (z_len : mg "len" = none) (z_int : mg "int" = none) (z_abs : mg "abs" = none) (f : Addr) (cd : Value) (A : Around) (outer : List Env) (s : Shared) (H : Hp) (E : XK) (V : Wd) (Ex : EX) (hg : A.guards = some [])
    (hr : Room k (A.deeper (envOfC "_law_vial" (defScope s__law_vial) s.heap.objs.size f cd))) (hx : XT (cxN P w K mg base N__law_vial "_law_vial" (defScope s__law_vial) f cd A outer s H E) ⟨V, T, mg, none⟩ Ex) (hp : PsO (cxN P w K mg base N__law_vial "_law_vial" (defScope s__law_vial) f cd A outer s H E)) : QC (cxN P w K mg base N__law_vial "_law_vial" (defScope s__law_vial) f cd A outer s H E) ⟨V, T, mg, none⟩ Ex (defBody s__law_vial) (m__law_vial) := by
  have nd : (N__law_vial).Nodup := sc__law_vial.nd
  unfold m__law_vial
  exact (s_set (i := 2) nd rfl (.inl rfl) (.inl rfl) (c_ite (t_cmp (o := .lt) hr (c_var (i := 1) rfl (.inl rfl)) (c_biB (b := .len) hr hg rfl rfl (fun _ => rfl) (by rfl) z_len bo_len (a_cons (c_var (i := 0) rfl (.inl rfl)) a_nil)) (nomark _)) (c_ix (c_var (i := 0) rfl (.inl rfl)) (c_var (i := 1) rfl (.inl rfl)) (fun _ _ => rfl)) (c_bin (o := .mul) c_int (c_bin (o := .add) (c_var (i := 1) rfl (.inl rfl)) c_int))) (s_set (i := 3) nd rfl (.inl rfl) (.inl rfl) (c_bin (o := .add) c_int (c_bin (o := .mul) c_int (c_var (i := 1) rfl (.inl rfl)))) (s_for (sl := [4]) hp rfl (i_val (c_bin (o := .add) (c_slc (c_var (i := 0) rfl (.inl rfl)) o_none (o_some c_int)) (c_lst (q := .fz) (a_cons (c_var (i := 2) rfl (.inl rfl)) a_nil)))) (g_name (i := 4) (sl := [4]) nd rfl (.inl rfl) (.inl rfl) (by decide)) (s_set (i := 3) nd rfl (.inl rfl) (.inl rfl) (c_bin (o := .mod) (c_biT (b := .int) hr hg rfl rfl (fun _ => rfl) (by rfl) z_int bo_int (a_cons (c_bin (o := .add) (c_bin (o := .add) (c_bin (o := .mul) (c_var (i := 3) rfl (.inl rfl)) c_int) (c_bin (o := .mod) (c_biT (b := .int) hr hg rfl rfl (fun _ => rfl) (by rfl) z_int bo_int (a_cons (c_var (i := 4) rfl (.inl rfl)) a_nil)) c_int)) c_int) a_nil)) c_int) s_done) (s_ret (c_lst (q := .perm) (a_cons (c_ite (t_w (w_or (t_cmp (o := .lt) hr (c_var (i := 2) rfl (.inl rfl)) c_int (nomark _)) (w_or1 (t_cmp (o := .ge) hr (c_var (i := 2) rfl (.inl rfl)) (c_bin (o := .pow) c_int c_int) (nomark _))))) (c_biB (b := .abs) hr hg rfl rfl (fun _ => rfl) (by rfl) z_abs bo_abs (a_cons (c_var (i := 2) rfl (.inl rfl)) a_nil)) c_int) (a_cons (c_var (i := 3) rfl (.inl rfl)) a_nil)))))))
theorem w_law {P : Program} {w : World} {K : Fg} {mg : Str → Option Value} {base : Heap} {T : Tb} {k : Nat} {S__law_right : Spec} (F__law_right : FOk P w K mg base T k "_law_right" ps__law_right ks__law_right S__law_right) {S__law_vial : Spec} (F__law_vial : FOk P w K mg base T k "_law_vial" ps__law_vial ks__law_vial S__law_vial) (z_len : mg "len" = none) (z_min : mg "min" = none) (z_max : mg "max" = none) (z_range : mg "range" = none) (z_all : mg "all" = none) (f : Addr) (cd : Value) (A : Around) (outer : List Env) (s : Shared) (H : Hp) (E : XK) (V : Wd) (Ex : EX) (hg : A.guards = some [])
    (hr : Room k (A.deeper (envOfC "law" (defScope s_law) s.heap.objs.size f cd))) (hx : XT (cxN P w K mg base N_law "law" (defScope s_law) f cd A outer s H E) ⟨V, T, mg, none⟩ Ex) (hp : PsO (cxN P w K mg base N_law "law" (defScope s_law) f cd A outer s H E)) : QC (cxN P w K mg base N_law "law" (defScope s_law) f cd A outer s H E) ⟨V, T, mg, none⟩ Ex (defBody s_law) (m_law S__law_right S__law_vial) := by
  have nd : (N_law).Nodup := sc_law.nd
  unfold m_law
  exact (s_ret (c_biB (b := .all) hr hg rfl rfl (fun _ => rfl) (by rfl) z_all bo_all (a_cons (c_lc (own := [("_law_k", 1)]) (sl := [1]) rfl nd rfl (i_r1 (by rfl) z_range (c_biB (b := .max2) hr hg rfl rfl (fun _ => rfl) (by rfl) z_max bo_max (a_cons c_int (a_cons (c_biB (b := .min2) hr hg rfl rfl (fun _ => rfl) (by rfl) z_min bo_min (a_cons (c_biB (b := .len) hr hg rfl rfl (fun _ => rfl) (by rfl) z_len bo_len (a_cons (c_var (i := 0) rfl (.inr (.inl rfl))) a_nil)) (a_cons c_int a_nil))) a_nil)))) (blkOk_by (by kernel_rfl)) (fun _ _ _ _ _ => (g_name (i := 1) (sl := [1]) nd rfl (.inl rfl) (.inr rfl) (by decide))) (fun _ _ _ _ _ => ts_nil) (fun _ _ _ _ _ => (c_call F__law_right xt0 rfl hr hg (by rfl) (a_cons (c_call F__law_vial xt0 rfl hr hg (by rfl) (a_cons (c_var (i := 0) rfl (by first | exact .inr (.inl rfl) | exact .inr (.inr rfl))) (a_cons (c_var (i := 1) rfl (by first | exact .inl rfl | exact .inr (.inl rfl))) a_nil))) a_nil)))) a_nil)))
theorem bd_are_facts (kV doc pm : Value) (an : Option Addr) (cdv ct : Value) : (∀ us : List Value, us.length = ps_are_facts.length → bindArgs (PySem.W.fnOf "are_facts" "are_facts" (defArgs s_are_facts) (defBody s_are_facts) (defScope s_are_facts) .none kV doc pm an cdv ct) ⟨us, []⟩ = pure (ps_are_facts.zip us)) ∧
    ∀ ks ∈ ks_are_facts, ∀ us : List Value, us.length = ks.length → bindArgs (PySem.W.fnOf "are_facts" "are_facts" (defArgs s_are_facts) (defBody s_are_facts) (defScope s_are_facts) .none kV doc pm an cdv ct) ⟨[], ks.zip us⟩ = pure (ps_are_facts.zip (permV ps_are_facts ks us)) :=
  ⟨fun us hl => match us, hl with | [_], _ => rfl, fun ks h => absurd h List.not_mem_nil⟩
theorem bd_is_shown_of_answer (kV doc pm : Value) (an : Option Addr) (cdv ct : Value) : (∀ us : List Value, us.length = ps_is_shown_of_answer.length → bindArgs (PySem.W.fnOf "is_shown_of_answer" "is_shown_of_answer" (defArgs s_is_shown_of_answer) (defBody s_is_shown_of_answer) (defScope s_is_shown_of_answer) .none kV doc pm an cdv ct) ⟨us, []⟩ = pure (ps_is_shown_of_answer.zip us)) ∧
    ∀ ks ∈ ks_is_shown_of_answer, ∀ us : List Value, us.length = ks.length → bindArgs (PySem.W.fnOf "is_shown_of_answer" "is_shown_of_answer" (defArgs s_is_shown_of_answer) (defBody s_is_shown_of_answer) (defScope s_is_shown_of_answer) .none kV doc pm an cdv ct) ⟨[], ks.zip us⟩ = pure (ps_is_shown_of_answer.zip (permV ps_is_shown_of_answer ks us)) :=
  ⟨fun us hl => match us, hl with | [_, _, _, _], _ => rfl, fun ks h => absurd h List.not_mem_nil⟩
theorem bd_is_shown_of_facts (kV doc pm : Value) (an : Option Addr) (cdv ct : Value) : (∀ us : List Value, us.length = ps_is_shown_of_facts.length → bindArgs (PySem.W.fnOf "is_shown_of_facts" "is_shown_of_facts" (defArgs s_is_shown_of_facts) (defBody s_is_shown_of_facts) (defScope s_is_shown_of_facts) .none kV doc pm an cdv ct) ⟨us, []⟩ = pure (ps_is_shown_of_facts.zip us)) ∧
    ∀ ks ∈ ks_is_shown_of_facts, ∀ us : List Value, us.length = ks.length → bindArgs (PySem.W.fnOf "is_shown_of_facts" "is_shown_of_facts" (defArgs s_is_shown_of_facts) (defBody s_is_shown_of_facts) (defScope s_is_shown_of_facts) .none kV doc pm an cdv ct) ⟨[], ks.zip us⟩ = pure (ps_is_shown_of_facts.zip (permV ps_is_shown_of_facts ks us)) :=
  ⟨fun us hl => match us, hl with | [_, _, _], _ => rfl, fun ks h => absurd h List.not_mem_nil⟩
theorem bd__law_drop (kV doc pm : Value) (an : Option Addr) (cdv ct : Value) : (∀ us : List Value, us.length = ps__law_drop.length → bindArgs (PySem.W.fnOf "_law_drop" "_law_drop" (defArgs s__law_drop) (defBody s__law_drop) (defScope s__law_drop) .none kV doc pm an cdv ct) ⟨us, []⟩ = pure (ps__law_drop.zip us)) ∧
    ∀ ks ∈ ks__law_drop, ∀ us : List Value, us.length = ks.length → bindArgs (PySem.W.fnOf "_law_drop" "_law_drop" (defArgs s__law_drop) (defBody s__law_drop) (defScope s__law_drop) .none kV doc pm an cdv ct) ⟨[], ks.zip us⟩ = pure (ps__law_drop.zip (permV ps__law_drop ks us)) :=
  ⟨fun us hl => match us, hl with | [_, _], _ => rfl, fun ks h => absurd h List.not_mem_nil⟩
theorem bd__law_any (kV doc pm : Value) (an : Option Addr) (cdv ct : Value) : (∀ us : List Value, us.length = ps__law_any.length → bindArgs (PySem.W.fnOf "_law_any" "_law_any" (defArgs s__law_any) (defBody s__law_any) (defScope s__law_any) .none kV doc pm an cdv ct) ⟨us, []⟩ = pure (ps__law_any.zip us)) ∧
    ∀ ks ∈ ks__law_any, ∀ us : List Value, us.length = ks.length → bindArgs (PySem.W.fnOf "_law_any" "_law_any" (defArgs s__law_any) (defBody s__law_any) (defScope s__law_any) .none kV doc pm an cdv ct) ⟨[], ks.zip us⟩ = pure (ps__law_any.zip (permV ps__law_any ks us)) :=
  ⟨fun us hl => match us, hl with | [_, _], _ => rfl, fun ks h => absurd h List.not_mem_nil⟩
theorem bd__law_made_value (kV doc pm : Value) (an : Option Addr) (cdv ct : Value) : (∀ us : List Value, us.length = ps__law_made_value.length → bindArgs (PySem.W.fnOf "_law_made_value" "_law_made_value" (defArgs s__law_made_value) (defBody s__law_made_value) (defScope s__law_made_value) .none kV doc pm an cdv ct) ⟨us, []⟩ = pure (ps__law_made_value.zip us)) ∧
    ∀ ks ∈ ks__law_made_value, ∀ us : List Value, us.length = ks.length → bindArgs (PySem.W.fnOf "_law_made_value" "_law_made_value" (defArgs s__law_made_value) (defBody s__law_made_value) (defScope s__law_made_value) .none kV doc pm an cdv ct) ⟨[], ks.zip us⟩ = pure (ps__law_made_value.zip (permV ps__law_made_value ks us)) :=
  ⟨fun us hl => match us, hl with | [_, _], _ => rfl, fun ks h => absurd h List.not_mem_nil⟩
theorem bd__law_dots (kV doc pm : Value) (an : Option Addr) (cdv ct : Value) : (∀ us : List Value, us.length = ps__law_dots.length → bindArgs (PySem.W.fnOf "_law_dots" "_law_dots" (defArgs s__law_dots) (defBody s__law_dots) (defScope s__law_dots) .none kV doc pm an cdv ct) ⟨us, []⟩ = pure (ps__law_dots.zip us)) ∧
    ∀ ks ∈ ks__law_dots, ∀ us : List Value, us.length = ks.length → bindArgs (PySem.W.fnOf "_law_dots" "_law_dots" (defArgs s__law_dots) (defBody s__law_dots) (defScope s__law_dots) .none kV doc pm an cdv ct) ⟨[], ks.zip us⟩ = pure (ps__law_dots.zip (permV ps__law_dots ks us)) :=
  ⟨fun us hl => match us, hl with | [_], _ => rfl, fun ks h => absurd h List.not_mem_nil⟩
theorem bd_is_integer (kV doc pm : Value) (an : Option Addr) (cdv ct : Value) : (∀ us : List Value, us.length = ps_is_integer.length → bindArgs (PySem.W.fnOf "is_integer" "is_integer" (defArgs s_is_integer) (defBody s_is_integer) (defScope s_is_integer) .none kV doc pm an cdv ct) ⟨us, []⟩ = pure (ps_is_integer.zip us)) ∧
    ∀ ks ∈ ks_is_integer, ∀ us : List Value, us.length = ks.length → bindArgs (PySem.W.fnOf "is_integer" "is_integer" (defArgs s_is_integer) (defBody s_is_integer) (defScope s_is_integer) .none kV doc pm an cdv ct) ⟨[], ks.zip us⟩ = pure (ps_is_integer.zip (permV ps_is_integer ks us)) :=
  ⟨fun us hl => match us, hl with | [_], _ => rfl, fun ks h => absurd h List.not_mem_nil⟩
theorem bd_check_values (kV doc pm : Value) (an : Option Addr) (cdv ct : Value) : (∀ us : List Value, us.length = ps_check_values.length → bindArgs (PySem.W.fnOf "check_values" "check_values" (defArgs s_check_values) (defBody s_check_values) (defScope s_check_values) .none kV doc pm an cdv ct) ⟨us, []⟩ = pure (ps_check_values.zip us)) ∧
    ∀ ks ∈ ks_check_values, ∀ us : List Value, us.length = ks.length → bindArgs (PySem.W.fnOf "check_values" "check_values" (defArgs s_check_values) (defBody s_check_values) (defScope s_check_values) .none kV doc pm an cdv ct) ⟨[], ks.zip us⟩ = pure (ps_check_values.zip (permV ps_check_values ks us)) :=
  ⟨fun us hl => match us, hl with | [_], _ => rfl, fun ks h => absurd h List.not_mem_nil⟩
theorem bd_loose_pairs (kV doc pm : Value) (an : Option Addr) (cdv ct : Value) : (∀ us : List Value, us.length = ps_loose_pairs.length → bindArgs (PySem.W.fnOf "loose_pairs" "loose_pairs" (defArgs s_loose_pairs) (defBody s_loose_pairs) (defScope s_loose_pairs) .none kV doc pm an cdv ct) ⟨us, []⟩ = pure (ps_loose_pairs.zip us)) ∧
    ∀ ks ∈ ks_loose_pairs, ∀ us : List Value, us.length = ks.length → bindArgs (PySem.W.fnOf "loose_pairs" "loose_pairs" (defArgs s_loose_pairs) (defBody s_loose_pairs) (defScope s_loose_pairs) .none kV doc pm an cdv ct) ⟨[], ks.zip us⟩ = pure (ps_loose_pairs.zip (permV ps_loose_pairs ks us)) :=
  ⟨fun us hl => match us, hl with | [_], _ => rfl, fun ks h => absurd h List.not_mem_nil⟩
theorem bd_all_steps (kV doc pm : Value) (an : Option Addr) (cdv ct : Value) : (∀ us : List Value, us.length = ps_all_steps.length → bindArgs (PySem.W.fnOf "all_steps" "all_steps" (defArgs s_all_steps) (defBody s_all_steps) (defScope s_all_steps) .none kV doc pm an cdv ct) ⟨us, []⟩ = pure (ps_all_steps.zip us)) ∧
    ∀ ks ∈ ks_all_steps, ∀ us : List Value, us.length = ks.length → bindArgs (PySem.W.fnOf "all_steps" "all_steps" (defArgs s_all_steps) (defBody s_all_steps) (defScope s_all_steps) .none kV doc pm an cdv ct) ⟨[], ks.zip us⟩ = pure (ps_all_steps.zip (permV ps_all_steps ks us)) :=
  ⟨fun us hl => match us, hl with | [_], _ => rfl, fun ks h => absurd h List.not_mem_nil⟩
theorem bd_certify_values (kV doc pm : Value) (an : Option Addr) (cdv ct : Value) : (∀ us : List Value, us.length = ps_certify_values.length → bindArgs (PySem.W.fnOf "certify_values" "certify_values" (defArgs s_certify_values) (defBody s_certify_values) (defScope s_certify_values) .none kV doc pm an cdv ct) ⟨us, []⟩ = pure (ps_certify_values.zip us)) ∧
    ∀ ks ∈ ks_certify_values, ∀ us : List Value, us.length = ks.length → bindArgs (PySem.W.fnOf "certify_values" "certify_values" (defArgs s_certify_values) (defBody s_certify_values) (defScope s_certify_values) .none kV doc pm an cdv ct) ⟨[], ks.zip us⟩ = pure (ps_certify_values.zip (permV ps_certify_values ks us)) :=
  ⟨fun us hl => match us, hl with | [_], _ => rfl, fun ks h us hl => by
    have e := List.mem_singleton.mp h
    subst e
    match us, hl with
    | [_], _ => rfl⟩
theorem bd__law_loose_of (kV doc pm : Value) (an : Option Addr) (cdv ct : Value) : (∀ us : List Value, us.length = ps__law_loose_of.length → bindArgs (PySem.W.fnOf "_law_loose_of" "_law_loose_of" (defArgs s__law_loose_of) (defBody s__law_loose_of) (defScope s__law_loose_of) .none kV doc pm an cdv ct) ⟨us, []⟩ = pure (ps__law_loose_of.zip us)) ∧
    ∀ ks ∈ ks__law_loose_of, ∀ us : List Value, us.length = ks.length → bindArgs (PySem.W.fnOf "_law_loose_of" "_law_loose_of" (defArgs s__law_loose_of) (defBody s__law_loose_of) (defScope s__law_loose_of) .none kV doc pm an cdv ct) ⟨[], ks.zip us⟩ = pure (ps__law_loose_of.zip (permV ps__law_loose_of ks us)) :=
  ⟨fun us hl => match us, hl with | [_], _ => rfl, fun ks h => absurd h List.not_mem_nil⟩
theorem bd_are_whole_numbers (kV doc pm : Value) (an : Option Addr) (cdv ct : Value) : (∀ us : List Value, us.length = ps_are_whole_numbers.length → bindArgs (PySem.W.fnOf "are_whole_numbers" "are_whole_numbers" (defArgs s_are_whole_numbers) (defBody s_are_whole_numbers) (defScope s_are_whole_numbers) .none kV doc pm an cdv ct) ⟨us, []⟩ = pure (ps_are_whole_numbers.zip us)) ∧
    ∀ ks ∈ ks_are_whole_numbers, ∀ us : List Value, us.length = ks.length → bindArgs (PySem.W.fnOf "are_whole_numbers" "are_whole_numbers" (defArgs s_are_whole_numbers) (defBody s_are_whole_numbers) (defScope s_are_whole_numbers) .none kV doc pm an cdv ct) ⟨[], ks.zip us⟩ = pure (ps_are_whole_numbers.zip (permV ps_are_whole_numbers ks us)) :=
  ⟨fun us hl => match us, hl with | [_, _], _ => rfl, fun ks h => absurd h List.not_mem_nil⟩
theorem bd_are_values (kV doc pm : Value) (an : Option Addr) (cdv ct : Value) : (∀ us : List Value, us.length = ps_are_values.length → bindArgs (PySem.W.fnOf "are_values" "are_values" (defArgs s_are_values) (defBody s_are_values) (defScope s_are_values) .none kV doc pm an cdv ct) ⟨us, []⟩ = pure (ps_are_values.zip us)) ∧
    ∀ ks ∈ ks_are_values, ∀ us : List Value, us.length = ks.length → bindArgs (PySem.W.fnOf "are_values" "are_values" (defArgs s_are_values) (defBody s_are_values) (defScope s_are_values) .none kV doc pm an cdv ct) ⟨[], ks.zip us⟩ = pure (ps_are_values.zip (permV ps_are_values ks us)) :=
  ⟨fun us hl => match us, hl with | [_], _ => rfl, fun ks h => absurd h List.not_mem_nil⟩
theorem bd_is_pair_below (kV doc pm : Value) (an : Option Addr) (cdv ct : Value) : (∀ us : List Value, us.length = ps_is_pair_below.length → bindArgs (PySem.W.fnOf "is_pair_below" "is_pair_below" (defArgs s_is_pair_below) (defBody s_is_pair_below) (defScope s_is_pair_below) .none kV doc pm an cdv ct) ⟨us, []⟩ = pure (ps_is_pair_below.zip us)) ∧
    ∀ ks ∈ ks_is_pair_below, ∀ us : List Value, us.length = ks.length → bindArgs (PySem.W.fnOf "is_pair_below" "is_pair_below" (defArgs s_is_pair_below) (defBody s_is_pair_below) (defScope s_is_pair_below) .none kV doc pm an cdv ct) ⟨[], ks.zip us⟩ = pure (ps_is_pair_below.zip (permV ps_is_pair_below ks us)) :=
  ⟨fun us hl => match us, hl with | [_, _], _ => rfl, fun ks h => absurd h List.not_mem_nil⟩
theorem bd_divides (kV doc pm : Value) (an : Option Addr) (cdv ct : Value) : (∀ us : List Value, us.length = ps_divides.length → bindArgs (PySem.W.fnOf "divides" "divides" (defArgs s_divides) (defBody s_divides) (defScope s_divides) .none kV doc pm an cdv ct) ⟨us, []⟩ = pure (ps_divides.zip us)) ∧
    ∀ ks ∈ ks_divides, ∀ us : List Value, us.length = ks.length → bindArgs (PySem.W.fnOf "divides" "divides" (defArgs s_divides) (defBody s_divides) (defScope s_divides) .none kV doc pm an cdv ct) ⟨[], ks.zip us⟩ = pure (ps_divides.zip (permV ps_divides ks us)) :=
  ⟨fun us hl => match us, hl with | [_, _], _ => rfl, fun ks h => absurd h List.not_mem_nil⟩
theorem bd_is_shown_of_values (kV doc pm : Value) (an : Option Addr) (cdv ct : Value) : (∀ us : List Value, us.length = ps_is_shown_of_values.length → bindArgs (PySem.W.fnOf "is_shown_of_values" "is_shown_of_values" (defArgs s_is_shown_of_values) (defBody s_is_shown_of_values) (defScope s_is_shown_of_values) .none kV doc pm an cdv ct) ⟨us, []⟩ = pure (ps_is_shown_of_values.zip us)) ∧
    ∀ ks ∈ ks_is_shown_of_values, ∀ us : List Value, us.length = ks.length → bindArgs (PySem.W.fnOf "is_shown_of_values" "is_shown_of_values" (defArgs s_is_shown_of_values) (defBody s_is_shown_of_values) (defScope s_is_shown_of_values) .none kV doc pm an cdv ct) ⟨[], ks.zip us⟩ = pure (ps_is_shown_of_values.zip (permV ps_is_shown_of_values ks us)) :=
  ⟨fun us hl => match us, hl with | [_, _, _], _ => rfl, fun ks h => absurd h List.not_mem_nil⟩
theorem bd_are_points (kV doc pm : Value) (an : Option Addr) (cdv ct : Value) : (∀ us : List Value, us.length = ps_are_points.length → bindArgs (PySem.W.fnOf "are_points" "are_points" (defArgs s_are_points) (defBody s_are_points) (defScope s_are_points) .none kV doc pm an cdv ct) ⟨us, []⟩ = pure (ps_are_points.zip us)) ∧
    ∀ ks ∈ ks_are_points, ∀ us : List Value, us.length = ks.length → bindArgs (PySem.W.fnOf "are_points" "are_points" (defArgs s_are_points) (defBody s_are_points) (defScope s_are_points) .none kV doc pm an cdv ct) ⟨[], ks.zip us⟩ = pure (ps_are_points.zip (permV ps_are_points ks us)) :=
  ⟨fun us hl => match us, hl with | [_], _ => rfl, fun ks h => absurd h List.not_mem_nil⟩
theorem bd_gap_and_product (kV doc pm : Value) (an : Option Addr) (cdv ct : Value) : (∀ us : List Value, us.length = ps_gap_and_product.length → bindArgs (PySem.W.fnOf "gap_and_product" "gap_and_product" (defArgs s_gap_and_product) (defBody s_gap_and_product) (defScope s_gap_and_product) .none kV doc pm an cdv ct) ⟨us, []⟩ = pure (ps_gap_and_product.zip us)) ∧
    ∀ ks ∈ ks_gap_and_product, ∀ us : List Value, us.length = ks.length → bindArgs (PySem.W.fnOf "gap_and_product" "gap_and_product" (defArgs s_gap_and_product) (defBody s_gap_and_product) (defScope s_gap_and_product) .none kV doc pm an cdv ct) ⟨[], ks.zip us⟩ = pure (ps_gap_and_product.zip (permV ps_gap_and_product ks us)) :=
  ⟨fun us hl => match us, hl with | [_, _], _ => rfl, fun ks h => absurd h List.not_mem_nil⟩
theorem bd_is_stopped_at (kV doc pm : Value) (an : Option Addr) (cdv ct : Value) : (∀ us : List Value, us.length = ps_is_stopped_at.length → bindArgs (PySem.W.fnOf "is_stopped_at" "is_stopped_at" (defArgs s_is_stopped_at) (defBody s_is_stopped_at) (defScope s_is_stopped_at) .none kV doc pm an cdv ct) ⟨us, []⟩ = pure (ps_is_stopped_at.zip us)) ∧
    ∀ ks ∈ ks_is_stopped_at, ∀ us : List Value, us.length = ks.length → bindArgs (PySem.W.fnOf "is_stopped_at" "is_stopped_at" (defArgs s_is_stopped_at) (defBody s_is_stopped_at) (defScope s_is_stopped_at) .none kV doc pm an cdv ct) ⟨[], ks.zip us⟩ = pure (ps_is_stopped_at.zip (permV ps_is_stopped_at ks us)) :=
  ⟨fun us hl => match us, hl with | [_, _], _ => rfl, fun ks h => absurd h List.not_mem_nil⟩
theorem bd_value_there (kV doc pm : Value) (an : Option Addr) (cdv ct : Value) : (∀ us : List Value, us.length = ps_value_there.length → bindArgs (PySem.W.fnOf "value_there" "value_there" (defArgs s_value_there) (defBody s_value_there) (defScope s_value_there) .none kV doc pm an cdv ct) ⟨us, []⟩ = pure (ps_value_there.zip us)) ∧
    ∀ ks ∈ ks_value_there, ∀ us : List Value, us.length = ks.length → bindArgs (PySem.W.fnOf "value_there" "value_there" (defArgs s_value_there) (defBody s_value_there) (defScope s_value_there) .none kV doc pm an cdv ct) ⟨[], ks.zip us⟩ = pure (ps_value_there.zip (permV ps_value_there ks us)) :=
  ⟨fun us hl => match us, hl with | [_, _], _ => rfl, fun ks h => absurd h List.not_mem_nil⟩
theorem bd_is_shown_of_points (kV doc pm : Value) (an : Option Addr) (cdv ct : Value) : (∀ us : List Value, us.length = ps_is_shown_of_points.length → bindArgs (PySem.W.fnOf "is_shown_of_points" "is_shown_of_points" (defArgs s_is_shown_of_points) (defBody s_is_shown_of_points) (defScope s_is_shown_of_points) .none kV doc pm an cdv ct) ⟨us, []⟩ = pure (ps_is_shown_of_points.zip us)) ∧
    ∀ ks ∈ ks_is_shown_of_points, ∀ us : List Value, us.length = ks.length → bindArgs (PySem.W.fnOf "is_shown_of_points" "is_shown_of_points" (defArgs s_is_shown_of_points) (defBody s_is_shown_of_points) (defScope s_is_shown_of_points) .none kV doc pm an cdv ct) ⟨[], ks.zip us⟩ = pure (ps_is_shown_of_points.zip (permV ps_is_shown_of_points ks us)) :=
  ⟨fun us hl => match us, hl with | [_, _, _], _ => rfl, fun ks h => absurd h List.not_mem_nil⟩
theorem bd_accepts (kV doc pm : Value) (an : Option Addr) (cdv ct : Value) : (∀ us : List Value, us.length = ps_accepts.length → bindArgs (PySem.W.fnOf "accepts" "accepts" (defArgs s_accepts) (defBody s_accepts) (defScope s_accepts) .none kV doc pm an cdv ct) ⟨us, []⟩ = pure (ps_accepts.zip us)) ∧
    ∀ ks ∈ ks_accepts, ∀ us : List Value, us.length = ks.length → bindArgs (PySem.W.fnOf "accepts" "accepts" (defArgs s_accepts) (defBody s_accepts) (defScope s_accepts) .none kV doc pm an cdv ct) ⟨[], ks.zip us⟩ = pure (ps_accepts.zip (permV ps_accepts ks us)) :=
  ⟨fun us hl => match us, hl with | [_, _], _ => rfl, fun ks h => absurd h List.not_mem_nil⟩
theorem bd__law_lots_at (kV doc pm : Value) (an : Option Addr) (cdv ct : Value) : (∀ us : List Value, us.length = ps__law_lots_at.length → bindArgs (PySem.W.fnOf "_law_lots_at" "_law_lots_at" (defArgs s__law_lots_at) (defBody s__law_lots_at) (defScope s__law_lots_at) .none kV doc pm an cdv ct) ⟨us, []⟩ = pure (ps__law_lots_at.zip us)) ∧
    ∀ ks ∈ ks__law_lots_at, ∀ us : List Value, us.length = ks.length → bindArgs (PySem.W.fnOf "_law_lots_at" "_law_lots_at" (defArgs s__law_lots_at) (defBody s__law_lots_at) (defScope s__law_lots_at) .none kV doc pm an cdv ct) ⟨[], ks.zip us⟩ = pure (ps__law_lots_at.zip (permV ps__law_lots_at ks us)) :=
  ⟨fun us hl => match us, hl with | [_, _], _ => rfl, fun ks h => absurd h List.not_mem_nil⟩
theorem bd__law_value_by (kV doc pm : Value) (an : Option Addr) (cdv ct : Value) : (∀ us : List Value, us.length = ps__law_value_by.length → bindArgs (PySem.W.fnOf "_law_value_by" "_law_value_by" (defArgs s__law_value_by) (defBody s__law_value_by) (defScope s__law_value_by) .none kV doc pm an cdv ct) ⟨us, []⟩ = pure (ps__law_value_by.zip us)) ∧
    ∀ ks ∈ ks__law_value_by, ∀ us : List Value, us.length = ks.length → bindArgs (PySem.W.fnOf "_law_value_by" "_law_value_by" (defArgs s__law_value_by) (defBody s__law_value_by) (defScope s__law_value_by) .none kV doc pm an cdv ct) ⟨[], ks.zip us⟩ = pure (ps__law_value_by.zip (permV ps__law_value_by ks us)) :=
  ⟨fun us hl => match us, hl with | [_, _], _ => rfl, fun ks h => absurd h List.not_mem_nil⟩
theorem bd__law_table_right (kV doc pm : Value) (an : Option Addr) (cdv ct : Value) : (∀ us : List Value, us.length = ps__law_table_right.length → bindArgs (PySem.W.fnOf "_law_table_right" "_law_table_right" (defArgs s__law_table_right) (defBody s__law_table_right) (defScope s__law_table_right) .none kV doc pm an cdv ct) ⟨us, []⟩ = pure (ps__law_table_right.zip us)) ∧
    ∀ ks ∈ ks__law_table_right, ∀ us : List Value, us.length = ks.length → bindArgs (PySem.W.fnOf "_law_table_right" "_law_table_right" (defArgs s__law_table_right) (defBody s__law_table_right) (defScope s__law_table_right) .none kV doc pm an cdv ct) ⟨[], ks.zip us⟩ = pure (ps__law_table_right.zip (permV ps__law_table_right ks us)) :=
  ⟨fun us hl => match us, hl with | [_], _ => rfl, fun ks h => absurd h List.not_mem_nil⟩
theorem bd__law_shared (kV doc pm : Value) (an : Option Addr) (cdv ct : Value) : (∀ us : List Value, us.length = ps__law_shared.length → bindArgs (PySem.W.fnOf "_law_shared" "_law_shared" (defArgs s__law_shared) (defBody s__law_shared) (defScope s__law_shared) .none kV doc pm an cdv ct) ⟨us, []⟩ = pure (ps__law_shared.zip us)) ∧
    ∀ ks ∈ ks__law_shared, ∀ us : List Value, us.length = ks.length → bindArgs (PySem.W.fnOf "_law_shared" "_law_shared" (defArgs s__law_shared) (defBody s__law_shared) (defScope s__law_shared) .none kV doc pm an cdv ct) ⟨[], ks.zip us⟩ = pure (ps__law_shared.zip (permV ps__law_shared ks us)) :=
  ⟨fun us hl => match us, hl with | [_, _], _ => rfl, fun ks h => absurd h List.not_mem_nil⟩
theorem bd__law_table (kV doc pm : Value) (an : Option Addr) (cdv ct : Value) : (∀ us : List Value, us.length = ps__law_table.length → bindArgs (PySem.W.fnOf "_law_table" "_law_table" (defArgs s__law_table) (defBody s__law_table) (defScope s__law_table) .none kV doc pm an cdv ct) ⟨us, []⟩ = pure (ps__law_table.zip us)) ∧
    ∀ ks ∈ ks__law_table, ∀ us : List Value, us.length = ks.length → bindArgs (PySem.W.fnOf "_law_table" "_law_table" (defArgs s__law_table) (defBody s__law_table) (defScope s__law_table) .none kV doc pm an cdv ct) ⟨[], ks.zip us⟩ = pure (ps__law_table.zip (permV ps__law_table ks us)) :=
  ⟨fun us hl => match us, hl with | [_, _], _ => rfl, fun ks h => absurd h List.not_mem_nil⟩
theorem bd_are_integers (kV doc pm : Value) (an : Option Addr) (cdv ct : Value) : (∀ us : List Value, us.length = ps_are_integers.length → bindArgs (PySem.W.fnOf "are_integers" "are_integers" (defArgs s_are_integers) (defBody s_are_integers) (defScope s_are_integers) .none kV doc pm an cdv ct) ⟨us, []⟩ = pure (ps_are_integers.zip us)) ∧
    ∀ ks ∈ ks_are_integers, ∀ us : List Value, us.length = ks.length → bindArgs (PySem.W.fnOf "are_integers" "are_integers" (defArgs s_are_integers) (defBody s_are_integers) (defScope s_are_integers) .none kV doc pm an cdv ct) ⟨[], ks.zip us⟩ = pure (ps_are_integers.zip (permV ps_are_integers ks us)) :=
  ⟨fun us hl => match us, hl with | [_, _], _ => rfl, fun ks h => absurd h List.not_mem_nil⟩
theorem bd_check_points (kV doc pm : Value) (an : Option Addr) (cdv ct : Value) : (∀ us : List Value, us.length = ps_check_points.length → bindArgs (PySem.W.fnOf "check_points" "check_points" (defArgs s_check_points) (defBody s_check_points) (defScope s_check_points) .none kV doc pm an cdv ct) ⟨us, []⟩ = pure (ps_check_points.zip us)) ∧
    ∀ ks ∈ ks_check_points, ∀ us : List Value, us.length = ks.length → bindArgs (PySem.W.fnOf "check_points" "check_points" (defArgs s_check_points) (defBody s_check_points) (defScope s_check_points) .none kV doc pm an cdv ct) ⟨[], ks.zip us⟩ = pure (ps_check_points.zip (permV ps_check_points ks us)) :=
  ⟨fun us hl => match us, hl with | [_], _ => rfl, fun ks h => absurd h List.not_mem_nil⟩
theorem bd_whole_value (kV doc pm : Value) (an : Option Addr) (cdv ct : Value) : (∀ us : List Value, us.length = ps_whole_value.length → bindArgs (PySem.W.fnOf "whole_value" "whole_value" (defArgs s_whole_value) (defBody s_whole_value) (defScope s_whole_value) .none kV doc pm an cdv ct) ⟨us, []⟩ = pure (ps_whole_value.zip us)) ∧
    ∀ ks ∈ ks_whole_value, ∀ us : List Value, us.length = ks.length → bindArgs (PySem.W.fnOf "whole_value" "whole_value" (defArgs s_whole_value) (defBody s_whole_value) (defScope s_whole_value) .none kV doc pm an cdv ct) ⟨[], ks.zip us⟩ = pure (ps_whole_value.zip (permV ps_whole_value ks us)) :=
  ⟨fun us hl => match us, hl with | [_, _], _ => rfl, fun ks h => absurd h List.not_mem_nil⟩
theorem bd_grown (kV doc pm : Value) (an : Option Addr) (cdv ct : Value) : (∀ us : List Value, us.length = ps_grown.length → bindArgs (PySem.W.fnOf "grown" "grown" (defArgs s_grown) (defBody s_grown) (defScope s_grown) .none kV doc pm an cdv ct) ⟨us, []⟩ = pure (ps_grown.zip us)) ∧
    ∀ ks ∈ ks_grown, ∀ us : List Value, us.length = ks.length → bindArgs (PySem.W.fnOf "grown" "grown" (defArgs s_grown) (defBody s_grown) (defScope s_grown) .none kV doc pm an cdv ct) ⟨[], ks.zip us⟩ = pure (ps_grown.zip (permV ps_grown ks us)) :=
  ⟨fun us hl => match us, hl with | [_, _, _], _ => rfl, fun ks h => absurd h List.not_mem_nil⟩
theorem bd_stretched (kV doc pm : Value) (an : Option Addr) (cdv ct : Value) : (∀ us : List Value, us.length = ps_stretched.length → bindArgs (PySem.W.fnOf "stretched" "stretched" (defArgs s_stretched) (defBody s_stretched) (defScope s_stretched) .none kV doc pm an cdv ct) ⟨us, []⟩ = pure (ps_stretched.zip us)) ∧
    ∀ ks ∈ ks_stretched, ∀ us : List Value, us.length = ks.length → bindArgs (PySem.W.fnOf "stretched" "stretched" (defArgs s_stretched) (defBody s_stretched) (defScope s_stretched) .none kV doc pm an cdv ct) ⟨[], ks.zip us⟩ = pure (ps_stretched.zip (permV ps_stretched ks us)) :=
  ⟨fun us hl => match us, hl with | [_, _], _ => rfl, fun ks h => absurd h List.not_mem_nil⟩
theorem bd_whole_through (kV doc pm : Value) (an : Option Addr) (cdv ct : Value) : (∀ us : List Value, us.length = ps_whole_through.length → bindArgs (PySem.W.fnOf "whole_through" "whole_through" (defArgs s_whole_through) (defBody s_whole_through) (defScope s_whole_through) .none kV doc pm an cdv ct) ⟨us, []⟩ = pure (ps_whole_through.zip us)) ∧
    ∀ ks ∈ ks_whole_through, ∀ us : List Value, us.length = ks.length → bindArgs (PySem.W.fnOf "whole_through" "whole_through" (defArgs s_whole_through) (defBody s_whole_through) (defScope s_whole_through) .none kV doc pm an cdv ct) ⟨[], ks.zip us⟩ = pure (ps_whole_through.zip (permV ps_whole_through ks us)) :=
  ⟨fun us hl => match us, hl with | [_], _ => rfl, fun ks h => absurd h List.not_mem_nil⟩
theorem bd_trimmed (kV doc pm : Value) (an : Option Addr) (cdv ct : Value) : (∀ us : List Value, us.length = ps_trimmed.length → bindArgs (PySem.W.fnOf "trimmed" "trimmed" (defArgs s_trimmed) (defBody s_trimmed) (defScope s_trimmed) .none kV doc pm an cdv ct) ⟨us, []⟩ = pure (ps_trimmed.zip us)) ∧
    ∀ ks ∈ ks_trimmed, ∀ us : List Value, us.length = ks.length → bindArgs (PySem.W.fnOf "trimmed" "trimmed" (defArgs s_trimmed) (defBody s_trimmed) (defScope s_trimmed) .none kV doc pm an cdv ct) ⟨[], ks.zip us⟩ = pure (ps_trimmed.zip (permV ps_trimmed ks us)) :=
  ⟨fun us hl => match us, hl with | [_], _ => rfl, fun ks h => absurd h List.not_mem_nil⟩
theorem bd_certify_points (kV doc pm : Value) (an : Option Addr) (cdv ct : Value) : (∀ us : List Value, us.length = ps_certify_points.length → bindArgs (PySem.W.fnOf "certify_points" "certify_points" (defArgs s_certify_points) (defBody s_certify_points) (defScope s_certify_points) .none kV doc pm an cdv ct) ⟨us, []⟩ = pure (ps_certify_points.zip us)) ∧
    ∀ ks ∈ ks_certify_points, ∀ us : List Value, us.length = ks.length → bindArgs (PySem.W.fnOf "certify_points" "certify_points" (defArgs s_certify_points) (defBody s_certify_points) (defScope s_certify_points) .none kV doc pm an cdv ct) ⟨[], ks.zip us⟩ = pure (ps_certify_points.zip (permV ps_certify_points ks us)) :=
  ⟨fun us hl => match us, hl with | [_], _ => rfl, fun ks h us hl => by
    have e := List.mem_singleton.mp h
    subst e
    match us, hl with
    | [_], _ => rfl⟩
theorem bd__law_dots_right (kV doc pm : Value) (an : Option Addr) (cdv ct : Value) : (∀ us : List Value, us.length = ps__law_dots_right.length → bindArgs (PySem.W.fnOf "_law_dots_right" "_law_dots_right" (defArgs s__law_dots_right) (defBody s__law_dots_right) (defScope s__law_dots_right) .none kV doc pm an cdv ct) ⟨us, []⟩ = pure (ps__law_dots_right.zip us)) ∧
    ∀ ks ∈ ks__law_dots_right, ∀ us : List Value, us.length = ks.length → bindArgs (PySem.W.fnOf "_law_dots_right" "_law_dots_right" (defArgs s__law_dots_right) (defBody s__law_dots_right) (defScope s__law_dots_right) .none kV doc pm an cdv ct) ⟨[], ks.zip us⟩ = pure (ps__law_dots_right.zip (permV ps__law_dots_right ks us)) :=
  ⟨fun us hl => match us, hl with | [_, _], _ => rfl, fun ks h => absurd h List.not_mem_nil⟩
theorem bd__law_right (kV doc pm : Value) (an : Option Addr) (cdv ct : Value) : (∀ us : List Value, us.length = ps__law_right.length → bindArgs (PySem.W.fnOf "_law_right" "_law_right" (defArgs s__law_right) (defBody s__law_right) (defScope s__law_right) .none kV doc pm an cdv ct) ⟨us, []⟩ = pure (ps__law_right.zip us)) ∧
    ∀ ks ∈ ks__law_right, ∀ us : List Value, us.length = ks.length → bindArgs (PySem.W.fnOf "_law_right" "_law_right" (defArgs s__law_right) (defBody s__law_right) (defScope s__law_right) .none kV doc pm an cdv ct) ⟨[], ks.zip us⟩ = pure (ps__law_right.zip (permV ps__law_right ks us)) :=
  ⟨fun us hl => match us, hl with | [_], _ => rfl, fun ks h => absurd h List.not_mem_nil⟩
theorem bd__law_vial (kV doc pm : Value) (an : Option Addr) (cdv ct : Value) : (∀ us : List Value, us.length = ps__law_vial.length → bindArgs (PySem.W.fnOf "_law_vial" "_law_vial" (defArgs s__law_vial) (defBody s__law_vial) (defScope s__law_vial) .none kV doc pm an cdv ct) ⟨us, []⟩ = pure (ps__law_vial.zip us)) ∧
    ∀ ks ∈ ks__law_vial, ∀ us : List Value, us.length = ks.length → bindArgs (PySem.W.fnOf "_law_vial" "_law_vial" (defArgs s__law_vial) (defBody s__law_vial) (defScope s__law_vial) .none kV doc pm an cdv ct) ⟨[], ks.zip us⟩ = pure (ps__law_vial.zip (permV ps__law_vial ks us)) :=
  ⟨fun us hl => match us, hl with | [_, _], _ => rfl, fun ks h => absurd h List.not_mem_nil⟩
theorem bd_law (kV doc pm : Value) (an : Option Addr) (cdv ct : Value) : (∀ us : List Value, us.length = ps_law.length → bindArgs (PySem.W.fnOf "law" "law" (defArgs s_law) (defBody s_law) (defScope s_law) .none kV doc pm an cdv ct) ⟨us, []⟩ = pure (ps_law.zip us)) ∧
    ∀ ks ∈ ks_law, ∀ us : List Value, us.length = ks.length → bindArgs (PySem.W.fnOf "law" "law" (defArgs s_law) (defBody s_law) (defScope s_law) .none kV doc pm an cdv ct) ⟨[], ks.zip us⟩ = pure (ps_law.zip (permV ps_law ks us)) :=
  ⟨fun us hl => match us, hl with | [_], _ => rfl, fun ks h => absurd h List.not_mem_nil⟩
def d_are_facts : He.DefD := ⟨("are_facts", none), "are_facts", "are_facts", defArgs s_are_facts, defBody s_are_facts, defScope s_are_facts, [], []⟩
def d_is_shown_of_answer : He.DefD := ⟨("is_shown_of_answer", none), "is_shown_of_answer", "is_shown_of_answer", defArgs s_is_shown_of_answer, defBody s_is_shown_of_answer, defScope s_is_shown_of_answer, [], []⟩
def d_is_shown_of_facts : He.DefD := ⟨("is_shown_of_facts", none), "is_shown_of_facts", "is_shown_of_facts", defArgs s_is_shown_of_facts, defBody s_is_shown_of_facts, defScope s_is_shown_of_facts, [], []⟩
def d__law_drop : He.DefD := ⟨("_law_drop", none), "_law_drop", "_law_drop", defArgs s__law_drop, defBody s__law_drop, defScope s__law_drop, [], []⟩
def d__law_any : He.DefD := ⟨("_law_any", none), "_law_any", "_law_any", defArgs s__law_any, defBody s__law_any, defScope s__law_any, [], []⟩
def d__law_made_value : He.DefD := ⟨("_law_made_value", none), "_law_made_value", "_law_made_value", defArgs s__law_made_value, defBody s__law_made_value, defScope s__law_made_value, [], []⟩
def d__law_dots : He.DefD := ⟨("_law_dots", none), "_law_dots", "_law_dots", defArgs s__law_dots, defBody s__law_dots, defScope s__law_dots, [], []⟩
def d_is_integer : He.DefD := ⟨("is_integer", none), "is_integer", "is_integer", defArgs s_is_integer, defBody s_is_integer, defScope s_is_integer, [], []⟩
def d_check_values : He.DefD := ⟨("check_values", none), "check_values", "check_values", defArgs s_check_values, defBody s_check_values, defScope s_check_values, [], []⟩
def d_loose_pairs : He.DefD := ⟨("loose_pairs", none), "loose_pairs", "loose_pairs", defArgs s_loose_pairs, defBody s_loose_pairs, defScope s_loose_pairs, [], []⟩
def d_all_steps : He.DefD := ⟨("all_steps", none), "all_steps", "all_steps", defArgs s_all_steps, defBody s_all_steps, defScope s_all_steps, [], []⟩
def d_certify_values : He.DefD := ⟨("certify_values", none), "certify_values", "certify_values", defArgs s_certify_values, defBody s_certify_values, defScope s_certify_values, [], []⟩
def d__law_loose_of : He.DefD := ⟨("_law_loose_of", none), "_law_loose_of", "_law_loose_of", defArgs s__law_loose_of, defBody s__law_loose_of, defScope s__law_loose_of, [], []⟩
def d_are_whole_numbers : He.DefD := ⟨("are_whole_numbers", none), "are_whole_numbers", "are_whole_numbers", defArgs s_are_whole_numbers, defBody s_are_whole_numbers, defScope s_are_whole_numbers, [], []⟩
def d_are_values : He.DefD := ⟨("are_values", none), "are_values", "are_values", defArgs s_are_values, defBody s_are_values, defScope s_are_values, [], []⟩
def d_is_pair_below : He.DefD := ⟨("is_pair_below", none), "is_pair_below", "is_pair_below", defArgs s_is_pair_below, defBody s_is_pair_below, defScope s_is_pair_below, [], []⟩
def d_divides : He.DefD := ⟨("divides", none), "divides", "divides", defArgs s_divides, defBody s_divides, defScope s_divides, [], []⟩
def d_is_shown_of_values : He.DefD := ⟨("is_shown_of_values", none), "is_shown_of_values", "is_shown_of_values", defArgs s_is_shown_of_values, defBody s_is_shown_of_values, defScope s_is_shown_of_values, [], []⟩
def d_are_points : He.DefD := ⟨("are_points", none), "are_points", "are_points", defArgs s_are_points, defBody s_are_points, defScope s_are_points, [], []⟩
def d_gap_and_product : He.DefD := ⟨("gap_and_product", none), "gap_and_product", "gap_and_product", defArgs s_gap_and_product, defBody s_gap_and_product, defScope s_gap_and_product, [], []⟩
def d_is_stopped_at : He.DefD := ⟨("is_stopped_at", none), "is_stopped_at", "is_stopped_at", defArgs s_is_stopped_at, defBody s_is_stopped_at, defScope s_is_stopped_at, [], []⟩
def d_value_there : He.DefD := ⟨("value_there", none), "value_there", "value_there", defArgs s_value_there, defBody s_value_there, defScope s_value_there, [], []⟩
def d_is_shown_of_points : He.DefD := ⟨("is_shown_of_points", none), "is_shown_of_points", "is_shown_of_points", defArgs s_is_shown_of_points, defBody s_is_shown_of_points, defScope s_is_shown_of_points, [], []⟩
def d_accepts : He.DefD := ⟨("accepts", none), "accepts", "accepts", defArgs s_accepts, defBody s_accepts, defScope s_accepts, [], []⟩
def d__law_lots_at : He.DefD := ⟨("_law_lots_at", none), "_law_lots_at", "_law_lots_at", defArgs s__law_lots_at, defBody s__law_lots_at, defScope s__law_lots_at, [], []⟩
def d__law_value_by : He.DefD := ⟨("_law_value_by", none), "_law_value_by", "_law_value_by", defArgs s__law_value_by, defBody s__law_value_by, defScope s__law_value_by, [], []⟩
def d__law_table_right : He.DefD := ⟨("_law_table_right", none), "_law_table_right", "_law_table_right", defArgs s__law_table_right, defBody s__law_table_right, defScope s__law_table_right, [], []⟩
def d__law_shared : He.DefD := ⟨("_law_shared", none), "_law_shared", "_law_shared", defArgs s__law_shared, defBody s__law_shared, defScope s__law_shared, [], []⟩
def d__law_table : He.DefD := ⟨("_law_table", none), "_law_table", "_law_table", defArgs s__law_table, defBody s__law_table, defScope s__law_table, [], []⟩
def d_are_integers : He.DefD := ⟨("are_integers", none), "are_integers", "are_integers", defArgs s_are_integers, defBody s_are_integers, defScope s_are_integers, [], []⟩
def d_check_points : He.DefD := ⟨("check_points", none), "check_points", "check_points", defArgs s_check_points, defBody s_check_points, defScope s_check_points, [], []⟩
def d_whole_value : He.DefD := ⟨("whole_value", none), "whole_value", "whole_value", defArgs s_whole_value, defBody s_whole_value, defScope s_whole_value, [], []⟩
def d_grown : He.DefD := ⟨("grown", none), "grown", "grown", defArgs s_grown, defBody s_grown, defScope s_grown, [], []⟩
def d_stretched : He.DefD := ⟨("stretched", none), "stretched", "stretched", defArgs s_stretched, defBody s_stretched, defScope s_stretched, [], []⟩
def d_whole_through : He.DefD := ⟨("whole_through", none), "whole_through", "whole_through", defArgs s_whole_through, defBody s_whole_through, defScope s_whole_through, [], []⟩
def d_trimmed : He.DefD := ⟨("trimmed", none), "trimmed", "trimmed", defArgs s_trimmed, defBody s_trimmed, defScope s_trimmed, [], []⟩
def d_certify_points : He.DefD := ⟨("certify_points", none), "certify_points", "certify_points", defArgs s_certify_points, defBody s_certify_points, defScope s_certify_points, [], []⟩
def d__law_dots_right : He.DefD := ⟨("_law_dots_right", none), "_law_dots_right", "_law_dots_right", defArgs s__law_dots_right, defBody s__law_dots_right, defScope s__law_dots_right, [], []⟩
def d__law_right : He.DefD := ⟨("_law_right", none), "_law_right", "_law_right", defArgs s__law_right, defBody s__law_right, defScope s__law_right, [], []⟩
def d__law_vial : He.DefD := ⟨("_law_vial", none), "_law_vial", "_law_vial", defArgs s__law_vial, defBody s__law_vial, defScope s__law_vial, [], []⟩
def d_law : He.DefD := ⟨("law", none), "law", "law", defArgs s_law, defBody s_law, defScope s_law, [], []⟩
def fnT : List He.DefD := [d_are_facts, d_is_shown_of_answer, d_is_shown_of_facts, d__law_drop, d__law_any, d__law_made_value, d__law_dots, d_is_integer, d_check_values, d_loose_pairs, d_all_steps, d_certify_values, d__law_loose_of, d_are_whole_numbers, d_are_values, d_is_pair_below, d_divides, d_is_shown_of_values, d_are_points, d_gap_and_product, d_is_stopped_at, d_value_there, d_is_shown_of_points, d_accepts, d__law_lots_at, d__law_value_by, d__law_table_right, d__law_shared, d__law_table, d_are_integers, d_check_points, d_whole_value, d_grown, d_stretched, d_whole_through, d_trimmed, d_certify_points, d__law_dots_right, d__law_right, d__law_vial, d_law]
def faT : List He.Fa := [.glo "are_facts", .glo "is_shown_of_answer", .glo "is_shown_of_facts", .glo "_law_drop", .glo "_law_any", .glo "_law_made_value", .glo "_law_dots", .glo "is_integer", .glo "check_values", .glo "loose_pairs", .glo "all_steps", .glo "certify_values", .glo "_law_loose_of", .glo "are_whole_numbers", .glo "are_values", .glo "is_pair_below", .glo "divides", .glo "is_shown_of_values", .glo "are_points", .glo "gap_and_product", .glo "is_stopped_at", .glo "value_there", .glo "is_shown_of_points", .glo "accepts", .glo "_law_lots_at", .glo "_law_value_by", .glo "_law_table_right", .glo "_law_shared", .glo "_law_table", .glo "are_integers", .glo "check_points", .glo "whole_value", .glo "grown", .glo "stretched", .glo "whole_through", .glo "trimmed", .glo "certify_points", .glo "_law_dots_right", .glo "_law_right", .glo "_law_vial", .glo "law", .free "abs", .free "all", .free "bool", .free "divmod", .free "enumerate", .free "int", .free "isinstance", .free "len", .free "list", .free "max", .free "min", .free "range", .free "reversed", .free "str", .free "sum", .free "tuple", .free "zip", .int "LONGEST_POINTS" 13, .int "LONGEST_VALUES" 40, .int "MOST_DEGREE" 12, .int "MOST_PLACES" 40]
abbrev RR : PySem.W.OpenRow := PySem.W.OpenLaw.row PySem.Challenge.rw_keptrests_k75_whole_tables_and_points_ce
abbrev hkT : PySem.W.Hook := He.hookD 4 faT fnT
def obT (s : PySem.W.SharedT) : He.AlD := He.obsDG 4 faT fnT (HandSHeadRun.getT s)
theorem obT_eq (s : PySem.W.SharedT) : obT s = hkT.obs s.abs := He.obsDG_eq (HandSHeadRun.getT_eq s)
def looseT : List Str := (["WrongValue", "InvalidValues", "InvalidPoints", "MOST_PLACES", "MOST_DEGREE", "is_integer", "are_integers", "check_points", "whole_value", "grown", "stretched", "whole_through", "trimmed", "check_values", "all_steps", "loose_pairs", "certify_values", "certify_points", "LONGEST_FACTS", "LONGEST_VALUES", "LONGEST_POINTS", "shared_part", "divides", "are_whole_numbers", "are_facts", "are_values", "are_points", "is_pair_below", "two_quarrel", "nobody_quarrels"] : List Str) ++ (["can_be_there", "is_forced", "is_shown_of_facts", "is_shown_of_answer", "is_shown_of_values", "value_there", "gap_and_product", "is_stopped_at", "is_shown_of_points", "accepts", "_law_vial", "_law_drop", "_law_any", "_law_shared", "_law_made_value", "_law_lots_at", "_law_value_by", "_law_table", "_law_loose_of", "_law_table_right", "_law_dots", "_law_dots_right", "_law_right"] : List Str)
theorem runT (w : World) : HandSHeadRun.RunEq RR (PySem.W.view RR.prog [60]) hkT obT 4000 looseT w := by
  intro os
  kernel_rfl
theorem facts {P : Program} {w : World} {K : Fg} {h : Heap} {mg : Str → Option Value} (X : K.In h) (G : h.Ns mainGlobals mg) (c : He.SaysD faT fnT K) (base : Heap) : FOk P w K mg base [] 8 "law" ps_law ks_law (sp_law 63) := by
  obtain ⟨fd_are_facts, F0_are_facts⟩ := c.def_ 0 (d := d_are_facts) rfl
  have F_are_facts : FnP K "are_facts" s_are_facts (He.fAd K ("are_facts", none)) fd_are_facts := F0_are_facts
  have g_are_facts := He.glo_ok X G (c.fact 0 (f := .glo "are_facts") rfl)
  obtain ⟨fd_is_shown_of_answer, F0_is_shown_of_answer⟩ := c.def_ 1 (d := d_is_shown_of_answer) rfl
  have F_is_shown_of_answer : FnP K "is_shown_of_answer" s_is_shown_of_answer (He.fAd K ("is_shown_of_answer", none)) fd_is_shown_of_answer := F0_is_shown_of_answer
  have g_is_shown_of_answer := He.glo_ok X G (c.fact 1 (f := .glo "is_shown_of_answer") rfl)
  obtain ⟨fd_is_shown_of_facts, F0_is_shown_of_facts⟩ := c.def_ 2 (d := d_is_shown_of_facts) rfl
  have F_is_shown_of_facts : FnP K "is_shown_of_facts" s_is_shown_of_facts (He.fAd K ("is_shown_of_facts", none)) fd_is_shown_of_facts := F0_is_shown_of_facts
  have g_is_shown_of_facts := He.glo_ok X G (c.fact 2 (f := .glo "is_shown_of_facts") rfl)
  obtain ⟨fd__law_drop, F0__law_drop⟩ := c.def_ 3 (d := d__law_drop) rfl
  have F__law_drop : FnP K "_law_drop" s__law_drop (He.fAd K ("_law_drop", none)) fd__law_drop := F0__law_drop
  have g__law_drop := He.glo_ok X G (c.fact 3 (f := .glo "_law_drop") rfl)
  obtain ⟨fd__law_any, F0__law_any⟩ := c.def_ 4 (d := d__law_any) rfl
  have F__law_any : FnP K "_law_any" s__law_any (He.fAd K ("_law_any", none)) fd__law_any := F0__law_any
  have g__law_any := He.glo_ok X G (c.fact 4 (f := .glo "_law_any") rfl)
  obtain ⟨fd__law_made_value, F0__law_made_value⟩ := c.def_ 5 (d := d__law_made_value) rfl
  have F__law_made_value : FnP K "_law_made_value" s__law_made_value (He.fAd K ("_law_made_value", none)) fd__law_made_value := F0__law_made_value
  have g__law_made_value := He.glo_ok X G (c.fact 5 (f := .glo "_law_made_value") rfl)
  obtain ⟨fd__law_dots, F0__law_dots⟩ := c.def_ 6 (d := d__law_dots) rfl
  have F__law_dots : FnP K "_law_dots" s__law_dots (He.fAd K ("_law_dots", none)) fd__law_dots := F0__law_dots
  have g__law_dots := He.glo_ok X G (c.fact 6 (f := .glo "_law_dots") rfl)
  obtain ⟨fd_is_integer, F0_is_integer⟩ := c.def_ 7 (d := d_is_integer) rfl
  have F_is_integer : FnP K "is_integer" s_is_integer (He.fAd K ("is_integer", none)) fd_is_integer := F0_is_integer
  have g_is_integer := He.glo_ok X G (c.fact 7 (f := .glo "is_integer") rfl)
  obtain ⟨fd_check_values, F0_check_values⟩ := c.def_ 8 (d := d_check_values) rfl
  have F_check_values : FnP K "check_values" s_check_values (He.fAd K ("check_values", none)) fd_check_values := F0_check_values
  have g_check_values := He.glo_ok X G (c.fact 8 (f := .glo "check_values") rfl)
  obtain ⟨fd_loose_pairs, F0_loose_pairs⟩ := c.def_ 9 (d := d_loose_pairs) rfl
  have F_loose_pairs : FnP K "loose_pairs" s_loose_pairs (He.fAd K ("loose_pairs", none)) fd_loose_pairs := F0_loose_pairs
  have g_loose_pairs := He.glo_ok X G (c.fact 9 (f := .glo "loose_pairs") rfl)
  obtain ⟨fd_all_steps, F0_all_steps⟩ := c.def_ 10 (d := d_all_steps) rfl
  have F_all_steps : FnP K "all_steps" s_all_steps (He.fAd K ("all_steps", none)) fd_all_steps := F0_all_steps
  have g_all_steps := He.glo_ok X G (c.fact 10 (f := .glo "all_steps") rfl)
  obtain ⟨fd_certify_values, F0_certify_values⟩ := c.def_ 11 (d := d_certify_values) rfl
  have F_certify_values : FnP K "certify_values" s_certify_values (He.fAd K ("certify_values", none)) fd_certify_values := F0_certify_values
  have g_certify_values := He.glo_ok X G (c.fact 11 (f := .glo "certify_values") rfl)
  obtain ⟨fd__law_loose_of, F0__law_loose_of⟩ := c.def_ 12 (d := d__law_loose_of) rfl
  have F__law_loose_of : FnP K "_law_loose_of" s__law_loose_of (He.fAd K ("_law_loose_of", none)) fd__law_loose_of := F0__law_loose_of
  have g__law_loose_of := He.glo_ok X G (c.fact 12 (f := .glo "_law_loose_of") rfl)
  obtain ⟨fd_are_whole_numbers, F0_are_whole_numbers⟩ := c.def_ 13 (d := d_are_whole_numbers) rfl
  have F_are_whole_numbers : FnP K "are_whole_numbers" s_are_whole_numbers (He.fAd K ("are_whole_numbers", none)) fd_are_whole_numbers := F0_are_whole_numbers
  have g_are_whole_numbers := He.glo_ok X G (c.fact 13 (f := .glo "are_whole_numbers") rfl)
  obtain ⟨fd_are_values, F0_are_values⟩ := c.def_ 14 (d := d_are_values) rfl
  have F_are_values : FnP K "are_values" s_are_values (He.fAd K ("are_values", none)) fd_are_values := F0_are_values
  have g_are_values := He.glo_ok X G (c.fact 14 (f := .glo "are_values") rfl)
  obtain ⟨fd_is_pair_below, F0_is_pair_below⟩ := c.def_ 15 (d := d_is_pair_below) rfl
  have F_is_pair_below : FnP K "is_pair_below" s_is_pair_below (He.fAd K ("is_pair_below", none)) fd_is_pair_below := F0_is_pair_below
  have g_is_pair_below := He.glo_ok X G (c.fact 15 (f := .glo "is_pair_below") rfl)
  obtain ⟨fd_divides, F0_divides⟩ := c.def_ 16 (d := d_divides) rfl
  have F_divides : FnP K "divides" s_divides (He.fAd K ("divides", none)) fd_divides := F0_divides
  have g_divides := He.glo_ok X G (c.fact 16 (f := .glo "divides") rfl)
  obtain ⟨fd_is_shown_of_values, F0_is_shown_of_values⟩ := c.def_ 17 (d := d_is_shown_of_values) rfl
  have F_is_shown_of_values : FnP K "is_shown_of_values" s_is_shown_of_values (He.fAd K ("is_shown_of_values", none)) fd_is_shown_of_values := F0_is_shown_of_values
  have g_is_shown_of_values := He.glo_ok X G (c.fact 17 (f := .glo "is_shown_of_values") rfl)
  obtain ⟨fd_are_points, F0_are_points⟩ := c.def_ 18 (d := d_are_points) rfl
  have F_are_points : FnP K "are_points" s_are_points (He.fAd K ("are_points", none)) fd_are_points := F0_are_points
  have g_are_points := He.glo_ok X G (c.fact 18 (f := .glo "are_points") rfl)
  obtain ⟨fd_gap_and_product, F0_gap_and_product⟩ := c.def_ 19 (d := d_gap_and_product) rfl
  have F_gap_and_product : FnP K "gap_and_product" s_gap_and_product (He.fAd K ("gap_and_product", none)) fd_gap_and_product := F0_gap_and_product
  have g_gap_and_product := He.glo_ok X G (c.fact 19 (f := .glo "gap_and_product") rfl)
  obtain ⟨fd_is_stopped_at, F0_is_stopped_at⟩ := c.def_ 20 (d := d_is_stopped_at) rfl
  have F_is_stopped_at : FnP K "is_stopped_at" s_is_stopped_at (He.fAd K ("is_stopped_at", none)) fd_is_stopped_at := F0_is_stopped_at
  have g_is_stopped_at := He.glo_ok X G (c.fact 20 (f := .glo "is_stopped_at") rfl)
  obtain ⟨fd_value_there, F0_value_there⟩ := c.def_ 21 (d := d_value_there) rfl
  have F_value_there : FnP K "value_there" s_value_there (He.fAd K ("value_there", none)) fd_value_there := F0_value_there
  have g_value_there := He.glo_ok X G (c.fact 21 (f := .glo "value_there") rfl)
  obtain ⟨fd_is_shown_of_points, F0_is_shown_of_points⟩ := c.def_ 22 (d := d_is_shown_of_points) rfl
  have F_is_shown_of_points : FnP K "is_shown_of_points" s_is_shown_of_points (He.fAd K ("is_shown_of_points", none)) fd_is_shown_of_points := F0_is_shown_of_points
  have g_is_shown_of_points := He.glo_ok X G (c.fact 22 (f := .glo "is_shown_of_points") rfl)
  obtain ⟨fd_accepts, F0_accepts⟩ := c.def_ 23 (d := d_accepts) rfl
  have F_accepts : FnP K "accepts" s_accepts (He.fAd K ("accepts", none)) fd_accepts := F0_accepts
  have g_accepts := He.glo_ok X G (c.fact 23 (f := .glo "accepts") rfl)
  obtain ⟨fd__law_lots_at, F0__law_lots_at⟩ := c.def_ 24 (d := d__law_lots_at) rfl
  have F__law_lots_at : FnP K "_law_lots_at" s__law_lots_at (He.fAd K ("_law_lots_at", none)) fd__law_lots_at := F0__law_lots_at
  have g__law_lots_at := He.glo_ok X G (c.fact 24 (f := .glo "_law_lots_at") rfl)
  obtain ⟨fd__law_value_by, F0__law_value_by⟩ := c.def_ 25 (d := d__law_value_by) rfl
  have F__law_value_by : FnP K "_law_value_by" s__law_value_by (He.fAd K ("_law_value_by", none)) fd__law_value_by := F0__law_value_by
  have g__law_value_by := He.glo_ok X G (c.fact 25 (f := .glo "_law_value_by") rfl)
  obtain ⟨fd__law_table_right, F0__law_table_right⟩ := c.def_ 26 (d := d__law_table_right) rfl
  have F__law_table_right : FnP K "_law_table_right" s__law_table_right (He.fAd K ("_law_table_right", none)) fd__law_table_right := F0__law_table_right
  have g__law_table_right := He.glo_ok X G (c.fact 26 (f := .glo "_law_table_right") rfl)
  obtain ⟨fd__law_shared, F0__law_shared⟩ := c.def_ 27 (d := d__law_shared) rfl
  have F__law_shared : FnP K "_law_shared" s__law_shared (He.fAd K ("_law_shared", none)) fd__law_shared := F0__law_shared
  have g__law_shared := He.glo_ok X G (c.fact 27 (f := .glo "_law_shared") rfl)
  obtain ⟨fd__law_table, F0__law_table⟩ := c.def_ 28 (d := d__law_table) rfl
  have F__law_table : FnP K "_law_table" s__law_table (He.fAd K ("_law_table", none)) fd__law_table := F0__law_table
  have g__law_table := He.glo_ok X G (c.fact 28 (f := .glo "_law_table") rfl)
  obtain ⟨fd_are_integers, F0_are_integers⟩ := c.def_ 29 (d := d_are_integers) rfl
  have F_are_integers : FnP K "are_integers" s_are_integers (He.fAd K ("are_integers", none)) fd_are_integers := F0_are_integers
  have g_are_integers := He.glo_ok X G (c.fact 29 (f := .glo "are_integers") rfl)
  obtain ⟨fd_check_points, F0_check_points⟩ := c.def_ 30 (d := d_check_points) rfl
  have F_check_points : FnP K "check_points" s_check_points (He.fAd K ("check_points", none)) fd_check_points := F0_check_points
  have g_check_points := He.glo_ok X G (c.fact 30 (f := .glo "check_points") rfl)
  obtain ⟨fd_whole_value, F0_whole_value⟩ := c.def_ 31 (d := d_whole_value) rfl
  have F_whole_value : FnP K "whole_value" s_whole_value (He.fAd K ("whole_value", none)) fd_whole_value := F0_whole_value
  have g_whole_value := He.glo_ok X G (c.fact 31 (f := .glo "whole_value") rfl)
  obtain ⟨fd_grown, F0_grown⟩ := c.def_ 32 (d := d_grown) rfl
  have F_grown : FnP K "grown" s_grown (He.fAd K ("grown", none)) fd_grown := F0_grown
  have g_grown := He.glo_ok X G (c.fact 32 (f := .glo "grown") rfl)
  obtain ⟨fd_stretched, F0_stretched⟩ := c.def_ 33 (d := d_stretched) rfl
  have F_stretched : FnP K "stretched" s_stretched (He.fAd K ("stretched", none)) fd_stretched := F0_stretched
  have g_stretched := He.glo_ok X G (c.fact 33 (f := .glo "stretched") rfl)
  obtain ⟨fd_whole_through, F0_whole_through⟩ := c.def_ 34 (d := d_whole_through) rfl
  have F_whole_through : FnP K "whole_through" s_whole_through (He.fAd K ("whole_through", none)) fd_whole_through := F0_whole_through
  have g_whole_through := He.glo_ok X G (c.fact 34 (f := .glo "whole_through") rfl)
  obtain ⟨fd_trimmed, F0_trimmed⟩ := c.def_ 35 (d := d_trimmed) rfl
  have F_trimmed : FnP K "trimmed" s_trimmed (He.fAd K ("trimmed", none)) fd_trimmed := F0_trimmed
  have g_trimmed := He.glo_ok X G (c.fact 35 (f := .glo "trimmed") rfl)
  obtain ⟨fd_certify_points, F0_certify_points⟩ := c.def_ 36 (d := d_certify_points) rfl
  have F_certify_points : FnP K "certify_points" s_certify_points (He.fAd K ("certify_points", none)) fd_certify_points := F0_certify_points
  have g_certify_points := He.glo_ok X G (c.fact 36 (f := .glo "certify_points") rfl)
  obtain ⟨fd__law_dots_right, F0__law_dots_right⟩ := c.def_ 37 (d := d__law_dots_right) rfl
  have F__law_dots_right : FnP K "_law_dots_right" s__law_dots_right (He.fAd K ("_law_dots_right", none)) fd__law_dots_right := F0__law_dots_right
  have g__law_dots_right := He.glo_ok X G (c.fact 37 (f := .glo "_law_dots_right") rfl)
  obtain ⟨fd__law_right, F0__law_right⟩ := c.def_ 38 (d := d__law_right) rfl
  have F__law_right : FnP K "_law_right" s__law_right (He.fAd K ("_law_right", none)) fd__law_right := F0__law_right
  have g__law_right := He.glo_ok X G (c.fact 38 (f := .glo "_law_right") rfl)
  obtain ⟨fd__law_vial, F0__law_vial⟩ := c.def_ 39 (d := d__law_vial) rfl
  have F__law_vial : FnP K "_law_vial" s__law_vial (He.fAd K ("_law_vial", none)) fd__law_vial := F0__law_vial
  have g__law_vial := He.glo_ok X G (c.fact 39 (f := .glo "_law_vial") rfl)
  obtain ⟨fd_law, F0_law⟩ := c.def_ 40 (d := d_law) rfl
  have F_law : FnP K "law" s_law (He.fAd K ("law", none)) fd_law := F0_law
  have g_law := He.glo_ok X G (c.fact 40 (f := .glo "law") rfl)
  have z_abs := He.free_ok X G (c.fact 41 (f := .free "abs") rfl)
  have z_all := He.free_ok X G (c.fact 42 (f := .free "all") rfl)
  have z_bool := He.free_ok X G (c.fact 43 (f := .free "bool") rfl)
  have z_divmod := He.free_ok X G (c.fact 44 (f := .free "divmod") rfl)
  have z_enumerate := He.free_ok X G (c.fact 45 (f := .free "enumerate") rfl)
  have z_int := He.free_ok X G (c.fact 46 (f := .free "int") rfl)
  have z_isinstance := He.free_ok X G (c.fact 47 (f := .free "isinstance") rfl)
  have z_len := He.free_ok X G (c.fact 48 (f := .free "len") rfl)
  have z_list := He.free_ok X G (c.fact 49 (f := .free "list") rfl)
  have z_max := He.free_ok X G (c.fact 50 (f := .free "max") rfl)
  have z_min := He.free_ok X G (c.fact 51 (f := .free "min") rfl)
  have z_range := He.free_ok X G (c.fact 52 (f := .free "range") rfl)
  have z_reversed := He.free_ok X G (c.fact 53 (f := .free "reversed") rfl)
  have z_str := He.free_ok X G (c.fact 54 (f := .free "str") rfl)
  have z_sum := He.free_ok X G (c.fact 55 (f := .free "sum") rfl)
  have z_tuple := He.free_ok X G (c.fact 56 (f := .free "tuple") rfl)
  have z_zip := He.free_ok X G (c.fact 57 (f := .free "zip") rfl)
  obtain ⟨t_LONGEST_POINTS, z_LONGEST_POINTS⟩ := He.int_ok X G (c.fact 58 (f := .int "LONGEST_POINTS" 13) rfl)
  obtain ⟨t_LONGEST_VALUES, z_LONGEST_VALUES⟩ := He.int_ok X G (c.fact 59 (f := .int "LONGEST_VALUES" 40) rfl)
  obtain ⟨t_MOST_DEGREE, z_MOST_DEGREE⟩ := He.int_ok X G (c.fact 60 (f := .int "MOST_DEGREE" 12) rfl)
  obtain ⟨t_MOST_PLACES, z_MOST_PLACES⟩ := He.int_ok X G (c.fact 61 (f := .int "MOST_PLACES" 40) rfl)
  have o_are_facts : FOk P w K mg base [] 1 "are_facts" ps_are_facts ks_are_facts spNo := fok_no (FnP.fn F_are_facts) g_are_facts sc_are_facts bd_are_facts
  have o_is_shown_of_answer : FOk P w K mg base [] 1 "is_shown_of_answer" ps_is_shown_of_answer ks_is_shown_of_answer spNo := fok_no (FnP.fn F_is_shown_of_answer) g_is_shown_of_answer sc_is_shown_of_answer bd_is_shown_of_answer
  have o_is_shown_of_facts : FOk P w K mg base [] 1 "is_shown_of_facts" ps_is_shown_of_facts ks_is_shown_of_facts spNo := fok_no (FnP.fn F_is_shown_of_facts) g_is_shown_of_facts sc_is_shown_of_facts bd_is_shown_of_facts
  have o__law_drop : FOk P w K mg base [] 1 "_law_drop" ps__law_drop ks__law_drop (sp_drop) := fok (FnP.fn F__law_drop) g__law_drop sc__law_drop bd__law_drop (fun f cd A outer s H E V Ex hg hr hx hp => w__law_drop z_divmod z_int f cd A outer s H E V Ex hg hr hx hp) sem_drop fun vs s Q E1 ⟨_, _, e, _⟩ => by rw [e] <;> rfl
  have o__law_any : FOk P w K mg base [] 2 "_law_any" ps__law_any ks__law_any (sp_any) := fok (FnP.fn F__law_any) g__law_any sc__law_any bd__law_any (fun f cd A outer s H E V Ex hg hr hx hp => w__law_any (o__law_drop.mono (by decide) fun a h => h) z_len f cd A outer s H E V Ex hg hr hx hp) sem_any fun vs s Q E1 ⟨_, _, e, _⟩ => by rw [e] <;> rfl
  have o__law_made_value : FOk P w K mg base [] 1 "_law_made_value" ps__law_made_value ks__law_made_value (sp_made5) := fok (FnP.fn F__law_made_value) g__law_made_value sc__law_made_value bd__law_made_value (fun f cd A outer s H E V Ex hg hr hx hp => w__law_made_value f cd A outer s H E V Ex hg hr hx hp) sem_made5 fun vs s Q E1 ⟨_, _, _, e, _⟩ => by rw [e] <;> rfl
  have o__law_dots : FOk P w K mg base [] 3 "_law_dots" ps__law_dots ks__law_dots (sp_dots5) := fok (FnP.fn F__law_dots) g__law_dots sc__law_dots bd__law_dots (fun f cd A outer s H E V Ex hg hr hx hp => w__law_dots (o__law_drop.mono (by decide) fun a h => h) (o__law_any.mono (by decide) fun a h => h) (o__law_made_value.mono (by decide) fun a h => h) z_min z_range z_tuple f cd A outer s H E V Ex hg hr hx hp) sem_dots5 fun vs s Q E1 ⟨_, e, _⟩ => by rw [e] <;> rfl
  have o_is_integer : FOk P w K mg base [] 1 "is_integer" ps_is_integer ks_is_integer (sp_isint) := fok (FnP.fn F_is_integer) g_is_integer sc_is_integer bd_is_integer (fun f cd A outer s H E V Ex hg hr hx hp => w_is_integer z_isinstance z_int z_bool f cd A outer s H E V Ex hg hr hx hp) sem_isint fun vs s Q E1 ⟨_, e, _⟩ => by rw [e] <;> rfl
  have o_check_values : FOk P w K mg base [] 2 "check_values" ps_check_values ks_check_values (sp_chkV) := fok (FnP.fn F_check_values) g_check_values sc_check_values bd_check_values (fun f cd A outer s H E V Ex hg hr hx hp => w_check_values (o_is_integer.mono (by decide) fun a h => h) z_MOST_PLACES z_isinstance z_tuple z_enumerate f cd A outer s H E V Ex hg hr hx hp) sem_chkV fun vs s Q E1 ⟨_, e, _⟩ => by rw [e] <;> rfl
  have o_loose_pairs : FOk P w K mg base [] 1 "loose_pairs" ps_loose_pairs ks_loose_pairs (sp_loose) := fok (FnP.fn F_loose_pairs) g_loose_pairs sc_loose_pairs bd_loose_pairs (fun f cd A outer s H E V Ex hg hr hx hp => w_loose_pairs z_len z_list z_range f cd A outer s H E V Ex hg hr hx hp) sem_loose fun vs s Q E1 ⟨_, e, _⟩ => by rw [e] <;> rfl
  have o_all_steps : FOk P w K mg base [] 1 "all_steps" ps_all_steps ks_all_steps (sp_allSt) := fok (FnP.fn F_all_steps) g_all_steps sc_all_steps bd_all_steps (fun f cd A outer s H E V Ex hg hr hx hp => w_all_steps z_list z_zip f cd A outer s H E V Ex hg hr hx hp) sem_allSt fun vs s Q E1 ⟨_, e, _⟩ => by rw [e] <;> rfl
  have o_certify_values : FOk P w K mg base [] 3 "certify_values" ps_certify_values ks_certify_values (sp_certV) := fok (FnP.fn F_certify_values) g_certify_values sc_certify_values bd_certify_values (fun f cd A outer s H E V Ex hg hr hx hp => w_certify_values (o_check_values.mono (by decide) fun a h => h) (o_loose_pairs.mono (by decide) fun a h => h) (o_all_steps.mono (by decide) fun a h => h) z_tuple f cd A outer s H E V Ex hg hr hx hp) sem_certV fun vs s Q E1 ⟨_, e, _⟩ => by rw [e] <;> rfl
  have o__law_loose_of : FOk P w K mg base [] 1 "_law_loose_of" ps__law_loose_of ks__law_loose_of (sp_lof) := fok (FnP.fn F__law_loose_of) g__law_loose_of sc__law_loose_of bd__law_loose_of (fun f cd A outer s H E V Ex hg hr hx hp => w__law_loose_of z_len z_range z_int f cd A outer s H E V Ex hg hr hx hp) sem_lof fun vs s Q E1 ⟨_, e, _⟩ => by rw [e] <;> rfl
  have o_are_whole_numbers : FOk P w K mg base [] 2 "are_whole_numbers" ps_are_whole_numbers ks_are_whole_numbers (sp_whole) := fok (FnP.fn F_are_whole_numbers) g_are_whole_numbers sc_are_whole_numbers bd_are_whole_numbers (fun f cd A outer s H E V Ex hg hr hx hp => w_are_whole_numbers (o_is_integer.mono (by decide) fun a h => h) z_isinstance z_tuple z_len z_all f cd A outer s H E V Ex hg hr hx hp) sem_whole fun vs s Q E1 ⟨_, _, e, _⟩ => by rw [e] <;> rfl
  have o_are_values : FOk P w K mg base [] 3 "are_values" ps_are_values ks_are_values (sp_values) := fok (FnP.fn F_are_values) g_are_values sc_are_values bd_are_values (fun f cd A outer s H E V Ex hg hr hx hp => w_are_values (o_are_whole_numbers.mono (by decide) fun a h => h) z_LONGEST_VALUES z_isinstance z_tuple z_len f cd A outer s H E V Ex hg hr hx hp) sem_values fun vs s Q E1 ⟨_, e, _⟩ => by rw [e] <;> rfl
  have o_is_pair_below : FOk P w K mg base [] 3 "is_pair_below" ps_is_pair_below ks_is_pair_below (sp_below) := fok (FnP.fn F_is_pair_below) g_is_pair_below sc_is_pair_below bd_is_pair_below (fun f cd A outer s H E V Ex hg hr hx hp => w_is_pair_below (o_are_whole_numbers.mono (by decide) fun a h => h) f cd A outer s H E V Ex hg hr hx hp) sem_below fun vs s Q E1 ⟨_, _, e, _⟩ => by rw [e] <;> rfl
  have o_divides : FOk P w K mg base [] 1 "divides" ps_divides ks_divides (sp_divides) := fok (FnP.fn F_divides) g_divides sc_divides bd_divides (fun f cd A outer s H E V Ex hg hr hx hp => w_divides f cd A outer s H E V Ex hg hr hx hp) sem_divides fun vs s Q E1 ⟨_, _, e, _⟩ => by rw [e] <;> rfl
  have o_is_shown_of_values : FOk P w K mg base [] 4 "is_shown_of_values" ps_is_shown_of_values ks_is_shown_of_values (sp_shownV) := fok (FnP.fn F_is_shown_of_values) g_is_shown_of_values sc_is_shown_of_values bd_is_shown_of_values (fun f cd A outer s H E V Ex hg hr hx hp => w_is_shown_of_values (o_is_pair_below.mono (by decide) fun a h => h) (o_divides.mono (by decide) fun a h => h) (o_are_whole_numbers.mono (by decide) fun a h => h) z_len z_list z_enumerate z_range z_all z_zip f cd A outer s H E V Ex hg hr hx hp) sem_shownV fun vs s Q E1 ⟨_, _, _, e, _⟩ => by rw [e] <;> rfl
  have o_are_points : FOk P w K mg base [] 3 "are_points" ps_are_points ks_are_points (sp_points) := fok (FnP.fn F_are_points) g_are_points sc_are_points bd_are_points (fun f cd A outer s H E V Ex hg hr hx hp => w_are_points (o_are_whole_numbers.mono (by decide) fun a h => h) z_LONGEST_POINTS z_isinstance z_tuple z_len z_all z_zip f cd A outer s H E V Ex hg hr hx hp) sem_points fun vs s Q E1 ⟨_, e, _⟩ => by rw [e] <;> rfl
  have o_gap_and_product : FOk P w K mg base [] 1 "gap_and_product" ps_gap_and_product ks_gap_and_product (sp_gap) := fok (FnP.fn F_gap_and_product) g_gap_and_product sc_gap_and_product bd_gap_and_product (fun f cd A outer s H E V Ex hg hr hx hp => w_gap_and_product z_zip f cd A outer s H E V Ex hg hr hx hp) sem_gap fun vs s Q E1 ⟨_, _, _, _, _, _, e, _⟩ => by rw [e] <;> rfl
  have o_is_stopped_at : FOk P w K mg base [] 2 "is_stopped_at" ps_is_stopped_at ks_is_stopped_at (sp_stopped) := fok (FnP.fn F_is_stopped_at) g_is_stopped_at sc_is_stopped_at bd_is_stopped_at (fun f cd A outer s H E V Ex hg hr hx hp => w_is_stopped_at (o_gap_and_product.mono (by decide) fun a h => h) (o_divides.mono (by decide) fun a h => h) z_range f cd A outer s H E V Ex hg hr hx hp) sem_stopped fun vs s Q E1 ⟨_, _, e, _⟩ => by rw [e] <;> rfl
  have o_value_there : FOk P w K mg base [] 1 "value_there" ps_value_there ks_value_there (sp_vthere) := fok (FnP.fn F_value_there) g_value_there sc_value_there bd_value_there (fun f cd A outer s H E V Ex hg hr hx hp => w_value_there f cd A outer s H E V Ex hg hr hx hp) sem_vthere fun vs s Q E1 ⟨_, _, e, _⟩ => by rw [e] <;> rfl
  have o_is_shown_of_points : FOk P w K mg base [] 3 "is_shown_of_points" ps_is_shown_of_points ks_is_shown_of_points (sp_shownP) := fok (FnP.fn F_is_shown_of_points) g_is_shown_of_points sc_is_shown_of_points bd_is_shown_of_points (fun f cd A outer s H E V Ex hg hr hx hp => w_is_shown_of_points (o_is_integer.mono (by decide) fun a h => h) (o_is_stopped_at.mono (by decide) fun a h => h) (o_are_whole_numbers.mono (by decide) fun a h => h) (o_value_there.mono (by decide) fun a h => h) z_len z_isinstance z_tuple z_all f cd A outer s H E V Ex hg hr hx hp) sem_shownP fun vs s Q E1 ⟨_, _, _, e, _⟩ => by rw [e] <;> rfl
  have o_accepts : FOk P w K mg base [] 5 "accepts" ps_accepts ks_accepts (sp_acc5) := fok (FnP.fn F_accepts) g_accepts sc_accepts bd_accepts (fun f cd A outer s H E V Ex hg hr hx hp => w_accepts (o_are_facts.mono (by decide) fun a h => h) (o_are_whole_numbers.mono (by decide) fun a h => h) (o_is_shown_of_answer.mono (by decide) fun a h => h) (o_is_shown_of_facts.mono (by decide) fun a h => h) (o_are_values.mono (by decide) fun a h => h) (o_is_shown_of_values.mono (by decide) fun a h => h) (o_are_points.mono (by decide) fun a h => h) (o_is_shown_of_points.mono (by decide) fun a h => h) z_isinstance z_tuple z_len z_str f cd A outer s H E V Ex hg hr hx hp) sem_acc5 fun vs s Q E1 ⟨_, _, _, e, _⟩ => by rw [e] <;> rfl
  have o__law_lots_at : FOk P w K mg base [] 1 "_law_lots_at" ps__law_lots_at ks__law_lots_at (sp_lotsAt) := fok (FnP.fn F__law_lots_at) g__law_lots_at sc__law_lots_at bd__law_lots_at (fun f cd A outer s H E V Ex hg hr hx hp => w__law_lots_at z_range f cd A outer s H E V Ex hg hr hx hp) sem_lotsAt fun vs s Q E1 ⟨_, _, e, _⟩ => by rw [e] <;> rfl
  have o__law_value_by : FOk P w K mg base [] 2 "_law_value_by" ps__law_value_by ks__law_value_by (sp_valBy) := fok (FnP.fn F__law_value_by) g__law_value_by sc__law_value_by bd__law_value_by (fun f cd A outer s H E V Ex hg hr hx hp => w__law_value_by (o__law_lots_at.mono (by decide) fun a h => h) z_len z_zip z_sum f cd A outer s H E V Ex hg hr hx hp) sem_valBy fun vs s Q E1 ⟨_, _, _, e, _⟩ => by rw [e] <;> rfl
  have o__law_table_right : FOk P w K mg base [] 6 "_law_table_right" ps__law_table_right ks__law_table_right (sp_tabR) := fok (FnP.fn F__law_table_right) g__law_table_right sc__law_table_right bd__law_table_right (fun f cd A outer s H E V Ex hg hr hx hp => w__law_table_right (o_certify_values.mono (by decide) fun a h => h) (o__law_loose_of.mono (by decide) fun a h => h) (o_accepts.mono (by decide) fun a h => h) (o__law_value_by.mono (by decide) fun a h => h) z_isinstance z_tuple z_len z_range z_list f cd A outer s H E V Ex hg hr hx hp) sem_tabR fun vs s Q E1 ⟨_, e, _⟩ => by rw [e] <;> rfl
  have o__law_shared : FOk P w K mg base [] 1 "_law_shared" ps__law_shared ks__law_shared (sp_lshared) := fok (FnP.fn F__law_shared) g__law_shared sc__law_shared bd__law_shared (fun f cd A outer s H E V Ex hg hr hx hp => w__law_shared z_abs z_int f cd A outer s H E V Ex hg hr hx hp) sem_lshared fun vs s Q E1 ⟨_, _, e, _⟩ => by rw [e] <;> rfl
  have o__law_table : FOk P w K mg base [] 3 "_law_table" ps__law_table ks__law_table (sp_table) := fok (FnP.fn F__law_table) g__law_table sc__law_table bd__law_table (fun f cd A outer s H E V Ex hg hr hx hp => w__law_table (o__law_drop.mono (by decide) fun a h => h) (o__law_any.mono (by decide) fun a h => h) (o__law_shared.mono (by decide) fun a h => h) (o__law_value_by.mono (by decide) fun a h => h) z_range z_tuple z_max f cd A outer s H E V Ex hg hr hx hp) sem_table fun vs s Q E1 ⟨_, _, e, _⟩ => by rw [e] <;> rfl
  have o_are_integers : FOk P w K mg base [] 2 "are_integers" ps_are_integers ks_are_integers (sp_areints) := fok (FnP.fn F_are_integers) g_are_integers sc_are_integers bd_are_integers (fun f cd A outer s H E V Ex hg hr hx hp => w_are_integers (o_is_integer.mono (by decide) fun a h => h) z_isinstance z_tuple z_len z_all f cd A outer s H E V Ex hg hr hx hp) sem_areints fun vs s Q E1 ⟨_, _, e, _⟩ => by rw [e] <;> rfl
  have o_check_points : FOk P w K mg base [] 3 "check_points" ps_check_points ks_check_points (sp_chkP) := fok (FnP.fn F_check_points) g_check_points sc_check_points bd_check_points (fun f cd A outer s H E V Ex hg hr hx hp => w_check_points (o_are_integers.mono (by decide) fun a h => h) z_MOST_DEGREE z_isinstance z_tuple z_enumerate f cd A outer s H E V Ex hg hr hx hp) sem_chkP fun vs s Q E1 ⟨_, e, _⟩ => by rw [e] <;> rfl
  have o_whole_value : FOk P w K mg base [] 1 "whole_value" ps_whole_value ks_whole_value (sp_wv) := fok (FnP.fn F_whole_value) g_whole_value sc_whole_value bd_whole_value (fun f cd A outer s H E V Ex hg hr hx hp => w_whole_value z_list z_reversed f cd A outer s H E V Ex hg hr hx hp) sem_wv fun vs s Q E1 ⟨_, _, e, _⟩ => by rw [e] <;> rfl
  have o_grown : FOk P w K mg base [] 1 "grown" ps_grown ks_grown (sp_grown) := fok (FnP.fn F_grown) g_grown sc_grown bd_grown (fun f cd A outer s H E V Ex hg hr hx hp => w_grown z_zip f cd A outer s H E V Ex hg hr hx hp) sem_grown fun vs s Q E1 ⟨_, _, _, e, _⟩ => by rw [e] <;> rfl
  have o_stretched : FOk P w K mg base [] 1 "stretched" ps_stretched ks_stretched (sp_stretched) := fok (FnP.fn F_stretched) g_stretched sc_stretched bd_stretched (fun f cd A outer s H E V Ex hg hr hx hp => w_stretched z_zip f cd A outer s H E V Ex hg hr hx hp) sem_stretched fun vs s Q E1 ⟨_, _, e, _⟩ => by rw [e] <;> rfl
  have o_whole_through : FOk P w K mg base [] 2 "whole_through" ps_whole_through ks_whole_through (sp_wt) := fok (FnP.fn F_whole_through) g_whole_through sc_whole_through bd_whole_through (fun f cd A outer s H E V Ex hg hr hx hp => w_whole_through (o_whole_value.mono (by decide) fun a h => h) (o_grown.mono (by decide) fun a h => h) (o_stretched.mono (by decide) fun a h => h) z_enumerate z_divmod z_len f cd A outer s H E V Ex hg hr hx hp) sem_wt fun vs s Q E1 ⟨_, e, _⟩ => by rw [e] <;> rfl
  have o_trimmed : FOk P w K mg base [] 1 "trimmed" ps_trimmed ks_trimmed (sp_trimmed) := fok (FnP.fn F_trimmed) g_trimmed sc_trimmed bd_trimmed (fun f cd A outer s H E V Ex hg hr hx hp => w_trimmed z_list z_len z_tuple f cd A outer s H E V Ex hg hr hx hp) sem_trimmed fun vs s Q E1 ⟨_, e, _⟩ => by rw [e] <;> rfl
  have o_certify_points : FOk P w K mg base [] 4 "certify_points" ps_certify_points ks_certify_points (sp_certP) := fok (FnP.fn F_certify_points) g_certify_points sc_certify_points bd_certify_points (fun f cd A outer s H E V Ex hg hr hx hp => w_certify_points (o_check_points.mono (by decide) fun a h => h) (o_whole_through.mono (by decide) fun a h => h) (o_trimmed.mono (by decide) fun a h => h) z_len f cd A outer s H E V Ex hg hr hx hp) sem_certP fun vs s Q E1 ⟨_, e, _⟩ => by rw [e] <;> rfl
  have o__law_dots_right : FOk P w K mg base [] 6 "_law_dots_right" ps__law_dots_right ks__law_dots_right (sp_dotsR) := fok (FnP.fn F__law_dots_right) g__law_dots_right sc__law_dots_right bd__law_dots_right (fun f cd A outer s H E V Ex hg hr hx hp => w__law_dots_right (o_certify_points.mono (by decide) fun a h => h) (o_accepts.mono (by decide) fun a h => h) (o__law_made_value.mono (by decide) fun a h => h) z_len z_range z_int f cd A outer s H E V Ex hg hr hx hp) sem_dotsR fun vs s Q E1 ⟨_, _, e, _⟩ => by rw [e] <;> rfl
  have o__law_right : FOk P w K mg base [] 7 "_law_right" ps__law_right ks__law_right (sp_right) := fok (FnP.fn F__law_right) g__law_right sc__law_right bd__law_right (fun f cd A outer s H E V Ex hg hr hx hp => w__law_right (o__law_any.mono (by decide) fun a h => h) (o__law_drop.mono (by decide) fun a h => h) (o__law_dots.mono (by decide) fun a h => h) (o__law_table_right.mono (by decide) fun a h => h) (o__law_table.mono (by decide) fun a h => h) (o__law_dots_right.mono (by decide) fun a h => h) z_range f cd A outer s H E V Ex hg hr hx hp) sem_right75 fun vs s Q E1 ⟨_, e, _⟩ => by rw [e] <;> rfl
  have o__law_vial : FOk P w K mg base [] 1 "_law_vial" ps__law_vial ks__law_vial (sp_vial) := fok (FnP.fn F__law_vial) g__law_vial sc__law_vial bd__law_vial (fun f cd A outer s H E V Ex hg hr hx hp => w__law_vial z_len z_int z_abs f cd A outer s H E V Ex hg hr hx hp) sem_vial fun vs s Q E1 ⟨_, _, e, _⟩ => by rw [e] <;> rfl
  have o_law : FOk P w K mg base [] 8 "law" ps_law ks_law (sp_law 63) := fok (FnP.fn F_law) g_law sc_law bd_law (fun f cd A outer s H E V Ex hg hr hx hp => w_law (o__law_right.mono (by decide) fun a h => h) (o__law_vial.mono (by decide) fun a h => h) z_len z_min z_max z_range z_all f cd A outer s H E V Ex hg hr hx hp) sem_law fun vs s Q E1 ⟨_, e, _⟩ => by rw [e] <;> rfl
  exact o_law
theorem says : LawSays (sp_law 63) 63 := fun ns hl _ => ⟨ns, rfl, rfl, hl, fun _ => rfl⟩
end DL
open PySem PySem.W PySem.Calls PyProof.Rows in
set_option maxRecDepth 100000 in
set_option maxHeartbeats 0 in
theorem PySem.Challenge.cw_keptrests_k75_whole_tables_and_points_ce_holds : PySem.Challenge.rw_keptrests_k75_whole_tables_and_points_ce.Holds := by
  w_on; o_law
  refine HandSHeadRun.head_any (r := OpenLaw.row PySem.Challenge.rw_keptrests_k75_whole_tables_and_points_ce) (q := view (OpenLaw.row PySem.Challenge.rw_keptrests_k75_whole_tables_and_points_ce).prog [60]) (H := DL.hkT) (ob := DL.obT) (M := 4000) (loose := DL.looseT)
    (d := HandSHeadRun.topDef (OpenLaw.row PySem.Challenge.rw_keptrests_k75_whole_tables_and_points_ce).prog 60) (kwd := []) DL.obT_eq (by kernel_rfl) (fun s => by kernel_rfl) DL.runT (by kernel_rfl) (by kernel_rfl) (by kernel_rfl) (by rfl)
    (by first | assumption | decide +kernel) (by decide +kernel) ⟨rfl, rfl, rfl, rfl, rfl, by decide +kernel⟩ ?hw ?hc
  case hw => w_witness2
  case hc =>
    refine DL.walk_says (l := PySem.Challenge.rw_keptrests_k75_whole_tables_and_points_ce) (n := 63) (k := 8) (nm := "law") (x := "_law_script") (kss := []) (sp := DL.sp_law 63) (by kernel_rfl) rfl (by decide) (by kernel_rfl) ⟨rfl, by decide, by decide⟩ (fun w mg fa h Y G _ => ?_) DL.says
    obtain ⟨K, KX, c⟩ := Y
    exact ⟨K, KX, fun base _ _ => DL.facts KX G c base⟩

import PyProof.Rows.All
import Wide.All
import OpenK.AllK
import Wide.FinOn
import HandS.ForMost
import HandS.Style
import HandS.Star
import HandS.Deep
import HandS.IsInst
import KE.GoesMore
import HandS.Evl
import PySem.Challenge.RW_lumpplans_k74_whole_thing_papers
set_option Elab.async false
set_option linter.all false
set_option maxRecDepth 100000
set_option maxHeartbeats 4000000
/-! rules that the layer lacks: enumerate of a tuple, extend by a tuple, in of a tuple of data, repr of a list of pairs -/
namespace Lp
open PySem PySem.Spec PyProof.Rows L2

theorem pe_never {X : Cx} {e : Expr} : PE X e (fun _ _ _ => False) := ⟨fun _ _ _ _ _ _ h => h.elim⟩

/-! ### x in a tuple of data -/
def rInTD (K : PySem.W.Frag) : R2 := fun x y H Q => ∃ d ds, Dp K H x d ∧ Dp K H y (.tuple ds) ∧ SeqAt.shaped d = true ∧ SeqAt.shaped (.tuple ds) = true ∧ Q (.bl (ds.any fun z => PyData.eqv z d)) H
theorem op_inTD {X : Cx} {k : Nat} (hr : Room k X.A) : OpR X (compareOp .In) (rInTD X.K) := by
  rintro pins s σ H x y v u Q I rx ry ⟨d, ds, datIs, he, sd, se, q⟩
  have roomy : X.A.units + 65 < cLine := by have := hr.un; omega
  obtain ⟨as, r1⟩ := Dp.reads I d x v datIs rx
  obtain ⟨bs, r2⟩ := Dp.reads I (.tuple ds) y u he ry
  refine SeqAt.in_tuple_reads r2 r1 ?_ (SeqAt.canLay_of_shaped sd) (room_in_shaped sd roomy) ⟨.bl _, H, I, rfl, q⟩
  exact SeqAt.canLay_of_shaped se

/-! ### xs.extend(tuple) -/
def rExtendT (K : PySem.W.Frag) : V → List V → Hp → VK → Prop := fun x vs H Q => ∃ l b xs zs, x = .ref l ∧ vs = [.ref b] ∧ H l = some (.lst xs) ∧ H b = some (.tup zs) ∧ xs.length + zs.length ≤ sizeLine ∧ Q .non (upd H l (.lst (xs ++ zs)))

/-! ### enumerate(tuple) -/
def IteT (K : PySem.W.Frag) (a : Addr) : It :=
  ⟨fun i H => ∃ (xs : List V) (x : V), SqT K H a xs ∧ xs[i]? = some x,
   fun i H v H' => ∃ T x, v = .ref T ∧ H T = none ∧ H' = upd H T (.tup [.int (i : Nat), x]) ∧ ∀ xs, SqT K H a xs → xs[i]? = some x,
   fun i H => ∃ xs : List V, SqT K H a xs ∧ xs.length = i⟩

theorem apart_of {h : Heap} {a it : Addr} {items : Array Value} {i : Nat} (p : h.IsTuple a items) (q : h.IsTupleIter it a i) : a ≠ it := by
  rintro rfl
  obtain ⟨o, h1, h2, _⟩ := p
  obtain ⟨o', h3, h4, _⟩ := q
  rw [h1] at h3
  cases h3
  rw [h2] at h4
  exact absurd h4 (by decide)

theorem turn_enumT {P : Program} {w : World} {K : PySem.W.Frag} {elts : List Expr} {kk : Nat} {tpos : Pos} (a e it : Addr) :
    Turn P w K (.Tuple elts kk tpos) (IteT K a) [e, it] e (fun i h => (∃ old, IsEnum h e it ((i : Nat) : Int) old) ∧ h.IsTupleIter it a i ∧ e ≠ it ∧ e ≠ a) where
  mem := by simp
  obj := by
    rintro i h ⟨⟨old, he⟩, ⟨o, ho, clsIs, datIs⟩, _⟩ b memb
    rcases List.mem_cons.mp memb with z | z
    · rw [z]
      exact ⟨_, he, fun v q => nomatch q⟩
    · rw [List.mem_singleton.mp z]
      exact ⟨o, ho, fun v q => by rw [datIs] at q; cases q⟩
  keep := by
    rintro i h h' ⟨⟨old, he⟩, hi, hne⟩ k
    exact ⟨⟨old, k e List.mem_cons_self _ he⟩, hi.at fun o q => k it (by simp) o q, hne⟩
  item := by
    intro X hP hw hK clsIs i pins s σ H E I hf st hg
    subst hP hw hK
    obtain ⟨⟨old, he⟩, hit, hne, hea⟩ := st
    obtain ⟨xs, x, hq, hx⟩ := hg
    obtain ⟨elems, seen, p, szs⟩ := I.tuple hq
    obtain ⟨u, roomy, ru⟩ := seen.get hx
    have pT : s.heap.IsTuple a elems.toArray := p
    have hai : a ≠ it := apart_of pT hit
    have hel := Heap.lt_size he
    have itIn : it < s.heap.objs.size := by obtain ⟨_, q, _⟩ := hit; exact Heap.lt_size q
    have hlt : i < elems.toArray.size := by
      have q := (List.getElem?_eq_some_iff.mp roomy).1
      simpa using q
    refine wpAny_pyNext_enum_itemD (Draws.tuple (prog := X.prog) (w := X.w) (A := X.A.in1) (I.ok.hd clsIs) it a hai elems.toArray) he ⟨hit, pT⟩ hlt hne (by simp [hne, hea]) ?_
    intro y h' tk hy ho st' hT enough hk
    have ey : y = u := by
      have q : elems.toArray[i]? = some u := by simpa using roomy
      exact Option.some.inj (hy.symm.trans q)
    subst ey
    refine ⟨_, rfl, wpAny_letOwnedTupleGo_enum (s := { s with heap := h', toks := tk + 1 }) ho fun h'' he' sb => ?_⟩
    have hT2 := (sb.2 _ (Nat.ne_of_gt hel)).trans hT
    have new : ObjOk X.prog X.w (upd H s.heap.objs.size (.tup [.int (i : Nat), x])) h'' s.heap.objs.size (.tup [.int (i : Nat), x]) := by
      refine ⟨by show 2 ≤ sizeLine; decide, [.int i tk, y], .cons ⟨_, rfl⟩ (.cons ru .nil), ⟨_, hT2, rfl, _, rfl⟩⟩
    have far : ∀ b : Addr, b ∉ ([e, it] : List Addr) → b ≠ e ∧ b ≠ it := fun b memb => ⟨fun z => memb (by simp [z]), fun z => memb (by simp [z])⟩
    have J1 : Inv X pins σ (upd H s.heap.objs.size (.tup [.int (i : Nat), x])) { s with heap := h'', toks := tk + 1 } := by
      refine I.turnedNew (ch := [e, it]) (fun b ob memb q => ?_) hf (Nat.le_refl _) new
      obtain ⟨n1, n2⟩ := far b memb
      exact (sb.2 b n1).trans (hk b ob n1 n2 q)
    refine ⟨.ref s.heap.objs.size, _, J1, rfl, ⟨_, x, rfl, I.hok.fresh (Nat.le_refl _), rfl, fun ys hy => by rw [I.tuple_inj hy hq]; exact hx⟩, ⟨⟨y, ?_⟩, st'.1.at fun o q => (sb.2 it (Ne.symm hne)).trans q, hne, hea⟩, fun b memb => ?_⟩
    · rw [show ((i + 1 : Nat) : Int) = (i : Int) + 1 by omega]
      exact he'
    · have below : b < s.heap.objs.size := by
        rcases List.mem_cons.mp memb with z | z
        · rw [z]; exact hel
        · rw [List.mem_singleton.mp z]; exact itIn
      rw [upd_ne (Nat.ne_of_lt below)]
      exact (hf b memb).1
  done := by
    intro X hP hw hK clsIs i pins s σ H E I hf st hg
    subst hP hw hK
    obtain ⟨⟨old, he⟩, hit, hne, hea⟩ := st
    obtain ⟨xs, hq, hx⟩ := hg
    obtain ⟨elems, seen, p, szs⟩ := I.tuple hq
    have pT : s.heap.IsTuple a elems.toArray := p
    have atl := seen.length
    obtain ⟨q0, q1, q2, q3, q4, q5⟩ := hf it (by simp)
    have hai : a ≠ it := apart_of pT hit
    have hn : i = elems.toArray.size := by simp; omega
    subst hn
    exact wpAny_pyNext_enum_endD (Draws.tuple (prog := X.prog) (w := X.w) (A := X.A.in1) (I.ok.hd clsIs) it a hai elems.toArray) he ⟨hit, pT⟩ fun h' eb => ⟨rfl, I.turned (t' := s.toks) (fun b o memb q => eb b o memb q) q0 q1 q3 q4 q5⟩
  self := by
    rintro A i s Q E ⟨⟨_, he⟩, _⟩ h
    exact wpAny_pyIter_enum he h

/-! ### enumerate(t) made -/
theorem meets_enumT (l : Addr) (items : Array Value) (n : Nat) (dct : Option Addr) (sl : Array (Option Value)) :
    Meets (Builtin.«enumerate.__new__» ⟨[.type "enumerate", .ref l], []⟩) (fun _ R s => s.heap.get? l = some { cls := .type "tuple", dict := dct, data := .seq items n, slots := sl } ∧
      R (.ok (.ret (.ref (s.heap.push { cls := .type "tuple_iterator", data := .fields #[.ref l, .int 0 0] }).objs.size)))
        { s with heap := (s.heap.push { cls := .type "tuple_iterator", data := .fields #[.ref l, .int 0 0] }).push { cls := .type "enumerate", data := .fields #[.none, .bool false, .ref s.heap.objs.size, rawInt 0, .none, .none] } }) :=
  .of_wp fun prog w A R s h => by
    obtain ⟨hp, g, d, tk, os⟩ := s
    obtain ⟨atl, h⟩ := h
    have hsub := sub_enumerate
    have isT : Heap.IsTuple (Shared.heap ⟨hp, g, d, tk, os⟩) l items := ⟨_, atl, rfl, n, rfl⟩
    wp_walk using AutoSeq1.wpAny_loadPart' atl
    refine wpAny_stack_any fun st => wpAny_pure ?_
    split
    · rename_i c _ _ _ _ _
      cases (c == Value.type "enumerate")
      · wp_walk using AutoSeq1.wpAny_loadPart' atl, wpAny_pyIter_tuple isT
        exact ⟨_, rfl, h⟩
      · wp_walk using AutoSeq1.wpAny_loadPart' atl, wpAny_pyIter_tuple isT
        exact ⟨_, rfl, h⟩
    · wp_walk using AutoSeq1.wpAny_loadPart' atl, wpAny_pyIter_tuple isT
      exact ⟨_, rfl, h⟩

theorem call_enumT {prog : Program} {w : World} {A : Around} {E : Value → Shared → Prop} {s : Shared} {l : Addr} {items : Array Value} {Q : Value → Shared → Prop} (isT : s.heap.IsTuple l items)
    (h : ∀ h', IsEnum h' (s.heap.objs.size + 1) s.heap.objs.size 0 .none → h'.IsTupleIter s.heap.objs.size l 0 → (∀ b o, s.heap.get? b = some o → h'.get? b = some o) → Q (.ref (s.heap.objs.size + 1)) { s with heap := h' }) : wpAny (model prog w) A (call (.type "enumerate") [.ref l]) Q E s := by
  obtain ⟨⟨c, dct, dt, sl⟩, atl, clsIs, n, datIs⟩ := isT
  obtain rfl : c = .type "tuple" := clsIs
  obtain rfl : dt = .seq items n := datIs
  refine callType_new F.called_enumerate (by decide) (F.typeCall_enumerate_1 _)
    (F.newCall_enumerate_1 _) (fun obj => F.args_object_init_2 obj _)
    F.entry_enumerate_new (meets_enumT l items n dct sl) ⟨atl, ?_⟩
  generalize hi : s.heap.push { cls := .type "tuple_iterator", data := .fields #[.ref l, .int 0 0] } = hp
  have szs : hp.objs.size = s.heap.objs.size + 1 := by rw [← hi]; exact Heap.size_push ..
  have hit : hp.get? s.heap.objs.size = some { cls := .type "tuple_iterator", data := .fields #[.ref l, .int 0 0] } := by rw [← hi]; exact Heap.get?_push_size _ rfl
  have hk : ∀ b o, s.heap.get? b = some o → hp.get? b = some o := fun b o q => by rw [← hi]; exact Heap.get?_push_of_some _ q
  show _ ∧ _
  rw [szs]
  have he : IsEnum (hp.push { cls := .type "enumerate", data := .fields #[.none, .bool false, .ref s.heap.objs.size, rawInt 0, .none, .none] }) (s.heap.objs.size + 1) s.heap.objs.size 0 .none := by
    rw [← szs]
    exact Heap.get?_push_size _ rfl
  exact ⟨⟨_, he, rfl⟩, h _ he ⟨_, Heap.get?_push_of_some _ hit, rfl, rfl⟩ fun b o x => Heap.get?_push_of_some _ (hk b o x)⟩

def iEnumT (K : PySem.W.Frag) (ta : TA) : TI := fun σ H R => ta σ H fun vs H1 => ∃ a xs, vs = [.ref a] ∧ SqT K H1 a xs ∧ R (IteT K a) H1
theorem pi_enumT {X : Cx} {e : Expr} {ta : TA} {p pos tpos : Pos} {elts : List Expr} {kk : Nat} (hg : Gl X "enumerate") (hm : X.mg "enumerate" = none) (ha : PA X [e] ta) (hs : starEach [e] X.env = [(false, eval e X.env)] := by rfl) :
    PI X (.Tuple elts kk tpos) (.Call (.Name "enumerate" p) [e] [] pos) (iEnumT X.K ta) := by
  refine ⟨fun pins s σ H R I h => Call_ (ld_blt I hg hm boot_enumerate (PyProof.Rows.callWith_type1 (thn (ha.run pos pins s σ H _ I h) ?_) hs rfl))⟩
  rintro us s1 ⟨vs, H1, J1, r1, a, xs, rfl, hq, q⟩
  cases r1 with
  | cons r rr =>
    cases rr
    cases r
    obtain ⟨elems, seen, p', szs⟩ := J1.tuple hq
    have pT : s1.heap.IsTuple a elems.toArray := p'
    have enough : a < s1.heap.objs.size := by obtain ⟨o, q1, _⟩ := pT; exact Heap.lt_size q1
    refine call_enumT pT fun h' he hit hk => wpAny_pyIter_enum he ?_
    refine ⟨s1.heap.objs.size + 1, [s1.heap.objs.size + 1, s1.heap.objs.size], _, _, H1, rfl, J1.kept (t' := s1.toks) hk, turn_enumT a (s1.heap.objs.size + 1) s1.heap.objs.size, ⟨⟨.none, he⟩, hit, Nat.succ_ne_self _, fun z => ?_⟩, fun b memb => ?_, q⟩
    · rw [← z] at enough
      exact absurd enough (Nat.not_lt.mpr (Nat.le_succ _))
    · have past : s1.heap.objs.size ≤ b := by
        rcases List.mem_cons.mp memb with z | z
        · rw [z]; exact Nat.le_succ _
        · rw [List.mem_singleton.mp z]; exact Nat.le_refl _
      exact J1.fpOk past (J1.hok.fresh past)

/-! ### extend by a tuple -/
theorem meets_extT (l : Addr) (items : Array Value) (n : Nat) (b : Addr) (more : Array Value) (n2 : Nat) (dd : Option Addr) (sl : Array (Option Value)) (hs0 : ¬(!items.isEmpty && Builtin.List.listTooLong (items.size + more.size)) = true) (hs1 : items.size ≤ sizeLine) (fits : items.size + more.size ≤ sizeLine + 1) :
    Meets (Builtin.«list.extend» ⟨[.ref l, .ref b], []⟩) (fun _ R s => s.heap.get? l = some { cls := .type "list", dict := none, data := .seq items n, slots := #[] } ∧ s.heap.get? b = some { cls := .type "tuple", dict := dd, data := .seq more n2, slots := sl } ∧
      R (.ok (.ret Value.none)) { s with heap := s.heap.update l (Obj.mapSeq fun x => x ++ more), toks := s.toks }) :=
  .of_wp fun prog w A R s h => by
    obtain ⟨hp, g, d, tk, os⟩ := s
    obtain ⟨atl, memb, h⟩ := h
    have q1 := AutoSeq1.idx_int
    have q2 := AutoSeq1.sub_tuple_tuple
    have q3 := AutoSeq1.sub_list_list
    have q4 := AutoSeq1.sub_tuple_list
    have q5 := AutoSeq1.sub_list_tuple
    have szs2 : (items ++ more).size ≤ sizeLine + 1 := by rw [Array.size_append]; exact fits
    wp_walk using (wpAny_updateSeq atl rfl (hz := hs1) (_hz' := szs2)), AutoSeq1.wpAny_loadPart' atl, AutoSeq1.wpAny_loadPart' memb
    exact ⟨_, rfl, h⟩
theorem mt_extendT {X : Cx} : MtM X "list.extend" (rExtendT X.K) := by
  intro pins s σ H x vs v us Q I rx seen h
  obtain ⟨l, b, xs, zs, rfl, rfl, hH, hB, szs, q⟩ := h
  cases rx
  obtain ⟨u, rfl, ru⟩ := seen.one
  cases ru
  obtain ⟨z, elems, n, r, atl, e⟩ := I.lstM hH
  obtain ⟨others, r2, ⟨⟨c2, dd, dt, sl⟩, e2, hc2, n2, hd2⟩, z2⟩ := I.tuple (SqT.of hB)
  obtain rfl : c2 = .type "tuple" := hc2
  obtain rfl : dt = .seq others.toArray n2 := hd2
  have hl2 := r2.length
  have enough : elems.toArray.size + others.toArray.size ≤ sizeLine := by
    rw [List.size_toArray, List.size_toArray]
    omega
  have notLong : ¬ (!elems.toArray.isEmpty && Builtin.List.listTooLong (elems.toArray.size + others.toArray.size)) = true := by
    rw [notLongL enough, Bool.and_false]
    exact Bool.false_ne_true
  refine call_meets F.slot_list_extend ⟨_, e, rfl⟩ F.entry_list_extend (F.args_list_extend_2 _ _) (meets_extT l elems.toArray n b others.toArray n2 dd sl notLong (by omega) (by omega)) ⟨e, e2, ?_⟩
  refine ⟨.non, _, I.lset (its' := elems ++ others) hH e (by simp) (r.append r2) (by rw [List.length_append]; omega), rfl, q⟩
end Lp

namespace Lp
open PySem PySem.Spec PyProof.Rows L2
/-! ### the text by places -/
def topS (i : Nat) : Stmt := PySem.Challenge.pw_lumpplans_k74_whole_thing_papers.main.body.getD i (.Pass ⟨0, 0, 0, 0⟩)
abbrev s_is_integer : Stmt := topS 7
theorem sc_is_integer : FnScope ["value"] ["value"] (defScope s_is_integer) := ⟨rfl, rfl, rfl, by decide +kernel, rfl, by decide +kernel, by decide +kernel⟩
abbrev s_is_number : Stmt := topS 8
theorem sc_is_number : FnScope ["value"] ["value"] (defScope s_is_number) := ⟨rfl, rfl, rfl, by decide +kernel, rfl, by decide +kernel, by decide +kernel⟩
abbrev s_wrong_shape : Stmt := topS 10
theorem sc_wrong_shape : FnScope ["value", "side", "part", "path"] ["value"] (defScope s_wrong_shape) := ⟨rfl, rfl, rfl, by decide +kernel, rfl, by decide +kernel, by decide +kernel⟩
abbrev s_size_of : Stmt := topS 11
theorem sc_size_of : FnScope ["shape", "found", "rest", "part"] ["shape"] (defScope s_size_of) := ⟨rfl, rfl, rfl, by decide +kernel, rfl, by decide +kernel, by decide +kernel⟩
abbrev s_wrong_sizes : Stmt := topS 13
theorem sc_wrong_sizes : FnScope ["shapes", "k", "shape"] ["shapes"] (defScope s_wrong_sizes) := ⟨rfl, rfl, rfl, by decide +kernel, rfl, by decide +kernel, by decide +kernel⟩
abbrev s_wrong_table : Stmt := topS 14
theorem sc_wrong_table : FnScope ["value", "k", "shape", "path"] ["value"] (defScope s_wrong_table) := ⟨rfl, rfl, rfl, by decide +kernel, rfl, by decide +kernel, by decide +kernel⟩
abbrev s_table_size : Stmt := topS 15
theorem sc_table_size : FnScope ["table"] ["table"] (defScope s_table_size) := ⟨rfl, rfl, rfl, by decide +kernel, rfl, by decide +kernel, by decide +kernel⟩
abbrev s_entry : Stmt := topS 16
theorem sc_entry : FnScope ["table", "m"] ["table", "m"] (defScope s_entry) := ⟨rfl, rfl, rfl, by decide +kernel, rfl, by decide +kernel, by decide +kernel⟩
abbrev s_counts : Stmt := topS 18
theorem sc_counts : FnScope ["plan", "n", "found", "size"] ["plan", "n"] (defScope s_counts) := ⟨rfl, rfl, rfl, by decide +kernel, rfl, by decide +kernel, by decide +kernel⟩
abbrev s_widths : Stmt := topS 19
theorem sc_widths : FnScope ["plan", "n", "found", "number"] ["plan", "n"] (defScope s_widths) := ⟨rfl, rfl, rfl, by decide +kernel, rfl, by decide +kernel, by decide +kernel⟩
abbrev s_shape_lumps : Stmt := topS 21
theorem sc_shape_lumps : FnScope ["form", "waiting", "found", "start", "part"] ["form"] (defScope s_shape_lumps) := ⟨rfl, rfl, rfl, by decide +kernel, rfl, by decide +kernel, by decide +kernel⟩
abbrev s_initRows : Stmt := inClass (topS 23) 0
theorem sc_initRows : FnScope ["self", "plan", "n"] ["self", "plan", "n"] (defScope s_initRows) := ⟨rfl, rfl, rfl, by decide +kernel, rfl, by decide +kernel, by decide +kernel⟩
abbrev s_stretch : Stmt := inClass (topS 23) 2
theorem sc_stretch : FnScope ["self", "level", "number", "table", "first", "many"] ["self", "level", "number"] (defScope s_stretch) := ⟨rfl, rfl, rfl, by decide +kernel, rfl, by decide +kernel, by decide +kernel⟩
abbrev s_need_places : Stmt := topS 24
theorem sc_need_places : FnScope ["n", "values", "value"] ["n", "values"] (defScope s_need_places) := ⟨rfl, rfl, rfl, by decide +kernel, rfl, by decide +kernel, by decide +kernel⟩
abbrev s_depth : Stmt := topS 25
theorem sc_depth : FnScope ["plan", "n", "i", "rows", "found", "level", "size", "first", "many", "form", "pair"] ["plan", "n", "i"] (defScope s_depth) := ⟨rfl, rfl, rfl, by decide +kernel, rfl, by decide +kernel, by decide +kernel⟩
abbrev s_lumps_in : Stmt := topS 28
theorem sc_lumps_in : FnScope ["shape", "one", "other", "at", "i", "j"] ["shape"] (defScope s_lumps_in) := ⟨rfl, rfl, rfl, by decide +kernel, rfl, by decide +kernel, by decide +kernel⟩
abbrev s_last_stretch : Stmt := topS 29
theorem sc_last_stretch : FnScope ["n", "size", "number"] ["n", "size"] (defScope s_last_stretch) := ⟨rfl, rfl, rfl, by decide +kernel, rfl, by decide +kernel, by decide +kernel⟩
abbrev s_moved : Stmt := topS 31
theorem sc_moved : FnScope ["pairs", "start", "i", "j"] ["pairs", "start"] (defScope s_moved) := ⟨rfl, rfl, rfl, by decide +kernel, rfl, by decide +kernel, by decide +kernel⟩
abbrev s_beside_in : Stmt := topS 33
theorem sc_beside_in : FnScope ["shape", "place", "found", "start", "at"] ["shape", "place"] (defScope s_beside_in) := ⟨rfl, rfl, rfl, by decide +kernel, rfl, by decide +kernel, by decide +kernel⟩
abbrev s_beside_comb : Stmt := topS 34
theorem sc_beside_comb : FnScope ["end", "n", "i", "k"] ["end", "n", "i"] (defScope s_beside_comb) := ⟨rfl, rfl, rfl, by decide +kernel, rfl, by decide +kernel, by decide +kernel⟩
abbrev s_beside : Stmt := topS 35
theorem sc_beside : FnScope ["plan", "n", "i", "found", "whole", "times", "k", "table", "pairs", "size", "start", "a", "b"] ["plan", "n", "i"] (defScope s_beside) := ⟨rfl, rfl, rfl, by decide +kernel, rfl, by decide +kernel, by decide +kernel⟩
abbrev s_thing_paper : Stmt := topS 36
theorem sc_thing_paper : FnScope ["plan", "n", "i"] ["plan", "n", "i"] (defScope s_thing_paper) := ⟨rfl, rfl, rfl, by decide +kernel, rfl, by decide +kernel, by decide +kernel⟩
abbrev s_wrong_member : Stmt := topS 39
theorem sc_wrong_member : FnScope ["tables", "k", "table", "path"] ["tables"] (defScope s_wrong_member) := ⟨rfl, rfl, rfl, by decide +kernel, rfl, by decide +kernel, by decide +kernel⟩
abbrev s_wrong_plan : Stmt := topS 40
theorem sc_wrong_plan : FnScope ["tables", "end", "path"] ["tables", "end"] (defScope s_wrong_plan) := ⟨rfl, rfl, rfl, by decide +kernel, rfl, by decide +kernel, by decide +kernel⟩
abbrev s_initPlan : Stmt := inClass (topS 41) 0
theorem sc_initPlan : FnScope ["self", "tables", "end", "path"] ["self", "tables", "end"] (defScope s_initPlan) := ⟨rfl, rfl, rfl, by decide +kernel, rfl, by decide +kernel, by decide +kernel⟩
abbrev s_end_ : Stmt := inClass (topS 41) 3
theorem sc_end_ : FnScope ["self"] ["self"] (defScope s_end_) := ⟨rfl, rfl, rfl, by decide +kernel, rfl, by decide +kernel, by decide +kernel⟩
abbrev s_stage : Stmt := inClass (topS 41) 4
theorem sc_stage : FnScope ["self", "k"] ["self", "k"] (defScope s_stage) := ⟨rfl, rfl, rfl, by decide +kernel, rfl, by decide +kernel, by decide +kernel⟩
abbrev s_law_source : Stmt := topS 43
theorem sc_law_source : FnScope ["_law_script", "_law_mixed_here", "_law_cell"] ["_law_script"] (defScope s_law_source) := ⟨rfl, rfl, rfl, by decide +kernel, rfl, by decide +kernel, by decide +kernel⟩
abbrev s_law_pick : Stmt := topS 44
theorem sc_law_pick : FnScope ["_law_source_here", "_law_many", "_law_left", "_law_mixed_here"] ["_law_source_here", "_law_many"] (defScope s_law_pick) := ⟨rfl, rfl, rfl, by decide +kernel, rfl, by decide +kernel, by decide +kernel⟩
abbrev s_law_of : Stmt := topS 45
theorem sc_law_of : FnScope ["_law_source_here", "_law_some"] ["_law_source_here", "_law_some"] (defScope s_law_of) := ⟨rfl, rfl, rfl, by decide +kernel, rfl, by decide +kernel, by decide +kernel⟩
abbrev s_law_mixed : Stmt := topS 46
theorem sc_law_mixed : FnScope ["_law_source_here", "_law_things", "_law_rest", "_law_lap"] ["_law_source_here", "_law_things"] (defScope s_law_mixed) := ⟨rfl, rfl, rfl, by decide +kernel, rfl, by decide +kernel, by decide +kernel⟩
abbrev s_law_comb : Stmt := topS 47
theorem sc_law_comb : FnScope ["_law_n", "_law_side", "_law_found", "_law_lap"] ["_law_n", "_law_side"] (defScope s_law_comb) := ⟨rfl, rfl, rfl, by decide +kernel, rfl, by decide +kernel, by decide +kernel⟩
abbrev s_law_halves : Stmt := topS 48
theorem sc_law_halves : FnScope ["_law_n"] ["_law_n"] (defScope s_law_halves) := ⟨rfl, rfl, rfl, by decide +kernel, rfl, by decide +kernel, by decide +kernel⟩
abbrev s_law_shape : Stmt := topS 49
theorem sc_law_shape : FnScope ["_law_source_here", "_law_n", "_law_way", "_law_at"] ["_law_source_here", "_law_n"] (defScope s_law_shape) := ⟨rfl, rfl, rfl, by decide +kernel, rfl, by decide +kernel, by decide +kernel⟩
abbrev s_law_size : Stmt := topS 50
theorem sc_law_size : FnScope ["_law_form"] ["_law_form"] (defScope s_law_size) := ⟨rfl, rfl, rfl, by decide +kernel, rfl, by decide +kernel, by decide +kernel⟩
abbrev s_law_any_table : Stmt := topS 51
theorem sc_law_any_table : FnScope ["_law_source_here", "_law_size_here", "_law_m"] ["_law_source_here", "_law_size_here"] (defScope s_law_any_table) := ⟨rfl, rfl, rfl, by decide +kernel, rfl, by decide +kernel, by decide +kernel⟩
abbrev s_law_entry : Stmt := topS 52
theorem sc_law_entry : FnScope ["_law_table_here", "_law_m"] ["_law_table_here", "_law_m"] (defScope s_law_entry) := ⟨rfl, rfl, rfl, by decide +kernel, rfl, by decide +kernel, by decide +kernel⟩
abbrev s_law_filled : Stmt := topS 53
theorem sc_law_filled : FnScope ["_law_form", "_law_lumps", "_law_size_here"] ["_law_form", "_law_lumps"] (defScope s_law_filled) := ⟨rfl, rfl, rfl, by decide +kernel, rfl, by decide +kernel, by decide +kernel⟩
abbrev s_law_pressed : Stmt := topS 54
theorem sc_law_pressed : FnScope ["_law_table_here", "_law_row", "_law_size_here", "_law_found", "_law_k"] ["_law_table_here", "_law_row"] (defScope s_law_pressed) := ⟨rfl, rfl, rfl, by decide +kernel, rfl, by decide +kernel, by decide +kernel⟩
abbrev s_law_glue : Stmt := topS 55
theorem sc_law_glue : FnScope ["_law_one", "_law_other", "_law_found", "_law_size_here", "_law_m", "_law_row"] ["_law_one", "_law_other"] (defScope s_law_glue) := ⟨rfl, rfl, rfl, by decide +kernel, rfl, by decide +kernel, by decide +kernel⟩
abbrev s_law_table : Stmt := topS 56
theorem sc_law_table : FnScope ["_law_source_here", "_law_one", "_law_other"] ["_law_source_here"] (defScope s_law_table) := ⟨rfl, rfl, rfl, by decide +kernel, rfl, by decide +kernel, by decide +kernel⟩
abbrev s_law_made : Stmt := topS 57
theorem sc_law_made : FnScope ["_law_tables", "_law_end"] ["_law_tables", "_law_end"] (defScope s_law_made) := ⟨rfl, rfl, rfl, by decide +kernel, rfl, by decide +kernel, by decide +kernel⟩
abbrev s_law_plan : Stmt := topS 58
theorem sc_law_plan : FnScope ["_law_source_here", "_law_tables", "_law_end", "_law_many", "_law_lap"] ["_law_source_here"] (defScope s_law_plan) := ⟨rfl, rfl, rfl, by decide +kernel, rfl, by decide +kernel, by decide +kernel⟩
abbrev s_law_stage : Stmt := topS 59
theorem sc_law_stage : FnScope ["_law_world", "_law_k"] ["_law_world", "_law_k"] (defScope s_law_stage) := ⟨rfl, rfl, rfl, by decide +kernel, rfl, by decide +kernel, by decide +kernel⟩
abbrev s_law_told : Stmt := topS 60
theorem sc_law_told : FnScope ["_law_world", "_law_n", "_law_row", "_law_k"] ["_law_world", "_law_n"] (defScope s_law_told) := ⟨rfl, rfl, rfl, by decide +kernel, rfl, by decide +kernel, by decide +kernel⟩
abbrev s_law_part : Stmt := topS 61
theorem sc_law_part : FnScope ["_law_form", "_law_i", "_law_j", "_law_at"] ["_law_form", "_law_i", "_law_j"] (defScope s_law_part) := ⟨rfl, rfl, rfl, by decide +kernel, rfl, by decide +kernel, by decide +kernel⟩
abbrev s_law_swung_table : Stmt := topS 62
theorem sc_law_swung_table : FnScope ["_law_source_here", "_law_found", "_law_sides", "_law_m", "_law_one"] ["_law_source_here"] (defScope s_law_swung_table) := ⟨rfl, rfl, rfl, by decide +kernel, rfl, by decide +kernel, by decide +kernel⟩
abbrev s_law_near_table : Stmt := topS 63
theorem sc_law_near_table : FnScope ["_law_source_here"] ["_law_source_here"] (defScope s_law_near_table) := ⟨rfl, rfl, rfl, by decide +kernel, rfl, by decide +kernel, by decide +kernel⟩
abbrev s_law_small_plan : Stmt := topS 64
theorem sc_law_small_plan : FnScope ["_law_source_here", "_law_tables", "_law_end", "_law_many", "_law_lap"] ["_law_source_here"] (defScope s_law_small_plan) := ⟨rfl, rfl, rfl, by decide +kernel, rfl, by decide +kernel, by decide +kernel⟩
abbrev s_law_beside : Stmt := topS 65
theorem sc_law_beside : FnScope ["_law_shape_here", "_law_start", "_law_place", "_law_at"] ["_law_shape_here", "_law_start", "_law_place"] (defScope s_law_beside) := ⟨rfl, rfl, rfl, by decide +kernel, rfl, by decide +kernel, by decide +kernel⟩
abbrev s_law_again : Stmt := topS 66
theorem sc_law_again : FnScope ["_law_shape_here", "_law_paper", "_law_place", "_law_found", "_law_i", "_law_j", "_law_a", "_law_b", "_law_part_here"] ["_law_shape_here", "_law_paper", "_law_place"] (defScope s_law_again) := ⟨rfl, rfl, rfl, by decide +kernel, rfl, by decide +kernel, by decide +kernel⟩
abbrev s_law : Stmt := topS 67
theorem sc_law : FnScope ["_law_script", "_law_source_here", "_law_turn", "_law_world", "_law_plan_here", "_law_numbers", "_law_n", "_law_shape_here", "_law_place", "_law_lap", "_law_told_here", "_law_k"] ["_law_script"] (defScope s_law) := ⟨rfl, rfl, rfl, by decide +kernel, rfl, by decide +kernel, by decide +kernel⟩

/-! ### a def as it stands, its binding and its name -/
structure Dn (K : PySem.W.Frag) (mg : Str → Option Value) (x : Str) (st : Stmt) (ps : List Str) where
  f : Addr
  fd : FuncData
  fn : Fun K x x st f fd
  b : Binds K fd ps []
  m : mg x = some (.ref f)
structure Dm (K : PySem.W.Frag) (x qual : Str) (st : Stmt) (ps : List Str) where
  f : Addr
  fd : FuncData
  fn : Fun K x qual st f fd
  b : Binds K fd ps []
structure Txt (K : PySem.W.Frag) (mg : Str → Option Value) where
  is_integer : Dn K mg "is_integer" s_is_integer ["value"]
  is_number : Dn K mg "is_number" s_is_number ["value"]
  wrong_shape : Dn K mg "wrong_shape" s_wrong_shape ["value"]
  size_of : Dn K mg "size_of" s_size_of ["shape"]
  wrong_sizes : Dn K mg "wrong_sizes" s_wrong_sizes ["shapes"]
  wrong_table : Dn K mg "wrong_table" s_wrong_table ["value"]
  table_size : Dn K mg "table_size" s_table_size ["table"]
  entry : Dn K mg "entry" s_entry ["table", "m"]
  counts : Dn K mg "counts" s_counts ["plan", "n"]
  widths : Dn K mg "widths" s_widths ["plan", "n"]
  shape_lumps : Dn K mg "shape_lumps" s_shape_lumps ["form"]
  initRows : Dm K "__init__" "Rows.__init__" s_initRows ["self", "plan", "n"]
  stretch : Dm K "stretch" "Rows.stretch" s_stretch ["self", "level", "number"]
  need_places : Dn K mg "need_places" s_need_places ["n", "values"]
  depth : Dn K mg "depth" s_depth ["plan", "n", "i"]
  lumps_in : Dn K mg "lumps_in" s_lumps_in ["shape"]
  last_stretch : Dn K mg "last_stretch" s_last_stretch ["n", "size"]
  moved : Dn K mg "moved" s_moved ["pairs", "start"]
  beside_in : Dn K mg "beside_in" s_beside_in ["shape", "place"]
  beside_comb : Dn K mg "beside_comb" s_beside_comb ["end", "n", "i"]
  beside : Dn K mg "beside" s_beside ["plan", "n", "i"]
  thing_paper : Dn K mg "thing_paper" s_thing_paper ["plan", "n", "i"]
  wrong_member : Dn K mg "wrong_member" s_wrong_member ["tables"]
  wrong_plan : Dn K mg "wrong_plan" s_wrong_plan ["tables", "end"]
  initPlan : Dm K "__init__" "Plan.__init__" s_initPlan ["self", "tables", "end"]
  end_ : Dm K "end" "Plan.end" s_end_ ["self"]
  stage : Dm K "stage" "Plan.stage" s_stage ["self", "k"]
  law_source : Dn K mg "_law_source" s_law_source ["_law_script"]
  law_pick : Dn K mg "_law_pick" s_law_pick ["_law_source_here", "_law_many"]
  law_of : Dn K mg "_law_of" s_law_of ["_law_source_here", "_law_some"]
  law_mixed : Dn K mg "_law_mixed" s_law_mixed ["_law_source_here", "_law_things"]
  law_comb : Dn K mg "_law_comb" s_law_comb ["_law_n", "_law_side"]
  law_halves : Dn K mg "_law_halves" s_law_halves ["_law_n"]
  law_shape : Dn K mg "_law_shape" s_law_shape ["_law_source_here", "_law_n"]
  law_size : Dn K mg "_law_size" s_law_size ["_law_form"]
  law_any_table : Dn K mg "_law_any_table" s_law_any_table ["_law_source_here", "_law_size_here"]
  law_entry : Dn K mg "_law_entry" s_law_entry ["_law_table_here", "_law_m"]
  law_filled : Dn K mg "_law_filled" s_law_filled ["_law_form", "_law_lumps"]
  law_pressed : Dn K mg "_law_pressed" s_law_pressed ["_law_table_here", "_law_row"]
  law_glue : Dn K mg "_law_glue" s_law_glue ["_law_one", "_law_other"]
  law_table : Dn K mg "_law_table" s_law_table ["_law_source_here"]
  law_made : Dn K mg "_law_made" s_law_made ["_law_tables", "_law_end"]
  law_plan : Dn K mg "_law_plan" s_law_plan ["_law_source_here"]
  law_stage : Dn K mg "_law_stage" s_law_stage ["_law_world", "_law_k"]
  law_told : Dn K mg "_law_told" s_law_told ["_law_world", "_law_n"]
  law_part : Dn K mg "_law_part" s_law_part ["_law_form", "_law_i", "_law_j"]
  law_swung_table : Dn K mg "_law_swung_table" s_law_swung_table ["_law_source_here"]
  law_near_table : Dn K mg "_law_near_table" s_law_near_table ["_law_source_here"]
  law_small_plan : Dn K mg "_law_small_plan" s_law_small_plan ["_law_source_here"]
  law_beside : Dn K mg "_law_beside" s_law_beside ["_law_shape_here", "_law_start", "_law_place"]
  law_again : Dn K mg "_law_again" s_law_again ["_law_shape_here", "_law_paper", "_law_place"]
  cP : Addr
  cR : Addr
  clPlan : Cls K cP
  clRows : Cls K cR
  mgPlan : mg "Plan" = some (.ref cP)
  mgRows : mg "Rows" = some (.ref cR)
  mkPlan : Mk K cP initPlan.f
  mkRows : Mk K cR initRows.f
  m_stage : Meth K cP "stage" stage.f
  m_end_ : Meth K cP "end" end_.f
  m_stretch : Meth K cR "stretch" stretch.f
  nT : NoAttr K cP "own_tables"
  nE : NoAttr K cP "own_end"
  nPl : NoAttr K cR "plan"
  nMa : NoAttr K cR "many"
  nWi : NoAttr K cR "width"
  aE : Addr
  mgE : mg "ENDS" = some (.ref aE)
  sqE : ∀ H, SqT K H aE [.str "left", .str "right"]
  tM : Tok
  MOST : mg "MOST" = some (.int 400 tM)
  len_ : mg "len" = none
  abs_ : mg "abs" = none
  max_ : mg "max" = none
  min_ : mg "min" = none
  isinstance_ : mg "isinstance" = none
  repr_ : mg "repr" = none
  range_ : mg "range" = none
  enumerate_ : mg "enumerate" = none
  int_ : mg "int" = none
  tuple_ : mg "tuple" = none
  list_ : mg "list" = none
  str_ : mg "str" = none
  bool_ : mg "bool" = none
abbrev Ok (P : Program) (w : World) {K : PySem.W.Frag} {mg : Str → Option Value} (base : Heap) (k : Nat) {x : Str} {st : Stmt} {ps : List Str} (d : Dn K mg x st ps) (sp : Sp) : Prop := FnOk P w K mg base CX0 k d.f d.fd ps sp
abbrev OkM (P : Program) (w : World) {K : PySem.W.Frag} (mg : Str → Option Value) (base : Heap) (k : Nat) {x qual : Str} {st : Stmt} {ps : List Str} (d : Dm K x qual st ps) (sp : Sp) : Prop := FnOk P w K mg base CX0 k d.f d.fd ps sp

/-! ### pairs of lists -/
section
variable {α β : Type} {F : α → β → Prop}
theorem pd_get : ∀ {l₁ : List α} {l₂ : List β} {i : Nat} {a : α}, Paired F l₁ l₂ → l₁[i]? = some a → ∃ b, l₂[i]? = some b ∧ F a b
  | _, _, _, _, .nil, e => by simp at e
  | _, _, 0, _, .cons r _, e => ⟨_, rfl, by cases e; exact r⟩
  | _, _, i + 1, a, .cons _ t, e => pd_get (i := i) (a := a) t e
theorem pd_getR : ∀ {l₁ : List α} {l₂ : List β} {i : Nat} {b : β}, Paired F l₁ l₂ → l₂[i]? = some b → ∃ a, l₁[i]? = some a ∧ F a b
  | _, _, _, _, .nil, e => by simp at e
  | _, _, 0, _, .cons r _, e => ⟨_, rfl, by cases e; exact r⟩
  | _, _, i + 1, a, .cons _ t, e => pd_getR (i := i) (b := a) t e
theorem pd_append : ∀ {l₁ : List α} {l₂ : List β} {m₁ : List α} {m₂ : List β}, Paired F l₁ l₂ → Paired F m₁ m₂ → Paired F (l₁ ++ m₁) (l₂ ++ m₂)
  | _, _, _, _, .nil, s => s
  | _, _, _, _, .cons r t, s => .cons r (pd_append t s)
theorem pd_take : ∀ {l₁ : List α} {l₂ : List β} (n : Nat), Paired F l₁ l₂ → Paired F (l₁.take n) (l₂.take n)
  | _, _, 0, _ => .nil
  | _, _, _ + 1, .nil => .nil
  | _, _, n + 1, .cons r t => .cons r (pd_take n t)
theorem pd_drop : ∀ {l₁ : List α} {l₂ : List β} (n : Nat), Paired F l₁ l₂ → Paired F (l₁.drop n) (l₂.drop n)
  | _, _, 0, r => r
  | _, _, _ + 1, .nil => .nil
  | _, _, n + 1, .cons _ t => pd_drop n t
theorem pd_rep {a : α} {b : β} (h : F a b) : ∀ n : Nat, Paired F (List.replicate n a) (List.replicate n b)
  | 0 => .nil
  | n + 1 => .cons h (pd_rep h n)
end

/-! ### shapes -/
inductive Sh where
  | o
  | p (l r : Sh)
  deriving DecidableEq
def Sh.size : Sh → Nat
  | .o => 1
  | .p l r => l.size + r.size
theorem Sh.pos : ∀ s : Sh, 1 ≤ s.size
  | .o => Nat.le_refl 1
  | .p l r => by
    have h := l.pos
    show 1 ≤ l.size + r.size
    omega
def ShAt (H : Hp) : Sh → V → Prop
  | .o, v => ∃ a, v = .ref a ∧ H a = some (.tup [])
  | .p l r, v => ∃ a x y, v = .ref a ∧ H a = some (.tup [x, y]) ∧ ShAt H l x ∧ ShAt H r y
/-- tuples stay -/
def Tk (H H' : Hp) : Prop := ∀ a xs, H a = some (.tup xs) → H' a = some (.tup xs)
theorem Tk.refl (H : Hp) : Tk H H := fun _ _ h => h
theorem Tk.trans {H H1 H2 : Hp} (a : Tk H H1) (b : Tk H1 H2) : Tk H H2 := fun x u h => b x u (a x u h)
theorem Tk.of {H H' : Hp} (s : Same H H') : Tk H H' := fun a xs h => s a _ h
theorem sm_new {H : Hp} {p : Addr} {o : HO} (h : H p = none) : Same H (upd H p o) := fun b u e => by
  rw [upd_ne (ne_of_none e h)]
  exact e
/-- what H does not know may change -/
theorem sm_mut {H H' : Hp} {p : Addr} {o : HO} (s : Same H H') (h : H p = none) : Same H (upd H' p o) := fun b u e => by
  rw [upd_ne (ne_of_none e h)]
  exact s b u e
theorem tk_lst {H : Hp} {p : Addr} {o : HO} {xs : List V} (h : H p = some (.lst xs)) : Tk H (upd H p o) := fun b u e => by
  rw [upd_ne (ne_of e h (by intro z; cases z))]
  exact e
theorem ShAt.keep {H H' : Hp} (k : Tk H H') : ∀ {s : Sh} {v : V}, ShAt H s v → ShAt H' s v
  | .o, v, h => by
    obtain ⟨a, e, h⟩ := h
    exact ⟨a, e, k _ _ h⟩
  | .p l r, v, h => by
    obtain ⟨a, x, y, e, h, h1, h2⟩ := h
    exact ⟨a, x, y, e, k _ _ h, ShAt.keep k h1, ShAt.keep k h2⟩
theorem ShAt.ref {H : Hp} : ∀ {s : Sh} {v : V}, ShAt H s v → ∃ a xs, v = .ref a ∧ H a = some (.tup xs)
  | .o, v, h => by
    obtain ⟨a, e, h⟩ := h
    exact ⟨a, _, e, h⟩
  | .p l r, v, h => by
    obtain ⟨a, x, y, e, h, _⟩ := h
    exact ⟨a, _, e, h⟩
abbrev ShsAt (H : Hp) (ss : List Sh) (vs : List V) : Prop := Paired (ShAt H) ss vs
theorem ShsAt.keep {H H' : Hp} (k : Tk H H') {ss : List Sh} {vs : List V} (h : ShsAt H ss vs) : ShsAt H' ss vs := Paired.mapP h fun _ _ q => q.keep k
/-- as data -/
def Sh.dat : Sh → PyData
  | .o => .tuple []
  | .p l r => .tuple [l.dat, r.dat]
theorem ShAt.dp {K : PySem.W.Frag} {H : Hp} : ∀ {s : Sh} {v : V}, ShAt H s v → Dp K H v s.dat
  | .o, v, h => by
    obtain ⟨a, rfl, h⟩ := h
    exact .tup (SqT.of h) .nil
  | .p l r, v, h => by
    obtain ⟨a, x, y, rfl, h, h1, h2⟩ := h
    exact .tup (SqT.of h) (.cons h1.dp (.cons h2.dp .nil))
theorem Sh.lay : ∀ s : Sh, s.dat.canLay0 = true
  | .o => by simp [Sh.dat, PyData.canLay0, PyData.canLayAll0]
  | .p l r => by simp [Sh.dat, PyData.canLay0, PyData.canLayAll0, l.lay, r.lay]
theorem Sh.dep : ∀ s : Sh, s.dat.depth ≤ s.size
  | .o => by simp [Sh.dat, PyData.depth, PyData.depthAll, Sh.size]
  | .p l r => by
    have h1 := l.dep
    have h2 := r.dep
    have h3 := l.pos
    have h4 := r.pos
    simp only [Sh.dat, PyData.depth, PyData.depthAll, Sh.size]
    omega
theorem Sh.shaped {s : Sh} (h : s.size ≤ 64) : SeqAt.shaped s.dat = true := by
  unfold SeqAt.shaped
  rw [s.lay, decide_eq_true (Nat.le_trans s.dep h)]
  rfl
theorem Sh.eqv : ∀ s t : Sh, PyData.eqv s.dat t.dat = decide (s = t)
  | .o, .o => by simp [Sh.dat, PyData.eqv, PyData.eqvAll]
  | .o, .p l r => by simp [Sh.dat, PyData.eqv, PyData.eqvAll]
  | .p l r, .o => by simp [Sh.dat, PyData.eqv, PyData.eqvAll]
  | .p l r, .p l' r' => by
    simp only [Sh.dat, PyData.eqv, PyData.eqvAll, Sh.eqv l l', Sh.eqv r r', Bool.and_true, Sh.p.injEq]
    rw [Bool.decide_and]
/-- the empty tuple as data -/
theorem nil_dp {K : PySem.W.Frag} {H : Hp} {a : Addr} (h : H a = some (.tup [])) : Dp K H (.ref a) Sh.o.dat := .tup (SqT.of h) .nil

/-! ### tables -/
abbrev Tab := List Sh
structure TabOk (t : Tab) : Prop where
  ne : 1 ≤ t.length
  le : t.length ≤ 8
  sz : ∀ k s, t[k]? = some s → s.size = k + 2
def TabAt (H : Hp) (t : Tab) (v : V) : Prop := ∃ a vs, v = .ref a ∧ H a = some (.tup vs) ∧ ShsAt H t vs
theorem TabAt.keep {H H' : Hp} (k : Tk H H') {t : Tab} {v : V} (h : TabAt H t v) : TabAt H' t v := by
  obtain ⟨a, vs, e, h, s⟩ := h
  exact ⟨a, vs, e, k _ _ h, s.keep k⟩
def entry (t : Tab) (m : Nat) : Sh := if m = 1 then .o else t.getD (m - 2) .o
theorem entry_size {t : Tab} (h : TabOk t) {m : Nat} (h1 : 1 ≤ m) (h2 : m ≤ t.length + 1) : (entry t m).size = m := by
  unfold entry
  by_cases e : m = 1
  · rw [if_pos e, e]
    rfl
  · rw [if_neg e]
    have hl : m - 2 < t.length := by omega
    have q := h.sz (m - 2) t[m - 2] (List.getElem?_eq_getElem hl)
    rw [List.getD_eq_getElem?_getD, List.getElem?_eq_getElem hl]
    show t[m - 2].size = m
    omega
theorem small (n : Nat) (h : n ≤ 100000) : n ≤ sizeLine := Nat.le_trans h (by decide)
theorem smallL (n : Nat) (h : n < 100000) : n < sizeLine := Nat.lt_of_lt_of_le h (by decide)

/-! ### rules whose written part is told (for a comprehension's element) -/
section
variable {X : Cx} {K : PySem.W.Frag}
theorem ix_listK (h : X.K = K := by rfl) : IxR X (rIxL K) := by
  subst h
  exact ix_list
theorem ix_tupK (h : X.K = K := by rfl) : IxR X (rIxT K) := by
  subst h
  exact ix_tup
theorem call_lenK (h : X.K = K := by rfl) : CallR X (.builtin "len") (fun xs H Q => ∃ p ys, xs = [.ref p] ∧ (SqL K H p ys ∨ SqT K H p ys) ∧ Q (.int ys.length) H) := by
  subst h
  exact call_len_seq
theorem pe_K {e : Expr} {t t' : TE} (h : PE X e t) (q : t = t') : PE X e t' := q ▸ h
end
theorem pg_tupK {X : Cx} {K : PySem.W.Frag} {es : List Expr} {k : Nat} {t : TGs} {n : Nat} {pos : Pos} (hK : X.K = K) (hc : X.calm = true) (h : PGs X es t)
    (hn : (assignEach es X.env).length = n := by rfl) (hst : (assignEach es X.env).findIdx? (·.1) = none := by rfl) : PG X (.Tuple es k pos) (gTup K n t) := by
  subst hK
  exact pg_tup hc h hn hst
end Lp

namespace Lp
open PySem PySem.Spec PyProof.Rows L2
section
variable {P : Program} {w : World} {K : PySem.W.Frag} {mg : Str → Option Value} {base : Heap}
theorem q_int {Q : VK} {i j : Int} {H : Hp} (q : Q (.int i) H) (e : i = j) : Q (.int j) H := e ▸ q
def spIsInt : Sp := fun vs H Q _ => ∃ i : Int, vs = [.int i] ∧ Q (.bl true) H
theorem ok_is_integer (T : Txt K mg) : Ok P w base 1 T.is_integer spIsInt := by
  refine T.is_integer.fn.ok sc_is_integer (fun vs H Q E h => ?_) (fun cdv A outer s H vs Q E hr h => ?_)
  · obtain ⟨_, rfl, _⟩ := h
    rfl
  obtain ⟨i, rfl, q⟩ := h
  refine ⟨_, (pss_one (ps_ret (pe_and (pe_callB call_isi (by rfl) T.isinstance_ (by decide +kernel) (pa_cons (pv 0) (pa_cons (pe_bltn (v := .ty "int") (by rfl) T.int_ (by decide +kernel) rfl) pa_nil))) (pe_one (pe_not (pe_callB call_isi (by rfl) T.isinstance_ (by decide +kernel) (pa_cons (pv 0) (pa_cons (pe_bltn (v := .ty "bool") (by rfl) T.bool_ (by decide +kernel) rfl) pa_nil)))))))), ?_⟩
  refine ⟨_, rfl, _, _, _, _, true, rfl, .ty _, .base (.int i), kit_ty (by decide +kernel), true, rfl, ?_⟩
  refine iteT ⟨_, rfl, _, _, _, _, false, rfl, .ty _, .base (.int i), kit_ty (by decide +kernel), false, rfl, ?_⟩
  exact q
def spIsNum : Sp := fun vs H Q _ => ∃ i : Int, vs = [.int i] ∧ Q (.bl (decide (0 ≤ i))) H
theorem ok_is_number (T : Txt K mg) : Ok P w base 2 T.is_number spIsNum := by
  have G_is_integer := ok_is_integer (P := P) (w := w) (base := base) T
  refine T.is_number.fn.ok sc_is_number (fun vs H Q E h => ?_) (fun cdv A outer s H vs Q E hr h => ?_)
  · obtain ⟨_, rfl, _⟩ := h
    rfl
  obtain ⟨i, rfl, q⟩ := h
  refine ⟨_, (pss_one (ps_ret (pe_and (pe_call G_is_integer (hr.mono (by omega)) (by rfl) T.is_integer.m T.is_integer.fn.kp T.is_integer.b .nil pass0 (pa_cons (pv 0) pa_nil)) (pe_one (pe_cmpR op_ge (pv 0) pe_int (nomark _)))))), ?_⟩
  refine ⟨_, rfl, i, rfl, true, rfl, iteT ⟨_, rfl, i, 0, rfl, rfl, ?_⟩⟩
  exact q
def spTabSize : Sp := fun vs H Q _ => ∃ (t : Tab) (v : V), vs = [v] ∧ TabAt H t v ∧ Q (.int ((t.length + 1 : Nat) : Int)) H
theorem ok_table_size (T : Txt K mg) : Ok P w base 1 T.table_size spTabSize := by
  refine T.table_size.fn.ok sc_table_size (fun vs H Q E h => ?_) (fun cdv A outer s H vs Q E hr h => ?_)
  · obtain ⟨_, _, rfl, _⟩ := h
    rfl
  obtain ⟨t, v, rfl, ⟨a, xs, rfl, hA, hs⟩, q⟩ := h
  refine ⟨_, (pss_one (ps_ret (pe_op op_add (pe_callB call_len_seq (by rfl) T.len_ PySem.boot_len (pa_cons (pv 0) pa_nil)) pe_int))), ?_⟩
  refine ⟨_, rfl, a, xs, rfl, .inr (SqT.of hA), _, _, rfl, rfl, ?_⟩
  exact q_int q (by have := hs.length; omega)
def spEntry : Sp := fun vs H Q _ => ∃ (t : Tab) (v : V) (m : Nat) (j : Int), vs = [v, .int j] ∧ j = (m : Int) ∧ TabAt H t v ∧ 1 ≤ m ∧ m ≤ t.length + 1 ∧ ∀ u H', Same H H' → ShAt H' (entry t m) u → Q u H'
theorem ok_entry (T : Txt K mg) : Ok P w base 1 T.entry spEntry := by
  refine T.entry.fn.ok sc_entry (fun vs H Q E h => ?_) (fun cdv A outer s H vs Q E hr h => ?_)
  · obtain ⟨_, _, _, _, rfl, _⟩ := h
    rfl
  obtain ⟨t, v, m, _, rfl, rfl, ⟨a, xs, rfl, hA, hs⟩, h1, h2, q⟩ := h
  refine ⟨_, (pss_one (ps_ret (pe_ifExp (pt_cmpR op_eq (pv 1) pe_int (nomark _)) (pe_tup pa_nil) (pe_ix ix_tup (pv 0) (pe_op op_sub (pv 1) pe_int) (fun _ _ => rfl))))), ?_⟩
  refine ⟨_, rfl, rfl, _, rfl, ite2 (fun c => ?_) (fun c => ?_)⟩
  · have e : m = 1 := by
      have c' : (V.int (m : Int)) = V.int 1 := of_decide_eq_true c
      have := V.int.inj c'
      omega
    refine ⟨Nat.zero_le _, fun p hp => q _ _ (sm_new hp) ?_⟩
    rw [entry, if_pos e]
    exact ⟨p, rfl, upd_same⟩
  · have e : m ≠ 1 := by
      rintro rfl
      exact c (decide_eq_true rfl)
    have hl : m - 2 < t.length := by omega
    obtain ⟨u, hu, su⟩ := pd_get hs (List.getElem?_eq_getElem hl)
    refine ⟨_, rfl, _, rfl, _, _, rfl, rfl, a, xs, _, u, rfl, rfl, SqT.of hA, ?_, ?_⟩
    · have q2 : (m : Int) - 2 = ((m - 2 : Nat) : Int) := by omega
      show atI xs ((m : Int) - 2) = some u
      rw [q2]
      exact atI_nat hu
    · refine q _ _ (Same.refl H) ?_
      rw [entry, if_neg e, List.getD_eq_getElem?_getD, List.getElem?_eq_getElem hl]
      exact su
def spLast : Sp := fun vs H Q _ => ∃ (n m : Nat) (i j : Int), vs = [.int i, .int j] ∧ i = (n : Int) ∧ j = (m : Int) ∧ 1 ≤ n ∧ 2 ≤ m ∧ m ≤ 1000 ∧ ∀ a H', Same H H' → H' a = some (.tup [.int (((n - 1) / m : Nat) : Int), .int ((n - (n - 1) / m * m : Nat) : Int)]) → Q (.ref a) H'
theorem ok_last_stretch (T : Txt K mg) : Ok P w base 1 T.last_stretch spLast := by
  refine T.last_stretch.fn.ok sc_last_stretch (fun vs H Q E h => ?_) (fun cdv A outer s H vs Q E hr h => ?_)
  · obtain ⟨_, _, _, _, rfl, _⟩ := h
    rfl
  obtain ⟨n, m, _, _, rfl, rfl, rfl, h1, h2, h3, q⟩ := h
  refine ⟨_, (pss_cons (ps_set (i := 2) sc_last_stretch.nd rfl (Or.inl rfl) (pe_op op_fdiv (pe_op op_sub (pv 0) pe_int) (pv 1)))
      (pss_one (ps_ret (pe_tup (pa_cons (pv 2) (pa_cons (pe_op op_sub (pv 0) (pe_op op_mul (pv 2) (pv 1))) pa_nil)))))), ?_⟩
  have e1 : (((n : Int) - 1) / (m : Int)) = (((n - 1) / m : Nat) : Int) := by
    rw [show (n : Int) - 1 = ((n - 1 : Nat) : Int) by omega, Int.natCast_ediv]
  have e2 : (n : Int) - ((((n - 1) / m : Nat) : Int)) * (m : Int) = ((n - (n - 1) / m * m : Nat) : Int) := by
    have z : (n - 1) / m * m ≤ n := Nat.le_trans (Nat.div_mul_le_self _ _) (by omega)
    rw [Int.ofNat_sub z, Int.natCast_mul]
  have hb : ((n - 1) / m) ≤ n := Nat.le_trans (Nat.div_le_self _ _) (by omega)
  refine ⟨_, rfl, _, _, rfl, rfl, _, rfl, _, _, rfl, rfl, ⟨by omega, by omega⟩, ?_⟩
  refine ⟨_, rfl, _, rfl, _, rfl, _, rfl, _, _, rfl, rfl, .inr ⟨by omega, by omega⟩, _, _, rfl, rfl, ?_, ?_⟩
  · show 2 ≤ sizeLine
    decide
  · intro p hp
    refine q p _ (sm_new hp) ?_
    rw [upd_same]
    show some (HO.tup [V.int (((n : Int) - 1) / (m : Int)), V.int ((n : Int) - (((n : Int) - 1) / (m : Int)) * (m : Int))]) = _
    rw [e1, e2]
end
end Lp

namespace Lp
open PySem PySem.Spec PyProof.Rows L2
section
variable {P : Program} {w : World} {K : PySem.W.Frag} {mg : Str → Option Value} {base : Heap}
theorem pd_last {α β : Type} {F : α → β → Prop} : ∀ {l₁ : List α} {l₂ : List β}, Paired F l₁ l₂ → l₁ ≠ [] → ∃ a0 a b0 b, l₁ = a0 ++ [a] ∧ l₂ = b0 ++ [b] ∧ Paired F a0 b0 ∧ F a b
  | _, _, .nil, e => absurd rfl e
  | _, _, .cons (a := a) (b := b) r .nil, _ => ⟨[], a, [], b, rfl, rfl, .nil, r⟩
  | _, _, .cons (a := a) (b := b) r (.cons r2 t), _ => by
    obtain ⟨a0, x, b0, y, e1, e2, p, q⟩ := pd_last (.cons r2 t) (by simp)
    exact ⟨a :: a0, x, b :: b0, y, by rw [e1]; rfl, by rw [e2]; rfl, .cons r p, q⟩
theorem shs_dp {H : Hp} : ∀ {ss : List Sh} {vs : List V}, ShsAt H ss vs → DpAll K H vs (ss.map Sh.dat)
  | _, _, .nil => .nil
  | _, _, .cons r t => .cons r.dp (shs_dp t)
theorem shs_lay : ∀ ss : List Sh, PyData.canLayAll0 (ss.map Sh.dat) = true
  | [] => by simp [PyData.canLayAll0]
  | s :: ss => by simp [PyData.canLayAll0, s.lay, shs_lay ss]
theorem shs_dep {n : Nat} : ∀ {ss : List Sh}, (∀ s ∈ ss, s.size ≤ n) → PyData.depthAll (ss.map Sh.dat) ≤ n
  | [], _ => by simp [PyData.depthAll]
  | s :: ss, h => by
    have h1 := s.dep
    have h2 := h s List.mem_cons_self
    have h3 := shs_dep (ss := ss) fun x hx => h x (List.mem_cons_of_mem _ hx)
    simp only [List.map_cons, PyData.depthAll]
    omega
theorem shs_shaped {ss : List Sh} (h : ∀ s ∈ ss, s.size ≤ 60) : SeqAt.shaped (.list (ss.map Sh.dat)) = true := by
  unfold SeqAt.shaped
  have h1 : PyData.canLay0 (.list (ss.map Sh.dat)) = true := by simp [PyData.canLay0, shs_lay ss]
  have h2 : PyData.depth (.list (ss.map Sh.dat)) ≤ 64 := by
    have := shs_dep h
    simp only [PyData.depth]
    omega
  rw [h1, decide_eq_true h2]
  rfl
theorem nil_shaped : SeqAt.shaped (.list []) = true := by decide +kernel
theorem eqv_nil (ds : List PyData) : PyData.eqv (.list ds) (.list []) = ds.isEmpty := by
  cases ds <;> simp [PyData.eqv, PyData.eqvAll]
def nodes : List Sh → Nat
  | [] => 0
  | s :: ss => (2 * s.size - 1) + nodes ss
def sizes : List Sh → Nat
  | [] => 0
  | s :: ss => s.size + sizes ss
theorem nodes_append : ∀ a b : List Sh, nodes (a ++ b) = nodes a + nodes b
  | [], b => by simp [nodes]
  | s :: a, b => by simp only [List.cons_append, nodes, nodes_append a b]; omega
theorem sizes_append : ∀ a b : List Sh, sizes (a ++ b) = sizes a + sizes b
  | [], b => by simp [sizes]
  | s :: a, b => by simp only [List.cons_append, sizes, sizes_append a b]; omega
theorem len_sizes : ∀ a : List Sh, a.length ≤ sizes a
  | [] => Nat.zero_le _
  | s :: a => by
    have h1 := s.pos
    have h2 := len_sizes a
    simp only [List.length_cons, sizes]
    omega
theorem at_end {α : Type} (a : List α) (x : α) : (a ++ [x])[(a ++ [x]).length - 1]? = some x := by simp
def spSize : Sp := fun vs H Q _ => ∃ (s : Sh) (v : V), vs = [v] ∧ ShAt H s v ∧ s.size ≤ 60 ∧ ∀ H', Same H H' → Q (.int (s.size : Int)) H'
theorem ok_size_of (T : Txt K mg) : Ok P w base 1 T.size_of spSize := by
  refine T.size_of.fn.ok sc_size_of (fun vs H Q E h => ?_) (fun cdv A outer s H vs Q E hr h => ?_)
  · obtain ⟨_, _, rfl, _⟩ := h
    rfl
  obtain ⟨t, v, rfl, hA, hz, q⟩ := h
  refine ⟨_, (pss_cons (ps_par (i := 1) (j := 2) rfl sc_size_of.nd rfl rfl (by decide) rfl rfl (pa_cons pe_int (pa_cons (pe_lst (pa_cons (pv 0) pa_nil)) pa_nil)) (by rfl))
      (pss_cons (ps_while PassesOwn.never (pt_cmpR (op_neD hr.units) (pv 2) (pe_lst pa_nil) (nomark _))
      (pss_cons (ps_set (i := 3) sc_size_of.nd rfl (Or.inl rfl) (pe_bm0 PySem.F.plainAttrs_list PySem.F.slot_list_pop PySem.F.type_list_pop mt_pop (pv 2)))
      (pss_cons (ps_aug (i := 1) sc_size_of.nd rfl (Or.inl rfl) (pe_ifExp (pt_cmpR (op_eqD hr.units) (pv 3) (pe_tup pa_nil) (nomark _)) pe_int pe_int) ip_add)
      (pss_one (ps_expr (pe_bm PySem.F.plainAttrs_list PySem.F.slot_list_extend PySem.F.type_list_extend mt_extendT (pv 2) (pa_cons (pv 3) pa_nil)))))))
      (pss_one (ps_ret (pv 1))))), ?_⟩
  refine ⟨_, rfl, by show 1 ≤ sizeLine; decide, fun L hL => ?_⟩
  refine ⟨_, _, rfl, ?_⟩
  refine ⟨fun m σ H' => ∃ (ss : List Sh) (us : List V) (c : Nat) (x : Option V), σ = [some v, some (.int (c : Int)), some (.ref L), x] ∧ H' L = some (.lst us) ∧ ShsAt H' ss us ∧ c + sizes ss = t.size ∧ Same H H' ∧ m = nodes ss ∧ ∀ s ∈ ss, s.size ≤ 60, ?_, ?_⟩
  · refine ⟨_, [t], [v], 0, none, rfl, upd_same, .cons (hA.keep (Tk.of (sm_new hL))) .nil, by simp [sizes], sm_new hL, rfl, fun s hs => ?_⟩
    rw [List.mem_singleton.mp hs]
    exact hz
  · rintro m σ H1 ⟨ss, us, c, x, rfl, hl, hss, hc, sm, rfl, hb⟩
    refine ⟨_, rfl, Nat.zero_le _, fun p hp => ?_⟩
    have k1 := sm_new (o := .lst []) hp
    refine ⟨_, _, .lst (SqL.of (k1 _ _ hl)) (shs_dp (hss.keep (Tk.of k1))), .lst (SqL.of upd_same) .nil, shs_shaped hb, nil_shaped, !ss.isEmpty, ?_, ?_⟩
    · rw [eqv_nil]
      cases ss <;> rfl
    · by_cases e : ss = []
      · subst e
        refine iteF ⟨_, rfl, ?_⟩
        exact q_int (q _ (sm.trans k1)) (by simp only [sizes] at hc; omega)
      · rw [show (!ss.isEmpty) = true by cases ss; exact absurd rfl e; rfl]
        obtain ⟨s0, s1, u0, u1, rfl, rfl, hs0, hs1⟩ := pd_last hss e
        have hb1 : s1.size ≤ 60 := hb s1 (by simp)
        have nLp : L ≠ p := ne_of_none hl hp
        refine iteT ⟨fun σ' H' => ∃ (ss : List Sh) (us : List V) (c : Nat) (x : Option V), σ' = [some v, some (.int (c : Int)), some (.ref L), x] ∧ H' L = some (.lst us) ∧ ShsAt H' ss us ∧ c + sizes ss = t.size ∧ Same H H' ∧ nodes ss < nodes (s0 ++ [s1]) ∧ ∀ s ∈ ss, s.size ≤ 60, ?_, ?_⟩
        · rintro σ' H' ⟨ss, us, c, x, a1, a2, a3, a4, a5, a6, a7⟩
          exact ⟨_, a6, ss, us, c, x, a1, a2, a3, a4, a5, rfl, a7⟩
        · -- part = rest.pop()
          have hl1 := k1 _ _ hl
          refine ⟨_, rfl, .inl ⟨rfl, _, SqL.of hl1⟩, L, _, u1, rfl, rfl, hl1, at_end _ _, ?_⟩
          have e0 : (u0 ++ [u1]).dropLast = u0 := by simp
          rw [e0]
          have sm2 : Same H (upd (upd H1 p (.lst [])) L (.lst u0)) := sm_mut (sm.trans k1) hL
          have tk2 : Tk H1 (upd (upd H1 p (.lst [])) L (.lst u0)) := (Tk.of k1).trans (tk_lst hl1)
          -- found += 1 if part == () else 0
          refine ⟨_, rfl, _, rfl, Nat.zero_le _, fun p2 hp2 => ?_⟩
          have k3 := sm_new (o := .tup []) hp2
          have hs1' := (hs1.keep tk2).keep (Tk.of k3)
          refine ⟨_, _, hs1'.dp, nil_dp upd_same, Sh.shaped (by omega), Sh.shaped (by decide), decide (s1 = .o), by rw [Sh.eqv], ?_⟩
          have hl3 := k3 _ _ (upd_same (H := upd H1 p (.lst [])) (a := L) (o := .lst u0))
          have hs3 : ShsAt _ s0 u0 := ShsAt.keep (Tk.of k3) (ShsAt.keep tk2 hs0)
          have sm3 := sm2.trans k3
          have bound := len_sizes s0
          have bl := hs0.length
          have hc' := hc
          rw [sizes_append] at hc'
          cases s1 with
          | o =>
            refine iteT ⟨_, _, rfl, rfl, ?_⟩
            obtain ⟨a, rfl, ha⟩ := hs1'
            refine ⟨_, rfl, .inl ⟨rfl, _, SqL.of hl3⟩, _, rfl, L, a, u0, [], rfl, rfl, hl3, ha, small _ (by simp only [List.length_nil]; omega), ?_⟩
            refine ⟨s0, u0, c + 1, some (.ref a), ?_, ?_, hs3.keep (tk_lst hl3), ?_, sm_mut sm3 hL, ?_, fun s hs => hb s (by simp [hs])⟩
            · show _ = [some v, some (V.int ((c + 1 : Nat) : Int)), some (V.ref L), some (V.ref a)]
              rfl
            · rw [upd_same, List.append_nil]
            · simp only [sizes, Sh.size] at hc'
              omega
            · rw [nodes_append]
              simp only [nodes, Sh.size]
              omega
          | p l r =>
            refine iteF ⟨_, _, rfl, rfl, ?_⟩
            obtain ⟨a, x1, x2, rfl, ha, hx1, hx2⟩ := hs1'
            refine ⟨_, rfl, .inl ⟨rfl, _, SqL.of hl3⟩, _, rfl, L, a, u0, [x1, x2], rfl, rfl, hl3, ha, small _ (by simp only [List.length_cons, List.length_nil]; omega), ?_⟩
            have pl := l.pos
            have pr := r.pos
            simp only [Sh.size] at hb1
            refine ⟨s0 ++ [l, r], u0 ++ [x1, x2], c, some (.ref a), ?_, upd_same, ?_, ?_, sm_mut sm3 hL, ?_, fun s hs => ?_⟩
            · show [some v, some (V.int ((c : Int) + 0)), some (V.ref L), some (V.ref a)] = _
              rw [Int.add_zero]
            · exact ShsAt.keep (tk_lst hl3) (pd_append hs3 (.cons hx1 (.cons hx2 .nil)))
            · rw [sizes_append]
              simp only [sizes, Sh.size] at hc' ⊢
              omega
            · rw [nodes_append, nodes_append]
              simp only [nodes, Sh.size]
              omega
            · rcases List.mem_append.mp hs with h | h
              · exact hb s (by simp [h])
              · rcases List.mem_cons.mp h with h | h
                · rw [h]; omega
                · rw [List.mem_singleton.mp h]; omega
end
end Lp

namespace Lp
open PySem PySem.Spec PyProof.Rows L2
section
variable {P : Program} {w : World} {K : PySem.W.Frag} {mg : Str → Option Value} {base : Heap}
theorem for_enumT {a : Addr} {xs : List V} {g : TG} {tb : TS} {D : Ends} {σ : L2.St} {H : Hp} (Pv : Nat → L2.St → Hp → Prop) (h0 : Pv 0 σ H) (hl : ∀ i σ H, Pv i σ H → SqT K H a xs)
    (hs : ∀ i x σ H T, xs[i]? = some x → Pv i σ H → H T = none → g (.ref T) σ (upd H T (.tup [.int (i : Nat), x])) fun σ2 H2 => tb { D with nx := Pv (i + 1), ct := Pv (i + 1), bk := D.nx } σ2 H2)
    (hd : ∀ σ H, Pv xs.length σ H → D.nx σ H) :
    ∃ W : Nat → Nat → L2.St → Hp → Prop, (∃ m, W 0 m σ H) ∧ ∀ i m σ H, W i m σ H → ((IteT K a).stop i H ∧ D.nx σ H) ∨ ((IteT K a).go i H ∧ ∃ N : L2.St → Hp → Prop, (∀ σ' H', N σ' H' → ∃ m', m' < m ∧ W (i + 1) m' σ' H') ∧
      ∀ x H', (IteT K a).yld i H x H' → g x σ H' fun σ2 H2 => tb { D with nx := N, ct := N, bk := D.nx } σ2 H2) := by
  refine ⟨fun i m σ H => m = xs.length - i ∧ i ≤ xs.length ∧ Pv i σ H, ⟨_, rfl, Nat.zero_le _, h0⟩, ?_⟩
  rintro i m σ H ⟨rfl, hi, p⟩
  have q := hl i σ H p
  by_cases hlt : i < xs.length
  · have e := List.getElem?_eq_getElem hlt
    refine .inr ⟨⟨xs, xs[i], q, e⟩, Pv (i + 1), fun σ' H' p' => ⟨_, by omega, rfl, hlt, p'⟩, ?_⟩
    rintro x H' ⟨T, x', rfl, nT, rfl, y⟩
    exact hs i x' σ H T (y xs q) p nT
  · have e : i = xs.length := by omega
    subst e
    exact .inl ⟨⟨xs, q, rfl⟩, hd σ H p⟩

def spWShape (n : Nat) : Sp := fun vs H Q _ => ∃ (s : Sh) (v : V), vs = [v] ∧ ShAt H s v ∧ s.size ≤ n ∧ ∀ H', Same H H' → Q .non H'
theorem ok_wrong_shape (T : Txt K mg) : ∀ n : Nat, Ok P w base n T.wrong_shape (spWShape n)
  | 0 => by
    have no : ∀ vs H Q E, ¬ spWShape 0 vs H Q E := by
      rintro vs H Q E ⟨s, v, _, _, h, _⟩
      have := s.pos
      omega
    exact ⟨fun vs H Q E h => absurd h (no vs H Q E), fun A outer s H args us vs Q E _ _ _ _ h => absurd h (no vs H Q E)⟩
  | n + 1 => by
    have G_wrong_shape := ok_wrong_shape T n
    refine T.wrong_shape.fn.ok sc_wrong_shape (fun vs H Q E h => ?_) (fun cdv A outer s H vs Q E hr h => ?_)
    · obtain ⟨_, _, rfl, _⟩ := h
      rfl
    obtain ⟨t, v, rfl, hA, hz, q⟩ := h
    refine ⟨_, (pss_cons (ps_if (PW.pt (pw_or (pt_not (pt_val (pe_callB call_isi (by rfl) T.isinstance_ (by decide +kernel) (pa_cons (pv 0) (pa_cons (pe_bltn (v := .ty "tuple") (by rfl) T.tuple_ (by decide +kernel) rfl) pa_nil))))) (pw_or1 (pt_cmpR op_notIn_seq (pe_callB call_len_seq (by rfl) T.len_ PySem.boot_len (pa_cons (pv 0) pa_nil)) (pe_tup (pa_cons pe_int (pa_cons pe_int pa_nil))) (by rfl)))))
        (pss_one ps_never)
        pss_nil)
        (pss_cons (ps_for PassesOwn.never rfl (pi_enumT rfl T.enumerate_ (pa_cons (pv 0) pa_nil)) (pg_tup rfl (pgs_cons (pg_name (i := 1) sc_wrong_shape.nd rfl (Or.inl rfl)) (pgs_cons (pg_name (i := 2) sc_wrong_shape.nd rfl (Or.inl rfl)) pgs_nil)))
        (pss_cons (ps_set (i := 3) sc_wrong_shape.nd rfl (Or.inl rfl) (pe_call G_wrong_shape (hr.mono (by omega)) (by rfl) T.wrong_shape.m T.wrong_shape.fn.kp T.wrong_shape.b .nil pass0 (pa_cons (pv 2) pa_nil)))
        (pss_one (ps_if (pt_cmpR op_notN (pv 3) pe_non (nomark _))
        (pss_one ps_never)
        pss_nil))))
        (pss_one (ps_ret pe_non)))), ?_⟩
    obtain ⟨a, xs, rfl, ha, hx⟩ : ∃ a xs, v = .ref a ∧ H a = some (.tup xs) ∧ (xs = [] ∨ ∃ x y l r, xs = [x, y] ∧ t = .p l r ∧ ShAt H l x ∧ ShAt H r y) := by
      cases t with
      | o =>
        obtain ⟨a, e, ha⟩ := hA
        exact ⟨a, _, e, ha, .inl rfl⟩
      | p l r =>
        obtain ⟨a, x, y, e, ha, h1, h2⟩ := hA
        exact ⟨a, _, e, ha, .inr ⟨x, y, l, r, rfl, rfl, h1, h2⟩⟩
    refine ⟨_, rfl, _, _, _, _, true, rfl, .ty _, .base (.tup ha), kit_ty (by decide +kernel), true, rfl, ?_⟩
    refine iteF ⟨_, rfl, a, xs, rfl, .inr (SqT.of ha), by show 2 ≤ sizeLine; decide, fun p hp => ?_⟩
    refine ⟨p, _, rfl, .inr (SqT.of upd_same), rfl, rfl, false, ?_, ?_⟩
    · rcases hx with rfl | ⟨x, y, l, r, rfl, _⟩ <;> rfl
    refine iteF ?_
    have k1 := sm_new (o := .tup [.int 0, .int 2]) hp
    refine ⟨_, rfl, a, xs, rfl, SqT.of (k1 _ _ ha), for_enumT (xs := xs) (fun i σ H' => ∃ y1 y2 y3, σ = [some (.ref a), y1, y2, y3] ∧ Same H H') ⟨none, none, none, rfl, k1⟩ (fun i σ H' h => ?_) ?_ ?_⟩
    · obtain ⟨_, _, _, _, sm⟩ := h
      exact SqT.of (sm _ _ ha)
    · rintro i x σ H1 Tp hi ⟨y1, y2, y3, rfl, sm⟩ nT
      have k2 := sm_new (o := .tup [.int (i : Nat), x]) nT
      refine ⟨Tp, _, rfl, SqT.of upd_same, rfl, _, _, rfl, _, _, rfl, rfl, ?_⟩
      obtain ⟨c, hc, hcs⟩ : ∃ c, ShAt H c x ∧ c.size ≤ n := by
        rcases hx with rfl | ⟨x0, x1, l, r, rfl, rfl, h1, h2⟩
        · simp at hi
        · have pl := l.pos
          have pr := r.pos
          simp only [Sh.size] at hz
          match i, hi with
          | 0, hi => cases hi; exact ⟨l, h1, by omega⟩
          | 1, hi => cases hi; exact ⟨r, h2, by omega⟩
      refine ⟨_, rfl, c, x, rfl, hc.keep (Tk.of (sm.trans k2)), hcs, fun H2 k3 => ?_⟩
      refine ⟨_, rfl, rfl, false, rfl, iteF ?_⟩
      exact ⟨_, _, _, rfl, (sm.trans k2).trans k3⟩
    · rintro σ H1 ⟨y1, y2, y3, rfl, sm⟩
      exact q _ sm
def spWSizes : Sp := fun vs H Q _ => ∃ (t : Tab) (v : V), vs = [v] ∧ TabAt H t v ∧ TabOk t ∧ ∀ H', Same H H' → Q .non H'
theorem ok_wrong_sizes (T : Txt K mg) : Ok P w base 2 T.wrong_sizes spWSizes := by
  have G_size_of := ok_size_of (P := P) (w := w) (base := base) T
  refine T.wrong_sizes.fn.ok sc_wrong_sizes (fun vs H Q E h => ?_) (fun cdv A outer s H vs Q E hr h => ?_)
  · obtain ⟨_, _, rfl, _⟩ := h
    rfl
  obtain ⟨t, v, rfl, ⟨a, xs, rfl, ha, hs⟩, ht, q⟩ := h
  refine ⟨_, (pss_cons (ps_for PassesOwn.never rfl (pi_enumT rfl T.enumerate_ (pa_cons (pv 0) pa_nil)) (pg_tup rfl (pgs_cons (pg_name (i := 1) sc_wrong_sizes.nd rfl (Or.inl rfl)) (pgs_cons (pg_name (i := 2) sc_wrong_sizes.nd rfl (Or.inl rfl)) pgs_nil)))
      (pss_one (ps_if (pt_cmpR op_ne (pe_call G_size_of (hr.mono (by omega)) (by rfl) T.size_of.m T.size_of.fn.kp T.size_of.b .nil pass0 (pa_cons (pv 2) pa_nil)) (pe_op op_add (pv 1) pe_int) (nomark _))
      (pss_one ps_never)
      pss_nil)))
      (pss_one (ps_ret pe_non))), ?_⟩
  refine ⟨_, rfl, a, xs, rfl, SqT.of ha, for_enumT (xs := xs) (fun i σ H' => ∃ y1 y2, σ = [some (.ref a), y1, y2] ∧ Same H H') ⟨none, none, rfl, Same.refl H⟩ (fun i σ H' h => ?_) ?_ ?_⟩
  · obtain ⟨_, _, _, sm⟩ := h
    exact SqT.of (sm _ _ ha)
  · rintro i x σ H1 Tp hi ⟨y1, y2, rfl, sm⟩ nT
    have k2 := sm_new (o := .tup [.int (i : Nat), x]) nT
    refine ⟨Tp, _, rfl, SqT.of upd_same, rfl, _, _, rfl, _, _, rfl, rfl, ?_⟩
    obtain ⟨c, hc, cx⟩ := pd_getR hs hi
    have sz := ht.sz i c hc
    have il := (List.getElem?_eq_some_iff.mp hc).1
    have tl := ht.le
    refine ⟨_, rfl, c, x, rfl, cx.keep (Tk.of (sm.trans k2)), by omega, fun H2 k3 => ?_⟩
    refine ⟨_, rfl, _, _, rfl, rfl, rfl, false, ?_, iteF ?_⟩
    · rw [sz]
      exact congrArg V.bl (by simp)
    · exact ⟨_, _, rfl, (sm.trans k2).trans k3⟩
  · rintro σ H1 ⟨y1, y2, rfl, sm⟩
    exact q _ sm
end
end Lp

namespace Lp
open PySem PySem.Spec PyProof.Rows L2
section
variable {P : Program} {w : World} {K : PySem.W.Frag} {mg : Str → Option Value} {base : Heap}
/-! ### plans -/
def TabsAt (H : Hp) (ts : List Tab) (v : V) : Prop := ∃ a vs, v = .ref a ∧ H a = some (.tup vs) ∧ Paired (TabAt H) ts vs
theorem TabsAt.keep {H H' : Hp} (k : Tk H H') {ts : List Tab} {v : V} (h : TabsAt H ts v) : TabsAt H' ts v := by
  obtain ⟨a, vs, e, h, s⟩ := h
  exact ⟨a, vs, e, k _ _ h, Paired.mapP s fun _ _ q => q.keep k⟩
inductive En where
  | left
  | right
  | rnd (ts : List Tab)
def EnAt (H : Hp) : En → V → Prop
  | .left, v => v = .str "left"
  | .right, v => v = .str "right"
  | .rnd ts, v => TabsAt H ts v
theorem EnAt.keep {H H' : Hp} (k : Tk H H') : ∀ {e : En} {v : V}, EnAt H e v → EnAt H' e v
  | .left, _, h => h
  | .right, _, h => h
  | .rnd _, _, h => TabsAt.keep k h
def EnOk : En → Prop
  | .rnd ts => 1 ≤ ts.length ∧ ts.length ≤ 10 ∧ ∀ t ∈ ts, TabOk t
  | _ => True
structure Pl where
  ts : List Tab
  en : En
structure PlOk (pl : Pl) : Prop where
  len : pl.ts.length ≤ 10
  ok : ∀ t ∈ pl.ts, TabOk t
  en : EnOk pl.en
def Pl.stage (pl : Pl) (k : Nat) : Option Tab := if k < pl.ts.length then pl.ts[k]? else match pl.en with
  | .rnd us => us[(k - pl.ts.length) % us.length]?
  | _ => none
theorem Pl.stage_ok {pl : Pl} (h : PlOk pl) {k : Nat} {t : Tab} (e : pl.stage k = some t) : TabOk t := by
  unfold Pl.stage at e
  split at e
  · exact h.ok t (List.mem_of_getElem? e)
  · split at e
    · rename_i us hus
      have q := h.en
      rw [hus] at q
      exact q.2.2 t (List.mem_of_getElem? e)
    · cases e
def pf (vt ve : V) : List (Str × V) := putF "own_end" ve (putF "own_tables" vt [])
theorem et_ : ¬ (("own_tables" : Str) = "own_end") := by decide +kernel
theorem te_ : ¬ (("own_end" : Str) = "own_tables") := by decide +kernel
theorem pf_t (vt ve : V) : (pf vt ve).lookup ("own_tables" : Str) = some vt := by
  unfold pf
  rw [lookup_putF, if_neg et_, lookup_putF, if_pos rfl]
theorem pf_e (vt ve : V) : (pf vt ve).lookup ("own_end" : Str) = some ve := by
  unfold pf
  rw [lookup_putF, if_pos rfl]
theorem pf_no (vt ve : V) {m : Str} (h1 : ¬ m = "own_end") (h2 : ¬ m = "own_tables") : (pf vt ve).lookup m = none := by
  unfold pf
  rw [lookup_putF, if_neg h1, lookup_putF, if_neg h2]
  rfl
def PlanAt (C : Addr) (H : Hp) (pl : Pl) (v : V) : Prop := ∃ p dx vt ve, v = .ref p ∧ H p = some (.ins C dx (pf vt ve)) ∧ TabsAt H pl.ts vt ∧ EnAt H pl.en ve
theorem PlanAt.keep {C : Addr} {H H' : Hp} (k : Same H H') {pl : Pl} {v : V} (h : PlanAt C H pl v) : PlanAt C H' pl v := by
  obtain ⟨p, dx, vt, ve, e, h, a, b⟩ := h
  exact ⟨p, dx, vt, ve, e, k _ _ h, a.keep (Tk.of k), b.keep (Tk.of k)⟩
/-! ### tables as data -/
def tdat (t : Tab) : PyData := .tuple (t.map Sh.dat)
theorem tab_dp {H : Hp} {t : Tab} {v : V} (h : TabAt H t v) : Dp K H v (tdat t) := by
  obtain ⟨a, vs, rfl, h, s⟩ := h
  exact .tup (SqT.of h) (shs_dp s)
theorem tab_size {t : Tab} (h : TabOk t) : ∀ s ∈ t, s.size ≤ 9 := fun s hs => by
  obtain ⟨i, hi, e⟩ := List.getElem_of_mem hs
  have q := h.sz i s (by rw [← e]; exact List.getElem?_eq_getElem hi)
  have := h.le
  omega
theorem tab_lay (t : Tab) : (tdat t).canLay0 = true := by simp [tdat, PyData.canLay0, shs_lay t]
theorem tab_dep {t : Tab} (h : TabOk t) : (tdat t).depth ≤ 10 := by
  have := shs_dep (tab_size h)
  simp only [tdat, PyData.depth]
  omega
theorem tab_shaped {t : Tab} (h : TabOk t) : SeqAt.shaped (tdat t) = true := by
  unfold SeqAt.shaped
  rw [tab_lay, decide_eq_true (Nat.le_trans (tab_dep h) (by decide))]
  rfl
theorem tabs_dp {H : Hp} : ∀ {ts : List Tab} {vs : List V}, Paired (TabAt H) ts vs → DpAll K H vs (ts.map tdat)
  | _, _, .nil => .nil
  | _, _, .cons r t => .cons (tab_dp r) (tabs_dp t)
theorem tabs_lay : ∀ ts : List Tab, PyData.canLayAll0 (ts.map tdat) = true
  | [] => by simp [PyData.canLayAll0]
  | t :: ts => by simp [PyData.canLayAll0, tab_lay t, tabs_lay ts]
theorem tabs_dep : ∀ {ts : List Tab}, (∀ t ∈ ts, TabOk t) → PyData.depthAll (ts.map tdat) ≤ 10
  | [], _ => by simp [PyData.depthAll]
  | t :: ts, h => by
    have h1 := tab_dep (h t List.mem_cons_self)
    have h3 := tabs_dep (ts := ts) fun x hx => h x (List.mem_cons_of_mem _ hx)
    simp only [List.map_cons, PyData.depthAll]
    omega
theorem tabs_shaped {ts : List Tab} (h : ∀ t ∈ ts, TabOk t) : SeqAt.shaped (.tuple (ts.map tdat)) = true := by
  unfold SeqAt.shaped
  have h1 : PyData.canLay0 (.tuple (ts.map tdat)) = true := by simp [PyData.canLay0, tabs_lay ts]
  have h2 : PyData.depth (.tuple (ts.map tdat)) ≤ 64 := by
    have := tabs_dep h
    simp only [PyData.depth]
    omega
  rw [h1, decide_eq_true h2]
  rfl
theorem eqv_nilT (ds : List PyData) : PyData.eqv (.tuple ds) (.tuple []) = ds.isEmpty := by
  cases ds <;> simp [PyData.eqv, PyData.eqvAll]
theorem nilT_shaped : SeqAt.shaped (.tuple []) = true := by decide +kernel
/-! ### the checks -/
def spWTable : Sp := fun vs H Q _ => ∃ (t : Tab) (v : V), vs = [v] ∧ TabAt H t v ∧ TabOk t ∧ ∀ H', Same H H' → Q .non H'
theorem ok_wrong_table (T : Txt K mg) : Ok P w base 10 T.wrong_table spWTable := by
  have G_wrong_shape := ok_wrong_shape (P := P) (w := w) (base := base) T 9
  have G_wrong_sizes := ok_wrong_sizes (P := P) (w := w) (base := base) T
  refine T.wrong_table.fn.ok sc_wrong_table (fun vs H Q E h => ?_) (fun cdv A outer s H vs Q E hr h => ?_)
  · obtain ⟨_, _, rfl, _⟩ := h
    rfl
  obtain ⟨t, v, rfl, ⟨a, xs, rfl, ha, hs⟩, ht, q⟩ := h
  refine ⟨_, (pss_cons (ps_if (PW.pt (pw_or (pt_not (pt_val (pe_callB call_isi (by rfl) T.isinstance_ (by decide +kernel) (pa_cons (pv 0) (pa_cons (pe_bltn (v := .ty "tuple") (by rfl) T.tuple_ (by decide +kernel) rfl) pa_nil))))) (pw_or1 (pt_cmpR (op_eqD hr.units) (pv 0) (pe_tup pa_nil) (nomark _)))))
      (pss_one ps_never)
      pss_nil)
      (pss_cons (ps_for PassesOwn.never rfl (pi_enumT rfl T.enumerate_ (pa_cons (pv 0) pa_nil)) (pg_tup rfl (pgs_cons (pg_name (i := 1) sc_wrong_table.nd rfl (Or.inl rfl)) (pgs_cons (pg_name (i := 2) sc_wrong_table.nd rfl (Or.inl rfl)) pgs_nil)))
      (pss_cons (ps_set (i := 3) sc_wrong_table.nd rfl (Or.inl rfl) (pe_call G_wrong_shape (hr.mono (by omega)) (by rfl) T.wrong_shape.m T.wrong_shape.fn.kp T.wrong_shape.b .nil pass0 (pa_cons (pv 2) pa_nil)))
      (pss_one (ps_if (pt_cmpR op_notN (pv 3) pe_non (nomark _))
      (pss_one ps_never)
      pss_nil))))
      (pss_one (ps_ret (pe_call G_wrong_sizes (hr.mono (by omega)) (by rfl) T.wrong_sizes.m T.wrong_sizes.fn.kp T.wrong_sizes.b .nil pass0 (pa_cons (pv 0) pa_nil)))))), ?_⟩
  refine ⟨_, rfl, _, _, _, _, true, rfl, .ty _, .base (.tup ha), kit_ty (by decide +kernel), true, rfl, ?_⟩
  refine iteF ⟨_, rfl, Nat.zero_le _, fun p hp => ?_⟩
  have k1 := sm_new (o := .tup []) hp
  refine ⟨_, .tuple [], tab_dp ⟨a, xs, rfl, k1 _ _ ha, ShsAt.keep (Tk.of k1) hs⟩, .tup (SqT.of upd_same) .nil, tab_shaped ht, nilT_shaped, false, ?_, iteF ?_⟩
  · rw [tdat, eqv_nilT]
    cases t with
    | nil => exact absurd ht.ne (by decide)
    | cons _ _ => rfl
  refine ⟨_, rfl, a, xs, rfl, SqT.of (k1 _ _ ha), for_enumT (xs := xs) (fun i σ H' => ∃ y1 y2 y3, σ = [some (.ref a), y1, y2, y3] ∧ Same H H') ⟨none, none, none, rfl, k1⟩ (fun i σ H' h => ?_) ?_ ?_⟩
  · obtain ⟨_, _, _, _, sm⟩ := h
    exact SqT.of (sm _ _ ha)
  · rintro i x σ H1 Tp hi ⟨y1, y2, y3, rfl, sm⟩ nT
    have k2 := sm_new (o := .tup [.int (i : Nat), x]) nT
    refine ⟨Tp, _, rfl, SqT.of upd_same, rfl, _, _, rfl, _, _, rfl, rfl, ?_⟩
    obtain ⟨c, hc, cx⟩ := pd_getR hs hi
    have sz := tab_size ht c (List.mem_of_getElem? hc)
    refine ⟨_, rfl, c, x, rfl, cx.keep (Tk.of (sm.trans k2)), sz, fun H2 k3 => ?_⟩
    refine ⟨_, rfl, rfl, false, rfl, iteF ?_⟩
    exact ⟨_, _, _, rfl, (sm.trans k2).trans k3⟩
  · rintro σ H1 ⟨y1, y2, y3, rfl, sm⟩
    exact ⟨_, rfl, t, _, rfl, TabAt.keep (Tk.of sm) ⟨a, xs, rfl, ha, hs⟩, ht, fun H' k => q _ (sm.trans k)⟩
def spWMember : Sp := fun vs H Q _ => ∃ (ts : List Tab) (v : V), vs = [v] ∧ TabsAt H ts v ∧ (∀ t ∈ ts, TabOk t) ∧ ∀ H', Same H H' → Q .non H'
theorem ok_wrong_member (T : Txt K mg) : Ok P w base 11 T.wrong_member spWMember := by
  have G_wrong_table := ok_wrong_table (P := P) (w := w) (base := base) T
  refine T.wrong_member.fn.ok sc_wrong_member (fun vs H Q E h => ?_) (fun cdv A outer s H vs Q E hr h => ?_)
  · obtain ⟨_, _, rfl, _⟩ := h
    rfl
  obtain ⟨ts, v, rfl, ⟨a, xs, rfl, ha, hs⟩, ht, q⟩ := h
  refine ⟨_, (pss_cons (ps_for PassesOwn.never rfl (pi_enumT rfl T.enumerate_ (pa_cons (pv 0) pa_nil)) (pg_tup rfl (pgs_cons (pg_name (i := 1) sc_wrong_member.nd rfl (Or.inl rfl)) (pgs_cons (pg_name (i := 2) sc_wrong_member.nd rfl (Or.inl rfl)) pgs_nil)))
      (pss_cons (ps_set (i := 3) sc_wrong_member.nd rfl (Or.inl rfl) (pe_call G_wrong_table (hr.mono (by omega)) (by rfl) T.wrong_table.m T.wrong_table.fn.kp T.wrong_table.b .nil pass0 (pa_cons (pv 2) pa_nil)))
      (pss_one (ps_if (pt_cmpR op_notN (pv 3) pe_non (nomark _))
      (pss_one ps_never)
      pss_nil))))
      (pss_one (ps_ret pe_non))), ?_⟩
  refine ⟨_, rfl, a, xs, rfl, SqT.of ha, for_enumT (xs := xs) (fun i σ H' => ∃ y1 y2 y3, σ = [some (.ref a), y1, y2, y3] ∧ Same H H') ⟨none, none, none, rfl, Same.refl H⟩ (fun i σ H' h => ?_) ?_ ?_⟩
  · obtain ⟨_, _, _, _, sm⟩ := h
    exact SqT.of (sm _ _ ha)
  · rintro i x σ H1 Tp hi ⟨y1, y2, y3, rfl, sm⟩ nT
    have k2 := sm_new (o := .tup [.int (i : Nat), x]) nT
    refine ⟨Tp, _, rfl, SqT.of upd_same, rfl, _, _, rfl, _, _, rfl, rfl, ?_⟩
    obtain ⟨c, hc, cx⟩ := pd_getR hs hi
    refine ⟨_, rfl, c, x, rfl, cx.keep (Tk.of (sm.trans k2)), ht c (List.mem_of_getElem? hc), fun H2 k3 => ?_⟩
    refine ⟨_, rfl, rfl, false, rfl, iteF ?_⟩
    exact ⟨_, _, _, rfl, (sm.trans k2).trans k3⟩
  · rintro σ H1 ⟨y1, y2, y3, rfl, sm⟩
    exact q _ sm
theorem kit_lt : PySem.W.kitAny K (.type "tuple") [.type "list", .type "tuple"] = some true := by
  have h1 : PySem.W.kitOne K (.type "tuple") (.type "list") = some false := kit_ty (by decide +kernel)
  have h2 : PySem.W.kitOne K (.type "tuple") (.type "tuple") = some true := kit_ty (by decide +kernel)
  simp only [PySem.W.kitAny, h1, h2]
def spWPlan : Sp := fun vs H Q _ => ∃ (pl : Pl) (vt ve : V), vs = [vt, ve] ∧ TabsAt H pl.ts vt ∧ EnAt H pl.en ve ∧ PlOk pl ∧ ∀ H', Same H H' → Q .non H'
theorem ok_wrong_plan (T : Txt K mg) : Ok P w base 12 T.wrong_plan spWPlan := by
  have G_wrong_member := ok_wrong_member (P := P) (w := w) (base := base) T
  refine T.wrong_plan.fn.ok sc_wrong_plan (fun vs H Q E h => ?_) (fun cdv A outer s H vs Q E hr h => ?_)
  · obtain ⟨_, _, _, rfl, _⟩ := h
    rfl
  obtain ⟨pl, vt, ve, rfl, ⟨a, xs, rfl, ha, hs⟩, he, hp, q⟩ := h
  refine ⟨_, (pss_cons (ps_if (pt_not (pt_val (pe_callB call_isiT (by rfl) T.isinstance_ (by decide +kernel) (pa_cons (pv 0) (pa_cons (pe_tup (pa_cons (pe_bltn (v := .ty "list") (by rfl) T.list_ (by decide +kernel) rfl) (pa_cons (pe_bltn (v := .ty "tuple") (by rfl) T.tuple_ (by decide +kernel) rfl) pa_nil))) pa_nil)))))
      (pss_one ps_never)
      pss_nil)
      (pss_cons (ps_set (i := 2) sc_wrong_plan.nd rfl (Or.inl rfl) (pe_call G_wrong_member (hr.mono (by omega)) (by rfl) T.wrong_member.m T.wrong_member.fn.kp T.wrong_member.b .nil pass0 (pa_cons (pv 0) pa_nil)))
      (pss_cons (ps_if (pt_cmpR op_notN (pv 2) pe_non (nomark _))
      (pss_one ps_never)
      pss_nil)
      (pss_cons (ps_if (PW.pt (pw_and (pt_val (pe_callB call_isi (by rfl) T.isinstance_ (by decide +kernel) (pa_cons (pv 1) (pa_cons (pe_bltn (v := .ty "str") (by rfl) T.str_ (by decide +kernel) rfl) pa_nil)))) (pw_and1 (pt_cmpR op_in_seq (pv 1) (pe_glob (v := .ref T.aE) (by rfl) T.mgE rfl) (by rfl)))))
      (pss_one (ps_ret pe_non))
      pss_nil)
      (pss_cons (ps_if (PW.pt (pw_or (pt_not (pt_val (pe_callB call_isi (by rfl) T.isinstance_ (by decide +kernel) (pa_cons (pv 1) (pa_cons (pe_bltn (v := .ty "tuple") (by rfl) T.tuple_ (by decide +kernel) rfl) pa_nil))))) (pw_or1 (pt_cmpR (op_eqD hr.units) (pv 1) (pe_tup pa_nil) (nomark _)))))
      (pss_one ps_never)
      pss_nil)
      (pss_cons (ps_set (i := 2) sc_wrong_plan.nd rfl (Or.inl rfl) (pe_call G_wrong_member (hr.mono (by omega)) (by rfl) T.wrong_member.m T.wrong_member.fn.kp T.wrong_member.b .nil pass0 (pa_cons (pv 1) pa_nil)))
      (pss_one (ps_ret (pe_ifExp (pt_cmpR op_isN (pv 2) pe_non (nomark _)) pe_non (pe_never)))))))))), ?_⟩
  refine ⟨_, rfl, by show 2 ≤ sizeLine; decide, fun p np => ?_⟩
  have k1 := sm_new (o := .tup [.ty "list", .ty "tuple"]) np
  refine ⟨_, p, _, _, _, true, rfl, upd_same, .cons (.ty _) (.cons (.ty _) .nil), .base (.tup (k1 _ _ ha)), kit_lt, true, rfl, iteF ?_⟩
  refine ⟨_, rfl, pl.ts, _, rfl, TabsAt.keep (Tk.of k1) ⟨a, xs, rfl, ha, hs⟩, hp.ok, fun H1 s1 => ?_⟩
  have k2 := k1.trans s1
  refine ⟨_, rfl, rfl, false, rfl, iteF ?_⟩
  have he2 := he.keep (Tk.of k2)
  obtain ⟨ts, en⟩ := pl
  cases en with
  | left =>
    obtain rfl : ve = .str "left" := he2
    refine ⟨_, rfl, _, _, _, _, true, rfl, .ty _, .base (.str _), kit_ty (by decide +kernel), true, rfl, ?_⟩
    refine iteT ⟨_, rfl, T.aE, _, rfl, .inr (T.sqE _), rfl, rfl, true, by decide +kernel, iteT ?_⟩
    exact q _ k2
  | right =>
    obtain rfl : ve = .str "right" := he2
    refine ⟨_, rfl, _, _, _, _, true, rfl, .ty _, .base (.str _), kit_ty (by decide +kernel), true, rfl, ?_⟩
    refine iteT ⟨_, rfl, T.aE, _, rfl, .inr (T.sqE _), rfl, rfl, true, by decide +kernel, iteT ?_⟩
    exact q _ k2
  | rnd us =>
    obtain ⟨b, ys, rfl, hb, hys⟩ := he2
    obtain ⟨u1, u2, u3⟩ := hp.en
    refine ⟨_, rfl, _, _, _, _, false, rfl, .ty _, .base (.tup hb), kit_ty (by decide +kernel), false, rfl, ?_⟩
    refine iteF ?_
    refine iteF ⟨_, rfl, _, _, _, _, true, rfl, .ty _, .base (.tup hb), kit_ty (by decide +kernel), true, rfl, ?_⟩
    refine iteF ⟨_, rfl, Nat.zero_le _, fun p2 np2 => ?_⟩
    have k3 := sm_new (o := .tup []) np2
    have hb3 : TabsAt _ us (.ref b) := TabsAt.keep (Tk.of k3) ⟨b, ys, rfl, hb, hys⟩
    refine ⟨.tuple (us.map tdat), .tuple [], .tup (SqT.of (k3 _ _ hb)) (tabs_dp (Paired.mapP hys fun _ _ z => z.keep (Tk.of k3))), .tup (SqT.of upd_same) .nil, tabs_shaped u3, nilT_shaped, false, ?_, iteF ?_⟩
    · rw [eqv_nilT]
      cases us with
      | nil => exact absurd u1 (by decide)
      | cons _ _ => rfl
    refine ⟨_, rfl, us, _, rfl, hb3, u3, fun H2 s2 => ?_⟩
    refine ⟨_, rfl, rfl, true, rfl, iteT ?_⟩
    exact q _ ((k2.trans k3).trans s2)
end
end Lp

namespace Lp
open PySem PySem.Spec PyProof.Rows L2
section
variable {P : Program} {w : World} {K : PySem.W.Frag} {mg : Str → Option Value} {base : Heap}
def spInitPlan (C : Addr) : Sp := fun vs H Q _ => ∃ (pl : Pl) (p dx : Addr) (vt ve : V), vs = [.ref p, vt, ve] ∧ H p = some (.ins C dx []) ∧ TabsAt H pl.ts vt ∧ EnAt H pl.en ve ∧ PlOk pl ∧
  ∀ H', (∀ b o, b ≠ p → H b = some o → H' b = some o) → H' p = some (.ins C dx (pf vt ve)) → Q .non H'
theorem ok_initPlan (T : Txt K mg) : OkM P w mg base 13 T.initPlan (spInitPlan T.cP) := by
  have G_wrong_plan := ok_wrong_plan (P := P) (w := w) (base := base) T
  refine T.initPlan.fn.ok sc_initPlan (fun vs H Q E h => ?_) (fun cdv A outer s H vs Q E hr h => ?_)
  · obtain ⟨_, _, _, _, _, rfl, _⟩ := h
    rfl
  obtain ⟨pl, p, dx, vt, ve, rfl, hp, ht, he, ok, q⟩ := h
  refine ⟨_, (pss_cons (ps_set (i := 3) sc_initPlan.nd rfl (Or.inl rfl) (pe_call G_wrong_plan (hr.mono (by omega)) (by rfl) T.wrong_plan.m T.wrong_plan.fn.kp T.wrong_plan.b .nil pass0 (pa_cons (pv 1) (pa_cons (pv 2) pa_nil))))
      (pss_cons (ps_if (pt_cmpR op_notN (pv 3) pe_non (nomark _))
      (pss_one ps_never)
      pss_nil)
      (pss_cons (ps_fld (pv 0) (pe_callTy call_tuple_of (by rfl) T.tuple_ (by decide +kernel) (pa_cons (pv 1) pa_nil)) rfl)
      (pss_one (ps_fld (pv 0) (pv 2) rfl))))), ?_⟩
  refine ⟨_, rfl, _, rfl, pl, vt, ve, rfl, ht, he, ok, fun H1 s1 => ?_⟩
  refine ⟨_, rfl, rfl, false, rfl, iteF ?_⟩
  obtain ⟨a, xs, rfl, ha, hs⟩ := ht
  have hp1 := s1 _ _ hp
  refine ⟨_, rfl, a, xs, rfl, .inr ⟨SqT.of (s1 _ _ ha), ?_⟩⟩
  refine ⟨_, rfl, p, T.cP, dx, [], rfl, hp1, T.clPlan, T.nT, by show 0 < 1000; decide, ?_⟩
  refine ⟨_, rfl, _, rfl, p, T.cP, dx, _, rfl, upd_same, T.clPlan, T.nE, by show 1 < 1000; decide, ?_⟩
  refine q _ (fun b o n e => ?_) ?_
  · rw [upd_ne n, upd_ne n]
    exact s1 _ _ e
  · rw [upd_same]
    rfl
def spEnd (C : Addr) : Sp := fun vs H Q _ => ∃ (pl : Pl) (v : V), vs = [v] ∧ PlanAt C H pl v ∧ ∀ u, EnAt H pl.en u → Q u H
theorem ok_end_ (T : Txt K mg) : OkM P w mg base 1 T.end_ (spEnd T.cP) := by
  refine T.end_.fn.ok sc_end_ (fun vs H Q E h => ?_) (fun cdv A outer s H vs Q E hr h => ?_)
  · obtain ⟨_, _, rfl, _⟩ := h
    rfl
  obtain ⟨pl, v, rfl, ⟨p, dx, vt, ve, rfl, hp, ht, he⟩, q⟩ := h
  refine ⟨_, (pss_one (ps_ret (pe_fld (pv 0) rfl))), ?_⟩
  exact ⟨_, rfl, p, T.cP, dx, _, _, rfl, hp, T.clPlan, T.nE, pf_e _ _, q _ he⟩
def OptTab (H : Hp) : Option Tab → V → Prop
  | none, u => u = .non
  | some t, u => TabAt H t u
theorem stage_l {ts : List Tab} {k : Nat} (h : ¬ k < ts.length) : Pl.stage ⟨ts, .left⟩ k = none := by
  rw [Pl.stage, if_neg h]
theorem stage_r {ts : List Tab} {k : Nat} (h : ¬ k < ts.length) : Pl.stage ⟨ts, .right⟩ k = none := by
  rw [Pl.stage, if_neg h]
theorem stage_n {ts us : List Tab} {k : Nat} (h : ¬ k < ts.length) : Pl.stage ⟨ts, .rnd us⟩ k = us[(k - ts.length) % us.length]? := by
  rw [Pl.stage, if_neg h]
def spStage (C : Addr) : Sp := fun vs H Q _ => ∃ (pl : Pl) (v : V) (k : Nat) (j : Int), vs = [v, .int j] ∧ j = (k : Int) ∧ PlanAt C H pl v ∧ PlOk pl ∧ ∀ u, OptTab H (pl.stage k) u → Q u H
theorem ok_stage (T : Txt K mg) : OkM P w mg base 1 T.stage (spStage T.cP) := by
  refine T.stage.fn.ok sc_stage (fun vs H Q E h => ?_) (fun cdv A outer s H vs Q E hr h => ?_)
  · obtain ⟨_, _, _, _, rfl, _⟩ := h
    rfl
  obtain ⟨pl, v, k, _, rfl, rfl, ⟨p, dx, vt, ve, rfl, hp, ht, he⟩, ok, q⟩ := h
  refine ⟨_, (pss_cons (ps_if (pt_cmpR op_lt (pv 1) (pe_callB call_len_seq (by rfl) T.len_ PySem.boot_len (pa_cons (pe_fld (pv 0) rfl) pa_nil)) (nomark _))
      (pss_one (ps_ret (pe_ix ix_tup (pe_fld (pv 0) rfl) (pv 1) (fun _ _ => rfl))))
      pss_nil)
      (pss_cons (ps_if (pt_cmpR (op_inTD hr) (pe_fld (pv 0) rfl) (pe_glob (v := .ref T.aE) (by rfl) T.mgE rfl) (by rfl))
      (pss_one (ps_ret pe_non))
      pss_nil)
      (pss_one (ps_ret (pe_ix ix_tup (pe_fld (pv 0) rfl) (pe_op op_mod (pe_op op_sub (pv 1) (pe_callB call_len_seq (by rfl) T.len_ PySem.boot_len (pa_cons (pe_fld (pv 0) rfl) pa_nil))) (pe_callB call_len_seq (by rfl) T.len_ PySem.boot_len (pa_cons (pe_fld (pv 0) rfl) pa_nil))) (fun _ _ => rfl)))))), ?_⟩
  obtain ⟨a, xs, rfl, ha, hs⟩ := ht
  have hl := hs.length
  refine ⟨_, rfl, _, rfl, p, T.cP, dx, _, _, rfl, hp, T.clPlan, T.nT, pf_t _ _, a, xs, rfl, .inr (SqT.of ha), _, _, rfl, rfl, _, rfl, ite2 (fun c => ?_) (fun c => ?_)⟩
  · have c' : (k : Int) < ((xs.length : Nat) : Int) := of_decide_eq_true c
    have hk : k < pl.ts.length := by omega
    have hkx : k < xs.length := by omega
    have e1 := List.getElem?_eq_getElem hk
    obtain ⟨u, hu, su⟩ := pd_get hs e1
    refine ⟨_, rfl, p, T.cP, dx, _, _, rfl, hp, T.clPlan, T.nT, pf_t _ _, _, rfl, a, xs, _, u, rfl, rfl, SqT.of ha, atI_nat hu, q _ ?_⟩
    rw [Pl.stage, if_pos hk, e1]
    exact su
  · have c' : ¬ (k : Int) < ((xs.length : Nat) : Int) := of_decide_eq_false (Bool.eq_false_iff.mpr c)
    have hk : ¬ k < pl.ts.length := by omega
    refine ⟨_, rfl, p, T.cP, dx, _, _, rfl, hp, T.clPlan, T.nE, pf_e _ _, ?_⟩
    have dE : ∀ H, Dp K H (.ref T.aE) (.tuple [.str "left", .str "right"]) := fun H => .tup (T.sqE H) (.cons (.str _) (.cons (.str _) .nil))
    have sE : SeqAt.shaped (.tuple [.str "left", .str "right"]) = true := by decide +kernel
    obtain ⟨ts, en⟩ := pl
    cases en with
    | left =>
      obtain rfl : ve = .str "left" := he
      refine ⟨.str "left", _, .str _, dE H, by decide +kernel, sE, true, by decide +kernel, iteT (q _ ?_)⟩
      rw [stage_l hk]
      rfl
    | right =>
      obtain rfl : ve = .str "right" := he
      refine ⟨.str "right", _, .str _, dE H, by decide +kernel, sE, true, by decide +kernel, iteT (q _ ?_)⟩
      rw [stage_r hk]
      rfl
    | rnd us =>
      obtain ⟨b, ys, rfl, hb, hys⟩ := he
      obtain ⟨u1, u2, u3⟩ := ok.en
      have hl2 := hys.length
      refine ⟨.tuple (us.map tdat), _, .tup (SqT.of hb) (tabs_dp hys), dE H, tabs_shaped u3, sE, false, ?_, iteF ?_⟩
      · simp [PyData.eqv]
      · have hm : (k - ts.length) % us.length < us.length := Nat.mod_lt _ (by omega)
        have e1 := List.getElem?_eq_getElem hm
        obtain ⟨u, hu, su⟩ := pd_get hys e1
        refine ⟨_, rfl, p, T.cP, dx, _, _, rfl, hp, T.clPlan, T.nE, pf_e _ _, _, rfl, _, rfl, p, T.cP, dx, _, _, rfl, hp, T.clPlan, T.nT, pf_t _ _, a, xs, rfl, .inr (SqT.of ha), _, _, rfl, rfl, ?_⟩
        refine ⟨_, rfl, p, T.cP, dx, _, _, rfl, hp, T.clPlan, T.nE, pf_e _ _, b, ys, rfl, .inr (SqT.of hb), _, _, rfl, rfl, by show (0 : Int) < ((ys.length : Nat) : Int); omega, b, ys, _, u, rfl, rfl, SqT.of hb, ?_, q _ ?_⟩
        · have e2 : ((k : Int) - ((xs.length : Nat) : Int)) % ((ys.length : Nat) : Int) = (((k - ts.length) % us.length : Nat) : Int) := by
            rw [← hl, ← hl2, Int.natCast_emod]
            congr 1
            have : ts.length ≤ k := by
              have := hk
              simp only at this
              omega
            simp only
            omega
          show atI ys (((k : Int) - ((xs.length : Nat) : Int)) % ((ys.length : Nat) : Int)) = some u
          rw [e2]
          exact atI_nat hu
        · rw [stage_n hk, e1]
          exact su
end
end Lp

namespace Lp
open PySem PySem.Spec PyProof.Rows L2
section
variable {P : Program} {w : World} {K : PySem.W.Frag} {mg : Str → Option Value} {base : Heap}
/-! ### the numbers of lumps, stage by stage -/
abbrev mv (ms : List Nat) : List V := ms.map fun m : Nat => V.int (m : Int)
structure Cnt (pl : Pl) (n : Nat) (ms : List Nat) : Prop where
  hd : ms[0]? = some n
  step : ∀ l m m', ms[l]? = some m → ms[l + 1]? = some m' → 1 < m ∧ ∃ t, pl.stage l = some t ∧ m' = (m + t.length) / (t.length + 1)
  low : ∀ l m, ms[l]? = some m → 1 ≤ m ∧ m + l ≤ n
theorem div_less {k L : Nat} (h : 1 < k) (hL : 1 ≤ L) : (k + L) / (L + 1) < k := by
  rw [Nat.div_lt_iff_lt_mul (by omega)]
  have h1 : 2 * L ≤ k * L := Nat.mul_le_mul_right L h
  rw [Nat.mul_add]
  omega
theorem div_one {k L : Nat} (h : 1 ≤ k) : 1 ≤ (k + L) / (L + 1) := Nat.div_pos (by omega) (by omega)
theorem Cnt.one {pl : Pl} {n : Nat} (h : 1 ≤ n) : Cnt pl n [n] := by
  refine ⟨rfl, fun l m m' _ e => ?_, fun l m e => ?_⟩
  · simp at e
  · match l, e with
    | 0, e => cases e; omega
theorem Cnt.snoc {pl : Pl} {n k : Nat} {a : List Nat} {t : Tab} (c : Cnt pl n (a ++ [k])) (ok : TabOk t) (h : 1 < k) (e : pl.stage a.length = some t) : Cnt pl n ((a ++ [k]) ++ [(k + t.length) / (t.length + 1)]) := by
  have len : (a ++ [k]).length = a.length + 1 := by simp
  have last : (a ++ [k])[a.length]? = some k := by simp
  refine ⟨?_, fun l m m' h1 h2 => ?_, fun l m h1 => ?_⟩
  · rw [List.getElem?_append_left (by omega)]
    exact c.hd
  · by_cases hl : l + 1 < (a ++ [k]).length
    · rw [List.getElem?_append_left (by omega)] at h1
      rw [List.getElem?_append_left hl] at h2
      exact c.step l m m' h1 h2
    · have hb := (List.getElem?_eq_some_iff.mp h2).1
      rw [List.length_append, List.length_singleton] at hb
      have el : l = a.length := by omega
      subst el
      rw [List.getElem?_append_left (by omega), last] at h1
      cases h1
      rw [List.getElem?_append_right (by omega), len, Nat.sub_self] at h2
      cases h2
      exact ⟨h, t, e, rfl⟩
  · by_cases hl : l < (a ++ [k]).length
    · rw [List.getElem?_append_left hl] at h1
      exact c.low l m h1
    · have hb := (List.getElem?_eq_some_iff.mp h1).1
      rw [List.length_append, List.length_singleton] at hb
      have el : l = a.length + 1 := by omega
      subst el
      rw [List.getElem?_append_right (by omega), len, Nat.sub_self] at h1
      cases h1
      have q := c.low a.length k last
      have d := div_less h ok.ne
      exact ⟨div_one (by omega), by omega⟩
theorem Cnt.len {pl : Pl} {n : Nat} {ms : List Nat} (c : Cnt pl n ms) : ms.length ≤ n := by
  by_cases e : ms = []
  · rw [e]; exact Nat.zero_le _
  · have hl : ms.length - 1 < ms.length := by
      have := List.length_pos_iff.mpr e
      omega
    have q := c.low _ _ (List.getElem?_eq_getElem hl)
    omega
theorem mv_snoc (a : List Nat) (k : Nat) : mv (a ++ [k]) = mv a ++ [.int (k : Int)] := by simp [mv]
theorem PlanAt.ins {C : Addr} {H : Hp} {pl : Pl} {v : V} (h : PlanAt C H pl v) : ∃ p dx fs, v = .ref p ∧ H p = some (.ins C dx fs) ∧ fs.lookup ("stage" : Str) = none ∧ fs.lookup ("end" : Str) = none := by
  obtain ⟨p, dx, vt, ve, e, h, _⟩ := h
  exact ⟨p, dx, _, e, h, pf_no _ _ (by decide +kernel) (by decide +kernel), pf_no _ _ (by decide +kernel) (by decide +kernel)⟩
def spCounts (C : Addr) : Sp := fun vs H Q _ => ∃ (pl : Pl) (v : V) (n : Nat) (j : Int), vs = [v, .int j] ∧ j = (n : Int) ∧ 1 ≤ n ∧ n ≤ 1000 ∧ PlanAt C H pl v ∧ PlOk pl ∧
  ∀ H' L a k, Same H H' → H' L = some (.lst (mv (a ++ [k]))) → Cnt pl n (a ++ [k]) → (k = 1 ∨ pl.stage a.length = none) → Q (.ref L) H'
theorem ok_counts (T : Txt K mg) : Ok P w base 2 T.counts (spCounts T.cP) := by
  have G_stage := ok_stage (P := P) (w := w) (base := base) T
  have G_table_size := ok_table_size (P := P) (w := w) (base := base) T
  refine T.counts.fn.ok sc_counts (fun vs H Q E h => ?_) (fun cdv A outer s H vs Q E hr h => ?_)
  · obtain ⟨_, _, _, _, rfl, _⟩ := h
    rfl
  obtain ⟨pl, v, n, _, rfl, rfl, n1, n2, hp, ok, q⟩ := h
  refine ⟨_, (pss_cons (ps_set (i := 2) sc_counts.nd rfl (Or.inl rfl) (pe_lst (pa_cons (pv 1) pa_nil)))
      (pss_cons (ps_while PassesOwn.never (PW.pt (pw_and (pt_cmpR op_gt (pe_ix ix_list (pv 2) (pe_un un_neg pe_int) (fun _ _ => rfl)) pe_int (nomark _)) (pw_and1 (pt_cmpR op_notN (pe_meth (pv 0) T.clPlan T.m_stage G_stage (hr.mono (by omega)) T.stage.b .nil pass0 (pa_cons (pe_op op_sub (pe_callB call_len_seq (by rfl) T.len_ PySem.boot_len (pa_cons (pv 2) pa_nil)) pe_int) pa_nil)) pe_non (nomark _)))))
      (pss_cons (ps_set (i := 3) sc_counts.nd rfl (Or.inl rfl) (pe_call G_table_size (hr.mono (by omega)) (by rfl) T.table_size.m T.table_size.fn.kp T.table_size.b .nil pass0 (pa_cons (pe_meth (pv 0) T.clPlan T.m_stage G_stage (hr.mono (by omega)) T.stage.b .nil pass0 (pa_cons (pe_op op_sub (pe_callB call_len_seq (by rfl) T.len_ PySem.boot_len (pa_cons (pv 2) pa_nil)) pe_int) pa_nil)) pa_nil)))
      (pss_one (ps_expr (pe_bm PySem.F.plainAttrs_list PySem.F.slot_list_append PySem.F.type_list_append mt_append (pv 2) (pa_cons (pe_op op_fdiv (pe_op op_sub (pe_op op_add (pe_ix ix_list (pv 2) (pe_un un_neg pe_int) (fun _ _ => rfl)) (pv 3)) pe_int) (pv 3)) pa_nil))))))
      (pss_one (ps_ret (pv 2))))), ?_⟩
  refine ⟨_, rfl, by show 1 ≤ sizeLine; decide, fun L hL => ?_⟩
  refine ⟨fun m σ H' => ∃ (a : List Nat) (x : Option V), σ = [some v, some (.int (n : Int)), some (.ref L), x] ∧ H' L = some (.lst (mv (a ++ [m]))) ∧ Cnt pl n (a ++ [m]) ∧ Same H H', ⟨n, [], none, rfl, upd_same, Cnt.one n1, sm_new hL⟩, ?_⟩
  rintro m σ H1 ⟨a, x, rfl, hl, c, sm⟩
  have last : (a ++ [m])[a.length]? = some m := by simp
  have lm := (c.low _ _ last).1
  have al := c.len
  rw [List.length_append, List.length_singleton] at al
  have hl' := hl
  rw [mv_snoc] at hl'
  have ln : ((mv (a ++ [m])).length : Int) - 1 = (a.length : Int) := by simp [mv]
  have hp1 := hp.keep sm
  obtain ⟨p, dx, fs, rfl, hi, f1, f2⟩ := hp1.ins
  refine ⟨_, rfl, _, rfl, L, _, _, _, rfl, rfl, SqL.of hl', atI_last _ _, _, _, rfl, rfl, _, rfl, ite2 (fun g => ?_) (fun g => ?_)⟩
  · have g' : (1 : Int) < (m : Int) := of_decide_eq_true g
    refine ⟨_, rfl, p, dx, fs, rfl, hi, f1, _, rfl, L, _, rfl, .inl (SqL.of hl), _, _, rfl, rfl, pl, _, a.length, _, rfl, ln, hp1, ok, fun u hu => ?_⟩
    cases e : pl.stage a.length with
    | none =>
      rw [e] at hu
      obtain rfl : u = .non := hu
      refine ⟨rfl, false, rfl, iteF ⟨_, rfl, ?_⟩⟩
      exact q _ L a m sm hl c (.inr e)
    | some t =>
      rw [e] at hu
      have tok := Pl.stage_ok ok e
      obtain ⟨b, ys, rfl, hb, hy⟩ := id hu
      refine ⟨rfl, true, rfl, iteT ⟨fun σ' H' => ∃ (m' : Nat) (a : List Nat) (x : Option V), m' < m ∧ σ' = [some (.ref p), some (.int (n : Int)), some (.ref L), x] ∧ H' L = some (.lst (mv (a ++ [m']))) ∧ Cnt pl n (a ++ [m']) ∧ Same H H', ?_, ?_⟩⟩
      · rintro σ' H' ⟨m', a, x, h1, h2⟩
        exact ⟨m', h1, a, x, h2⟩
      · refine ⟨_, rfl, p, dx, fs, rfl, hi, f1, _, rfl, L, _, rfl, .inl (SqL.of hl), _, _, rfl, rfl, pl, _, a.length, _, rfl, ln, hp1, ok, fun u hu' => ?_⟩
        rw [e] at hu'
        refine ⟨t, u, rfl, hu', ?_⟩
        have tl := tok.ne
        have te := tok.le
        refine ⟨_, rfl, .inl ⟨rfl, _, SqL.of hl⟩, _, rfl, _, rfl, L, _, _, _, rfl, rfl, SqL.of hl', atI_last _ _, _, rfl, _, _, rfl, rfl, _, _, rfl, rfl, _, rfl, _, _, rfl, rfl, ⟨by omega, by omega⟩, ?_⟩
        refine ⟨L, _, _, rfl, rfl, hl, smallL _ (by simp [mv]; omega), ?_⟩
        refine ⟨(m + t.length) / (t.length + 1), a ++ [m], _, div_less (by omega) tl, rfl, ?_, c.snoc tok (by omega) e, ?_⟩
        · rw [upd_same, mv_snoc (a ++ [m])]
          have z : (((m : Int) + ((t.length + 1 : Nat) : Int)) - 1) / ((t.length + 1 : Nat) : Int) = (((m + t.length) / (t.length + 1) : Nat) : Int) := by
            rw [Int.natCast_ediv]
            congr 1
            omega
          show some (HO.lst (_ ++ [V.int ((((m : Int) + ((t.length + 1 : Nat) : Int)) - 1) / ((t.length + 1 : Nat) : Int))])) = _
          rw [z]
        · exact sm_mut sm hL
  · have g' : ¬ (1 : Int) < (m : Int) := of_decide_eq_false (Bool.eq_false_iff.mpr g)
    have e1 : m = 1 := by omega
    exact iteF ⟨_, rfl, q _ L a m sm hl c (.inl e1)⟩
end
end Lp

namespace Lp
open PySem PySem.Spec PyProof.Rows L2
section
variable {P : Program} {w : World} {K : PySem.W.Frag} {mg : Str → Option Value} {base : Heap}
def spWidths (C : Addr) : Sp := fun vs H Q _ => ∃ (pl : Pl) (v : V) (n : Nat) (j : Int), vs = [v, .int j] ∧ j = (n : Int) ∧ 1 ≤ n ∧ n ≤ 1000 ∧ PlanAt C H pl v ∧ PlOk pl ∧ ∀ H' u, Same H H' → Q u H'
theorem ok_widths (T : Txt K mg) : Ok P w base 3 T.widths (spWidths T.cP) := by
  have G_stage := ok_stage (P := P) (w := w) (base := base) T
  have G_table_size := ok_table_size (P := P) (w := w) (base := base) T
  have G_counts := ok_counts (P := P) (w := w) (base := base) T
  refine T.widths.fn.ok sc_widths (fun vs H Q E h => ?_) (fun cdv A outer s H vs Q E hr h => ?_)
  · obtain ⟨_, _, _, _, rfl, _⟩ := h
    rfl
  obtain ⟨pl, v, n, _, rfl, rfl, n1, n2, hp, ok, q⟩ := h
  refine ⟨_, (pss_cons (ps_set (i := 2) sc_widths.nd rfl (Or.inl rfl) (pe_lst (pa_cons pe_int pa_nil)))
      (pss_cons (ps_for PassesOwn.never rfl (pi_range1 rfl T.range_ (pa_cons (pe_op op_sub (pe_callB call_len_seq (by rfl) T.len_ PySem.boot_len (pa_cons (pe_call G_counts (hr.mono (by omega)) (by rfl) T.counts.m T.counts.fn.kp T.counts.b .nil pass0 (pa_cons (pv 0) (pa_cons (pv 1) pa_nil))) pa_nil)) pe_int) pa_nil)) (pg_name (i := 3) sc_widths.nd rfl (Or.inl rfl))
      (pss_one (ps_expr (pe_bm PySem.F.plainAttrs_list PySem.F.slot_list_append PySem.F.type_list_append mt_append (pv 2) (pa_cons (pe_op op_mul (pe_ix ix_list (pv 2) (pe_un un_neg pe_int) (fun _ _ => rfl)) (pe_call G_table_size (hr.mono (by omega)) (by rfl) T.table_size.m T.table_size.fn.kp T.table_size.b .nil pass0 (pa_cons (pe_meth (pv 0) T.clPlan T.m_stage G_stage (hr.mono (by omega)) T.stage.b .nil pass0 (pa_cons (pv 3) pa_nil)) pa_nil))) pa_nil)))))
      (pss_one (ps_ret (pv 2))))), ?_⟩
  refine ⟨by show 1 ≤ sizeLine; decide, fun L hL => ?_⟩
  have k1 := sm_new (o := .lst [.int 1]) hL
  refine ⟨_, rfl, _, rfl, pl, v, n, _, rfl, rfl, n1, n2, hp.keep k1, ok, fun H1 M a k s1 hM c _ => ?_⟩
  have cl := c.len
  rw [List.length_append, List.length_singleton] at cl
  have ln : ((mv (a ++ [k])).length : Int) - 1 = (a.length : Int) := by simp [mv]
  have sm1 := k1.trans s1
  refine ⟨M, _, rfl, .inl (SqL.of hM), _, _, rfl, rfl, (a.length : Int), ?_, by omega, by omega, for_range (lo := 0) (n := a.length) (fun i σ H' => ∃ (xs : List V) (z : Int) (x : Option V), σ = [some v, some (.int (n : Int)), some (.ref L), x] ∧ H' L = some (.lst (xs ++ [.int z])) ∧ xs.length ≤ i ∧ Same H H')
    ⟨[], 1, none, rfl, s1 _ _ upd_same, Nat.le_refl _, sm1⟩ ?_ ?_⟩
  · show [V.int (((mv (a ++ [k])).length : Int) - 1)] = _
    rw [ln]
  · rintro i σ H2 hi ⟨xs, z, x, rfl, hl, hx, sm⟩
    have e1 := List.getElem?_eq_getElem (l := a ++ [k]) (i := i) (by simp; omega)
    have e2 := List.getElem?_eq_getElem (l := a ++ [k]) (i := i + 1) (by simp; omega)
    obtain ⟨_, t, et, _⟩ := c.step i _ _ e1 e2
    have tok := Pl.stage_ok ok et
    have tl := tok.le
    have hp1 := hp.keep sm
    obtain ⟨p, dx, fs, rfl, hi2, f1, f2⟩ := hp1.ins
    refine ⟨_, rfl, .inl ⟨rfl, _, SqL.of hl⟩, _, rfl, _, rfl, L, _, _, _, rfl, rfl, SqL.of hl, atI_last _ _, _, rfl, p, dx, fs, rfl, hi2, f1, _, rfl, pl, _, i, _, rfl, by show (0 : Int) + (i : Int) = (i : Int); omega, hp1, ok, fun u hu => ?_⟩
    rw [et] at hu
    refine ⟨t, u, rfl, hu, _, _, rfl, rfl, .inr ⟨by omega, by omega⟩, ?_⟩
    refine ⟨L, _, _, rfl, rfl, hl, smallL _ (by simp; omega), ?_⟩
    exact ⟨xs ++ [.int z], _, _, rfl, upd_same, by simp; omega, sm_mut sm hL⟩
  · rintro σ H2 ⟨xs, z, x, rfl, hl, hx, sm⟩
    exact ⟨_, rfl, q _ _ sm⟩
/-! ### the lumps of a shape, as many as they are -/
def PairsAt (H : Hp) (us : List V) : Prop := ∀ u ∈ us, ∃ (a : Addr) (i j : Int), u = .ref a ∧ H a = some (.tup [.int i, .int j])
theorem PairsAt.keep {H H' : Hp} (k : Tk H H') {us : List V} (h : PairsAt H us) : PairsAt H' us := fun u hu => by
  obtain ⟨a, i, j, e, h⟩ := h u hu
  exact ⟨a, i, j, e, k _ _ h⟩
abbrev WAt (H : Hp) (z : Int × Sh) (v : V) : Prop := ∃ a x, v = .ref a ∧ H a = some (.tup [.int z.1, x]) ∧ ShAt H z.2 x
def wdat (z : Int × Sh) : PyData := .tuple [.int z.1, z.2.dat]
theorem ws_dp {H : Hp} : ∀ {ss : List (Int × Sh)} {vs : List V}, Paired (WAt H) ss vs → DpAll K H vs (ss.map wdat)
  | _, _, .nil => .nil
  | _, _, .cons r t => by
    obtain ⟨a, x, rfl, h, s⟩ := r
    exact .cons (.tup (SqT.of h) (.cons (.int _) (.cons s.dp .nil))) (ws_dp t)
theorem ws_keep {H H' : Hp} (k : Tk H H') {ss : List (Int × Sh)} {vs : List V} (h : Paired (WAt H) ss vs) : Paired (WAt H') ss vs := Paired.mapP h fun _ _ ⟨a, x, e, h, s⟩ => ⟨a, x, e, k _ _ h, s.keep k⟩
theorem ws_lay : ∀ ss : List (Int × Sh), PyData.canLayAll0 (ss.map wdat) = true
  | [] => by simp [PyData.canLayAll0]
  | s :: ss => by simp [PyData.canLayAll0, wdat, PyData.canLay0, s.2.lay, ws_lay ss]
theorem ws_dep : ∀ {ss : List (Int × Sh)}, (∀ s ∈ ss, s.2.size ≤ 60) → PyData.depthAll (ss.map wdat) ≤ 61
  | [], _ => by simp [PyData.depthAll]
  | s :: ss, h => by
    have h1 := s.2.dep
    have h2 := h s List.mem_cons_self
    have h3 := ws_dep (ss := ss) fun x hx => h x (List.mem_cons_of_mem _ hx)
    simp only [List.map_cons, PyData.depthAll, wdat, PyData.depth]
    omega
theorem ws_shaped {ss : List (Int × Sh)} (h : ∀ s ∈ ss, s.2.size ≤ 60) : SeqAt.shaped (.list (ss.map wdat)) = true := by
  unfold SeqAt.shaped
  have h1 : PyData.canLay0 (.list (ss.map wdat)) = true := by simp [PyData.canLay0, ws_lay ss]
  have h2 : PyData.depth (.list (ss.map wdat)) ≤ 64 := by
    have := ws_dep h
    simp only [PyData.depth]
    omega
  rw [h1, decide_eq_true h2]
  rfl
def spLumps : Sp := fun vs H Q _ => ∃ (s : Sh) (v : V), vs = [v] ∧ ShAt H s v ∧ s.size ≤ 60 ∧ ∀ H' L us, Same H H' → H' L = some (.lst us) → us.length + 1 = 2 * s.size → PairsAt H' us → Q (.ref L) H'
theorem ok_shape_lumps (T : Txt K mg) : Ok P w base 2 T.shape_lumps spLumps := by
  have G_size_of := ok_size_of (P := P) (w := w) (base := base) T
  refine T.shape_lumps.fn.ok sc_shape_lumps (fun vs H Q E h => ?_) (fun cdv A outer s H vs Q E hr h => ?_)
  · obtain ⟨_, _, rfl, _⟩ := h
    rfl
  obtain ⟨t, v, rfl, hA, hz, q⟩ := h
  refine ⟨_, (pss_cons (ps_par (i := 1) (j := 2) rfl sc_shape_lumps.nd rfl rfl (by decide) rfl rfl (pa_cons (pe_lst (pa_cons (pe_tup (pa_cons pe_int (pa_cons (pv 0) pa_nil))) pa_nil)) (pa_cons (pe_lst pa_nil) pa_nil)) (by rfl))
      (pss_cons (ps_while PassesOwn.never (pt_cmpR (op_neD hr.units) (pv 1) (pe_lst pa_nil) (nomark _))
      (pss_cons (ps_asg (pe_bm0 PySem.F.plainAttrs_list PySem.F.slot_list_pop PySem.F.type_list_pop mt_pop (pv 1)) (pg_tup rfl (pgs_cons (pg_name (i := 3) sc_shape_lumps.nd rfl (Or.inl rfl)) (pgs_cons (pg_name (i := 4) sc_shape_lumps.nd rfl (Or.inl rfl)) pgs_nil))))
      (pss_cons (ps_expr (pe_bm PySem.F.plainAttrs_list PySem.F.slot_list_append PySem.F.type_list_append mt_append (pv 2) (pa_cons (pe_tup (pa_cons (pv 3) (pa_cons (pe_op op_add (pv 3) (pe_call G_size_of (hr.mono (by omega)) (by rfl) T.size_of.m T.size_of.fn.kp T.size_of.b .nil pass0 (pa_cons (pv 4) pa_nil))) pa_nil))) pa_nil)))
      (pss_one (ps_if (pt_cmpR (op_neD hr.units) (pv 4) (pe_tup pa_nil) (nomark _))
      (pss_cons (ps_expr (pe_bm PySem.F.plainAttrs_list PySem.F.slot_list_append PySem.F.type_list_append mt_append (pv 1) (pa_cons (pe_tup (pa_cons (pe_op op_add (pv 3) (pe_call G_size_of (hr.mono (by omega)) (by rfl) T.size_of.m T.size_of.fn.kp T.size_of.b .nil pass0 (pa_cons (pe_ix ix_tup (pv 4) pe_int (fun _ _ => rfl)) pa_nil))) (pa_cons (pe_ix ix_tup (pv 4) pe_int (fun _ _ => rfl)) pa_nil))) pa_nil)))
      (pss_one (ps_expr (pe_bm PySem.F.plainAttrs_list PySem.F.slot_list_append PySem.F.type_list_append mt_append (pv 1) (pa_cons (pe_tup (pa_cons (pv 3) (pa_cons (pe_ix ix_tup (pv 4) pe_int (fun _ _ => rfl)) pa_nil))) pa_nil)))))
      pss_nil)))))
      (pss_one (ps_ret (pv 2))))), ?_⟩
  refine ⟨_, rfl, by show 2 ≤ sizeLine; decide, fun T0 nT0 => ⟨by show 1 ≤ sizeLine; decide, fun L hL => ⟨Nat.zero_le _, fun F hF => ?_⟩⟩⟩
  have a1 := sm_new (o := .tup [.int 0, v]) nT0
  have a2 := sm_new (o := .lst [.ref T0]) hL
  have a3 := sm_new (o := .lst []) hF
  have nLF : L ≠ F := ne_of_none upd_same hF
  have hL0 : H L = none := a1.free hL
  have hF0 : H F = none := a1.free (a2.free hF)
  refine ⟨_, _, rfl, ?_⟩
  refine ⟨fun m σ H' => ∃ (ss : List (Int × Sh)) (us fs : List V) (x y : Option V), σ = [some v, some (.ref L), some (.ref F), x, y] ∧ H' L = some (.lst us) ∧ H' F = some (.lst fs) ∧ Paired (WAt H') ss us ∧ fs.length + nodes (ss.map (·.2)) + 1 = 2 * t.size ∧ Same H H' ∧ PairsAt H' fs ∧ m = nodes (ss.map (·.2)) ∧ ∀ s ∈ ss, s.2.size ≤ 60, ?_, ?_⟩
  · have hp := t.pos
    refine ⟨_, [(0, t)], _, _, none, none, rfl, a3 _ _ upd_same, upd_same, .cons ⟨T0, v, rfl, a3 _ _ (a2 _ _ upd_same), hA.keep (Tk.of ((a1.trans a2).trans a3))⟩ .nil, ?_, (a1.trans a2).trans a3, (fun u hu => by cases hu), rfl, fun s hs => ?_⟩
    · simp only [List.map_cons, List.map_nil, nodes, List.length_nil]
      omega
    · rw [List.mem_singleton.mp hs]
      exact hz
  · rintro m σ H1 ⟨ss, us, fs, x, y, rfl, hl, hf, hss, hc, sm, hpa, rfl, hb⟩
    refine ⟨_, rfl, Nat.zero_le _, fun p hp => ?_⟩
    have k1 := sm_new (o := .lst []) hp
    refine ⟨_, _, .lst (SqL.of (k1 _ _ hl)) (ws_dp (ws_keep (Tk.of k1) hss)), .lst (SqL.of upd_same) .nil, ws_shaped hb, nil_shaped, !ss.isEmpty, ?_, ?_⟩
    · rw [eqv_nil]
      cases ss <;> rfl
    · by_cases e : ss = []
      · subst e
        refine iteF ⟨_, rfl, ?_⟩
        refine q _ F fs (sm.trans k1) (k1 _ _ hf) ?_ (hpa.keep (Tk.of k1))
        simp only [List.map_nil, nodes] at hc
        omega
      · rw [show (!ss.isEmpty) = true by cases ss; exact absurd rfl e; rfl]
        obtain ⟨s0, ⟨st, s1⟩, u0, u1, rfl, rfl, hs0, b, x1, rfl, hb1, hx1⟩ := pd_last hss e
        have z1 : s1.size ≤ 60 := hb (st, s1) (by simp)
        have hx1 : ShAt H1 s1 x1 := hx1
        have hb1 : H1 b = some (.tup [.int st, x1]) := hb1
        have p1 := s1.pos
        refine iteT ⟨fun σ' H' => ∃ (ss : List (Int × Sh)) (us fs : List V) (x y : Option V), σ' = [some v, some (.ref L), some (.ref F), x, y] ∧ H' L = some (.lst us) ∧ H' F = some (.lst fs) ∧ Paired (WAt H') ss us ∧ fs.length + nodes (ss.map (·.2)) + 1 = 2 * t.size ∧ Same H H' ∧ PairsAt H' fs ∧ nodes (ss.map (·.2)) < nodes ((s0 ++ [(st, s1)]).map (·.2)) ∧ ∀ s ∈ ss, s.2.size ≤ 60, ?_, ?_⟩
        · rintro σ' H' ⟨ss, us, fs, x, y, b1, b2, b3, b4, b5, b6, b7, b8, b9⟩
          exact ⟨_, b8, ss, us, fs, x, y, b1, b2, b3, b4, b5, b6, b7, rfl, b9⟩
        · have hl1 := k1 _ _ hl
          have hf1 := k1 _ _ hf
          refine ⟨_, rfl, .inl ⟨rfl, _, SqL.of hl1⟩, L, _, V.ref b, rfl, rfl, hl1, at_end _ _, ?_⟩
          rw [show (u0 ++ [V.ref b]).dropLast = u0 by simp]
          -- start, part
          have tk2 : Tk H1 (upd (upd H1 p (.lst [])) L (.lst u0)) := (Tk.of k1).trans (tk_lst hl1)
          have sm2 : Same H (upd (upd H1 p (.lst [])) L (.lst u0)) := sm_mut (sm.trans k1) hL0
          refine ⟨b, _, rfl, SqT.of (tk2 _ _ hb1), rfl, _, _, rfl, _, _, rfl, rfl, ?_⟩
          -- found.append((start, start + size_of(part)))
          have hf2 : upd (upd H1 p (.lst [])) L (.lst u0) F = some (.lst fs) := by rw [upd_ne nLF.symm]; exact hf1
          refine ⟨_, rfl, .inl ⟨rfl, _, SqL.of hf2⟩, _, rfl, _, rfl, _, rfl, s1, x1, rfl, hx1.keep tk2, z1, fun H2 k2 => ?_⟩
          refine ⟨_, _, rfl, rfl, by show 2 ≤ sizeLine; decide, fun T1 nT1 => ?_⟩
          have k3 := sm_new (o := .tup [.int st, .int (st + (s1.size : Int))]) nT1
          have sm3 := (sm2.trans k2).trans k3
          have tk3 : Tk H1 _ := tk2.trans (Tk.of (k2.trans k3))
          have hf3 := k3 _ _ (k2 _ _ hf2)
          have hl3 := k3 _ _ (k2 _ _ (upd_same (H := upd H1 p (.lst [])) (a := L) (o := .lst u0)))
          have fl : fs.length ≤ 2 * t.size := by omega
          refine ⟨F, fs, _, rfl, rfl, hf3, smallL _ (by omega), ?_⟩
          have tk4 := tk3.trans (tk_lst (o := .lst (fs ++ [.ref T1])) hf3)
          have sm4 := sm_mut (o := .lst (fs ++ [.ref T1])) sm3 hF0
          have hl4 : upd _ F (.lst (fs ++ [.ref T1])) L = some (.lst u0) := (upd_ne nLF).trans hl3
          have hpa4 : PairsAt _ (fs ++ [.ref T1]) := fun u hu => by
            rcases List.mem_append.mp hu with h | h
            · exact (hpa.keep tk4) u h
            · rw [List.mem_singleton.mp h]
              exact ⟨T1, st, _, rfl, tk_lst hf3 _ _ upd_same⟩
          -- if part != ()
          refine ⟨_, rfl, Nat.zero_le _, fun T2 nT2 => ?_⟩
          have k5 := sm_new (o := .tup []) nT2
          have tk5 := tk4.trans (Tk.of k5)
          have hx5 := hx1.keep tk5
          refine ⟨_, _, hx5.dp, nil_dp upd_same, Sh.shaped (by omega), Sh.shaped (by decide), !decide (s1 = .o), by rw [Sh.eqv], ?_⟩
          have bb := len_sizes (s0.map (·.2))
          have hc' := hc
          rw [List.map_append, nodes_append] at hc'
          have hl5 := k5 _ _ hl4
          have hf5 := k5 _ _ (upd_same (a := F) (o := .lst (fs ++ [.ref T1])))
          have bl := hs0.length
          cases s1 with
          | o =>
            refine iteF ⟨s0, u0, fs ++ [.ref T1], _, _, rfl, hl5, hf5, ws_keep tk5 hs0, ?_, sm4.trans k5, hpa4.keep (Tk.of k5), ?_, fun s hs => hb s (by simp [hs])⟩
            · simp only [List.map_cons, List.map_nil, nodes, Sh.size, List.length_append, List.length_singleton] at hc' ⊢
              omega
            · rw [List.map_append, nodes_append]
              simp only [List.map_cons, List.map_nil, nodes, Sh.size]
              omega
          | p l r =>
            obtain ⟨a, y1, y2, rfl, ha, hy1, hy2⟩ := hx5
            have pl := l.pos
            have pr := r.pos
            simp only [Sh.size] at z1
            have lens : s0.length ≤ nodes (s0.map (·.2)) := by
              clear hc hb hs0 hss bb hc' bl e
              induction s0 with
              | nil => exact Nat.zero_le _
              | cons z zs ih =>
                have := z.2.pos
                simp only [List.map_cons, nodes, List.length_cons]
                omega
            refine iteT ⟨_, rfl, .inl ⟨rfl, _, SqL.of hl5⟩, _, rfl, _, rfl, a, _, _, y1, rfl, rfl, SqT.of ha, rfl, l, y1, rfl, hy1, by omega, fun H6 k6 => ?_⟩
            refine ⟨_, _, rfl, rfl, _, rfl, a, _, _, y2, rfl, rfl, SqT.of (k6 _ _ ha), rfl, by show 2 ≤ sizeLine; decide, fun T3 nT3 => ?_⟩
            have k7 := sm_new (o := .tup [.int (st + (l.size : Int)), y2]) nT3
            have hl7 := k7 _ _ (k6 _ _ hl5)
            refine ⟨L, u0, _, rfl, rfl, hl7, smallL _ (by omega), ?_⟩
            have tk8 := (Tk.of (k6.trans k7)).trans (tk_lst (o := .lst (u0 ++ [.ref T3])) hl7)
            have sm8 := sm_mut (o := .lst (u0 ++ [.ref T3])) (((sm4.trans k5).trans k6).trans k7) hL0
            have hf8 : upd _ L (.lst (u0 ++ [.ref T3])) F = some (.lst (fs ++ [.ref T1])) := (upd_ne nLF.symm).trans (k7 _ _ (k6 _ _ hf5))
            have hl8 := upd_same (H := upd H6 T3 (.tup [.int (st + (l.size : Int)), y2])) (a := L) (o := .lst (u0 ++ [.ref T3]))
            -- waiting.append((start, part[0]))
            refine ⟨_, rfl, .inl ⟨rfl, _, SqL.of hl8⟩, _, rfl, _, rfl, a, _, _, y1, rfl, rfl, SqT.of (tk8 _ _ ha), rfl, by show 2 ≤ sizeLine; decide, fun T4 nT4 => ?_⟩
            have k9 := sm_new (o := .tup [.int st, y1]) nT4
            have hl9 := k9 _ _ hl8
            refine ⟨L, _, _, rfl, rfl, hl9, smallL _ (by simp; omega), ?_⟩
            have tk10 := (Tk.of k9).trans (tk_lst (o := .lst ((u0 ++ [.ref T3]) ++ [.ref T4])) hl9)
            refine ⟨(s0 ++ [(st + (l.size : Int), r)]) ++ [(st, l)], _, fs ++ [.ref T1], _, _, rfl, upd_same, ?_, ?_, ?_, sm_mut (sm8.trans k9) hL0, ?_, ?_, ?_⟩
            · exact (upd_ne nLF.symm).trans (k9 _ _ hf8)
            · refine pd_append (pd_append (ws_keep ((tk5.trans tk8).trans tk10) hs0) (.cons ⟨T3, y2, rfl, tk10 _ _ (tk_lst hl7 _ _ upd_same), hy2.keep (tk8.trans tk10)⟩ .nil)) (.cons ⟨T4, y1, rfl, tk_lst hl9 _ _ upd_same, hy1.keep (tk8.trans tk10)⟩ .nil)
            · simp only [List.map_append, nodes_append, List.map_cons, List.map_nil, nodes, Sh.size, List.length_append, List.length_singleton] at hc' ⊢
              omega
            · exact (hpa4.keep (Tk.of k5)).keep (tk8.trans tk10)
            · simp only [List.map_append, nodes_append, List.map_cons, List.map_nil, nodes, Sh.size]
              omega
            · intro s hs
              rcases List.mem_append.mp hs with h | h
              · rcases List.mem_append.mp h with h | h
                · exact hb s (by simp [h])
                · rw [List.mem_singleton.mp h]; show r.size ≤ 60; omega
              · rw [List.mem_singleton.mp h]; show l.size ≤ 60; omega
end
end Lp

namespace Lp
open PySem PySem.Spec PyProof.Rows L2
section
variable {P : Program} {w : World} {K : PySem.W.Frag} {mg : Str → Option Value} {base : Heap}
/-! ### Rows -/
def rf1 (vp : V) : List (Str × V) := putF "plan" vp []
def rf2 (vp vm : V) : List (Str × V) := putF "many" vm (rf1 vp)
def rf (vp vm vw : V) : List (Str × V) := putF "width" vw (rf2 vp vm)
theorem pm_ : ¬ (("plan" : Str) = "many") := by decide +kernel
theorem pw_ : ¬ (("plan" : Str) = "width") := by decide +kernel
theorem mw_ : ¬ (("many" : Str) = "width") := by decide +kernel
theorem rf_p (vp vm vw : V) : (rf vp vm vw).lookup ("plan" : Str) = some vp := by
  unfold rf rf2 rf1
  rw [lookup_putF, if_neg pw_, lookup_putF, if_neg pm_, lookup_putF, if_pos rfl]
theorem rf_m (vp vm vw : V) : (rf vp vm vw).lookup ("many" : Str) = some vm := by
  unfold rf rf2 rf1
  rw [lookup_putF, if_neg mw_, lookup_putF, if_pos rfl]
theorem rf_no (vp vm vw : V) {f : Str} (h1 : ¬ f = "width") (h2 : ¬ f = "many") (h3 : ¬ f = "plan") : (rf vp vm vw).lookup f = none := by
  unfold rf rf2 rf1
  rw [lookup_putF, if_neg h1, lookup_putF, if_neg h2, lookup_putF, if_neg h3]
  rfl
theorem rf1_no (vp : V) {f : Str} (h3 : ¬ f = "plan") : (rf1 vp).lookup f = none := by
  unfold rf1
  rw [lookup_putF, if_neg h3]
  rfl
theorem rf2_no (vp vm : V) {f : Str} (h2 : ¬ f = "many") (h3 : ¬ f = "plan") : (rf2 vp vm).lookup f = none := by
  unfold rf2 rf1
  rw [lookup_putF, if_neg h2, lookup_putF, if_neg h3]
  rfl
/-- an instance without the name own_end is not the plan's -/
theorem PlanAt.upd {C R p dx : Addr} {H : Hp} {pl : Pl} {v : V} {o : HO} {fs : List (Str × V)} (h : PlanAt C H pl v) (hp : H p = some (.ins R dx fs)) (hn : fs.lookup ("own_end" : Str) = none) : PlanAt C (L2.upd H p o) pl v := by
  obtain ⟨b, dx2, vt, ve, e, h, a, z⟩ := h
  have ne : b ≠ p := ne_of h hp fun q => by
    have e3 : pf vt ve = fs := by injection q
    rw [← e3, pf_e] at hn
    cases hn
  have tk : Tk H (L2.upd H p o) := fun x xs q => by
    rw [upd_ne (ne_of q hp (by intro z; cases z))]
    exact q
  exact ⟨b, dx2, vt, ve, e, by rw [upd_ne ne]; exact h, a.keep tk, z.keep tk⟩
def spInitRows (C R : Addr) : Sp := fun vs H Q _ => ∃ (pl : Pl) (p dx : Addr) (vp : V) (n : Nat) (j : Int), vs = [.ref p, vp, .int j] ∧ j = (n : Int) ∧ 1 ≤ n ∧ n ≤ 1000 ∧ H p = some (.ins R dx []) ∧ PlanAt C H pl vp ∧ PlOk pl ∧
  ∀ H' L a k vw, (∀ b o, b ≠ p → H b = some o → H' b = some o) → H' p = some (.ins R dx (rf vp (.ref L) vw)) → H' L = some (.lst (mv (a ++ [k]))) → Cnt pl n (a ++ [k]) → (k = 1 ∨ pl.stage a.length = none) → Q .non H'
theorem ok_initRows (T : Txt K mg) : OkM P w mg base 4 T.initRows (spInitRows T.cP T.cR) := by
  have G_counts := ok_counts (P := P) (w := w) (base := base) T
  have G_widths := ok_widths (P := P) (w := w) (base := base) T
  refine T.initRows.fn.ok sc_initRows (fun vs H Q E h => ?_) (fun cdv A outer s H vs Q E hr h => ?_)
  · obtain ⟨_, _, _, _, _, _, rfl, _⟩ := h
    rfl
  obtain ⟨pl, p, dx, vp, n, _, rfl, rfl, n1, n2, hp, hv, ok, q⟩ := h
  refine ⟨_, (pss_cons (ps_fld (pv 0) (pv 1) rfl)
      (pss_cons (ps_fld (pv 0) (pe_call G_counts (hr.mono (by omega)) (by rfl) T.counts.m T.counts.fn.kp T.counts.b .nil pass0 (pa_cons (pv 1) (pa_cons (pv 2) pa_nil))) rfl)
      (pss_one (ps_fld (pv 0) (pe_call G_widths (hr.mono (by omega)) (by rfl) T.widths.m T.widths.fn.kp T.widths.b .nil pass0 (pa_cons (pv 1) (pa_cons (pv 2) pa_nil))) rfl)))), ?_⟩
  refine ⟨_, rfl, _, rfl, p, T.cR, dx, [], rfl, hp, T.clRows, T.nPl, by show 0 < 1000; decide, ?_⟩
  have v1 := hv.upd (o := .ins T.cR dx (rf1 vp)) hp rfl
  refine ⟨_, rfl, _, rfl, pl, vp, n, _, rfl, rfl, n1, n2, v1, ok, fun H2 L a k s2 hL c ex => ?_⟩
  have p2 := s2 _ _ upd_same
  have nL : L ≠ p := ne_of hL p2 (by intro z; cases z)
  refine ⟨_, rfl, p, T.cR, dx, rf1 vp, rfl, p2, T.clRows, T.nMa, by show 1 < 1000; decide, ?_⟩
  have v3 := (v1.keep s2).upd (o := .ins T.cR dx (rf2 vp (.ref L))) p2 (rf1_no vp (by decide +kernel))
  refine ⟨_, rfl, _, rfl, pl, vp, n, _, rfl, rfl, n1, n2, v3, ok, fun H4 vw s4 => ?_⟩
  have p4 := s4 _ _ upd_same
  refine ⟨_, rfl, p, T.cR, dx, rf2 vp (.ref L), rfl, p4, T.clRows, T.nWi, by show 2 < 1000; decide, ?_⟩
  refine q _ L a k vw (fun b o nb e => ?_) upd_same ?_ c ex
  · rw [upd_ne nb]
    refine s4 _ _ ?_
    rw [upd_ne nb]
    refine s2 _ _ ?_
    rw [upd_ne nb]
    exact e
  · rw [upd_ne nL]
    refine s4 _ _ ?_
    rw [upd_ne nL]
    exact hL
def RowsAt (C R : Addr) (H : Hp) (pl : Pl) (ms : List Nat) (v : V) : Prop := ∃ p dx vp L vw, v = .ref p ∧ H p = some (.ins R dx (rf vp (.ref L) vw)) ∧ PlanAt C H pl vp ∧ H L = some (.lst (mv ms))
theorem RowsAt.keep {C R : Addr} {H H' : Hp} (k : Same H H') {pl : Pl} {ms : List Nat} {v : V} (h : RowsAt C R H pl ms v) : RowsAt C R H' pl ms v := by
  obtain ⟨p, dx, vp, L, vw, e, h1, h2, h3⟩ := h
  exact ⟨p, dx, vp, L, vw, e, k _ _ h1, h2.keep k, k _ _ h3⟩
def spStretch (C R : Addr) : Sp := fun vs H Q _ => ∃ (pl : Pl) (ms : List Nat) (v : V) (l i m : Nat) (jl ji : Int) (t : Tab), vs = [v, .int jl, .int ji] ∧ jl = (l : Int) ∧ ji = (i : Int) ∧ RowsAt C R H pl ms v ∧ PlOk pl ∧ pl.stage l = some t ∧ ms[l]? = some m ∧ i * (t.length + 1) < m ∧
  ∀ H' a u, Same H H' → H' a = some (.tup [.int ((i * (t.length + 1) : Nat) : Int), .int ((min (t.length + 1) (m - i * (t.length + 1)) : Nat) : Int), u]) → ShAt H' (entry t (min (t.length + 1) (m - i * (t.length + 1)))) u → Q (.ref a) H'
theorem ok_stretch (T : Txt K mg) : OkM P w mg base 2 T.stretch (spStretch T.cP T.cR) := by
  have G_stage := ok_stage (P := P) (w := w) (base := base) T
  have G_table_size := ok_table_size (P := P) (w := w) (base := base) T
  have G_entry := ok_entry (P := P) (w := w) (base := base) T
  refine T.stretch.fn.ok sc_stretch (fun vs H Q E h => ?_) (fun cdv A outer s H vs Q E hr h => ?_)
  · obtain ⟨_, _, _, _, _, _, _, _, _, rfl, _⟩ := h
    rfl
  obtain ⟨pl, ms, v, l, i, m, _, _, t, rfl, rfl, rfl, ⟨p, dx, vp, L, vw, rfl, hp, hv, hL⟩, ok, et, em, lt, q⟩ := h
  refine ⟨_, (pss_cons (ps_set (i := 3) sc_stretch.nd rfl (Or.inl rfl) (pe_meth (pe_fld (pv 0) rfl) T.clPlan T.m_stage G_stage (hr.mono (by omega)) T.stage.b .nil pass0 (pa_cons (pv 1) pa_nil)))
      (pss_cons (ps_set (i := 4) sc_stretch.nd rfl (Or.inl rfl) (pe_op op_mul (pv 2) (pe_call G_table_size (hr.mono (by omega)) (by rfl) T.table_size.m T.table_size.fn.kp T.table_size.b .nil pass0 (pa_cons (pv 3) pa_nil))))
      (pss_cons (ps_set (i := 5) sc_stretch.nd rfl (Or.inl rfl) (pe_callB (call_min2 rfl) (by rfl) T.min_ (by decide +kernel) (pa_cons (pe_call G_table_size (hr.mono (by omega)) (by rfl) T.table_size.m T.table_size.fn.kp T.table_size.b .nil pass0 (pa_cons (pv 3) pa_nil)) (pa_cons (pe_op op_sub (pe_ix ix_list (pe_fld (pv 0) rfl) (pv 1) (fun _ _ => rfl)) (pv 4)) pa_nil))))
      (pss_one (ps_ret (pe_tup (pa_cons (pv 4) (pa_cons (pv 5) (pa_cons (pe_call G_entry (hr.mono (by omega)) (by rfl) T.entry.m T.entry.fn.kp T.entry.b .nil pass0 (pa_cons (pv 3) (pa_cons (pv 5) pa_nil))) pa_nil))))))))), ?_⟩
  have tok := Pl.stage_ok ok et
  have tl := tok.le
  have tn := tok.ne
  obtain ⟨b, dx2, fs, rfl, hb, f1, f2⟩ := hv.ins
  refine ⟨_, rfl, p, T.cR, dx, _, _, rfl, hp, T.clRows, T.nPl, rf_p _ _ _, b, dx2, fs, rfl, hb, f1, _, rfl, pl, _, l, _, rfl, rfl, hv, ok, fun u hu => ?_⟩
  rw [et] at hu
  refine ⟨_, rfl, _, rfl, t, u, rfl, hu, _, _, rfl, rfl, .inr ⟨by omega, by omega⟩, ?_⟩
  have gm : (mv ms)[l]? = some (V.int (m : Int)) := by rw [List.getElem?_map, em]; rfl
  refine ⟨_, rfl, t, u, rfl, hu, _, rfl, p, T.cR, dx, _, _, rfl, hp, T.clRows, T.nMa, rf_m _ _ _, _, rfl, L, _, _, _, rfl, rfl, SqL.of hL, atI_nat gm, _, rfl, _, _, rfl, rfl, _, _, rfl, ?_⟩
  have e1 : (i : Int) * ((t.length + 1 : Nat) : Int) = ((i * (t.length + 1) : Nat) : Int) := by rw [Int.natCast_mul]
  have e2 : (if (m : Int) - (i : Int) * ((t.length + 1 : Nat) : Int) < ((t.length + 1 : Nat) : Int) then (m : Int) - (i : Int) * ((t.length + 1 : Nat) : Int) else ((t.length + 1 : Nat) : Int)) = ((min (t.length + 1) (m - i * (t.length + 1)) : Nat) : Int) := by
    rw [e1]
    generalize i * (t.length + 1) = z at lt
    split <;> omega
  refine ⟨_, rfl, _, rfl, _, rfl, _, rfl, t, u, min (t.length + 1) (m - i * (t.length + 1)), _, rfl, e2, hu, by omega, by omega, fun y H1 k1 hy => ?_⟩
  refine ⟨by show 3 ≤ sizeLine; decide, fun a na => ?_⟩
  have k2 := sm_new (o := .tup [.int ((i : Int) * ((t.length + 1 : Nat) : Int)), .int (if (m : Int) - (i : Int) * ((t.length + 1 : Nat) : Int) < ((t.length + 1 : Nat) : Int) then (m : Int) - (i : Int) * ((t.length + 1 : Nat) : Int) else ((t.length + 1 : Nat) : Int)), y]) na
  refine q _ a y (k1.trans k2) ?_ (hy.keep (Tk.of k2))
  have z := upd_same (H := H1) (a := a) (o := .tup [.int ((i : Int) * ((t.length + 1 : Nat) : Int)), .int (if (m : Int) - (i : Int) * ((t.length + 1 : Nat) : Int) < ((t.length + 1 : Nat) : Int) then (m : Int) - (i : Int) * ((t.length + 1 : Nat) : Int) else ((t.length + 1 : Nat) : Int)), y])
  rw [e2, e1] at z
  have z2 := z
  rw [← e2, ← e1] at z2
  rw [← e2, ← e1]
  exact z2
def spNeed : Sp := fun vs H Q _ => ∃ (n i : Int) (a : Addr), vs = [.int n, .ref a] ∧ H a = some (.tup [.int i]) ∧ 0 ≤ i ∧ i < n ∧ Q .non H
theorem ok_need_places (T : Txt K mg) : Ok P w base 3 T.need_places spNeed := by
  have G_is_number := ok_is_number (P := P) (w := w) (base := base) T
  refine T.need_places.fn.ok sc_need_places (fun vs H Q E h => ?_) (fun cdv A outer s H vs Q E hr h => ?_)
  · obtain ⟨_, _, _, rfl, _⟩ := h
    rfl
  obtain ⟨n, i, a, rfl, ha, i0, i1, q⟩ := h
  refine ⟨_, (pss_one (ps_for PassesOwn.never rfl (pi_tup (pv 1)) (pg_name (i := 2) sc_need_places.nd rfl (Or.inl rfl))
      (pss_one (ps_if (PW.pt (pw_or (pt_not (pt_val (pe_call G_is_number (hr.mono (by omega)) (by rfl) T.is_number.m T.is_number.fn.kp T.is_number.b .nil pass0 (pa_cons (pv 2) pa_nil)))) (pw_or1 (pt_cmpR op_ge (pv 2) (pv 0) (nomark _)))))
      (pss_one ps_never)
      pss_nil)))), ?_⟩
  refine ⟨_, rfl, a, rfl, ⟨_, SqT.of ha⟩, for_tup (K := K) (a := a) (xs := [.int i]) (fun j σ H' => ∃ x, σ = [some (.int n), some (.ref a), x] ∧ H' = H) ⟨none, rfl, rfl⟩ (fun j σ H' _ h => ?_) ?_ ?_⟩
  · obtain ⟨_, _, rfl⟩ := h
    exact SqT.of ha
  · rintro j y σ H1 hj ⟨x, rfl, rfl⟩
    obtain rfl : y = .int i := by
      match j, hj with
      | 0, hj => cases hj; rfl
    refine ⟨_, rfl, i, rfl, true, by rw [decide_eq_true i0], ?_⟩
    refine iteF ⟨_, rfl, _, rfl, _, _, rfl, rfl, false, congrArg V.bl (decide_eq_false (by omega)), iteF ?_⟩
    exact ⟨_, rfl, rfl⟩
  · rintro σ H1 ⟨x, rfl, rfl⟩
    exact q
end
end Lp

namespace Lp
open PySem PySem.Spec PyProof.Rows L2
section
variable {P : Program} {w : World} {K : PySem.W.Frag} {mg : Str → Option Value} {base : Heap}
theorem up_div {m b y : Nat} (hb : 2 ≤ b) (h1 : y ≤ b) (h2 : y ≤ m) (h0 : 1 ≤ m) : (m + (b - 1)) / b ≤ m - y + 1 := by
  by_cases hm : m ≤ b
  · have q : (m + (b - 1)) / b < 2 := by
      rw [Nat.div_lt_iff_lt_mul (by omega)]
      omega
    omega
  · obtain ⟨d, rfl⟩ : ∃ d, m = d + b := ⟨m - b, by omega⟩
    have q : (d + b + (b - 1)) / b < d + 2 := by
      rw [Nat.div_lt_iff_lt_mul (by omega)]
      have z : d * 1 ≤ d * b := Nat.mul_le_mul_left d (by omega)
      rw [Nat.add_mul]
      omega
    omega
theorem down_div {c m b : Nat} (hb : 2 ≤ b) (h : c < m) : c / b < (m + (b - 1)) / b := by
  have e : m + (b - 1) = (m - 1) + b := by omega
  rw [e, Nat.add_div_right _ (by omega)]
  have := Nat.div_le_div_right (c := b) (show c ≤ m - 1 by omega)
  omega
theorem en_flat {pl : Pl} (ok : PlOk pl) {k : Nat} (h : pl.stage k = none) : pl.en = .left ∨ pl.en = .right := by
  obtain ⟨ts, en⟩ := pl
  by_cases hk : k < ts.length
  · rw [Pl.stage, if_pos hk, List.getElem?_eq_getElem hk] at h
    cases h
  · cases en with
    | left => exact .inl rfl
    | right => exact .inr rfl
    | rnd us =>
      obtain ⟨u1, _⟩ := ok.en
      rw [stage_n hk, List.getElem?_eq_getElem (Nat.mod_lt _ (by omega))] at h
      cases h
def spDepth (C : Addr) : Sp := fun vs H Q _ => ∃ (pl : Pl) (v : V) (n i : Nat) (jn ji : Int), vs = [v, .int jn, .int ji] ∧ jn = (n : Int) ∧ ji = (i : Int) ∧ i < n ∧ n ≤ 100 ∧ PlanAt C H pl v ∧ PlOk pl ∧ ∀ H' z, Same H H' → z ≤ 400 → Q (.int z) H'
theorem ok_depth (T : Txt K mg) : Ok P w base 6 T.depth (spDepth T.cP) := by
  have G_need_places := ok_need_places (P := P) (w := w) (base := base) T
  have G_initRows := ok_initRows (P := P) (w := w) (base := base) T
  have G_stage := ok_stage (P := P) (w := w) (base := base) T
  have G_end_ := ok_end_ (P := P) (w := w) (base := base) T
  have G_table_size := ok_table_size (P := P) (w := w) (base := base) T
  have G_stretch := ok_stretch (P := P) (w := w) (base := base) T
  have G_shape_lumps := ok_shape_lumps (P := P) (w := w) (base := base) T
  refine T.depth.fn.ok sc_depth (fun vs H Q E h => ?_) (fun cdv A outer s H vs Q E hr h => ?_)
  · obtain ⟨_, _, _, _, _, _, rfl, _⟩ := h
    rfl
  obtain ⟨pl, v, n, i, _, _, rfl, rfl, rfl, hi, n2, hv, ok, q⟩ := h
  refine ⟨_, (pss_cons (ps_expr (pe_call G_need_places (hr.mono (by omega)) (by rfl) T.need_places.m T.need_places.fn.kp T.need_places.b .nil pass0 (pa_cons (pv 1) (pa_cons (pe_tup (pa_cons (pv 2) pa_nil)) pa_nil))))
      (pss_cons (ps_par (i := 3) (j := 4) rfl sc_depth.nd rfl rfl (by decide) rfl rfl (pa_cons (pe_make T.mkRows G_initRows (hr.mono (by omega)) (by rfl) T.mgRows T.initRows.b .nil pass0 (pa_cons (pv 0) (pa_cons (pv 1) pa_nil))) (pa_cons pe_int pa_nil)) (by rfl))
      (pss_cons (ps_for PassesOwn.never rfl (pi_range1 rfl T.range_ (pa_cons (pe_op op_sub (pe_callB call_len_seq (by rfl) T.len_ PySem.boot_len (pa_cons (pe_fld (pv 3) rfl) pa_nil)) pe_int) pa_nil)) (pg_name (i := 5) sc_depth.nd rfl (Or.inl rfl))
      (pss_cons (ps_set (i := 6) sc_depth.nd rfl (Or.inl rfl) (pe_call G_table_size (hr.mono (by omega)) (by rfl) T.table_size.m T.table_size.fn.kp T.table_size.b .nil pass0 (pa_cons (pe_meth (pv 0) T.clPlan T.m_stage G_stage (hr.mono (by omega)) T.stage.b .nil pass0 (pa_cons (pv 5) pa_nil)) pa_nil)))
      (pss_cons (ps_asg (pe_meth (pv 3) T.clRows T.m_stretch G_stretch (hr.mono (by omega)) T.stretch.b .nil pass0 (pa_cons (pv 5) (pa_cons (pe_op op_fdiv (pv 2) (pv 6)) pa_nil))) (pg_tup rfl (pgs_cons (pg_name (i := 7) sc_depth.nd rfl (Or.inr rfl)) (pgs_cons (pg_name (i := 8) sc_depth.nd rfl (Or.inl rfl)) (pgs_cons (pg_name (i := 9) sc_depth.nd rfl (Or.inl rfl)) pgs_nil)))))
      (pss_cons (ps_aug (i := 4) sc_depth.nd rfl (Or.inl rfl) (pe_op op_sub (pe_callB call_len_seq (by rfl) T.len_ PySem.boot_len (pa_cons (pe_lc (own := [("pair", 10)]) rfl sc_depth.nd (pi_list (pe_call G_shape_lumps (hr.mono (by omega)) (by rfl) T.shape_lumps.m T.shape_lumps.fn.kp T.shape_lumps.b .nil pass0 (pa_cons (pv 9) pa_nil))) (blkOk_by (own := [("pair", 10)]) (N := ["plan", "n", "i", "rows", "found", "level", "size", "first", "many", "form", "pair"]) (sc := defScope s_depth) (by decide +kernel)) (fun _ _ _ _ _ => (pg_name (i := 10) sc_depth.nd rfl (Or.inl rfl))) (fun _ _ _ _ _ => (pts_one (pt_chain op_le op_lt (pe_ix (ix_tupK (K := K)) (pv 10) pe_int (fun _ _ => rfl)) (pe_op op_sub (pv 2) (pv 7)) (pe_ix (ix_tupK (K := K)) (pv 10) pe_int (fun _ _ => rfl))))) (fun _ _ _ _ _ => (pv 10))) pa_nil)) pe_int) ip_add)
      (pss_one (ps_set (i := 2) sc_depth.nd rfl (Or.inr rfl) (pe_op op_fdiv (pv 2) (pv 6))))))))
      (pss_cons (ps_set (i := 8) sc_depth.nd rfl (Or.inl rfl) (pe_ix ix_list (pe_fld (pv 3) rfl) (pe_un un_neg pe_int) (fun _ _ => rfl)))
      (pss_cons (ps_if (pt_cmpR op_eq (pv 8) pe_int (nomark _))
      (pss_one (ps_ret (pv 4)))
      pss_nil)
      (pss_cons (ps_if (pt_cmpR op_eq (pe_meth0 (pv 0) T.clPlan T.m_end_ G_end_ (hr.mono (by omega)) T.end_.b .nil pass0) pe_str (nomark _))
      (pss_one (ps_ret (pe_op op_add (pv 4) (pe_callB (call_min2 rfl) (by rfl) T.min_ (by decide +kernel) (pa_cons (pe_op op_sub (pv 8) pe_int) (pa_cons (pe_op op_sub (pv 8) (pv 2)) pa_nil))))))
      pss_nil)
      (pss_one (ps_ret (pe_op op_add (pv 4) (pe_callB (call_min2 rfl) (by rfl) T.min_ (by decide +kernel) (pa_cons (pe_op op_sub (pv 8) pe_int) (pa_cons (pe_op op_add (pv 2) pe_int) pa_nil)))))))))))), ?_⟩
  refine ⟨_, rfl, _, rfl, by show 1 ≤ sizeLine; decide, fun p0 np0 => ?_⟩
  have k0 := sm_new (o := .tup [.int (i : Int)]) np0
  refine ⟨_, _, p0, rfl, upd_same, by omega, by omega, ?_⟩
  refine ⟨_, rfl, _, rfl, fun x dx nx ndx nex => ?_⟩
  have k1 := sm_new (o := .own x) ndx
  have nx1 : upd (upd H p0 (.tup [.int (i : Int)])) dx (.own x) x = none := by rw [upd_ne nex.symm]; exact nx
  have k2 := sm_new (o := .ins T.cR dx []) nx1
  have k02 := (k0.trans k1).trans k2
  refine ⟨pl, x, dx, v, n, _, rfl, rfl, by omega, by omega, upd_same, hv.keep k02, ok, fun H2 L a k vw s2 hx hL c ex => ⟨rfl, ?_⟩⟩
  have k3 : Same H H2 := fun b o e => by
    have e1 := (k0.trans k1) _ _ e
    refine s2 b o (ne_of_none e1 nx1) ?_
    exact k2 _ _ e1
  have ln : ((mv (a ++ [k])).length : Int) - 1 = (a.length : Int) := by simp [mv]
  have cl := c.len
  rw [List.length_append, List.length_singleton] at cl
  have R : RowsAt T.cP T.cR H2 pl (a ++ [k]) (.ref x) := ⟨x, dx, v, L, vw, rfl, hx, hv.keep k3, hL⟩
  refine ⟨_, _, rfl, _, rfl, x, T.cR, dx, _, _, rfl, hx, T.clRows, T.nMa, rf_m _ _ _, L, _, rfl, .inl (SqL.of hL), _, _, rfl, rfl, (a.length : Int), congrArg (fun z => [V.int z]) ln, by omega, by omega, for_range (lo := 0) (n := a.length)
    (fun l σ H' => ∃ (ci : Nat) (f : Int) (x5 x6 x7 x8 x9 x10 : Option V), σ = [some v, some (.int (n : Int)), some (.int (ci : Int)), some (.ref x), some (.int f), x5, x6, x7, x8, x9, x10] ∧ (∀ m, (a ++ [k])[l]? = some m → ci < m ∧ f ≤ 2 * ((n : Int) - (m : Int))) ∧ Same H2 H')
    ⟨i, 0, none, none, none, none, none, none, rfl, fun m e => ?_, Same.refl _⟩ ?_ ?_⟩
  · rw [c.hd] at e
    cases e
    exact ⟨hi, by omega⟩
  · rintro l σ H3 hl ⟨ci, f, x5, x6, x7, x8, x9, x10, rfl, hm, sm⟩
    obtain ⟨m, e1⟩ : ∃ m, (a ++ [k])[l]? = some m := ⟨_, List.getElem?_eq_getElem (by simp; omega)⟩
    obtain ⟨m', e2⟩ : ∃ m, (a ++ [k])[l + 1]? = some m := ⟨_, List.getElem?_eq_getElem (by simp; omega)⟩
    obtain ⟨m1, t, et, em⟩ := c.step l _ _ e1 e2
    obtain ⟨c1, c2⟩ := hm _ e1
    have low1 := c.low _ _ e1
    have tok := Pl.stage_ok ok et
    have tl := tok.le
    have tn := tok.ne
    have R3 := R.keep sm
    have hv3 := (hv.keep k3).keep sm
    obtain ⟨b, dx2, fs, rfl, hb, f1, f2⟩ := hv3.ins
    have lev : (0 : Int) + (l : Int) = (l : Int) := by omega
    refine ⟨_, rfl, b, dx2, fs, rfl, hb, f1, _, rfl, pl, _, l, _, rfl, lev, hv3, ok, fun u hu => ?_⟩
    rw [et] at hu
    refine ⟨t, u, rfl, hu, ?_⟩
    have de : ((ci : Int) / ((t.length + 1 : Nat) : Int)) = ((ci / (t.length + 1) : Nat) : Int) := by rw [Int.natCast_ediv]
    have dm : ci / (t.length + 1) * (t.length + 1) ≤ ci := Nat.div_mul_le_self _ _
    refine ⟨_, rfl, x, dx, _, rfl, sm _ _ hx, rf_no _ _ _ (by decide +kernel) (by decide +kernel) (by decide +kernel), _, rfl, _, rfl, _, rfl, _, _, rfl, rfl, ⟨by omega, by omega⟩, pl, _, _, l, ci / (t.length + 1), m, _, _, t, rfl, lev, de, R3, ok, et, e1, by omega, fun H4 b4 u4 s4 h4 hu4 => ?_⟩
    refine ⟨b4, _, rfl, SqT.of h4, rfl, _, _, rfl, _, _, rfl, _, _, rfl, rfl, ?_⟩
    have sz := entry_size tok (m := min (t.length + 1) (m - ci / (t.length + 1) * (t.length + 1))) (by omega) (by omega)
    have hmn : min (t.length + 1) (m - ci / (t.length + 1) * (t.length + 1)) ≤ m := by omega
    have hmb : min (t.length + 1) (m - ci / (t.length + 1) * (t.length + 1)) ≤ t.length + 1 := by omega
    generalize min (t.length + 1) (m - ci / (t.length + 1) * (t.length + 1)) = y at hu4 sz hmn hmb
    refine ⟨_, rfl, _, rfl, _, _, rfl, hu4, by omega, fun H5 L5 us s5 hL5 l5 p5 => ⟨L5, rfl, ⟨_, SqL.of hL5⟩, fun D nD => ?_⟩⟩
    have k6 := sm_new (o := .lst []) nD
    refine lc_list (K := K) (a := L5) (xs := us) (fun j H' => ∃ acc, H' D = some (.lst acc) ∧ acc.length ≤ j ∧ Same H5 H') ⟨[], upd_same, Nat.le_refl _, k6⟩ (fun j H' _ h => ?_) ?_ ?_
    · obtain ⟨_, _, _, s7⟩ := h
      exact SqL.of (s7 _ _ hL5)
    · rintro j z H7 hj ⟨acc, hacc, la, s7⟩
      obtain ⟨bz, z1, z2, rfl, hbz⟩ := p5 z (List.mem_of_getElem? hj)
      have jl := (List.getElem?_eq_some_iff.mp hj).1
      refine ⟨rfl, _, rfl, bz, _, _, _, rfl, rfl, SqT.of (s7 _ _ hbz), rfl, _, rfl, _, rfl, _, _, rfl, rfl, _, _, rfl, rfl, _, rfl, ite2 (fun g => ?_) (fun g => ?_)⟩
      · refine ⟨_, rfl, bz, _, _, _, rfl, rfl, SqT.of (s7 _ _ hbz), rfl, _, _, rfl, rfl, _, rfl, ite2 (fun g => ?_) (fun g => ?_)⟩
        · exact ⟨_, rfl, acc, hacc, smallL _ (by omega), acc ++ [V.ref bz], upd_same, by simp; omega, sm_mut s7 nD⟩
        · exact ⟨acc, hacc, by omega, s7⟩
      · exact ⟨false, rfl, iteF ⟨acc, hacc, by omega, s7⟩⟩
    · rintro H7 ⟨acc, hacc, la, s7⟩
      refine ⟨D, acc, rfl, .inl (SqL.of hacc), _, _, rfl, rfl, _, _, rfl, rfl, ?_⟩
      refine ⟨_, rfl, _, rfl, _, _, rfl, rfl, ⟨by omega, by omega⟩, ci / (t.length + 1), f + ((acc.length : Int) - 1), some (.int (0 + (l : Int))), some (.int ((t.length + 1 : Nat) : Int)), some (.int ((ci / (t.length + 1) * (t.length + 1) : Nat) : Int)), some (.int (y : Int)), some u4, x10, ?_, fun m2 e3 => ?_, ?_⟩
      · rw [← de]
        rfl
      · rw [e2] at e3
        cases e3
        subst em
        have d1 := down_div (c := ci) (m := m) (b := t.length + 1) (by omega) c1
        have d2 := up_div (m := m) (b := t.length + 1) (y := y) (by omega) hmb hmn (by omega)
        rw [Nat.add_sub_cancel] at d1 d2
        refine ⟨d1, ?_⟩
        rw [sz] at l5
        omega
      · exact ((sm.trans s4).trans s5).trans s7
  · rintro σ H3 ⟨ci, f, x5, x6, x7, x8, x9, x10, rfl, hm, sm⟩
    obtain ⟨c1, c2⟩ := hm k (by simp)
    have hx3 := sm _ _ hx
    have hL3 := sm _ _ hL
    rw [mv_snoc] at hL3
    have low := c.low a.length k (by simp)
    have fin := k3.trans sm
    refine ⟨_, rfl, x, T.cR, dx, _, _, rfl, hx3, T.clRows, T.nMa, rf_m _ _ _, _, rfl, L, _, _, _, rfl, rfl, SqL.of hL3, atI_last _ _, ?_⟩
    refine ⟨_, rfl, rfl, _, rfl, ite2 (fun g => ?_) (fun g => ?_)⟩
    · exact ⟨_, rfl, q _ f fin (by omega)⟩
    · have k1' : k ≠ 1 := by
        rintro rfl
        exact g (decide_eq_true rfl)
      have hv3 := hv.keep fin
      obtain ⟨b, dx2, fs, rfl, hb, f1, f2⟩ := hv3.ins
      have fl := en_flat ok (ex.resolve_left k1')
      refine ⟨_, rfl, b, dx2, fs, rfl, hb, f2, pl, _, rfl, hv3, fun u hu => ?_⟩
      have su : ∃ z, u = .str z := by
        rcases fl with e | e <;> rw [e] at hu <;> exact ⟨_, hu⟩
      obtain ⟨z, rfl⟩ := su
      refine ⟨rfl, _, rfl, ite2 (fun g => ?_) (fun g => ?_)⟩
      · refine ⟨_, rfl, _, rfl, _, _, rfl, rfl, _, rfl, _, rfl, _, _, rfl, rfl, _, _, rfl, _, _, rfl, rfl, q _ _ fin ?_⟩
        split <;> omega
      · refine ⟨_, rfl, _, rfl, _, _, rfl, rfl, _, rfl, _, _, rfl, rfl, _, _, rfl, _, _, rfl, rfl, q _ _ fin ?_⟩
        split <;> omega
end
end Lp

namespace Lp
/-! ### the mathematics -/
/-- the parts beside the path to a place, each with its beginning -/
def besQ : Sh → Nat → Nat → List (Sh × Nat)
  | .o, _, _ => []
  | .p l r, st, i => if i < st + l.size then besQ l st i ++ [(r, st + l.size)] else besQ r (st + l.size) i ++ [(l, st)]
abbrev pr (z : Sh × Nat) : Nat × Nat := (z.2, z.2 + z.1.size)
def bes (s : Sh) (st i : Nat) : List (Nat × Nat) := (besQ s st i).map pr
theorem bes_o (st i : Nat) : bes .o st i = [] := rfl
theorem bes_l {l r : Sh} {st i : Nat} (h : i < st + l.size) : bes (.p l r) st i = bes l st i ++ [(st + l.size, st + l.size + r.size)] := by
  unfold bes
  rw [besQ, if_pos h, List.map_append]
  rfl
theorem bes_r {l r : Sh} {st i : Nat} (h : ¬ i < st + l.size) : bes (.p l r) st i = bes r (st + l.size) i ++ [(st, st + l.size)] := by
  unfold bes
  rw [besQ, if_neg h, List.map_append]
  rfl
theorem bes_in : ∀ (s : Sh) (st i : Nat) (z : Nat × Nat), z ∈ bes s st i → st ≤ z.1 ∧ z.1 < z.2 ∧ z.2 ≤ st + s.size
  | .o, _, _, _, h => by cases h
  | .p l r, st, i, z, h => by
    have pl := l.pos
    have pq := r.pos
    by_cases c : i < st + l.size
    · rw [bes_l c] at h
      rcases List.mem_append.mp h with h | h
      · have q := bes_in l st i z h
        simp only [Sh.size]
        omega
      · rw [List.mem_singleton.mp h]
        simp only [Sh.size]
        omega
    · rw [bes_r c] at h
      rcases List.mem_append.mp h with h | h
      · have q := bes_in r _ i z h
        simp only [Sh.size]
        omega
      · rw [List.mem_singleton.mp h]
        simp only [Sh.size]
        omega
theorem bes_shift (c : Nat) : ∀ (s : Sh) (st i : Nat), bes s (c + st) (c + i) = (bes s st i).map fun z => (c + z.1, c + z.2)
  | .o, _, _ => rfl
  | .p l r, st, i => by
    by_cases h : i < st + l.size
    · rw [bes_l h, bes_l (by omega), bes_shift c l st i, List.map_append]
      simp [Nat.add_assoc]
    · rw [bes_r h, bes_r (by omega), Nat.add_assoc, bes_shift c r (st + l.size) i, List.map_append]
      simp [Nat.add_assoc]
/-- a shape whose lumps are shapes -/
def fill : Sh → List Sh → Sh
  | .o, ls => ls.headD .o
  | .p l r, ls => .p (fill l (ls.take l.size)) (fill r (ls.drop l.size))
theorem fill_size : ∀ (f : Sh) (ls : List Sh), f.size = ls.length → (fill f ls).size = sizes ls
  | .o, [x], _ => by simp [fill, sizes]
  | .o, [], h => by simp [Sh.size] at h
  | .o, _ :: _ :: _, h => by simp [Sh.size] at h
  | .p l r, ls, h => by
    simp only [Sh.size] at h
    show (fill l (ls.take l.size)).size + (fill r (ls.drop l.size)).size = sizes ls
    rw [fill_size l _ (by rw [List.length_take]; omega), fill_size r _ (by rw [List.length_drop]; omega), ← sizes_append, List.take_append_drop]
theorem sizes_mono {ls : List Sh} {a b : Nat} (h : a ≤ b) : sizes (ls.take a) ≤ sizes (ls.take b) := by
  have e : ls.take b = ls.take a ++ (ls.drop a).take (b - a) := by
    rw [← List.take_add]
    congr 1
    omega
  rw [e, sizes_append]
  exact Nat.le_add_right _ _
theorem sizes_cut {ls : List Sh} (m a : Nat) : sizes (ls.take (m + a)) = sizes (ls.take m) + sizes ((ls.drop m).take a) := by
  rw [List.take_add, sizes_append]
theorem fill_bes : ∀ (f : Sh) (ls : List Sh) (st j i : Nat) (x : Sh), f.size = ls.length → ls[j]? = some x → st + sizes (ls.take j) ≤ i → i < st + sizes (ls.take (j + 1)) →
    bes (fill f ls) st i = bes x (st + sizes (ls.take j)) i ++ (bes f 0 j).map fun z => (st + sizes (ls.take z.1), st + sizes (ls.take z.2))
  | .o, ls, st, j, i, x, h, e, _, _ => by
    match ls, h with
    | [y], _ =>
      match j, e with
      | 0, e =>
        cases e
        simp [fill, sizes, bes_o]
  | .p l r, ls, st, j, i, x, h, e, h1, h2 => by
    simp only [Sh.size] at h
    have hl : l.size = (ls.take l.size).length := by rw [List.length_take]; omega
    have hr : r.size = (ls.drop l.size).length := by rw [List.length_drop]; omega
    have szl := fill_size l _ hl
    have szr := fill_size r _ hr
    have tot : sizes (ls.take l.size) + sizes (ls.drop l.size) = sizes ls := by rw [← sizes_append, List.take_append_drop]
    have all : ls.take (l.size + r.size) = ls := by rw [h, List.take_length]
    have jl := (List.getElem?_eq_some_iff.mp e).1
    show bes (.p (fill l (ls.take l.size)) (fill r (ls.drop l.size))) st i = _
    by_cases c : j < l.size
    · have m1 := sizes_mono (ls := ls) (show j + 1 ≤ l.size by omega)
      have t1 : (ls.take l.size).take j = ls.take j := by rw [List.take_take]; congr 1; omega
      have t2 : (ls.take l.size).take (j + 1) = ls.take (j + 1) := by rw [List.take_take]; congr 1; omega
      have ih := fill_bes l (ls.take l.size) st j i x hl (by rw [List.getElem?_take_of_lt c]; exact e) (by rw [t1]; exact h1) (by rw [t2]; exact h2)
      rw [bes_l (by rw [szl]; omega), ih, bes_l (l := l) (r := r) (st := 0) (i := j) (by omega), List.map_append, t1, szl, szr]
      rw [List.append_assoc]
      congr 1
      have mp : (bes l 0 j).map (fun z => (st + sizes ((ls.take l.size).take z.1), st + sizes ((ls.take l.size).take z.2))) = (bes l 0 j).map fun z => (st + sizes (ls.take z.1), st + sizes (ls.take z.2)) := by
        refine List.map_congr_left fun z hz => ?_
        have q := bes_in l 0 j z hz
        rw [List.take_take, List.take_take, Nat.min_eq_left (by omega), Nat.min_eq_left (by omega)]
      rw [mp]
      congr 1
      simp only [Nat.zero_add, List.map_cons, List.map_nil, all]
      rw [Nat.add_assoc, tot]
    · have m1 := sizes_mono (ls := ls) (show l.size ≤ j by omega)
      obtain ⟨d, rfl⟩ : ∃ d, j = l.size + d := ⟨j - l.size, by omega⟩
      have c1 := sizes_cut (ls := ls) l.size d
      have c2 := sizes_cut (ls := ls) l.size (d + 1)
      rw [← Nat.add_assoc] at c2
      have ih := fill_bes r (ls.drop l.size) (st + sizes (ls.take l.size)) d i x hr (by rw [List.getElem?_drop]; exact e) (by omega) (by omega)
      rw [bes_r (by rw [szl]; omega), szl, ih, bes_r (l := l) (r := r) (st := 0) (i := l.size + d) (by omega), List.map_append]
      rw [show (0 : Nat) + l.size = l.size + 0 by omega, bes_shift l.size r 0 d, List.map_map, List.append_assoc]
      have e1 : st + sizes (ls.take l.size) + sizes ((ls.drop l.size).take d) = st + sizes (ls.take (l.size + d)) := by omega
      rw [e1]
      congr 1
      congr 1
      · refine List.map_congr_left fun z hz => ?_
        have a1 := sizes_cut (ls := ls) l.size z.1
        have a2 := sizes_cut (ls := ls) l.size z.2
        show (_, _) = (_, _)
        rw [a1, a2, Nat.add_assoc, Nat.add_assoc]
/-! ### rows -/
def stretch (row : List Sh) (b k : Nat) : List Sh := (row.drop (k * b)).take b
def pressRow (t : Tab) (row : List Sh) : List Sh := (List.range ((row.length + t.length) / (t.length + 1))).map fun k => fill (entry t (stretch row (t.length + 1) k).length) (stretch row (t.length + 1) k)
theorem press_len (t : Tab) (row : List Sh) : (pressRow t row).length = (row.length + t.length) / (t.length + 1) := by simp [pressRow]
theorem press_get {t : Tab} {row : List Sh} {k : Nat} (h : k < (row.length + t.length) / (t.length + 1)) : (pressRow t row)[k]? = some (fill (entry t (stretch row (t.length + 1) k).length) (stretch row (t.length + 1) k)) := by
  simp [pressRow, h]
theorem many_lt {n b k : Nat} (hb : 1 ≤ b) (h : k < (n + (b - 1)) / b) : k * b < n := by
  have h1 : (k + 1) * b ≤ n + (b - 1) := (Nat.le_div_iff_mul_le (by omega)).mp h
  rw [Nat.add_mul] at h1
  omega
theorem stretch_len (row : List Sh) (b k : Nat) : (stretch row b k).length = min b (row.length - k * b) := by
  rw [stretch, List.length_take, List.length_drop]
theorem press_size {t : Tab} (ok : TabOk t) {row : List Sh} {k : Nat} (h : k < (row.length + t.length) / (t.length + 1)) :
    (fill (entry t (stretch row (t.length + 1) k).length) (stretch row (t.length + 1) k)).size = sizes (stretch row (t.length + 1) k) := by
  have q := many_lt (b := t.length + 1) (by omega) (by rw [Nat.add_sub_cancel]; exact h)
  refine fill_size _ _ (entry_size ok ?_ ?_)
  · rw [stretch_len]; omega
  · rw [stretch_len]; omega
theorem press_sizes {t : Tab} (ok : TabOk t) (row : List Sh) : ∀ k, sizes ((pressRow t row).take k) = sizes (row.take (k * (t.length + 1)))
  | 0 => by simp
  | k + 1 => by
    have ih := press_sizes ok row k
    by_cases h : k < (row.length + t.length) / (t.length + 1)
    · rw [List.take_add_one, press_get h, sizes_append, ih, Nat.succ_mul, sizes_cut]
      simp only [Option.toList, sizes, Nat.add_zero]
      rw [press_size ok h]
      rfl
    · have e1 : (pressRow t row).take (k + 1) = (pressRow t row).take k := by
        rw [List.take_of_length_le (by rw [press_len]; omega), List.take_of_length_le (by rw [press_len]; omega)]
      rw [e1, ih]
      have h3 : row.length ≤ k * (t.length + 1) := by
        have h4 : (row.length + t.length) / (t.length + 1) ≤ k := by omega
        have h5 := Nat.lt_mul_div_succ (row.length + t.length) (show 0 < t.length + 1 by omega)
        have h6 : (t.length + 1) * ((row.length + t.length) / (t.length + 1) + 1) ≤ (t.length + 1) * (k + 1) := Nat.mul_le_mul_left _ (by omega)
        rw [Nat.mul_comm k]
        rw [Nat.mul_succ (t.length + 1) k] at h6
        omega
      have h7 : row.length ≤ (k + 1) * (t.length + 1) := by
        rw [Nat.succ_mul]
        omega
      rw [List.take_of_length_le h3, List.take_of_length_le h7]
/-- the row behind k stages -/
def rowAt (pl : Pl) (n : Nat) : Nat → List Sh
  | 0 => List.replicate n .o
  | k + 1 => match pl.stage k with
    | some t => pressRow t (rowAt pl n k)
    | none => rowAt pl n k
theorem row_some {pl : Pl} {n k : Nat} {t : Tab} (h : pl.stage k = some t) : rowAt pl n (k + 1) = pressRow t (rowAt pl n k) := by
  rw [rowAt, h]
def comb (left : Bool) : Nat → Sh
  | 0 => .o
  | m + 1 => if left then .p (comb left m) .o else .p .o (comb left m)
theorem comb_size (b : Bool) : ∀ m, (comb b m).size = m + 1
  | 0 => rfl
  | m + 1 => by
    cases b
    · simp [comb, Sh.size, comb_size false m]; omega
    · simp [comb, Sh.size, comb_size true m]
def En.isLeft : En → Bool
  | .left => true
  | _ => false
def fin (en : En) (row : List Sh) : Sh := if 1 < row.length then fill (comb en.isLeft (row.length - 1)) row else row.headD .o
structure IsTold (pl : Pl) (n : Nat) (s : Sh) (k : Nat) : Prop where
  run : ∀ j, j < k → 1 < (rowAt pl n j).length ∧ (pl.stage j).isSome = true
  stop : (rowAt pl n k).length ≤ 1 ∨ pl.stage k = none
  eq : s = fin pl.en (rowAt pl n k)
theorem told_one {pl : Pl} {n k k' : Nat} {s : Sh} (h : IsTold pl n s k) (run : ∀ j, j < k' → 1 < (rowAt pl n j).length ∧ (pl.stage j).isSome = true) (stop : (rowAt pl n k').length ≤ 1 ∨ pl.stage k' = none) : k = k' := by
  rcases Nat.lt_trichotomy k k' with e | e | e
  · obtain ⟨a, b⟩ := run k e
    rcases h.stop with z | z
    · omega
    · rw [z] at b; cases b
  · exact e
  · obtain ⟨a, b⟩ := h.run k' e
    rcases stop with z | z
    · omega
    · rw [z] at b; cases b
end Lp

namespace Lp
/-! ### combs -/
theorem comb_l : ∀ m i : Nat, i ≤ m → bes (comb true m) 0 i = (if i = 0 then [] else [(0, i)]) ++ (List.range (m + 1 - max 1 (i + 1))).map fun j => (max 1 (i + 1) + j, max 1 (i + 1) + j + 1)
  | 0, i, h => by
    obtain rfl : i = 0 := by omega
    rfl
  | m + 1, i, h => by
    show bes (.p (comb true m) .o) 0 i = _
    have sz := comb_size true m
    by_cases c : i < m + 1
    · rw [bes_l (by omega), comb_l m i (by omega), sz, List.append_assoc]
      have hM : max 1 (i + 1) ≤ m + 1 := by omega
      generalize max 1 (i + 1) = M at hM
      rw [show m + 1 + 1 - M = (m + 1 - M) + 1 by omega, List.range_succ, List.map_append]
      congr 2
      show [(0 + (m + 1), 0 + (m + 1) + 1)] = [(M + (m + 1 - M), M + (m + 1 - M) + 1)]
      rw [show M + (m + 1 - M) = 0 + (m + 1) by omega]
    · obtain rfl : i = m + 1 := by omega
      rw [bes_r (by omega), sz, if_neg (by omega), show max 1 (m + 1 + 1) = m + 1 + 1 by omega, Nat.sub_self]
      simp [bes_o]
theorem comb_r : ∀ m st i : Nat, st ≤ i → i ≤ st + m → bes (comb false m) st i = (if i < st + m then [(i + 1, st + m + 1)] else []) ++ ((List.range (i - st)).map fun j => (st + j, st + j + 1)).reverse
  | 0, st, i, h1, h2 => by
    obtain rfl : i = st := by omega
    rw [if_neg (by omega), Nat.sub_self]
    rfl
  | m + 1, st, i, h1, h2 => by
    show bes (.p .o (comb false m)) st i = _
    have sz := comb_size false m
    by_cases c : i < st + 1
    · obtain rfl : i = st := by omega
      rw [bes_l (by show i < i + 1; omega), if_pos (by omega), Nat.sub_self, sz]
      show [] ++ [(i + 1, i + 1 + (m + 1))] = _
      rw [show i + 1 + (m + 1) = i + (m + 1) + 1 by omega]
      rfl
    · rw [bes_r (by show ¬ i < st + 1; omega)]
      show bes (comb false m) (st + 1) i ++ [(st, st + 1)] = _
      rw [comb_r m (st + 1) i (by omega) (by omega)]
      rw [show i - st = (i - (st + 1)) + 1 by omega, List.range_succ_eq_map, List.map_cons, List.reverse_cons, List.map_map, List.append_assoc]
      congr 1
      · rw [show st + 1 + m = st + (m + 1) by omega]
      · congr 2
        refine List.map_congr_left fun j _ => ?_
        show (st + 1 + j, st + 1 + j + 1) = (st + (j + 1), st + (j + 1) + 1)
        rw [show st + 1 + j = st + (j + 1) by omega]
/-! ### parts -/
inductive Sub : Sh → Sh → Nat → Prop
  | refl (s : Sh) : Sub s s 0
  | left {l r q : Sh} {a : Nat} : Sub l q a → Sub (.p l r) q a
  | right {l r q : Sh} {a : Nat} : Sub r q a → Sub (.p l r) q (l.size + a)
theorem Sub.le {s q : Sh} {a : Nat} (h : Sub s q a) : a + q.size ≤ s.size := by
  induction h with
  | refl s => omega
  | left _ ih => simp only [Sh.size]; omega
  | right _ ih => simp only [Sh.size]; omega
theorem bes_sub : ∀ (s : Sh) (st i : Nat) (z : Sh × Nat), z ∈ besQ s st i → ∃ a, z.2 = st + a ∧ Sub s z.1 a
  | .o, _, _, _, h => by cases h
  | .p l r, st, i, z, h => by
    rw [besQ] at h
    split at h
    · rcases List.mem_append.mp h with h | h
      · obtain ⟨a, e, q⟩ := bes_sub l st i z h
        exact ⟨a, e, .left q⟩
      · rw [List.mem_singleton.mp h]
        exact ⟨l.size, rfl, .right (.refl r)⟩
    · rcases List.mem_append.mp h with h | h
      · obtain ⟨a, e, q⟩ := bes_sub r _ i z h
        exact ⟨l.size + a, by omega, .right q⟩
      · rw [List.mem_singleton.mp h]
        exact ⟨0, rfl, .left (.refl l)⟩
/-! ### pressed again -/
def agStep (f : Sh) (i j : Nat) (q : Sh) (a : Nat) : Option (Sh × Nat × Nat) :=
  if a = j then some (.p f q, min i a, max j (a + q.size)) else if a + q.size = i then some (.p q f, min i a, max j (a + q.size)) else none
def again : Sh → Nat → Nat → List (Sh × Nat) → Option (Sh × Nat × Nat)
  | f, i, j, [] => some (f, i, j)
  | f, i, j, (q, a) :: r => match agStep f i j q a with
    | some (f', i', j') => again f' i' j' r
    | none => none
theorem again_app : ∀ (x y : List (Sh × Nat)) (f : Sh) (i j : Nat) (f' : Sh) (i' j' : Nat), again f i j x = some (f', i', j') → again f i j (x ++ y) = again f' i' j' y
  | [], y, f, i, j, f', i', j', h => by
    cases h
    rfl
  | (q, a) :: r, y, f, i, j, f', i', j', h => by
    show (match agStep f i j q a with | some (f', i', j') => again f' i' j' (r ++ y) | none => none) = _
    rw [again] at h
    cases e : agStep f i j q a with
    | none => rw [e] at h; cases h
    | some z =>
      obtain ⟨f2, i2, j2⟩ := z
      rw [e] at h
      exact again_app r y f2 i2 j2 f' i' j' h
theorem again_bes : ∀ (s : Sh) (st i : Nat), st ≤ i → i < st + s.size → again .o i (i + 1) (besQ s st i) = some (s, st, st + s.size)
  | .o, st, i, h1, h2 => by
    simp only [Sh.size] at h2
    obtain rfl : i = st := by omega
    rfl
  | .p l r, st, i, h1, h2 => by
    simp only [Sh.size] at h2 ⊢
    have pl := l.pos
    have pq := r.pos
    by_cases c : i < st + l.size
    · rw [besQ, if_pos c, again_app _ _ _ _ _ _ _ _ (again_bes l st i h1 c), again]
      rw [agStep, if_pos rfl]
      show some _ = some _
      rw [show min st (st + l.size) = st by omega, show max (st + l.size) (st + l.size + r.size) = st + (l.size + r.size) by omega]
    · rw [besQ, if_neg c, again_app _ _ _ _ _ _ _ _ (again_bes r (st + l.size) i (by omega) (by omega)), again]
      rw [agStep, if_neg (by omega), if_pos rfl]
      show some _ = some _
      rw [show min (st + l.size) st = st by omega, show max (st + l.size + r.size) (st + l.size) = st + (l.size + r.size) by omega]
def qsizes : List (Sh × Nat) → Nat
  | [] => 0
  | z :: r => z.1.size + qsizes r
theorem qsizes_append : ∀ a b : List (Sh × Nat), qsizes (a ++ b) = qsizes a + qsizes b
  | [], b => by simp [qsizes]
  | s :: a, b => by simp only [List.cons_append, qsizes, qsizes_append a b]; omega
theorem again_size : ∀ (x : List (Sh × Nat)) (f : Sh) (i j : Nat) (z : Sh × Nat × Nat), again f i j x = some z → z.1.size = f.size + qsizes x
  | [], f, i, j, z, h => by
    cases h
    rfl
  | (q, a) :: r, f, i, j, z, h => by
    rw [again] at h
    cases e : agStep f i j q a with
    | none => rw [e] at h; cases h
    | some y =>
      obtain ⟨f2, i2, j2⟩ := y
      rw [e] at h
      have ih := again_size r f2 i2 j2 z h
      have sz : f2.size = f.size + q.size := by
        unfold agStep at e
        split at e
        · cases e; rfl
        · split at e
          · cases e; simp only [Sh.size]; omega
          · cases e
      simp only [qsizes]
      omega
/-- without one of them it is not the whole -/
theorem again_less {s : Sh} {st i k : Nat} (h1 : st ≤ i) (h2 : i < st + s.size) (hk : k < (besQ s st i).length) {z : Sh × Nat × Nat}
    (h : again .o i (i + 1) ((besQ s st i).take k ++ (besQ s st i).drop (k + 1)) = some z) : z.1 ≠ s := by
  have a1 := again_size _ _ _ _ _ (again_bes s st i h1 h2)
  have a2 := again_size _ _ _ _ _ h
  have e : qsizes (besQ s st i) = qsizes ((besQ s st i).take k) + (((besQ s st i)[k]).1.size + qsizes ((besQ s st i).drop (k + 1))) := by
    conv => lhs; rw [← List.take_append_drop k (besQ s st i), qsizes_append, List.drop_eq_getElem_cons hk]
    rfl
  have p := ((besQ s st i)[k]).1.pos
  rw [qsizes_append] at a2
  intro q
  rw [q] at a2
  simp only [] at a1
  omega
/-! ### the rows of a plan -/
def times (pl : Pl) : Nat → Nat
  | 0 => 1
  | k + 1 => match pl.stage k with
    | some t => times pl k * (t.length + 1)
    | none => times pl k
theorem times_some {pl : Pl} {k : Nat} {t : Tab} (h : pl.stage k = some t) : times pl (k + 1) = times pl k * (t.length + 1) := by
  rw [times, h]
theorem times_pos (pl : Pl) : ∀ k, 1 ≤ times pl k
  | 0 => Nat.le_refl 1
  | k + 1 => by
    have ih := times_pos pl k
    rw [times]
    split
    · exact Nat.mul_pos ih (Nat.succ_pos _)
    · exact ih
theorem sizes_rep : ∀ n j : Nat, sizes ((List.replicate n Sh.o).take j) = min j n
  | 0, j => by simp [sizes]
  | n + 1, 0 => by simp [sizes]
  | n + 1, j + 1 => by
    rw [List.replicate_succ, List.take_succ_cons, sizes, sizes_rep n j]
    simp only [Sh.size]
    omega
theorem row_sizes {pl : Pl} (ok : PlOk pl) (n : Nat) : ∀ k j, sizes ((rowAt pl n k).take j) = min (j * times pl k) n
  | 0, j => by
    rw [rowAt, sizes_rep, times, Nat.mul_one]
  | k + 1, j => by
    cases e : pl.stage k with
    | none =>
      rw [rowAt, times, e]
      exact row_sizes ok n k j
    | some t =>
      rw [row_some e, times_some e, press_sizes (Pl.stage_ok ok e), row_sizes ok n k, Nat.mul_assoc, Nat.mul_comm (t.length + 1)]
theorem row_all {pl : Pl} (ok : PlOk pl) (n k : Nat) : sizes (rowAt pl n k) = n := by
  have h := row_sizes ok n k ((rowAt pl n k).length + n)
  rw [List.take_of_length_le (by omega)] at h
  have p := times_pos pl k
  have q : (rowAt pl n k).length + n ≤ ((rowAt pl n k).length + n) * times pl k := Nat.le_mul_of_pos_right _ p
  omega
theorem row_pos {pl : Pl} (ok : PlOk pl) {n : Nat} (h : 1 ≤ n) (k : Nat) : 1 ≤ (rowAt pl n k).length := by
  have a := row_all ok n k
  cases e : rowAt pl n k with
  | nil =>
    rw [e] at a
    simp only [sizes] at a
    omega
  | cons _ _ => simp
/-- the beginning of a lump is ahead of the whole's end -/
theorem row_begin {pl : Pl} (ok : PlOk pl) {n k j : Nat} (h : j < (rowAt pl n k).length) : j * times pl k < n := by
  have a := row_sizes ok n k j
  have b := row_sizes ok n k (j + 1)
  rw [List.take_add_one, List.getElem?_eq_getElem h, sizes_append] at b
  simp only [Option.toList, sizes] at b
  have p := ((rowAt pl n k)[j]).pos
  omega
theorem row_at {pl : Pl} (ok : PlOk pl) {n i : Nat} (h : i < n) (k : Nat) : i / times pl k < (rowAt pl n k).length ∧ sizes ((rowAt pl n k).take (i / times pl k)) ≤ i ∧ i < sizes ((rowAt pl n k).take (i / times pl k + 1)) := by
  have p := times_pos pl k
  have a := row_sizes ok n k (i / times pl k)
  have b := row_sizes ok n k (i / times pl k + 1)
  have d1 := Nat.div_mul_le_self i (times pl k)
  have d2 : i < (i / times pl k + 1) * times pl k := by
    have q := Nat.lt_mul_div_succ i p
    rw [Nat.mul_comm] at q
    exact q
  refine ⟨?_, by omega, by omega⟩
  refine Nat.lt_of_not_le fun q => ?_
  have e : (rowAt pl n k).take (i / times pl k) = rowAt pl n k := List.take_of_length_le q
  rw [e, row_all ok] at a
  omega
theorem bes_step {pl : Pl} (ok : PlOk pl) {n i k : Nat} (h : i < n) {t : Tab} (e : pl.stage k = some t) {x x' : Sh} (hx : (rowAt pl n k)[i / times pl k]? = some x) (hx' : (rowAt pl n (k + 1))[i / times pl (k + 1)]? = some x') :
    bes x' (sizes ((rowAt pl n (k + 1)).take (i / times pl (k + 1)))) i = bes x (sizes ((rowAt pl n k).take (i / times pl k))) i ++
      (bes (entry t (min (t.length + 1) ((rowAt pl n k).length - i / times pl k / (t.length + 1) * (t.length + 1)))) 0 (i / times pl k - i / times pl k / (t.length + 1) * (t.length + 1))).map
        fun z => ((i / times pl k / (t.length + 1) * (t.length + 1) + z.1) * times pl k, min ((i / times pl k / (t.length + 1) * (t.length + 1) + z.2) * times pl k) n) := by
  have tok := Pl.stage_ok ok e
  obtain ⟨r1, r2, r3⟩ := row_at ok h k
  have r1' := (row_at ok h (k + 1)).1
  rw [row_some e] at r1' hx' ⊢
  rw [times_some e, ← Nat.div_div_eq_div_mul] at r1' hx' ⊢
  rw [press_sizes tok]
  rw [press_len] at r1'
  rw [press_get r1'] at hx'
  have hx' := (Option.some.inj hx').symm
  subst hx'
  rw [stretch_len]
  have d1 := Nat.div_mul_le_self (i / times pl k) (t.length + 1)
  have d2 : i / times pl k < (i / times pl k / (t.length + 1) + 1) * (t.length + 1) := by
    have q := Nat.lt_mul_div_succ (i / times pl k) (show 0 < t.length + 1 by omega)
    rw [Nat.mul_comm] at q
    exact q
  rw [Nat.add_mul] at d2
  have rs := row_sizes ok n k
  have rb := @row_begin pl ok n k
  have gen : ∀ (j c : Nat) (row : List Sh), (∀ j, sizes (row.take j) = min (j * times pl k) n) → (∀ j, j < row.length → j * times pl k < n) → c ≤ j → j < c + (t.length + 1) → j < row.length → row[j]? = some x → sizes (row.take j) ≤ i → i < sizes (row.take (j + 1)) →
      bes (fill (entry t (min (t.length + 1) (row.length - c))) ((row.drop c).take (t.length + 1))) (sizes (row.take c)) i = bes x (sizes (row.take j)) i ++ (bes (entry t (min (t.length + 1) (row.length - c))) 0 (j - c)).map fun z => ((c + z.1) * times pl k, min ((c + z.2) * times pl k) n) := by
    intro j c row rs rb h1 h2 h3 h4 h5 h6
    obtain ⟨d, rfl⟩ : ∃ d, j = c + d := ⟨j - c, by omega⟩
    have len : ((row.drop c).take (t.length + 1)).length = min (t.length + 1) (row.length - c) := by rw [List.length_take, List.length_drop]
    have sz : (entry t (min (t.length + 1) (row.length - c))).size = ((row.drop c).take (t.length + 1)).length := by rw [len]; exact entry_size tok (by omega) (by omega)
    have cut : ∀ a, a ≤ t.length + 1 → sizes (row.take c) + sizes (((row.drop c).take (t.length + 1)).take a) = sizes (row.take (c + a)) := fun a ha => by
      rw [List.take_take, Nat.min_eq_left ha, sizes_cut]
    have hd : d < t.length + 1 := by omega
    have fb := fill_bes (entry t (min (t.length + 1) (row.length - c))) ((row.drop c).take (t.length + 1)) (sizes (row.take c)) d i x sz (by rw [List.getElem?_take_of_lt hd, List.getElem?_drop]; exact h4) (by rw [cut d (by omega)]; exact h5) (by rw [cut (d + 1) (by omega)]; exact h6)
    rw [fb, cut d (by omega), Nat.add_sub_cancel_left]
    congr 1
    refine List.map_congr_left fun z hz => ?_
    have q := bes_in _ _ _ z hz
    rw [sz, len] at q
    rw [cut z.1 (by omega), cut z.2 (by omega), rs, rs]
    have b1 := rb (c + z.1) (by omega)
    rw [Nat.min_eq_left (Nat.le_of_lt b1)]
  exact gen _ _ _ (row_sizes ok n k) (fun j hj => row_begin ok hj) d1 (by omega) r1 hx r2 r3
/-- the last step: the comb -/
theorem bes_last {pl : Pl} (ok : PlOk pl) {n i k : Nat} (h : i < n) {x : Sh} (hx : (rowAt pl n k)[i / times pl k]? = some x) (hl : 1 < (rowAt pl n k).length) :
    bes (fin pl.en (rowAt pl n k)) 0 i = bes x (sizes ((rowAt pl n k).take (i / times pl k))) i ++
      (bes (comb pl.en.isLeft ((rowAt pl n k).length - 1)) 0 (i / times pl k)).map fun z => (z.1 * times pl k, min (z.2 * times pl k) n) := by
  obtain ⟨r1, r2, r3⟩ := row_at ok h k
  have sz : (comb pl.en.isLeft ((rowAt pl n k).length - 1)).size = (rowAt pl n k).length := by rw [comb_size]; omega
  have fb := fill_bes _ _ 0 _ i x sz hx (by omega) (by omega)
  rw [fin, if_pos hl, fb, Nat.zero_add]
  congr 1
  refine List.map_congr_left fun z hz => ?_
  have q := bes_in _ _ _ z hz
  rw [sz] at q
  have b1 := row_begin ok (n := n) (k := k) (j := z.1) (by omega)
  rw [row_sizes ok, row_sizes ok, Nat.min_eq_left (Nat.le_of_lt b1), Nat.zero_add, Nat.zero_add]
/-- a row of one -/
theorem bes_one {pl : Pl} (ok : PlOk pl) {n i k : Nat} (h : i < n) {x : Sh} (hx : (rowAt pl n k)[i / times pl k]? = some x) (hl : (rowAt pl n k).length ≤ 1) :
    bes (fin pl.en (rowAt pl n k)) 0 i = bes x (sizes ((rowAt pl n k).take (i / times pl k))) i := by
  obtain ⟨r1, r2, r3⟩ := row_at ok h k
  rw [fin, if_neg (by omega)]
  have e : i / times pl k = 0 := Nat.lt_one_iff.mp (Nat.lt_of_lt_of_le r1 hl)
  rw [e] at hx ⊢
  cases er : rowAt pl n k with
  | nil => rw [er] at hx; cases hx
  | cons y ys =>
    rw [er] at hx
    cases hx
    rfl
theorem fin_size {pl : Pl} (ok : PlOk pl) {n : Nat} (h : 1 ≤ n) (k : Nat) : (fin pl.en (rowAt pl n k)).size = n := by
  have a := row_all ok n k
  have p := row_pos ok h k
  unfold fin
  split
  · rw [fill_size _ _ (by rw [comb_size]; omega), a]
  · cases er : rowAt pl n k with
    | nil => rw [er] at p; simp at p
    | cons y ys =>
      rw [er] at a
      cases ys with
      | nil =>
        simp only [sizes] at a
        show y.size = n
        omega
      | cons z zs =>
        rename_i hl
        rw [er] at hl
        simp at hl
end Lp

namespace Lp
open PySem PySem.Spec PyProof.Rows L2
section
variable {P : Program} {w : World} {K : PySem.W.Frag} {mg : Str → Option Value} {base : Heap}
/-! ### lists of pairs -/
abbrev PrAt (H : Hp) (z : Nat × Nat) (v : V) : Prop := ∃ a, v = .ref a ∧ H a = some (.tup [.int (z.1 : Int), .int (z.2 : Int)])
abbrev PrsAt (H : Hp) (ps : List (Nat × Nat)) (us : List V) : Prop := Paired (PrAt H) ps us
theorem prs_keep {H H' : Hp} (k : Tk H H') {ps : List (Nat × Nat)} {us : List V} (h : PrsAt H ps us) : PrsAt H' ps us := Paired.mapP h fun _ _ ⟨a, e, h⟩ => ⟨a, e, k _ _ h⟩
theorem pd_rev {α β : Type} {F : α → β → Prop} : ∀ {l₁ : List α} {l₂ : List β}, Paired F l₁ l₂ → Paired F l₁.reverse l₂.reverse
  | _, _, .nil => .nil
  | _, _, .cons r t => by
    rw [List.reverse_cons, List.reverse_cons]
    exact pd_append (pd_rev t) (.cons r .nil)
def spLumpsIn (n : Nat) : Sp := fun vs H Q _ => ∃ (s : Sh) (v : V), vs = [v] ∧ ShAt H s v ∧ s.size ≤ n ∧ s.size ≤ 60 ∧
  ∀ H' L a0 us, Same H H' → H' L = some (.lst (.ref a0 :: us)) → us.length + 2 = 2 * s.size → PairsAt H' us → H' a0 = some (.tup [.int 0, .int (s.size : Int)]) → Q (.ref L) H'
theorem ok_lumps_in (T : Txt K mg) : ∀ n : Nat, Ok P w base n T.lumps_in (spLumpsIn n)
  | 0 => by
    have no : ∀ vs H Q E, ¬ spLumpsIn 0 vs H Q E := by
      rintro vs H Q E ⟨s, v, _, _, h, _⟩
      have := s.pos
      omega
    exact ⟨fun vs H Q E h => absurd h (no vs H Q E), fun A outer s H args us vs Q E _ _ _ _ h => absurd h (no vs H Q E)⟩
  | n + 1 => by
    have G_lumps_in := ok_lumps_in T n
    refine T.lumps_in.fn.ok sc_lumps_in (fun vs H Q E h => ?_) (fun cdv A outer s H vs Q E hr h => ?_)
    · obtain ⟨_, _, rfl, _⟩ := h
      rfl
    obtain ⟨t, v, rfl, hA, hz, h60, q⟩ := h
    refine ⟨_, (pss_cons (ps_if (pt_cmpR (op_eqD hr.units) (pv 0) (pe_tup pa_nil) (nomark _))
        (pss_one (ps_ret (pe_lst (pa_cons (pe_tup (pa_cons pe_int (pa_cons pe_int pa_nil))) pa_nil))))
        pss_nil)
        (pss_cons (ps_par (i := 1) (j := 2) rfl sc_lumps_in.nd rfl rfl (by decide) rfl rfl (pa_cons (pe_call G_lumps_in (hr.mono (by omega)) (by rfl) T.lumps_in.m T.lumps_in.fn.kp T.lumps_in.b .nil pass0 (pa_cons (pe_ix ix_tup (pv 0) pe_int (fun _ _ => rfl)) pa_nil)) (pa_cons (pe_call G_lumps_in (hr.mono (by omega)) (by rfl) T.lumps_in.m T.lumps_in.fn.kp T.lumps_in.b .nil pass0 (pa_cons (pe_ix ix_tup (pv 0) pe_int (fun _ _ => rfl)) pa_nil)) pa_nil)) (by rfl))
        (pss_cons (ps_set (i := 3) sc_lumps_in.nd rfl (Or.inr rfl) (pe_ix ix_tup (pe_ix ix_list (pv 1) pe_int (fun _ _ => rfl)) pe_int (fun _ _ => rfl)))
        (pss_one (ps_ret (pe_lst (pa_cons (pe_tup (pa_cons pe_int (pa_cons (pe_op op_add (pv 3) (pe_ix ix_tup (pe_ix ix_list (pv 2) pe_int (fun _ _ => rfl)) pe_int (fun _ _ => rfl))) pa_nil))) (StX.pa_star (pv 1) (StX.pa_star (pe_lc (own := [("i", 4), ("j", 5)]) rfl sc_lumps_in.nd (pi_list (pv 2)) (blkOk_by (own := [("i", 4), ("j", 5)]) (N := ["shape", "one", "other", "at", "i", "j"]) (sc := defScope s_lumps_in) (by decide +kernel)) (fun _ _ _ _ _ => (pg_tupK (K := K) (n := 2) rfl rfl (pgs_cons (pg_name (i := 4) sc_lumps_in.nd rfl (Or.inl rfl)) (pgs_cons (pg_name (i := 5) sc_lumps_in.nd rfl (Or.inl rfl)) pgs_nil)))) (fun _ _ _ _ _ => pts_nil) (fun _ _ _ _ _ => (pe_tup (pa_cons (pe_op op_add (pv 4) (pv 3)) (pa_cons (pe_op op_add (pv 5) (pv 3)) pa_nil))))) pa_nil))))))))), ?_⟩
    refine ⟨_, rfl, Nat.zero_le _, fun p hp => ?_⟩
    have k1 := sm_new (o := .tup []) hp
    have hA1 := hA.keep (Tk.of k1)
    refine ⟨_, _, hA1.dp, nil_dp upd_same, Sh.shaped (by omega), Sh.shaped (by decide), decide (t = .o), by rw [Sh.eqv], ?_⟩
    cases t with
    | o =>
      refine iteT ⟨by show 2 ≤ sizeLine; decide, fun a na => ⟨by show 1 ≤ sizeLine; decide, fun L nL => ?_⟩⟩
      have k2 := sm_new (o := .tup [.int 0, .int 1]) na
      have k3 := sm_new (o := .lst [.ref a]) nL
      exact q _ L a [] ((k1.trans k2).trans k3) upd_same rfl (fun u hu => by cases hu) (k3 _ _ upd_same)
    | p l r =>
      obtain ⟨b, x, y, rfl, hb, hx, hy⟩ := hA1
      have pl := l.pos
      have pr := r.pos
      simp only [Sh.size] at hz h60
      refine iteF ⟨_, rfl, b, _, _, x, rfl, rfl, SqT.of hb, rfl, l, x, rfl, hx, by omega, by omega, fun H1 L1 a1 us1 s1 hL1 n1 p1 h1 => ?_⟩
      refine ⟨_, rfl, b, _, _, y, rfl, rfl, SqT.of (s1 _ _ hb), rfl, r, y, rfl, hy.keep (Tk.of s1), by omega, by omega, fun H2 L2 a2 us2 s2 hL2 n2 p2 h2 => ?_⟩
      refine ⟨_, _, rfl, ?_⟩
      have h1' := s2 _ _ h1
      have hL1' := s2 _ _ hL1
      refine ⟨_, rfl, L1, _, _, _, rfl, rfl, SqL.of hL1', atI_nat (j := 0) rfl, a1, _, _, _, rfl, rfl, SqT.of h1', rfl, ?_⟩
      refine ⟨_, rfl, _, rfl, L2, _, _, _, rfl, rfl, SqL.of hL2, atI_nat (j := 0) rfl, a2, _, _, _, rfl, rfl, SqT.of h2, rfl, _, _, rfl, rfl, by show 2 ≤ sizeLine; decide, fun a0 na0 => ?_⟩
      have k3 := sm_new (o := .tup [.int 0, .int ((l.size : Int) + (r.size : Int))]) na0
      have hL1'' := k3 _ _ hL1'
      have hL2'' := k3 _ _ hL2
      refine ⟨_, rfl, L1, _, rfl, .inr (SqL.of hL1''), ?_⟩
      refine ⟨_, rfl, L2, rfl, ⟨_, SqL.of hL2''⟩, fun D nD => ?_⟩
      have k4 := sm_new (o := .lst []) nD
      refine lc_list (K := K) (a := L2) (xs := .ref a2 :: us2) (fun j H' => ∃ acc, H' D = some (.lst acc) ∧ acc.length = j ∧ PairsAt H' acc ∧ Same (upd H2 a0 (.tup [.int 0, .int ((l.size : Int) + (r.size : Int))])) H') ⟨[], upd_same, rfl, (fun u hu => by cases hu), k4⟩ (fun j H' _ h => ?_) ?_ ?_
      · obtain ⟨_, _, _, _, s7⟩ := h
        exact SqL.of (s7 _ _ hL2'')
      · rintro j z H7 hj ⟨acc, hacc, la, pa, s7⟩
        have hzz : ∃ (a : Addr) (i j : Int), z = .ref a ∧ H7 a = some (.tup [.int i, .int j]) := by
          rcases List.mem_cons.mp (List.mem_of_getElem? hj) with e | e
          · exact ⟨a2, _, _, e, s7 _ _ (k3 _ _ h2)⟩
          · exact (p2.keep (Tk.of (k3.trans s7))) z e
        obtain ⟨bz, z1, z2, rfl, hbz⟩ := hzz
        have jl := (List.getElem?_eq_some_iff.mp hj).1
        simp only [List.length_cons] at jl
        refine ⟨bz, _, rfl, SqT.of hbz, rfl, _, _, rfl, _, _, rfl, rfl, rfl, ?_⟩
        refine ⟨_, rfl, _, rfl, _, _, rfl, rfl, _, rfl, _, rfl, _, _, rfl, rfl, by show 2 ≤ sizeLine; decide, fun c nc => ?_⟩
        have k8 := sm_new (o := .tup [.int (z1 + (l.size : Int)), .int (z2 + (l.size : Int))]) nc
        have hacc8 := k8 _ _ hacc
        have tk9 := (Tk.of k8).trans (tk_lst (o := .lst (acc ++ [.ref c])) hacc8)
        refine ⟨acc, hacc8, smallL _ (by omega), acc ++ [V.ref c], upd_same, by simp [la], ?_, sm_mut (s7.trans k8) nD⟩
        intro u hu
        rcases List.mem_append.mp hu with e | e
        · exact (pa.keep tk9) u e
        · rw [List.mem_singleton.mp e]
          exact ⟨c, _, _, rfl, tk_lst hacc8 _ _ upd_same⟩
      · rintro H7 ⟨acc, hacc, la, pa, s7⟩
        simp only [List.length_cons] at la
        refine ⟨D, acc, rfl, .inr (SqL.of hacc), ?_⟩
        have ls1 := (s7 _ _ hL1'')
        refine ⟨small _ (by simp only [List.length_cons, List.length_append, List.length_nil]; omega), fun L nL => ?_⟩
        have k9 := sm_new (o := .lst (.ref a0 :: ((.ref a1 :: us1) ++ (acc ++ [])))) nL
        have fin := ((((k1.trans s1).trans s2).trans k3).trans s7).trans k9
        refine q _ L a0 ((.ref a1 :: us1) ++ (acc ++ [])) fin upd_same ?_ ?_ ?_
        · simp only [List.length_cons, List.length_append, List.length_nil, Sh.size]
          omega
        · have g1 : PairsAt H7 (.ref a1 :: us1) := fun u hu => by
            rcases List.mem_cons.mp hu with e | e
            · exact ⟨a1, _, _, e, s7 _ _ (k3 _ _ h1')⟩
            · exact (p1.keep (Tk.of ((s2.trans k3).trans s7))) u e
          refine PairsAt.keep (Tk.of k9) fun u hu => ?_
          rcases List.mem_append.mp hu with e | e
          · exact g1 u e
          · rw [List.append_nil] at e
            exact pa u e
        · exact k9 _ _ (s7 _ _ upd_same)
def spMoved : Sp := fun vs H Q _ => ∃ (L : Addr) (us : List V) (ps : List (Nat × Nat)) (c : Nat) (j : Int), vs = [.ref L, .int j] ∧ j = (c : Int) ∧ H L = some (.lst us) ∧ PrsAt H ps us ∧ ps.length ≤ 1000 ∧
  ∀ H' M ws, Same H H' → H M = none → H' M = some (.lst ws) → PrsAt H' (ps.map fun z => (c + z.1, c + z.2)) ws → Q (.ref M) H'
theorem ok_moved (T : Txt K mg) : Ok P w base 1 T.moved spMoved := by
  refine T.moved.fn.ok sc_moved (fun vs H Q E h => ?_) (fun cdv A outer s H vs Q E hr h => ?_)
  · obtain ⟨_, _, _, _, _, rfl, _⟩ := h
    rfl
  obtain ⟨L, us, ps, c, _, rfl, rfl, hL, hp, hn, q⟩ := h
  refine ⟨_, (pss_one (ps_ret (pe_lc (own := [("i", 2), ("j", 3)]) rfl sc_moved.nd (pi_list (pv 0)) (blkOk_by (own := [("i", 2), ("j", 3)]) (N := ["pairs", "start", "i", "j"]) (sc := defScope s_moved) (by decide +kernel)) (fun _ _ _ _ _ => (pg_tupK (K := K) (n := 2) rfl rfl (pgs_cons (pg_name (i := 2) sc_moved.nd rfl (Or.inl rfl)) (pgs_cons (pg_name (i := 3) sc_moved.nd rfl (Or.inl rfl)) pgs_nil)))) (fun _ _ _ _ _ => pts_nil) (fun _ _ _ _ _ => (pe_tup (pa_cons (pe_op op_add (pv 1) (pv 2)) (pa_cons (pe_op op_add (pv 1) (pv 3)) pa_nil))))))), ?_⟩
  refine ⟨_, rfl, L, rfl, ⟨_, SqL.of hL⟩, fun D nD => ?_⟩
  have k4 := sm_new (o := .lst []) nD
  refine lc_list (K := K) (a := L) (xs := us) (fun j H' => ∃ acc, H' D = some (.lst acc) ∧ PrsAt H' ((ps.take j).map fun z => (c + z.1, c + z.2)) acc ∧ Same H H') ⟨[], upd_same, .nil, k4⟩ (fun j H' _ h => ?_) ?_ ?_
  · obtain ⟨_, _, _, s7⟩ := h
    exact SqL.of (s7 _ _ hL)
  · rintro j z H7 hj ⟨acc, hacc, pa, s7⟩
    obtain ⟨y, hy, b, rfl, hb⟩ := pd_getR hp hj
    have jl := (List.getElem?_eq_some_iff.mp hy).1
    have la := pa.length
    simp only [List.length_map, List.length_take] at la
    refine ⟨b, _, rfl, SqT.of (s7 _ _ hb), rfl, _, _, rfl, _, _, rfl, rfl, rfl, ?_⟩
    refine ⟨_, rfl, _, rfl, _, _, rfl, rfl, _, rfl, _, rfl, _, _, rfl, rfl, by show 2 ≤ sizeLine; decide, fun d nd => ?_⟩
    have k8 := sm_new (o := .tup [.int ((c : Int) + (y.1 : Int)), .int ((c : Int) + (y.2 : Int))]) nd
    have hacc8 := k8 _ _ hacc
    have tk9 := (Tk.of k8).trans (tk_lst (o := .lst (acc ++ [.ref d])) hacc8)
    refine ⟨acc, hacc8, smallL _ (by omega), acc ++ [V.ref d], upd_same, ?_, sm_mut (s7.trans k8) nD⟩
    rw [List.take_add_one, hy, List.map_append]
    exact pd_append (prs_keep tk9 pa) (.cons ⟨d, rfl, tk_lst hacc8 _ _ upd_same⟩ .nil)
  · rintro H7 ⟨acc, hacc, pa, s7⟩
    rw [← hp.length, List.take_length] at pa
    exact q _ D acc s7 nD hacc pa
end
end Lp

namespace Lp
open PySem PySem.Spec PyProof.Rows L2
section
variable {P : Program} {w : World} {K : PySem.W.Frag} {mg : Str → Option Value} {base : Heap}
theorem cut_to (xs : List V) (i : Nat) : cutV xs none (some (i : Int)) = xs.take i := by
  unfold cutV
  rw [HT.sIx_none, HT.sIx_nat]
  show (xs.drop 0).take (min i xs.length - 0) = xs.take i
  rw [List.drop_zero, Nat.sub_zero]
  by_cases h : i ≤ xs.length
  · rw [Nat.min_eq_left h]
  · rw [Nat.min_eq_right (by omega), List.take_length, List.take_of_length_le (by omega)]
theorem cut_from (xs : List V) (i : Nat) : cutV xs (some (i : Int)) none = xs.drop i := by
  unfold cutV
  rw [HT.sIx_none, HT.sIx_nat]
  by_cases h : i ≤ xs.length
  · rw [Nat.min_eq_left h]
    exact List.take_of_length_le (by rw [List.length_drop]; omega)
  · rw [Nat.min_eq_right (by omega)]
    rw [List.drop_of_length_le (Nat.le_refl _), List.drop_of_length_le (by omega)]
    simp
theorem bes_len : ∀ (s : Sh) (st i : Nat), (bes s st i).length < s.size
  | .o, _, _ => by simp [bes_o, Sh.size]
  | .p l r, st, i => by
    have h1 := l.pos
    have h2 := r.pos
    simp only [Sh.size]
    by_cases h : i < st + l.size
    · have q := bes_len l st i
      rw [bes_l h, List.length_append, List.length_singleton]
      omega
    · have q := bes_len r (st + l.size) i
      rw [bes_r h, List.length_append, List.length_singleton]
      omega
def spBesIn : Sp := fun vs H Q _ => ∃ (s : Sh) (v : V) (i : Nat) (j : Int), vs = [v, .int j] ∧ j = (i : Int) ∧ ShAt H s v ∧ s.size ≤ 9 ∧ ∀ H' L us, Same H H' → H' L = some (.lst us) → PrsAt H' (bes s 0 i) us → Q (.ref L) H'
theorem ok_beside_in (T : Txt K mg) : Ok P w base 10 T.beside_in spBesIn := by
  have G_lumps_in := ok_lumps_in (P := P) (w := w) (base := base) T 9
  refine T.beside_in.fn.ok sc_beside_in (fun vs H Q E h => ?_) (fun cdv A outer s H vs Q E hr h => ?_)
  · obtain ⟨_, _, _, _, rfl, _⟩ := h
    rfl
  obtain ⟨t, v, i, _, rfl, rfl, hA, hz, q⟩ := h
  refine ⟨_, (pss_cons (ps_par (i := 2) (j := 3) rfl sc_beside_in.nd rfl rfl (by decide) rfl rfl (pa_cons (pe_lst pa_nil) (pa_cons pe_int pa_nil)) (by rfl))
      (pss_cons (ps_while PassesOwn.never (pt_cmpR (op_neD hr.units) (pv 0) (pe_tup pa_nil) (nomark _))
      (pss_cons (ps_set (i := 4) sc_beside_in.nd rfl (Or.inl rfl) (pe_op op_add (pv 3) (pe_ix ix_tup (pe_ix ix_list (pe_call G_lumps_in (hr.mono (by omega)) (by rfl) T.lumps_in.m T.lumps_in.fn.kp T.lumps_in.b .nil pass0 (pa_cons (pe_ix ix_tup (pv 0) pe_int (fun _ _ => rfl)) pa_nil)) pe_int (fun _ _ => rfl)) pe_int (fun _ _ => rfl))))
      (pss_cons (ps_if (pt_cmpR op_lt (pv 1) (pv 4) (nomark _))
      (pss_one (ps_expr (pe_bm PySem.F.plainAttrs_list PySem.F.slot_list_append PySem.F.type_list_append mt_append (pv 2) (pa_cons (pe_tup (pa_cons (pv 4) (pa_cons (pe_op op_add (pv 4) (pe_ix ix_tup (pe_ix ix_list (pe_call G_lumps_in (hr.mono (by omega)) (by rfl) T.lumps_in.m T.lumps_in.fn.kp T.lumps_in.b .nil pass0 (pa_cons (pe_ix ix_tup (pv 0) pe_int (fun _ _ => rfl)) pa_nil)) pe_int (fun _ _ => rfl)) pe_int (fun _ _ => rfl))) pa_nil))) pa_nil))))
      (pss_one (ps_expr (pe_bm PySem.F.plainAttrs_list PySem.F.slot_list_append PySem.F.type_list_append mt_append (pv 2) (pa_cons (pe_tup (pa_cons (pv 3) (pa_cons (pv 4) pa_nil))) pa_nil)))))
      (pss_one (ps_asg (pe_ifExp (pt_cmpR op_lt (pv 1) (pv 4) (nomark _)) (pe_tup (pa_cons (pv 3) (pa_cons (pe_ix ix_tup (pv 0) pe_int (fun _ _ => rfl)) pa_nil))) (pe_tup (pa_cons (pv 4) (pa_cons (pe_ix ix_tup (pv 0) pe_int (fun _ _ => rfl)) pa_nil)))) (pg_tup rfl (pgs_cons (pg_name (i := 3) sc_beside_in.nd rfl (Or.inl rfl)) (pgs_cons (pg_name (i := 0) sc_beside_in.nd rfl (Or.inl rfl)) pgs_nil))))))))
      (pss_one (ps_ret (pe_revL (pv 2)))))), ?_⟩
  refine ⟨Nat.zero_le _, fun F hF => ?_⟩
  have k1 := sm_new (o := .lst []) hF
  refine ⟨_, _, rfl, ?_⟩
  refine ⟨fun m σ H' => ∃ (c : Sh) (x : V) (st : Nat) (ps : List (Nat × Nat)) (ws : List V) (y : Option V), σ = [some x, some (.int (i : Int)), some (.ref F), some (.int (st : Int)), y] ∧ H' F = some (.lst ws) ∧ PrsAt H' ps ws ∧ ShAt H' c x ∧ bes t 0 i = bes c st i ++ ps.reverse ∧ ps.length + c.size ≤ 9 ∧ Same H H' ∧ m = c.size, ⟨_, t, v, 0, [], [], none, rfl, upd_same, .nil, hA.keep (Tk.of k1), by simp, by simpa using hz, k1, rfl⟩, ?_⟩
  rintro m σ H1 ⟨c, x, st, ps, ws, y, rfl, hw, hp, hx, eq, hn, sm, rfl⟩
  refine ⟨_, rfl, Nat.zero_le _, fun p np => ?_⟩
  have k2 := sm_new (o := .tup []) np
  have hx2 := hx.keep (Tk.of k2)
  have pc := c.pos
  refine ⟨_, _, hx2.dp, nil_dp upd_same, Sh.shaped (by omega), Sh.shaped (by decide), !decide (c = .o), by rw [Sh.eqv], ?_⟩
  have hw2 := k2 _ _ hw
  have sm2 := sm.trans k2
  cases c with
  | o =>
    refine iteF ⟨_, rfl, F, ws, rfl, SqL.of hw2, fun R nR => ?_⟩
    have k3 := sm_new (o := .lst ws.reverse) nR
    refine q _ R _ (sm2.trans k3) upd_same ?_
    rw [eq, bes_o, List.nil_append]
    exact prs_keep (Tk.of (k2.trans k3)) (pd_rev hp)
  | p l r =>
    obtain ⟨b, x1, x2, rfl, hb, h1, h2⟩ := hx2
    have pl := l.pos
    have pr := r.pos
    simp only [Sh.size] at hn
    refine iteT ⟨fun σ' H' => ∃ (m' : Nat), m' < (Sh.p l r).size ∧ ∃ (c : Sh) (x : V) (st : Nat) (ps : List (Nat × Nat)) (ws : List V) (y : Option V), σ' = [some x, some (.int (i : Int)), some (.ref F), some (.int (st : Int)), y] ∧ H' F = some (.lst ws) ∧ PrsAt H' ps ws ∧ ShAt H' c x ∧ bes t 0 i = bes c st i ++ ps.reverse ∧ ps.length + c.size ≤ 9 ∧ Same H H' ∧ m' = c.size, fun σ' H' h => h, ?_⟩
    refine ⟨_, rfl, _, rfl, b, _, _, x1, rfl, rfl, SqT.of hb, rfl, l, x1, rfl, h1, by omega, by omega, fun H3 L3 a3 us3 s3 hL3 _ _ h3 => ?_⟩
    refine ⟨L3, _, _, _, rfl, rfl, SqL.of hL3, atI_nat (j := 0) rfl, a3, _, _, _, rfl, rfl, SqT.of h3, rfl, _, _, rfl, rfl, ?_⟩
    refine ⟨_, rfl, _, rfl, _, _, rfl, rfl, _, rfl, ite2 (fun g => ?_) (fun g => ?_)⟩
    · have g' : (i : Int) < (st : Int) + (l.size : Int) := of_decide_eq_true g
      have hw3 := s3 _ _ hw2
      have hb3 := s3 _ _ hb
      refine ⟨_, rfl, .inl ⟨rfl, _, SqL.of hw3⟩, _, rfl, _, rfl, _, rfl, b, _, _, x2, rfl, rfl, SqT.of hb3, rfl, r, x2, rfl, h2.keep (Tk.of s3), by omega, by omega, fun H4 L4 a4 us4 s4 hL4 _ _ h4 => ?_⟩
      refine ⟨L4, _, _, _, rfl, rfl, SqL.of hL4, atI_nat (j := 0) rfl, a4, _, _, _, rfl, rfl, SqT.of h4, rfl, _, _, rfl, rfl, by show 2 ≤ sizeLine; decide, fun z nz => ?_⟩
      have k5 := sm_new (o := .tup [.int ((st : Int) + (l.size : Int)), .int ((st : Int) + (l.size : Int) + (r.size : Int))]) nz
      have hw5 := k5 _ _ (s4 _ _ hw3)
      have lw := hp.length
      refine ⟨F, ws, _, rfl, rfl, hw5, smallL _ (by omega), ?_⟩
      have tk6 := (Tk.of ((s3.trans s4).trans k5)).trans (tk_lst (o := .lst (ws ++ [.ref z])) hw5)
      have hb6 := tk6 _ _ hb
      refine ⟨_, rfl, _, rfl, _, _, rfl, rfl, true, congrArg V.bl (decide_eq_true g'), iteT ⟨_, rfl, _, rfl, b, _, _, x1, rfl, rfl, SqT.of hb6, rfl, by show 2 ≤ sizeLine; decide, fun y7 n7 => ?_⟩⟩
      have k7 := sm_new (o := .tup [.int (st : Int), x1]) n7
      refine ⟨y7, _, rfl, SqT.of upd_same, rfl, _, _, rfl, _, _, rfl, rfl, l.size, by simp only [Sh.size]; omega, l, x1, st, ps ++ [(st + l.size, st + l.size + r.size)], ws ++ [.ref z], some (.int ((st : Int) + (l.size : Int))), rfl, k7 _ _ upd_same, ?_, ?_, ?_, ?_, ?_, rfl⟩
      · exact pd_append (prs_keep ((Tk.of k2).trans (tk6.trans (Tk.of k7))) hp) (.cons ⟨z, rfl, k7 _ _ (tk_lst hw5 _ _ upd_same)⟩ .nil)
      · exact h1.keep (tk6.trans (Tk.of k7))
      · rw [eq, bes_l (by omega), List.reverse_append, List.append_assoc]
        rfl
      · rw [List.length_append, List.length_singleton]
        omega
      · exact (sm_mut (((sm2.trans s3).trans s4).trans k5) hF).trans k7
    · have g' : ¬ (i : Int) < (st : Int) + (l.size : Int) := of_decide_eq_false (Bool.eq_false_iff.mpr g)
      have hw3 := s3 _ _ hw2
      refine ⟨_, rfl, .inl ⟨rfl, _, SqL.of hw3⟩, _, rfl, _, rfl, by show 2 ≤ sizeLine; decide, fun z nz => ?_⟩
      have k5 := sm_new (o := .tup [.int (st : Int), .int ((st : Int) + (l.size : Int))]) nz
      have hw5 := k5 _ _ hw3
      have lw := hp.length
      refine ⟨F, ws, _, rfl, rfl, hw5, smallL _ (by omega), ?_⟩
      have tk6 := (Tk.of (s3.trans k5)).trans (tk_lst (o := .lst (ws ++ [.ref z])) hw5)
      have hb6 := tk6 _ _ hb
      refine ⟨_, rfl, _, rfl, _, _, rfl, rfl, false, congrArg V.bl (decide_eq_false g'), iteF ⟨_, rfl, _, rfl, b, _, _, x2, rfl, rfl, SqT.of hb6, rfl, by show 2 ≤ sizeLine; decide, fun y7 n7 => ?_⟩⟩
      have k7 := sm_new (o := .tup [.int ((st : Int) + (l.size : Int)), x2]) n7
      refine ⟨y7, _, rfl, SqT.of upd_same, rfl, _, _, rfl, _, _, rfl, rfl, r.size, by simp only [Sh.size]; omega, r, x2, st + l.size, ps ++ [(st, st + l.size)], ws ++ [.ref z], some (.int ((st : Int) + (l.size : Int))), rfl, k7 _ _ upd_same, ?_, ?_, ?_, ?_, ?_, rfl⟩
      · exact pd_append (prs_keep ((Tk.of k2).trans (tk6.trans (Tk.of k7))) hp) (.cons ⟨z, rfl, k7 _ _ (tk_lst hw5 _ _ upd_same)⟩ .nil)
      · exact h2.keep (tk6.trans (Tk.of k7))
      · rw [eq, bes_r (by omega), List.reverse_append, List.append_assoc]
        rfl
      · rw [List.length_append, List.length_singleton]
        omega
      · exact (sm_mut ((sm2.trans s3).trans k5) hF).trans k7
end
end Lp

namespace Lp
open PySem PySem.Spec PyProof.Rows L2
section
variable {P : Program} {w : World} {K : PySem.W.Frag} {mg : Str → Option Value} {base : Heap}
def side (b : Bool) : Str := if b then "left" else "right"
def spBesComb : Sp := fun vs H Q _ => ∃ (b : Bool) (n i : Nat) (jn ji : Int), vs = [.str (side b), .int jn, .int ji] ∧ jn = (n : Int) ∧ ji = (i : Int) ∧ 1 ≤ n ∧ n ≤ 1000 ∧ i < n ∧ ∀ H' L us, Same H H' → H' L = some (.lst us) → PrsAt H' (bes (comb b (n - 1)) 0 i) us → Q (.ref L) H'
theorem ok_beside_comb (T : Txt K mg) : Ok P w base 1 T.beside_comb spBesComb := by
  refine T.beside_comb.fn.ok sc_beside_comb (fun vs H Q E h => ?_) (fun cdv A outer s H vs Q E hr h => ?_)
  · obtain ⟨_, _, _, _, _, rfl, _⟩ := h
    rfl
  obtain ⟨b, n, i, _, _, rfl, rfl, rfl, n1, n2, hi, q⟩ := h
  refine ⟨_, (pss_cons (ps_if (pt_cmpR op_eq (pv 0) pe_str (nomark _))
      (pss_one (ps_ret (pe_op op_cat (pe_slice sl_list (pe_lst (pa_cons (pe_tup (pa_cons pe_int (pa_cons (pv 2) pa_nil))) pa_nil)) po_none (po_some (pv 2))) (pe_lc (own := [("k", 3)]) rfl sc_beside_comb.nd (pi_range2 rfl T.range_ (pa_cons (pe_callB (call_max2 rfl) (by rfl) T.max_ (by decide +kernel) (pa_cons pe_int (pa_cons (pe_op op_add (pv 2) pe_int) pa_nil))) (pa_cons (pv 1) pa_nil))) (blkOk_by (own := [("k", 3)]) (N := ["end", "n", "i", "k"]) (sc := defScope s_beside_comb) (by decide +kernel)) (fun _ _ _ _ _ => (pg_name (i := 3) sc_beside_comb.nd rfl (Or.inl rfl))) (fun _ _ _ _ _ => pts_nil) (fun _ _ _ _ _ => (pe_tup (pa_cons (pv 3) (pa_cons (pe_op op_add (pv 3) pe_int) pa_nil))))))))
      pss_nil)
      (pss_one (ps_ret (pe_op op_cat (pe_slice sl_list (pe_lst (pa_cons (pe_tup (pa_cons (pe_op op_add (pv 2) pe_int) (pa_cons (pv 1) pa_nil))) pa_nil)) po_none (po_some (pe_op op_sub (pe_op op_sub (pv 1) pe_int) (pv 2)))) (pe_revL (pe_lc (own := [("k", 3)]) rfl sc_beside_comb.nd (pi_range1 rfl T.range_ (pa_cons (pv 2) pa_nil)) (blkOk_by (own := [("k", 3)]) (N := ["end", "n", "i", "k"]) (sc := defScope s_beside_comb) (by decide +kernel)) (fun _ _ _ _ _ => (pg_name (i := 3) sc_beside_comb.nd rfl (Or.inl rfl))) (fun _ _ _ _ _ => pts_nil) (fun _ _ _ _ _ => (pe_tup (pa_cons (pv 3) (pa_cons (pe_op op_add (pv 3) pe_int) pa_nil)))))))))), ?_⟩
  cases b with
  | true =>
    refine ⟨_, rfl, rfl, true, by decide +kernel, iteT ?_⟩
    refine ⟨_, rfl, by show 2 ≤ sizeLine; decide, fun p0 np0 => ⟨by show 1 ≤ sizeLine; decide, fun L0 nL0 => ?_⟩⟩
    have k1 := sm_new (o := .tup [.int 0, .int (i : Int)]) np0
    have k2 := sm_new (o := .lst [.ref p0]) nL0
    refine ⟨_, rfl, (i : Int), rfl, L0, _, rfl, SqL.of upd_same, fun L1 nL1 => ?_⟩
    have k3 := sm_new (o := .lst (cutV [.ref p0] none (some (i : Int)))) nL1
    have hL1 : upd (upd (upd H p0 (.tup [.int 0, .int (i : Int)])) L0 (.lst [.ref p0])) L1 (.lst (cutV [.ref p0] none (some (i : Int)))) L1 = some (.lst ([V.ref p0].take i)) := by rw [upd_same, cut_to]
    have hp0 := k3 _ _ (k2 _ _ (upd_same (H := H) (a := p0) (o := .tup [.int 0, .int (i : Int)])))
    have e3 := (k1.trans k2).trans k3
    generalize upd (upd (upd H p0 (.tup [.int 0, .int (i : Int)])) L0 (.lst [.ref p0])) L1 (.lst (cutV [.ref p0] none (some (i : Int)))) = H3 at hL1 hp0 e3
    have mx : (if (i : Int) + 1 > 1 then (i : Int) + 1 else 1) = ((max 1 (i + 1) : Nat) : Int) := by split <;> omega
    have mle : max 1 (i + 1) ≤ n := by omega
    refine ⟨_, rfl, _, _, rfl, rfl, _, _, rfl, _, rfl, ((max 1 (i + 1) : Nat) : Int), (n : Int), ?_, by omega, ?_⟩
    · exact congrArg (fun z => [V.int z, V.int (n : Int)]) mx
    generalize hM : max 1 (i + 1) = M at mle
    intro D nD
    have k4 := sm_new (o := .lst []) nD
    have en : ((n : Int) - (M : Int)).toNat = n - M := by omega
    rw [en]
    refine lc_range (lo := (M : Int)) (n := n - M) (fun j H' => ∃ acc, H' D = some (.lst acc) ∧ PrsAt H' ((List.range j).map fun d => (M + d, M + d + 1)) acc ∧ Same H3 H') ⟨[], upd_same, .nil, k4⟩ ?_ ?_
    · rintro j H7 hj ⟨acc, hacc, pa, s7⟩
      have la := pa.length
      simp only [List.length_map, List.length_range] at la
      refine ⟨rfl, ?_⟩
      refine ⟨_, rfl, _, rfl, _, _, rfl, rfl, by show 2 ≤ sizeLine; decide, fun d nd => ?_⟩
      have k8 := sm_new (o := .tup [.int ((M : Int) + (j : Int)), .int ((M : Int) + (j : Int) + 1)]) nd
      have hacc8 := k8 _ _ hacc
      have tk9 := (Tk.of k8).trans (tk_lst (o := .lst (acc ++ [.ref d])) hacc8)
      refine ⟨acc, hacc8, smallL _ (by omega), acc ++ [V.ref d], upd_same, ?_, sm_mut (s7.trans k8) nD⟩
      rw [List.range_succ, List.map_append]
      exact pd_append (prs_keep tk9 pa) (.cons ⟨d, rfl, tk_lst hacc8 _ _ upd_same⟩ .nil)
    · rintro H7 ⟨acc, hacc, pa, s7⟩
      have la := pa.length
      simp only [List.length_map, List.length_range] at la
      refine ⟨L1, D, _, _, rfl, rfl, s7 _ _ hL1, hacc, small _ (by rw [List.length_take]; simp only [List.length_cons, List.length_nil]; omega), fun L nL => ?_⟩
      have k9 := sm_new (o := .lst ([V.ref p0].take i ++ acc)) nL
      refine q _ L _ ((e3.trans s7).trans k9) upd_same ?_
      rw [comb_l (n - 1) i (by omega), hM, show n - 1 + 1 - M = n - M by omega]
      refine pd_append ?_ (prs_keep (Tk.of k9) pa)
      cases i with
      | zero => exact .nil
      | succ i => exact .cons ⟨p0, rfl, k9 _ _ (s7 _ _ hp0)⟩ (by rw [List.take_nil]; exact .nil)
  | false =>
    refine ⟨_, rfl, rfl, false, by decide +kernel, iteF ?_⟩
    refine ⟨_, rfl, _, _, rfl, rfl, _, rfl, by show 2 ≤ sizeLine; decide, fun p0 np0 => ⟨by show 1 ≤ sizeLine; decide, fun L0 nL0 => ?_⟩⟩
    have k1 := sm_new (o := .tup [.int ((i : Int) + 1), .int (n : Int)]) np0
    have k2 := sm_new (o := .lst [.ref p0]) nL0
    have ec : (n : Int) - 1 - (i : Int) = ((n - 1 - i : Nat) : Int) := by omega
    refine ⟨_, rfl, _, _, rfl, rfl, _, rfl, _, _, rfl, rfl, (n : Int) - 1 - (i : Int), rfl, L0, _, rfl, SqL.of upd_same, ?_⟩
    rw [ec]
    intro L1 nL1
    have k3 := sm_new (o := .lst (cutV [.ref p0] none (some ((n - 1 - i : Nat) : Int)))) nL1
    have hL1 : upd (upd (upd H p0 (.tup [.int ((i : Int) + 1), .int (n : Int)])) L0 (.lst [.ref p0])) L1 (.lst (cutV [.ref p0] none (some ((n - 1 - i : Nat) : Int)))) L1 = some (.lst ([V.ref p0].take (n - 1 - i))) := by rw [upd_same, cut_to]
    have hp0 := k3 _ _ (k2 _ _ (upd_same (H := H) (a := p0) (o := .tup [.int ((i : Int) + 1), .int (n : Int)])))
    have e3 := (k1.trans k2).trans k3
    generalize upd (upd (upd H p0 (.tup [.int ((i : Int) + 1), .int (n : Int)])) L0 (.lst [.ref p0])) L1 (.lst (cutV [.ref p0] none (some ((n - 1 - i : Nat) : Int)))) = H3 at hL1 hp0 e3
    refine ⟨_, rfl, (i : Int), rfl, by omega, by omega, ?_⟩
    intro D nD
    have k4 := sm_new (o := .lst []) nD
    rw [Int.toNat_natCast]
    refine lc_range (lo := 0) (n := i) (fun j H' => ∃ acc, H' D = some (.lst acc) ∧ PrsAt H' ((List.range j).map fun d => (0 + d, 0 + d + 1)) acc ∧ Same H3 H') ⟨[], upd_same, .nil, k4⟩ ?_ ?_
    · rintro j H7 hj ⟨acc, hacc, pa, s7⟩
      have la := pa.length
      simp only [List.length_map, List.length_range] at la
      refine ⟨rfl, ?_⟩
      refine ⟨_, rfl, _, rfl, _, _, rfl, rfl, by show 2 ≤ sizeLine; decide, fun d nd => ?_⟩
      have k8 := sm_new (o := .tup [.int ((0 : Int) + (j : Int)), .int ((0 : Int) + (j : Int) + 1)]) nd
      have hacc8 := k8 _ _ hacc
      have tk9 := (Tk.of k8).trans (tk_lst (o := .lst (acc ++ [.ref d])) hacc8)
      refine ⟨acc, hacc8, smallL _ (by omega), acc ++ [V.ref d], upd_same, ?_, sm_mut (s7.trans k8) nD⟩
      rw [List.range_succ, List.map_append]
      refine pd_append (prs_keep tk9 pa) (.cons ⟨d, rfl, ?_⟩ .nil)
      have z := tk_lst (o := .lst (acc ++ [.ref d])) hacc8 _ _ upd_same
      rw [z]
      have e0 : (0 : Int) + (j : Int) = ((0 + j : Nat) : Int) := by omega
      rw [e0]
      rfl
    · rintro H7 ⟨acc, hacc, pa, s7⟩
      have la := pa.length
      simp only [List.length_map, List.length_range] at la
      refine ⟨D, acc, rfl, SqL.of hacc, fun R nR => ?_⟩
      have k8 := sm_new (o := .lst acc.reverse) nR
      refine ⟨L1, R, _, _, rfl, rfl, k8 _ _ (s7 _ _ hL1), upd_same, small _ (by rw [List.length_take, List.length_reverse]; simp only [List.length_cons, List.length_nil]; omega), fun L nL => ?_⟩
      have k9 := sm_new (o := .lst ([V.ref p0].take (n - 1 - i) ++ acc.reverse)) nL
      refine q _ L _ (((e3.trans s7).trans k8).trans k9) upd_same ?_
      have pp := prs_keep (Tk.of (k8.trans k9)) (pd_rev pa)
      have hp9 := k9 _ _ (k8 _ _ (s7 _ _ hp0))
      generalize upd (upd H7 R (HO.lst acc.reverse)) L (HO.lst (List.take (n - 1 - i) [V.ref p0] ++ acc.reverse)) = H9 at pp hp9
      rw [comb_r (n - 1) 0 i (by omega) (by omega), Nat.sub_zero]
      refine pd_append ?_ pp
      by_cases c : i < 0 + (n - 1)
      · rw [if_pos c, List.take_of_length_le (by simp only [List.length_cons, List.length_nil]; omega)]
        refine .cons ⟨p0, rfl, ?_⟩ .nil
        have e0 : ((0 + (n - 1) + 1 : Nat) : Int) = (n : Int) := by omega
        show _ = some (HO.tup [V.int ((i + 1 : Nat) : Int), V.int ((0 + (n - 1) + 1 : Nat) : Int)])
        rw [e0]
        exact hp9
      · rw [if_neg c, show n - 1 - i = 0 by omega]
        exact .nil
end
end Lp

namespace Lp
open PySem PySem.Spec PyProof.Rows L2
section
variable {P : Program} {w : World} {K : PySem.W.Frag} {mg : Str → Option Value} {base : Heap}
theorem row_step_len {m L : Nat} (h : 1 ≤ m) : (m + L) / (L + 1) = (m - 1) / (L + 1) + 1 := by
  rw [← Nat.add_div_right _ (by omega)]
  congr 1
  omega
theorem row_le {pl : Pl} (ok : PlOk pl) (n k : Nat) : (rowAt pl n k).length ≤ n := by
  have a := row_all ok n k
  have b := len_sizes (rowAt pl n k)
  omega
theorem mem_sizes {x : Sh} : ∀ {l : List Sh}, x ∈ l → x.size ≤ sizes l
  | y :: l, h => by
    simp only [sizes]
    rcases List.mem_cons.mp h with e | e
    · rw [e]; omega
    · have := mem_sizes e
      omega
theorem besA_len {pl : Pl} (ok : PlOk pl) {n i k : Nat} {x : Sh} {ps : List (Nat × Nat)} (h : (rowAt pl n k)[i / times pl k]? = some x) (e : ps = bes x (sizes ((rowAt pl n k).take (i / times pl k))) i) : ps.length < n := by
  have a := row_all ok n k
  have b := mem_sizes (List.mem_of_getElem? h)
  have c := bes_len x (sizes ((rowAt pl n k).take (i / times pl k))) i
  rw [e]
  omega
abbrev scale (T n : Nat) (z : Nat × Nat) : Nat × Nat := (z.1 * T, min (z.2 * T) n)
def spBeside (C : Addr) : Sp := fun vs H Q _ => ∃ (pl : Pl) (v : V) (n i kk : Nat) (s : Sh) (jn ji : Int), vs = [v, .int jn, .int ji] ∧ jn = (n : Int) ∧ ji = (i : Int) ∧ i < n ∧ n ≤ 100 ∧ PlanAt C H pl v ∧ PlOk pl ∧ IsTold pl n s kk ∧
  ∀ H' L us, Same H H' → H L = none → H' L = some (.lst us) → PrsAt H' (bes s 0 i) us → Q (.ref L) H'
/-- where the loop stands -/
def BesA (pl : Pl) (n i k : Nat) (x : Sh) (ps : List (Nat × Nat)) : Prop :=
  (∀ j, j < k → 1 < (rowAt pl n j).length ∧ (pl.stage j).isSome = true) ∧ (rowAt pl n k)[i / times pl k]? = some x ∧ ps = bes x (sizes ((rowAt pl n k).take (i / times pl k))) i
theorem ok_beside (T : Txt K mg) : Ok P w base 12 T.beside (spBeside T.cP) := by
  have G_stage := ok_stage (P := P) (w := w) (base := base) T
  have G_end_ := ok_end_ (P := P) (w := w) (base := base) T
  have G_beside_comb := ok_beside_comb (P := P) (w := w) (base := base) T
  have G_table_size := ok_table_size (P := P) (w := w) (base := base) T
  have G_moved := ok_moved (P := P) (w := w) (base := base) T
  have G_beside_in := ok_beside_in (P := P) (w := w) (base := base) T
  have G_entry := ok_entry (P := P) (w := w) (base := base) T
  have G_last_stretch := ok_last_stretch (P := P) (w := w) (base := base) T
  refine T.beside.fn.ok sc_beside (fun vs H Q E h => ?_) (fun cdv A outer s H vs Q E hr h => ?_)
  · obtain ⟨_, _, _, _, _, _, _, _, rfl, _⟩ := h
    rfl
  obtain ⟨pl, v, n, i, kk, sh, _, _, rfl, rfl, rfl, hi, n2, hv, ok, told, q⟩ := h
  refine ⟨_, (pss_cons (ps_asg (pe_tup (pa_cons (pe_lst pa_nil) (pa_cons (pv 1) (pa_cons pe_int (pa_cons pe_int pa_nil))))) (pg_tup rfl (pgs_cons (pg_name (i := 3) sc_beside.nd rfl (Or.inl rfl)) (pgs_cons (pg_name (i := 4) sc_beside.nd rfl (Or.inr rfl)) (pgs_cons (pg_name (i := 5) sc_beside.nd rfl (Or.inr rfl)) (pgs_cons (pg_name (i := 6) sc_beside.nd rfl (Or.inl rfl)) pgs_nil))))))
      (pss_cons (ps_while PassesOwn.never (pt_cmpR op_gt (pv 1) pe_int (nomark _))
      (pss_cons (ps_set (i := 7) sc_beside.nd rfl (Or.inl rfl) (pe_meth (pv 0) T.clPlan T.m_stage G_stage (hr.mono (by omega)) T.stage.b .nil pass0 (pa_cons (pv 6) pa_nil)))
      (Evl.pss_cut (ps_if (pt_cmpR op_isN (pv 7) pe_non (nomark _))
      (pss_one (ps_par3 (i := 8) (j := 1) (l := 2) rfl sc_beside.nd rfl rfl rfl (by decide) (by decide) (by decide) rfl rfl rfl (pa_cons (pe_call G_beside_comb (hr.mono (by omega)) (by rfl) T.beside_comb.m T.beside_comb.fn.kp T.beside_comb.b .nil pass0 (pa_cons (pe_meth0 (pv 0) T.clPlan T.m_end_ G_end_ (hr.mono (by omega)) T.end_.b .nil pass0) (pa_cons (pv 1) (pa_cons (pv 2) pa_nil)))) (pa_cons pe_int (pa_cons pe_int pa_nil))) (by rfl)))
      (pss_cons (ps_set (i := 9) sc_beside.nd rfl (Or.inl rfl) (pe_call G_table_size (hr.mono (by omega)) (by rfl) T.table_size.m T.table_size.fn.kp T.table_size.b .nil pass0 (pa_cons (pv 7) pa_nil)))
      (pss_cons (ps_set (i := 10) sc_beside.nd rfl (Or.inl rfl) (pe_op op_mul (pe_op op_fdiv (pv 2) (pv 9)) (pv 9)))
      (pss_cons (ps_set (i := 8) sc_beside.nd rfl (Or.inl rfl) (pe_call G_moved (hr.mono (by omega)) (by rfl) T.moved.m T.moved.fn.kp T.moved.b .nil pass0 (pa_cons (pe_call G_beside_in (hr.mono (by omega)) (by rfl) T.beside_in.m T.beside_in.fn.kp T.beside_in.b .nil pass0 (pa_cons (pe_call G_entry (hr.mono (by omega)) (by rfl) T.entry.m T.entry.fn.kp T.entry.b .nil pass0 (pa_cons (pv 7) (pa_cons (pe_callB (call_min2 rfl) (by rfl) T.min_ (by decide +kernel) (pa_cons (pv 9) (pa_cons (pe_op op_sub (pv 1) (pv 10)) pa_nil))) pa_nil))) (pa_cons (pe_op op_sub (pv 2) (pv 10)) pa_nil))) (pa_cons (pv 10) pa_nil))))
      (pss_one (ps_par (i := 1) (j := 2) rfl sc_beside.nd rfl rfl (by decide) rfl rfl (pa_cons (pe_op op_add (pe_ix ix_tup (pe_call G_last_stretch (hr.mono (by omega)) (by rfl) T.last_stretch.m T.last_stretch.fn.kp T.last_stretch.b .nil pass0 (pa_cons (pv 1) (pa_cons (pv 9) pa_nil))) pe_int (fun _ _ => rfl)) pe_int) (pa_cons (pe_op op_fdiv (pv 2) (pv 9)) pa_nil)) (by rfl)))))))
      (pss_cons (ps_expr (pe_bm PySem.F.plainAttrs_list PySem.F.slot_list_extend PySem.F.type_list_extend mt_extend (pv 3) (pa_cons (pe_lc (own := [("a", 11), ("b", 12)]) rfl sc_beside.nd (pi_list (pv 8)) (blkOk_by (own := [("a", 11), ("b", 12)]) (N := ["plan", "n", "i", "found", "whole", "times", "k", "table", "pairs", "size", "start", "a", "b"]) (sc := defScope s_beside) (by decide +kernel)) (fun _ _ _ _ _ => (pg_tupK (K := K) (n := 2) rfl rfl (pgs_cons (pg_name (i := 11) sc_beside.nd rfl (Or.inl rfl)) (pgs_cons (pg_name (i := 12) sc_beside.nd rfl (Or.inl rfl)) pgs_nil)))) (fun _ _ _ _ _ => pts_nil) (fun _ _ _ _ _ => (pe_tup (pa_cons (pe_op op_mul (pv 11) (pv 5)) (pa_cons (pe_callB (call_min2 rfl) (by rfl) T.min_ (by decide +kernel) (pa_cons (pe_op op_mul (pv 12) (pv 5)) (pa_cons (pv 4) pa_nil))) pa_nil))))) pa_nil)))
      (pss_one (ps_asg (pe_tup (pa_cons (pe_op op_mul (pv 5) (pe_ifExp (pt_cmpR op_isN (pv 7) pe_non (nomark _)) pe_int (pv 9))) (pa_cons (pe_op op_add (pv 6) pe_int) pa_nil))) (pg_tup rfl (pgs_cons (pg_name (i := 5) sc_beside.nd rfl (Or.inr rfl)) (pgs_cons (pg_name (i := 6) sc_beside.nd rfl (Or.inl rfl)) pgs_nil)))))))))
      (pss_one (ps_ret (pv 3))))), ?_⟩
  refine ⟨Nat.zero_le _, fun F hF => ⟨_, rfl, by show 4 ≤ sizeLine; decide, fun p0 np0 => ?_⟩⟩
  have k1 := sm_new (o := .lst []) hF
  have k2 := sm_new (o := .tup [.ref F, .int (n : Int), .int 1, .int 0]) np0
  have sm0 := k1.trans k2
  refine ⟨p0, _, rfl, SqT.of upd_same, rfl, _, _, rfl, _, _, rfl, _, _, rfl, _, _, rfl, rfl, ?_⟩
  refine ⟨fun m σ H' => ∃ (n' i' T' k' : Nat) (x7 x8 x9 x10 x11 x12 : Option V) (ws : List V) (ps : List (Nat × Nat)), σ = [some v, some (.int (n' : Int)), some (.int (i' : Int)), some (.ref F), some (.int (n : Int)), some (.int (T' : Int)), some (.int (k' : Int)), x7, x8, x9, x10, x11, x12] ∧
      H' F = some (.lst ws) ∧ PrsAt H' ps ws ∧ Same H H' ∧ ((m = n' + 1 ∧ n' = (rowAt pl n k').length ∧ i' = i / times pl k' ∧ T' = times pl k' ∧ ∃ x, BesA pl n i k' x ps) ∨ (m = 0 ∧ n' = 1 ∧ ps = bes sh 0 i)), ?_, ?_⟩
  · refine ⟨n + 1, n, i, 1, 0, none, none, none, none, none, none, [], [], rfl, k2 _ _ upd_same, .nil, sm0, .inl ⟨rfl, by simp [rowAt], by simp [times], rfl, .o, fun j hj => by omega, ?_, rfl⟩⟩
    simp [rowAt, times, hi]
  rintro m σ H1 ⟨n', i', T', k', x7, x8, x9, x10, x11, x12, ws, ps, rfl, hw, hp, sm, st⟩
  refine ⟨_, rfl, _, _, rfl, rfl, _, rfl, ite2 (fun g => ?_) (fun g => ?_)⟩
  case refine_2 =>
    have g' : ¬ (1 : Int) < (n' : Int) := of_decide_eq_false (Bool.eq_false_iff.mpr g)
    refine ⟨_, rfl, q _ F ws sm hF hw ?_⟩
    rcases st with ⟨_, e1, e2, e3, x, run, hx, e4⟩ | ⟨_, _, e4⟩
    · have le1 : (rowAt pl n k').length ≤ 1 := by omega
      have ek := told_one told run (.inl le1)
      rw [told.eq, ek, bes_one ok hi hx le1, ← e4]
      exact hp
    · rw [← e4]
      exact hp
  case refine_1 =>
    have g' : (1 : Int) < (n' : Int) := of_decide_eq_true g
    obtain ⟨em, e1, e2, e3, x, run, hx, e4⟩ := st.resolve_right (by rintro ⟨_, e1, _⟩; omega)
    obtain ⟨r1, r2, r3⟩ := row_at ok hi k'
    have rl := row_le ok n k'
    have hv1 := hv.keep sm
    obtain ⟨b, dx, fs, rfl, hb, f1, f2⟩ := hv1.ins
    refine ⟨fun σ' H' => ∃ (m' : Nat), m' < m ∧ ∃ (n' i' T' k' : Nat) (x7 x8 x9 x10 x11 x12 : Option V) (ws : List V) (ps : List (Nat × Nat)), σ' = [some (.ref b), some (.int (n' : Int)), some (.int (i' : Int)), some (.ref F), some (.int (n : Int)), some (.int (T' : Int)), some (.int (k' : Int)), x7, x8, x9, x10, x11, x12] ∧
      H' F = some (.lst ws) ∧ PrsAt H' ps ws ∧ Same H H' ∧ ((m' = n' + 1 ∧ n' = (rowAt pl n k').length ∧ i' = i / times pl k' ∧ T' = times pl k' ∧ ∃ x, BesA pl n i k' x ps) ∨ (m' = 0 ∧ n' = 1 ∧ ps = bes sh 0 i)), fun σ' H' h => h, ?_⟩
    refine ⟨_, rfl, b, dx, fs, rfl, hb, f1, _, rfl, pl, _, k', _, rfl, rfl, hv1, ok, fun u hu => ?_⟩
    -- the word between
    refine ⟨fun σ' H' => ∃ (n2 i2 : Nat) (PL : Addr) (x9 x10 : Option V) (pw : List V) (qs : List (Nat × Nat)), σ' = [some (.ref b), some (.int (n2 : Int)), some (.int (i2 : Int)), some (.ref F), some (.int (n : Int)), some (.int (T' : Int)), some (.int (k' : Int)), some u, some (.ref PL), x9, x10, x11, x12] ∧
      H' F = some (.lst ws) ∧ H' PL = some (.lst pw) ∧ PrsAt H' ps ws ∧ PrsAt H' qs pw ∧ Same H H' ∧ (∀ z ∈ qs, z.1 ≤ 1000 ∧ z.2 ≤ 1000) ∧ qs.length ≤ 1000 ∧
      ((u = .non ∧ n2 = 1 ∧ ps ++ qs.map (scale T' n) = bes sh 0 i) ∨
       (u ≠ .non ∧ ∃ t, pl.stage k' = some t ∧ x9 = some (.int ((t.length + 1 : Nat) : Int)) ∧ n2 = (rowAt pl n (k' + 1)).length ∧ i2 = i / times pl (k' + 1) ∧ ∃ x', BesA pl n i (k' + 1) x' (ps ++ qs.map (scale T' n)))), ?_, ?_⟩
    · cases es : pl.stage k' with
      | none =>
        rw [es] at hu
        obtain rfl : u = .non := hu
        refine ⟨_, rfl, rfl, true, rfl, iteT ?_⟩
        have ek := told_one told run (.inr es)
        refine ⟨_, rfl, b, dx, fs, rfl, hb, f2, pl, _, rfl, hv1, fun u2 hu2 => ?_⟩
        have su : u2 = .str (side pl.en.isLeft) := by
          rcases en_flat ok es with e | e <;> rw [e] at hu2 ⊢ <;> exact hu2
        subst su
        refine ⟨_, rfl, _, rfl, pl.en.isLeft, n', i', _, _, rfl, rfl, rfl, by omega, by omega, by omega, fun H2 PL pw s2 hPL hpw => ?_⟩
        refine ⟨_, _, _, rfl, 1, 0, PL, x9, x10, pw, _, rfl, s2 _ _ hw, hPL, prs_keep (Tk.of s2) hp, hpw, sm.trans s2, fun z hz => ?_, ?_, .inl ⟨rfl, rfl, ?_⟩⟩
        · have q1 := bes_in _ _ _ z hz
          rw [comb_size] at q1
          omega
        · have q1 := bes_len (comb pl.en.isLeft (n' - 1)) 0 i'
          rw [comb_size] at q1
          omega
        · have bl := bes_last ok hi hx (by omega)
          rw [told.eq, ek, bl, ← e4, e2, e1, e3]
      | some t =>
        rw [es] at hu
        have tok := Pl.stage_ok ok es
        have tl := tok.le
        have tn := tok.ne
        have un : u ≠ .non := by
          obtain ⟨y, _, rfl, _⟩ := hu
          intro z
          cases z
        refine ⟨_, rfl, rfl, false, congrArg V.bl (decide_eq_false un), iteF ?_⟩
        refine ⟨_, rfl, t, u, rfl, hu, ?_⟩
        have c1 : (i' : Int) / ((t.length + 1 : Nat) : Int) = ((i' / (t.length + 1) : Nat) : Int) := by rw [Int.natCast_ediv]
        have c2 : ((i' / (t.length + 1) : Nat) : Int) * ((t.length + 1 : Nat) : Int) = ((i' / (t.length + 1) * (t.length + 1) : Nat) : Int) := by rw [Int.natCast_mul]
        have d1 := Nat.div_mul_le_self i' (t.length + 1)
        have d2 : i' < i' / (t.length + 1) * (t.length + 1) + (t.length + 1) := by
          have q := Nat.lt_mul_div_succ i' (show 0 < t.length + 1 by omega)
          rw [Nat.mul_comm, Nat.add_mul] at q
          omega
        refine ⟨_, rfl, _, rfl, _, _, rfl, rfl, ⟨by omega, by omega⟩, _, rfl, _, _, rfl, rfl, .inr ⟨by omega, by omega⟩, ?_⟩
        have stp := @bes_step pl ok n i k' hi t es x
        have r1n := (row_at ok hi (k' + 1)).1
        obtain ⟨x', hx'⟩ : ∃ x', (rowAt pl n (k' + 1))[i / times pl (k' + 1)]? = some x' := ⟨_, List.getElem?_eq_getElem r1n⟩
        have stp' := stp hx hx'
        rw [← e4, ← e2, ← e1, ← e3] at stp'
        have tdiv : i / times pl (k' + 1) = i' / (t.length + 1) := by rw [times_some es, ← Nat.div_div_eq_div_mul, ← e2]
        have rlen : (rowAt pl n (k' + 1)).length = (n' - 1) / (t.length + 1) + 1 := by rw [row_some es, press_len, ← e1, row_step_len (by omega)]
        generalize hc : i' / (t.length + 1) * (t.length + 1) = c at c2 d1 d2 stp'
        have mn : (if (n' : Int) - (i' : Int) / ((t.length + 1 : Nat) : Int) * ((t.length + 1 : Nat) : Int) < ((t.length + 1 : Nat) : Int) then (n' : Int) - (i' : Int) / ((t.length + 1 : Nat) : Int) * ((t.length + 1 : Nat) : Int) else ((t.length + 1 : Nat) : Int)) = ((min (t.length + 1) (n' - c) : Nat) : Int) := by
          rw [c1, c2]
          split <;> omega
        refine ⟨_, rfl, _, rfl, _, rfl, _, rfl, _, _, rfl, rfl, _, _, rfl, t, u, min (t.length + 1) (n' - c), _, rfl, mn, hu, by omega, by omega, fun y H2 s2 hy => ?_⟩
        have sz := entry_size tok (m := min (t.length + 1) (n' - c)) (by omega) (by omega)
        have cc : (i' : Int) - (i' : Int) / ((t.length + 1 : Nat) : Int) * ((t.length + 1 : Nat) : Int) = ((i' - c : Nat) : Int) := by
          rw [c1, c2]
          omega
        refine ⟨_, rfl, _, rfl, _, _, rfl, rfl, _, y, i' - c, _, rfl, cc, hy, by omega, fun H3 L3 us3 s3 hL3 hp3 => ?_⟩
        have bl := bes_len (entry t (min (t.length + 1) (n' - c))) 0 (i' - c)
        refine ⟨_, rfl, L3, us3, _, c, _, rfl, by show (i' : Int) / ((t.length + 1 : Nat) : Int) * ((t.length + 1 : Nat) : Int) = _; rw [c1, c2], hL3, hp3, by omega, fun H4 PL pw s4 nPL hPL hpw => ?_⟩
        refine ⟨_, rfl, _, rfl, n', t.length + 1, _, _, rfl, rfl, rfl, by omega, by omega, by omega, fun a5 H5 s5 h5 => ?_⟩
        refine ⟨a5, _, _, _, rfl, rfl, SqT.of h5, rfl, _, _, rfl, rfl, _, rfl, _, rfl, _, _, rfl, rfl, ⟨by omega, by omega⟩, _, _, rfl, ?_⟩
        have s25 := ((s2.trans s3).trans s4).trans s5
        refine ⟨(n' - 1) / (t.length + 1) + 1, i' / (t.length + 1), PL, some (.int ((t.length + 1 : Nat) : Int)), some (.int ((i' : Int) / ((t.length + 1 : Nat) : Int) * ((t.length + 1 : Nat) : Int))), pw, _, ?_, s25 _ _ hw, s5 _ _ hPL, prs_keep (Tk.of s25) hp, prs_keep (Tk.of s5) hpw, sm.trans s25, fun z hz => ?_, ?_, .inr ⟨un, t, rfl, rfl, rlen.symm, tdiv.symm, x', fun j hj => ?_, hx', ?_⟩⟩
        · rw [← c1]
          rfl
        · obtain ⟨y2, hy2, rfl⟩ := List.mem_map.mp hz
          have q1 := bes_in _ _ _ y2 hy2
          show c + y2.1 ≤ 1000 ∧ c + y2.2 ≤ 1000
          omega
        · rw [List.length_map]
          omega
        · by_cases e : j < k'
          · exact run j e
          · obtain rfl : j = k' := by omega
            rw [es]
            exact ⟨by omega, rfl⟩
        · rw [stp', List.map_map]
          rfl
    · -- found.extend, times, k
      rintro σ' H2 ⟨n2', i2, PL, y9, y10, pw, qs, rfl, hw2, hPL, hp2, hq2, sm2, bnd, ql, alt⟩
      refine ⟨_, rfl, .inl ⟨rfl, _, SqL.of hw2⟩, _, rfl, PL, rfl, ⟨_, SqL.of hPL⟩, fun D nD => ?_⟩
      have k4 := sm_new (o := .lst []) nD
      refine lc_list (K := K) (a := PL) (xs := pw) (fun j H' => ∃ acc, H' D = some (.lst acc) ∧ PrsAt H' ((qs.take j).map (scale T' n)) acc ∧ Same H2 H') ⟨[], upd_same, .nil, k4⟩ (fun j H' _ h => ?_) ?_ ?_
      · obtain ⟨_, _, _, s7⟩ := h
        exact SqL.of (s7 _ _ hPL)
      · rintro j z H7 hj ⟨acc, hacc, pa, s7⟩
        obtain ⟨y, hy, c, rfl, hc⟩ := pd_getR hq2 hj
        obtain ⟨bd1, bd2⟩ := bnd y (List.mem_of_getElem? hy)
        have la := pa.length
        simp only [List.length_map, List.length_take] at la
        refine ⟨c, _, rfl, SqT.of (s7 _ _ hc), rfl, _, _, rfl, _, _, rfl, rfl, rfl, ?_⟩
        refine ⟨_, rfl, _, rfl, _, _, rfl, rfl, .inl ⟨by omega, by omega⟩, _, rfl, _, rfl, _, _, rfl, rfl, .inl ⟨by omega, by omega⟩, _, rfl, _, _, rfl, by show 2 ≤ sizeLine; decide, fun d nd => ?_⟩
        have mm : (if (n : Int) < (y.2 : Int) * (T' : Int) then (n : Int) else (y.2 : Int) * (T' : Int)) = ((min (y.2 * T') n : Nat) : Int) := by
          rw [← Int.natCast_mul]
          split <;> omega
        have k8 := sm_new (o := .tup [.int ((y.1 : Int) * (T' : Int)), .int (if (n : Int) < (y.2 : Int) * (T' : Int) then (n : Int) else (y.2 : Int) * (T' : Int))]) nd
        have hacc8 := k8 _ _ hacc
        have tk9 := (Tk.of k8).trans (tk_lst (o := .lst (acc ++ [.ref d])) hacc8)
        have hd9 := tk_lst (o := .lst (acc ++ [.ref d])) hacc8 _ _ upd_same
        have sm9 := sm_mut (o := .lst (acc ++ [.ref d])) (s7.trans k8) nD
        refine ⟨acc, hacc8, smallL _ (by omega), acc ++ [V.ref d], upd_same, ?_, sm9⟩
        rw [List.take_add_one, hy, List.map_append]
        refine pd_append (prs_keep tk9 pa) (.cons ⟨d, rfl, ?_⟩ .nil)
        refine hd9.trans ?_
        show some (HO.tup [V.int ((y.1 : Int) * (T' : Int)), V.int _]) = some (HO.tup [V.int ((y.1 * T' : Nat) : Int), V.int ((min (y.2 * T') n : Nat) : Int)])
        rw [mm, Int.natCast_mul]
      · rintro H7 ⟨acc, hacc, pa, s7⟩
        rw [← hq2.length, List.take_length] at pa
        have la := pa.length
        rw [List.length_map] at la
        have hw7 := s7 _ _ hw2
        have lw := hp2.length
        have pl1 := besA_len ok hx e4
        refine ⟨F, D, _, _, rfl, rfl, hw7, hacc, small _ (by omega), ?_⟩
        have tk9 := tk_lst (o := .lst (ws ++ acc)) hw7
        have sm9 := sm_mut (o := .lst (ws ++ acc)) (sm2.trans s7) hF
        have pp := pd_append (prs_keep ((Tk.of s7).trans tk9) hp2) (prs_keep tk9 pa)
        have hF9 := upd_same (H := H7) (a := F) (o := .lst (ws ++ acc))
        generalize upd H7 F (.lst (ws ++ acc)) = H9 at tk9 sm9 pp hF9
        rcases alt with ⟨rfl, rfl, eq⟩ | ⟨un, t, es, rfl, rfl, rfl, x', run', hx', eq⟩
        · refine ⟨_, rfl, _, rfl, rfl, true, rfl, iteT ⟨_, _, rfl, rfl, .inr ⟨by omega, by omega⟩, _, rfl, _, _, rfl, rfl, by show 2 ≤ sizeLine; decide, fun d nd => ?_⟩⟩
          have k10 := sm_new (o := .tup [.int ((T' : Int) * 1), .int ((k' : Int) + 1)]) nd
          refine ⟨d, _, rfl, SqT.of upd_same, rfl, _, _, rfl, _, _, rfl, rfl, 0, by omega, 1, i2, T', k' + 1, some .non, some (.ref PL), y9, y10, x11, x12, _, _, ?_, k10 _ _ hF9, prs_keep (Tk.of k10) pp, sm9.trans k10, .inr ⟨rfl, rfl, eq⟩⟩
          show [some (V.ref b), some (V.int ((1 : Nat) : Int)), some (V.int (i2 : Int)), some (V.ref F), some (V.int (n : Int)), some (V.int ((T' : Int) * 1)), some (V.int ((k' : Int) + 1)), some V.non, some (V.ref PL), y9, y10, x11, x12] = _
          rw [Int.mul_one]
          rfl
        · have tok := Pl.stage_ok ok es
          have tl := tok.le
          have tn := tok.ne
          refine ⟨_, rfl, _, rfl, rfl, false, congrArg V.bl (decide_eq_false un), iteF ⟨_, rfl, _, _, rfl, rfl, .inr ⟨by omega, by omega⟩, _, rfl, _, _, rfl, rfl, by show 2 ≤ sizeLine; decide, fun d nd => ?_⟩⟩
          have k10 := sm_new (o := .tup [.int ((T' : Int) * ((t.length + 1 : Nat) : Int)), .int ((k' : Int) + 1)]) nd
          have less : (rowAt pl n (k' + 1)).length < n' := by
            rw [row_some es, press_len, e1]
            exact div_less (by omega) tn
          refine ⟨d, _, rfl, SqT.of upd_same, rfl, _, _, rfl, _, _, rfl, rfl, (rowAt pl n (k' + 1)).length + 1, by omega, (rowAt pl n (k' + 1)).length, i / times pl (k' + 1), T' * (t.length + 1), k' + 1, some u, some (.ref PL), some (.int ((t.length + 1 : Nat) : Int)), y10, x11, x12, _, _, ?_, k10 _ _ hF9, prs_keep (Tk.of k10) pp, sm9.trans k10, .inl ⟨rfl, rfl, rfl, by rw [e3, times_some es], x', run', hx', eq⟩⟩
          show [some (V.ref b), some (V.int ((rowAt pl n (k' + 1)).length : Int)), some (V.int ((i / times pl (k' + 1) : Nat) : Int)), some (V.ref F), some (V.int (n : Int)), some (V.int ((T' : Int) * ((t.length + 1 : Nat) : Int))), some (V.int ((k' : Int) + 1)), some u, some (V.ref PL), some (V.int ((t.length + 1 : Nat) : Int)), y10, x11, x12] = _
          rw [← Int.natCast_mul]
          rfl
end
end Lp

namespace Lp
open PySem PySem.Spec PyProof.Rows L2
section
variable {P : Program} {w : World} {K : PySem.W.Frag} {mg : Str → Option Value} {base : Heap}
theorem ok_thing_paper (T : Txt K mg) : Ok P w base 13 T.thing_paper (spBeside T.cP) := by
  have G_depth := ok_depth (P := P) (w := w) (base := base) T
  have G_beside := ok_beside (P := P) (w := w) (base := base) T
  refine T.thing_paper.fn.ok sc_thing_paper (fun vs H Q E h => ?_) (fun cdv A outer s H vs Q E hr h => ?_)
  · obtain ⟨_, _, _, _, _, _, _, _, rfl, _⟩ := h
    rfl
  obtain ⟨pl, v, n, i, kk, sh, _, _, rfl, rfl, rfl, hi, n2, hv, ok, told, q⟩ := h
  refine ⟨_, (pss_cons (ps_if (pt_cmpR op_gt (pe_call G_depth (hr.mono (by omega)) (by rfl) T.depth.m T.depth.fn.kp T.depth.b .nil pass0 (pa_cons (pv 0) (pa_cons (pv 1) (pa_cons (pv 2) pa_nil)))) (pe_glob (v := .int 400) (by rfl) T.MOST ⟨_, rfl⟩) (nomark _))
      (pss_one ps_never)
      pss_nil)
      (pss_one (ps_ret (pe_call G_beside (hr.mono (by omega)) (by rfl) T.beside.m T.beside.fn.kp T.beside.b .nil pass0 (pa_cons (pv 0) (pa_cons (pv 1) (pa_cons (pv 2) pa_nil))))))), ?_⟩
  refine ⟨_, rfl, _, rfl, _, rfl, pl, v, n, i, _, _, rfl, rfl, rfl, hi, n2, hv, ok, fun H1 z s1 hz => ?_⟩
  refine ⟨_, _, rfl, rfl, false, congrArg V.bl (decide_eq_false (by omega)), iteF ?_⟩
  exact ⟨_, rfl, _, rfl, _, rfl, pl, v, n, i, kk, sh, _, _, rfl, rfl, rfl, hi, n2, hv.keep s1, ok, told, fun H' L us s2 nL hL hp => q H' L us (s1.trans s2) (s1.free nL) hL hp⟩
/-! ### the law's own shapes -/
def spLSize (n : Nat) : Sp := fun vs H Q _ => ∃ (s : Sh) (v : V), vs = [v] ∧ ShAt H s v ∧ s.size ≤ n ∧ s.size ≤ 60 ∧ ∀ H', Same H H' → Q (.int (s.size : Int)) H'
theorem ok_law_size (T : Txt K mg) : ∀ n : Nat, Ok P w base n T.law_size (spLSize n)
  | 0 => by
    have no : ∀ vs H Q E, ¬ spLSize 0 vs H Q E := by
      rintro vs H Q E ⟨s, v, _, _, h, _⟩
      have := s.pos
      omega
    exact ⟨fun vs H Q E h => absurd h (no vs H Q E), fun A outer s H args us vs Q E _ _ _ _ h => absurd h (no vs H Q E)⟩
  | n + 1 => by
    have G_law_size := ok_law_size T n
    refine T.law_size.fn.ok sc_law_size (fun vs H Q E h => ?_) (fun cdv A outer s H vs Q E hr h => ?_)
    · obtain ⟨_, _, rfl, _⟩ := h
      rfl
    obtain ⟨t, v, rfl, hA, hz, h60, q⟩ := h
    refine ⟨_, (pss_one (ps_ret (pe_ifExp (pt_cmpR (op_eqD hr.units) (pv 0) (pe_tup pa_nil) (nomark _)) pe_int (pe_op op_add (pe_call G_law_size (hr.mono (by omega)) (by rfl) T.law_size.m T.law_size.fn.kp T.law_size.b .nil pass0 (pa_cons (pe_ix ix_tup (pv 0) pe_int (fun _ _ => rfl)) pa_nil)) (pe_call G_law_size (hr.mono (by omega)) (by rfl) T.law_size.m T.law_size.fn.kp T.law_size.b .nil pass0 (pa_cons (pe_ix ix_tup (pv 0) pe_int (fun _ _ => rfl)) pa_nil)))))), ?_⟩
    refine ⟨_, rfl, Nat.zero_le _, fun p hp => ?_⟩
    have k1 := sm_new (o := .tup []) hp
    have hA1 := hA.keep (Tk.of k1)
    refine ⟨_, _, hA1.dp, nil_dp upd_same, Sh.shaped (by omega), Sh.shaped (by decide), decide (t = .o), by rw [Sh.eqv], ?_⟩
    cases t with
    | o => exact iteT (q _ k1)
    | p l r =>
      obtain ⟨b, x, y, rfl, hb, hx, hy⟩ := hA1
      have pl := l.pos
      have pr := r.pos
      simp only [Sh.size] at hz h60
      refine iteF ⟨_, rfl, b, _, _, x, rfl, rfl, SqT.of hb, rfl, l, x, rfl, hx, by omega, by omega, fun H1 s1 => ?_⟩
      refine ⟨_, rfl, b, _, _, y, rfl, rfl, SqT.of (s1 _ _ hb), rfl, r, y, rfl, hy.keep (Tk.of s1), by omega, by omega, fun H2 s2 => ?_⟩
      exact ⟨_, _, rfl, rfl, q _ ((k1.trans s1).trans s2)⟩
theorem ok_law_entry (T : Txt K mg) : Ok P w base 1 T.law_entry spEntry := by
  refine T.law_entry.fn.ok sc_law_entry (fun vs H Q E h => ?_) (fun cdv A outer s H vs Q E hr h => ?_)
  · obtain ⟨_, _, _, _, rfl, _⟩ := h
    rfl
  obtain ⟨t, v, m, _, rfl, rfl, ⟨a, xs, rfl, hA, hs⟩, h1, h2, q⟩ := h
  refine ⟨_, (pss_one (ps_ret (pe_ifExp (pt_cmpR op_eq (pv 1) pe_int (nomark _)) (pe_tup pa_nil) (pe_ix ix_tup (pv 0) (pe_op op_sub (pv 1) pe_int) (fun _ _ => rfl))))), ?_⟩
  refine ⟨_, rfl, rfl, _, rfl, ite2 (fun c => ?_) (fun c => ?_)⟩
  · have e : m = 1 := by
      have c' : (V.int (m : Int)) = V.int 1 := of_decide_eq_true c
      have := V.int.inj c'
      omega
    refine ⟨Nat.zero_le _, fun p hp => q _ _ (sm_new hp) ?_⟩
    rw [entry, if_pos e]
    exact ⟨p, rfl, upd_same⟩
  · have e : m ≠ 1 := by
      rintro rfl
      exact c (decide_eq_true rfl)
    have hl : m - 2 < t.length := by omega
    obtain ⟨u, hu, su⟩ := pd_get hs (List.getElem?_eq_getElem hl)
    refine ⟨_, rfl, _, rfl, _, _, rfl, rfl, a, xs, _, u, rfl, rfl, SqT.of hA, ?_, ?_⟩
    · have q2 : (m : Int) - 2 = ((m - 2 : Nat) : Int) := by omega
      show atI xs ((m : Int) - 2) = some u
      rw [q2]
      exact atI_nat hu
    · refine q _ _ (Same.refl H) ?_
      rw [entry, if_neg e, List.getD_eq_getElem?_getD, List.getElem?_eq_getElem hl]
      exact su
def spLComb : Sp := fun vs H Q _ => ∃ (b : Bool) (n : Nat) (j : Int), vs = [.int j, .str (side b)] ∧ j = (n : Int) ∧ 1 ≤ n ∧ n ≤ 1000 ∧ ∀ H' u, Same H H' → ShAt H' (comb b (n - 1)) u → Q u H'
theorem ok_law_comb (T : Txt K mg) : Ok P w base 1 T.law_comb spLComb := by
  refine T.law_comb.fn.ok sc_law_comb (fun vs H Q E h => ?_) (fun cdv A outer s H vs Q E hr h => ?_)
  · obtain ⟨_, _, _, rfl, _⟩ := h
    rfl
  obtain ⟨b, n, _, rfl, rfl, n1, n2, q⟩ := h
  refine ⟨_, (pss_cons (ps_set (i := 2) sc_law_comb.nd rfl (Or.inl rfl) (pe_tup pa_nil))
      (pss_cons (ps_for PassesOwn.never rfl (pi_range1 rfl T.range_ (pa_cons (pe_op op_sub (pv 0) pe_int) pa_nil)) (pg_name (i := 3) sc_law_comb.nd rfl (Or.inl rfl))
      (pss_one (ps_set (i := 2) sc_law_comb.nd rfl (Or.inl rfl) (pe_ifExp (pt_cmpR op_eq (pv 1) pe_str (nomark _)) (pe_tup (pa_cons (pv 2) (pa_cons (pe_tup pa_nil) pa_nil))) (pe_tup (pa_cons (pe_tup pa_nil) (pa_cons (pv 2) pa_nil)))))))
      (pss_one (ps_ret (pv 2))))), ?_⟩
  refine ⟨Nat.zero_le _, fun p hp => ?_⟩
  have k1 := sm_new (o := .tup []) hp
  have en : (n : Int) - 1 = ((n - 1 : Nat) : Int) := by omega
  refine ⟨_, rfl, _, _, rfl, rfl, ((n - 1 : Nat) : Int), congrArg (fun z => [V.int z]) en, by omega, by omega, ?_⟩
  rw [Int.toNat_natCast]
  refine for_range (lo := 0) (n := n - 1) (fun i σ H' => ∃ u x, σ = [some (.int (n : Int)), some (.str (side b)), some u, x] ∧ ShAt H' (comb b i) u ∧ Same H H') ⟨_, none, rfl, ⟨p, rfl, upd_same⟩, k1⟩ ?_ ?_
  · rintro i σ H1 hi ⟨u, x, rfl, hu, sm⟩
    cases b with
    | true =>
      refine ⟨_, rfl, rfl, true, by decide +kernel, iteT ⟨_, rfl, Nat.zero_le _, fun p2 np2 => ⟨by show 2 ≤ sizeLine; decide, fun p3 np3 => ?_⟩⟩⟩
      have k2 := sm_new (o := .tup []) np2
      have k3 := sm_new (o := .tup [u, .ref p2]) np3
      exact ⟨_, _, rfl, ⟨p3, u, _, rfl, upd_same, hu.keep (Tk.of (k2.trans k3)), p2, rfl, k3 _ _ upd_same⟩, (sm.trans k2).trans k3⟩
    | false =>
      refine ⟨_, rfl, rfl, false, by decide +kernel, iteF ⟨Nat.zero_le _, fun p2 np2 => ⟨_, rfl, by show 2 ≤ sizeLine; decide, fun p3 np3 => ?_⟩⟩⟩
      have k2 := sm_new (o := .tup []) np2
      have k3 := sm_new (o := .tup [.ref p2, u]) np3
      exact ⟨_, _, rfl, ⟨p3, _, u, rfl, upd_same, ⟨p2, rfl, k3 _ _ upd_same⟩, hu.keep (Tk.of (k2.trans k3))⟩, (sm.trans k2).trans k3⟩
  · rintro σ H1 ⟨u, x, rfl, hu, sm⟩
    exact ⟨_, rfl, q _ _ sm hu⟩
def spHalves (k : Nat) : Sp := fun vs H Q _ => ∃ (n : Nat) (j : Int), vs = [.int j] ∧ j = (n : Int) ∧ 1 ≤ n ∧ n ≤ k ∧ n ≤ 1000 ∧ ∀ H' s u, Same H H' → ShAt H' s u → s.size = n → Q u H'
theorem ok_law_halves (T : Txt K mg) : ∀ k : Nat, Ok P w base k T.law_halves (spHalves k)
  | 0 => by
    have no : ∀ vs H Q E, ¬ spHalves 0 vs H Q E := by
      rintro vs H Q E ⟨n, j, _, _, h1, h2, _⟩
      omega
    exact ⟨fun vs H Q E h => absurd h (no vs H Q E), fun A outer s H args us vs Q E _ _ _ _ h => absurd h (no vs H Q E)⟩
  | k + 1 => by
    have G_law_halves := ok_law_halves T k
    refine T.law_halves.fn.ok sc_law_halves (fun vs H Q E h => ?_) (fun cdv A outer s H vs Q E hr h => ?_)
    · obtain ⟨_, _, rfl, _⟩ := h
      rfl
    obtain ⟨n, _, rfl, rfl, n1, n2, n3, q⟩ := h
    refine ⟨_, (pss_one (ps_ret (pe_ifExp (pt_cmpR op_lt (pv 0) pe_int (nomark _)) (pe_tup pa_nil) (pe_tup (pa_cons (pe_call G_law_halves (hr.mono (by omega)) (by rfl) T.law_halves.m T.law_halves.fn.kp T.law_halves.b .nil pass0 (pa_cons (pe_op op_sub (pv 0) (pe_op op_fdiv (pv 0) pe_int)) pa_nil)) (pa_cons (pe_call G_law_halves (hr.mono (by omega)) (by rfl) T.law_halves.m T.law_halves.fn.kp T.law_halves.b .nil pass0 (pa_cons (pe_op op_fdiv (pv 0) pe_int) pa_nil)) pa_nil)))))), ?_⟩
    refine ⟨_, rfl, _, _, rfl, rfl, _, rfl, ite2 (fun c => ?_) (fun c => ?_)⟩
    · have c' : (n : Int) < 2 := of_decide_eq_true c
      refine ⟨Nat.zero_le _, fun p hp => q _ .o _ (sm_new hp) ⟨p, rfl, upd_same⟩ ?_⟩
      show 1 = n
      omega
    · have c' : ¬ (n : Int) < 2 := of_decide_eq_false (Bool.eq_false_iff.mpr c)
      have e1 : (n : Int) / 2 = ((n / 2 : Nat) : Int) := by rw [Int.natCast_ediv]; rfl
      refine ⟨_, rfl, _, rfl, _, _, rfl, rfl, ⟨by decide, by decide⟩, _, _, rfl, rfl, n - n / 2, _, rfl, by show (n : Int) - (n : Int) / 2 = _; rw [e1]; omega, by omega, by omega, by omega, fun H1 l x s1 hx zl => ?_⟩
      refine ⟨_, rfl, _, _, rfl, rfl, ⟨by decide, by decide⟩, n / 2, _, rfl, e1, by omega, by omega, by omega, fun H2 r y s2 hy zr => ⟨by show 2 ≤ sizeLine; decide, fun p np => ?_⟩⟩
      have k3 := sm_new (o := .tup [x, y]) np
      refine q _ (.p l r) _ ((s1.trans s2).trans k3) ⟨p, x, y, rfl, upd_same, (hx.keep (Tk.of s2)).keep (Tk.of k3), hy.keep (Tk.of k3)⟩ ?_
      show l.size + r.size = n
      omega
end
end Lp

namespace Lp
open PySem PySem.Spec PyProof.Rows L2
section
variable {P : Program} {w : World} {K : PySem.W.Frag} {mg : Str → Option Value} {base : Heap}
def spFilled (n : Nat) : Sp := fun vs H Q _ => ∃ (f : Sh) (v : V) (L : Addr) (us : List V) (ss : List Sh), vs = [v, .ref L] ∧ ShAt H f v ∧ H L = some (.lst us) ∧ ShsAt H ss us ∧ f.size = ss.length ∧ f.size ≤ n ∧ f.size ≤ 40 ∧ ∀ H' u, Same H H' → ShAt H' (fill f ss) u → Q u H'
theorem ok_law_filled (T : Txt K mg) : ∀ n : Nat, Ok P w base (40 + n) T.law_filled (spFilled n)
  | 0 => by
    have no : ∀ vs H Q E, ¬ spFilled 0 vs H Q E := by
      rintro vs H Q E ⟨s, v, _, _, _, _, _, _, _, _, h, _⟩
      have := s.pos
      omega
    exact ⟨fun vs H Q E h => absurd h (no vs H Q E), fun A outer s H args us vs Q E _ _ _ _ h => absurd h (no vs H Q E)⟩
  | n + 1 => by
    have G_law_filled := ok_law_filled T n
    have G_law_size := ok_law_size (P := P) (w := w) (base := base) T 40
    refine T.law_filled.fn.ok sc_law_filled (fun vs H Q E h => ?_) (fun cdv A outer s H vs Q E hr h => ?_)
    · obtain ⟨_, _, _, _, _, rfl, _⟩ := h
      rfl
    obtain ⟨f, v, L, us, ss, rfl, hA, hL, hs, hl, hz, h40, q⟩ := h
    have hr : Room (40 + n) _ := hr
    refine ⟨_, (pss_cons (ps_if (pt_cmpR (op_eqD hr.units) (pv 0) (pe_tup pa_nil) (nomark _))
        (pss_one (ps_ret (pe_ix ix_list (pv 1) pe_int (fun _ _ => rfl))))
        pss_nil)
        (pss_cons (ps_set (i := 2) sc_law_filled.nd rfl (Or.inl rfl) (pe_call G_law_size (hr.mono (by omega)) (by rfl) T.law_size.m T.law_size.fn.kp T.law_size.b .nil pass0 (pa_cons (pe_ix ix_tup (pv 0) pe_int (fun _ _ => rfl)) pa_nil)))
        (pss_one (ps_ret (pe_tup (pa_cons (pe_call G_law_filled (hr.mono (by omega)) (by rfl) T.law_filled.m T.law_filled.fn.kp T.law_filled.b .nil pass0 (pa_cons (pe_ix ix_tup (pv 0) pe_int (fun _ _ => rfl)) (pa_cons (pe_slice sl_list (pv 1) po_none (po_some (pv 2))) pa_nil))) (pa_cons (pe_call G_law_filled (hr.mono (by omega)) (by rfl) T.law_filled.m T.law_filled.fn.kp T.law_filled.b .nil pass0 (pa_cons (pe_ix ix_tup (pv 0) pe_int (fun _ _ => rfl)) (pa_cons (pe_slice sl_list (pv 1) (po_some (pv 2)) po_none) pa_nil))) pa_nil))))))), ?_⟩
    refine ⟨_, rfl, Nat.zero_le _, fun p hp => ?_⟩
    have k1 := sm_new (o := .tup []) hp
    have hA1 := hA.keep (Tk.of k1)
    have hL1 := k1 _ _ hL
    refine ⟨_, _, hA1.dp, nil_dp upd_same, Sh.shaped (by omega), Sh.shaped (by decide), decide (f = .o), by rw [Sh.eqv], ?_⟩
    cases f with
    | o =>
      match ss, us, hs, hl with
      | [y], [u], .cons r .nil, _ =>
        exact iteT ⟨_, rfl, L, _, _, u, rfl, rfl, SqL.of hL1, rfl, q _ _ k1 (r.keep (Tk.of k1))⟩
    | p l r =>
      obtain ⟨b, x, y, rfl, hb, hx, hy⟩ := hA1
      have pl := l.pos
      have pr := r.pos
      simp only [Sh.size] at hz h40 hl
      refine iteF ⟨_, rfl, b, _, _, x, rfl, rfl, SqT.of hb, rfl, l, x, rfl, hx, by omega, by omega, fun H1 s1 => ?_⟩
      refine ⟨_, rfl, b, _, _, x, rfl, rfl, SqT.of (s1 _ _ hb), rfl, _, rfl, _, rfl, _, rfl, L, us, rfl, SqL.of (s1 _ _ hL1), ?_⟩
      rw [cut_to]
      intro M nM
      have k2 := sm_new (o := .lst (us.take l.size)) nM
      have k12 := (k1.trans s1).trans k2
      refine ⟨l, x, M, _, ss.take l.size, rfl, hx.keep (Tk.of (s1.trans k2)), upd_same, ShsAt.keep (Tk.of k12) (pd_take _ hs), by rw [List.length_take]; omega, by omega, by omega, fun H3 ul s3 hul => ?_⟩
      have hL3 := s3 _ _ (k2 _ _ (s1 _ _ hL1))
      have hb3 := s3 _ _ (k2 _ _ (s1 _ _ hb))
      refine ⟨_, rfl, b, _, _, y, rfl, rfl, SqT.of hb3, rfl, _, rfl, _, rfl, _, rfl, L, us, rfl, SqL.of hL3, ?_⟩
      rw [cut_from]
      intro M2 nM2
      have k4 := sm_new (o := .lst (us.drop l.size)) nM2
      have k14 := (k12.trans s3).trans k4
      refine ⟨r, y, M2, _, ss.drop l.size, rfl, hy.keep (Tk.of (((s1.trans k2).trans s3).trans k4)), upd_same, ShsAt.keep (Tk.of k14) (pd_drop _ hs), by rw [List.length_drop]; omega, by omega, by omega, fun H5 ur s5 hur => ⟨by show 2 ≤ sizeLine; decide, fun p6 np6 => ?_⟩⟩
      have k6 := sm_new (o := .tup [ul, ur]) np6
      exact q _ _ ((k14.trans s5).trans k6) ⟨p6, ul, ur, rfl, upd_same, hul.keep (Tk.of ((k4.trans s5).trans k6)), hur.keep (Tk.of k6)⟩
def spPart (n : Nat) : Sp := fun vs H Q _ => ∃ (S c : Sh) (v : V) (a : Nat) (i j : Int), vs = [v, .int i, .int j] ∧ i = (a : Int) ∧ j = ((a + c.size : Nat) : Int) ∧ ShAt H S v ∧ Sub S c a ∧ S.size ≤ n ∧ S.size ≤ 40 ∧ ∀ H' u, Same H H' → ShAt H' c u → Q u H'
theorem two_dp {H : Hp} {a : Addr} {i j : Int} (h : H a = some (.tup [.int i, .int j])) : Dp K H (.ref a) (.tuple [.int i, .int j]) := .tup (SqT.of h) (.cons (.int _) (.cons (.int _) .nil))
theorem two_shaped (i j : Int) : SeqAt.shaped (.tuple [.int i, .int j]) = true := by
  unfold SeqAt.shaped
  rw [show PyData.canLay0 (.tuple [.int i, .int j]) = true by simp [PyData.canLay0, PyData.canLayAll0], decide_eq_true (by simp [PyData.depth, PyData.depthAll])]
  rfl
theorem two_eqv (i j k l : Int) : PyData.eqv (.tuple [.int i, .int j]) (.tuple [.int k, .int l]) = (i == k && j == l) := by
  simp [PyData.eqv, PyData.eqvAll]
theorem ok_law_part (T : Txt K mg) : ∀ n : Nat, Ok P w base (40 + n) T.law_part (spPart n)
  | 0 => by
    have no : ∀ vs H Q E, ¬ spPart 0 vs H Q E := by
      rintro vs H Q E ⟨s, _, _, _, _, _, _, _, _, _, _, h, _⟩
      have := s.pos
      omega
    exact ⟨fun vs H Q E h => absurd h (no vs H Q E), fun A outer s H args us vs Q E _ _ _ _ h => absurd h (no vs H Q E)⟩
  | n + 1 => by
    have G_law_part := ok_law_part T n
    have G_law_size := ok_law_size (P := P) (w := w) (base := base) T 40
    refine T.law_part.fn.ok sc_law_part (fun vs H Q E h => ?_) (fun cdv A outer s H vs Q E hr h => ?_)
    · obtain ⟨_, _, _, _, _, _, rfl, _⟩ := h
      rfl
    obtain ⟨S, c, v, a, _, _, rfl, rfl, rfl, hA, sub, hz, h40, q⟩ := h
    have hr : Room (40 + n) _ := hr
    refine ⟨_, (pss_cons (ps_if (pt_cmpR (op_eqD hr.units) (pe_tup (pa_cons (pv 1) (pa_cons (pv 2) pa_nil))) (pe_tup (pa_cons pe_int (pa_cons (pe_call G_law_size (hr.mono (by omega)) (by rfl) T.law_size.m T.law_size.fn.kp T.law_size.b .nil pass0 (pa_cons (pv 0) pa_nil)) pa_nil))) (nomark _))
        (pss_one (ps_ret (pv 0)))
        pss_nil)
        (pss_cons (ps_if (pt_cmpR (op_eqD hr.units) (pv 0) (pe_tup pa_nil) (nomark _))
        (pss_one (ps_ret pe_non))
        pss_nil)
        (pss_cons (ps_set (i := 3) sc_law_part.nd rfl (Or.inl rfl) (pe_call G_law_size (hr.mono (by omega)) (by rfl) T.law_size.m T.law_size.fn.kp T.law_size.b .nil pass0 (pa_cons (pe_ix ix_tup (pv 0) pe_int (fun _ _ => rfl)) pa_nil)))
        (pss_cons (ps_if (pt_cmpR op_le (pv 2) (pv 3) (nomark _))
        (pss_one (ps_ret (pe_call G_law_part (hr.mono (by omega)) (by rfl) T.law_part.m T.law_part.fn.kp T.law_part.b .nil pass0 (pa_cons (pe_ix ix_tup (pv 0) pe_int (fun _ _ => rfl)) (pa_cons (pv 1) (pa_cons (pv 2) pa_nil))))))
        pss_nil)
        (pss_one (ps_ret (pe_ifExp (pt_cmpR op_ge (pv 1) (pv 3) (nomark _)) (pe_call G_law_part (hr.mono (by omega)) (by rfl) T.law_part.m T.law_part.fn.kp T.law_part.b .nil pass0 (pa_cons (pe_ix ix_tup (pv 0) pe_int (fun _ _ => rfl)) (pa_cons (pe_op op_sub (pv 1) (pv 3)) (pa_cons (pe_op op_sub (pv 2) (pv 3)) pa_nil)))) pe_non))))))), ?_⟩
    have sl := sub.le
    have pc := c.pos
    refine ⟨_, rfl, _, rfl, by show 2 ≤ sizeLine; decide, fun p1 np1 => ?_⟩
    have k1 := sm_new (o := .tup [.int (a : Int), .int ((a + c.size : Nat) : Int)]) np1
    refine ⟨_, rfl, S, v, rfl, hA.keep (Tk.of k1), by omega, by omega, fun H2 s2 => ⟨by show 2 ≤ sizeLine; decide, fun p3 np3 => ?_⟩⟩
    have k3 := sm_new (o := .tup [.int 0, .int (S.size : Int)]) np3
    have k13 := (k1.trans s2).trans k3
    have hA3 := hA.keep (Tk.of k13)
    refine ⟨_, _, two_dp (k3 _ _ (s2 _ _ upd_same)), two_dp upd_same, two_shaped _ _, two_shaped _ _, _, by rw [two_eqv], ite2 (fun g => ?_) (fun g => ?_)⟩
    · have g1 := of_decide_eq_true (show decide ((a : Int) = 0 ∧ ((a + c.size : Nat) : Int) = (S.size : Int)) = true by simpa using g)
      have e : S = c := by
        cases sub with
        | refl => rfl
        | left sub =>
          have := sub.le
          rename_i l r
          have := r.pos
          simp only [Sh.size] at g1
          omega
        | right sub =>
          rename_i l r a
          have := l.pos
          omega
      subst e
      exact ⟨_, rfl, q _ _ k13 hA3⟩
    · have g1 : ¬ ((a : Int) = 0 ∧ ((a + c.size : Nat) : Int) = (S.size : Int)) := fun z => g (by simp [z.1, z.2])
      refine ⟨_, rfl, Nat.zero_le _, fun p4 np4 => ?_⟩
      have k4 := sm_new (o := .tup []) np4
      have k14 := k13.trans k4
      have hA4 := hA.keep (Tk.of k14)
      refine ⟨_, _, hA4.dp, nil_dp upd_same, Sh.shaped (by omega), Sh.shaped (by decide), decide (S = .o), by rw [Sh.eqv], ?_⟩
      cases sub with
      | refl => exact absurd ⟨rfl, by omega⟩ g1
      | left sub =>
        rename_i l r
        obtain ⟨b, x, y, rfl, hb, hx, hy⟩ := hA4
        have pl := l.pos
        have pr := r.pos
        have sl2 := sub.le
        simp only [Sh.size] at hz h40
        refine iteF ⟨_, rfl, b, _, _, x, rfl, rfl, SqT.of hb, rfl, l, x, rfl, hx, by omega, by omega, fun H5 s5 => ?_⟩
        refine ⟨_, rfl, _, rfl, _, _, rfl, rfl, true, congrArg V.bl (decide_eq_true (by omega)), iteT ?_⟩
        refine ⟨_, rfl, b, _, _, x, rfl, rfl, SqT.of (s5 _ _ hb), rfl, _, rfl, _, rfl, l, c, x, a, _, _, rfl, rfl, rfl, hx.keep (Tk.of s5), sub, by omega, by omega, fun H6 u s6 hu => q _ _ ((k14.trans s5).trans s6) hu⟩
      | right sub =>
        rename_i l r a
        obtain ⟨b, x, y, rfl, hb, hx, hy⟩ := hA4
        have pl := l.pos
        have pr := r.pos
        have sl2 := sub.le
        simp only [Sh.size] at hz h40
        refine iteF ⟨_, rfl, b, _, _, x, rfl, rfl, SqT.of hb, rfl, l, x, rfl, hx, by omega, by omega, fun H5 s5 => ?_⟩
        refine ⟨_, rfl, _, rfl, _, _, rfl, rfl, false, congrArg V.bl (decide_eq_false (by omega)), iteF ?_⟩
        refine ⟨_, rfl, _, rfl, _, _, rfl, rfl, true, congrArg V.bl (decide_eq_true (by omega)), iteT ?_⟩
        refine ⟨_, rfl, b, _, _, y, rfl, rfl, SqT.of (s5 _ _ hb), rfl, _, rfl, _, rfl, _, _, rfl, rfl, _, rfl, _, rfl, _, _, rfl, rfl, r, c, y, a, _, _, rfl, by show ((l.size + a : Nat) : Int) - (l.size : Int) = _; omega, by show ((l.size + a + c.size : Nat) : Int) - (l.size : Int) = _; omega, hy.keep (Tk.of s5), sub, by omega, by omega, fun H6 u s6 hu => q _ _ ((k14.trans s5).trans s6) hu⟩
def spLBeside (n : Nat) : Sp := fun vs H Q _ => ∃ (s : Sh) (v : V) (st i : Nat) (js ji : Int), vs = [v, .int js, .int ji] ∧ js = (st : Int) ∧ ji = (i : Int) ∧ ShAt H s v ∧ s.size ≤ n ∧ s.size ≤ 40 ∧ ∀ H' L us, Same H H' → H' L = some (.lst us) → PrsAt H' (bes s st i) us → Q (.ref L) H'
theorem ok_law_beside (T : Txt K mg) : ∀ n : Nat, Ok P w base (40 + n) T.law_beside (spLBeside n)
  | 0 => by
    have no : ∀ vs H Q E, ¬ spLBeside 0 vs H Q E := by
      rintro vs H Q E ⟨s, _, _, _, _, _, _, _, _, _, h, _⟩
      have := s.pos
      omega
    exact ⟨fun vs H Q E h => absurd h (no vs H Q E), fun A outer s H args us vs Q E _ _ _ _ h => absurd h (no vs H Q E)⟩
  | n + 1 => by
    have G_law_beside := ok_law_beside T n
    have G_law_size := ok_law_size (P := P) (w := w) (base := base) T 40
    refine T.law_beside.fn.ok sc_law_beside (fun vs H Q E h => ?_) (fun cdv A outer s H vs Q E hr h => ?_)
    · obtain ⟨_, _, _, _, _, _, rfl, _⟩ := h
      rfl
    obtain ⟨S, v, st, i, _, _, rfl, rfl, rfl, hA, hz, h40, q⟩ := h
    have hr : Room (40 + n) _ := hr
    refine ⟨_, (pss_cons (ps_if (pt_cmpR (op_eqD hr.units) (pv 0) (pe_tup pa_nil) (nomark _))
        (pss_one (ps_ret (pe_lst pa_nil)))
        pss_nil)
        (pss_cons (ps_set (i := 3) sc_law_beside.nd rfl (Or.inl rfl) (pe_op op_add (pv 1) (pe_call G_law_size (hr.mono (by omega)) (by rfl) T.law_size.m T.law_size.fn.kp T.law_size.b .nil pass0 (pa_cons (pe_ix ix_tup (pv 0) pe_int (fun _ _ => rfl)) pa_nil))))
        (pss_cons (ps_if (pt_cmpR op_lt (pv 2) (pv 3) (nomark _))
        (pss_one (ps_ret (pe_op op_cat (pe_call G_law_beside (hr.mono (by omega)) (by rfl) T.law_beside.m T.law_beside.fn.kp T.law_beside.b .nil pass0 (pa_cons (pe_ix ix_tup (pv 0) pe_int (fun _ _ => rfl)) (pa_cons (pv 1) (pa_cons (pv 2) pa_nil)))) (pe_lst (pa_cons (pe_tup (pa_cons (pv 3) (pa_cons (pe_op op_add (pv 3) (pe_call G_law_size (hr.mono (by omega)) (by rfl) T.law_size.m T.law_size.fn.kp T.law_size.b .nil pass0 (pa_cons (pe_ix ix_tup (pv 0) pe_int (fun _ _ => rfl)) pa_nil))) pa_nil))) pa_nil)))))
        pss_nil)
        (pss_one (ps_ret (pe_op op_cat (pe_call G_law_beside (hr.mono (by omega)) (by rfl) T.law_beside.m T.law_beside.fn.kp T.law_beside.b .nil pass0 (pa_cons (pe_ix ix_tup (pv 0) pe_int (fun _ _ => rfl)) (pa_cons (pv 3) (pa_cons (pv 2) pa_nil)))) (pe_lst (pa_cons (pe_tup (pa_cons (pv 1) (pa_cons (pv 3) pa_nil))) pa_nil)))))))), ?_⟩
    refine ⟨_, rfl, Nat.zero_le _, fun p hp => ?_⟩
    have k1 := sm_new (o := .tup []) hp
    have hA1 := hA.keep (Tk.of k1)
    refine ⟨_, _, hA1.dp, nil_dp upd_same, Sh.shaped (by omega), Sh.shaped (by decide), decide (S = .o), by rw [Sh.eqv], ?_⟩
    cases S with
    | o =>
      refine iteT ⟨Nat.zero_le _, fun L nL => ?_⟩
      exact q _ L [] (k1.trans (sm_new nL)) upd_same .nil
    | p l r =>
      obtain ⟨b, x, y, rfl, hb, hx, hy⟩ := hA1
      have pl := l.pos
      have pr := r.pos
      simp only [Sh.size] at hz h40
      refine iteF ⟨_, rfl, _, rfl, b, _, _, x, rfl, rfl, SqT.of hb, rfl, l, x, rfl, hx, by omega, by omega, fun H1 s1 => ⟨_, _, rfl, rfl, ?_⟩⟩
      have hb1 := s1 _ _ hb
      refine ⟨_, rfl, _, rfl, _, _, rfl, rfl, _, rfl, ite2 (fun g => ?_) (fun g => ?_)⟩
      · have g' : (i : Int) < (st : Int) + (l.size : Int) := of_decide_eq_true g
        refine ⟨_, rfl, b, _, _, x, rfl, rfl, SqT.of hb1, rfl, _, rfl, _, rfl, l, x, st, i, _, _, rfl, rfl, rfl, hx.keep (Tk.of s1), by omega, by omega, fun H2 L2 us s2 hL2 hp2 => ?_⟩
        refine ⟨_, rfl, _, rfl, _, rfl, b, _, _, y, rfl, rfl, SqT.of (s2 _ _ hb1), rfl, r, y, rfl, hy.keep (Tk.of (s1.trans s2)), by omega, by omega, fun H3 s3 => ⟨_, _, rfl, rfl, by show 2 ≤ sizeLine; decide, fun p4 np4 => ⟨by show 1 ≤ sizeLine; decide, fun L5 nL5 => ?_⟩⟩⟩
        have k4 := sm_new (o := .tup [.int ((st : Int) + (l.size : Int)), .int ((st : Int) + (l.size : Int) + (r.size : Int))]) np4
        have k5 := sm_new (o := .lst [.ref p4]) nL5
        have k35 := (s3.trans k4).trans k5
        have bl := bes_len l st i
        have ul := hp2.length
        refine ⟨L2, L5, _, _, rfl, rfl, k35 _ _ hL2, upd_same, small _ (by simp only [List.length_cons, List.length_nil]; omega), fun L6 nL6 => ?_⟩
        have k6 := sm_new (o := .lst (us ++ [.ref p4])) nL6
        refine q _ L6 _ ((((k1.trans s1).trans s2).trans k35).trans k6) upd_same ?_
        rw [bes_l (by omega)]
        exact pd_append (prs_keep (Tk.of (k35.trans k6)) hp2) (.cons ⟨p4, rfl, k6 _ _ (k5 _ _ upd_same)⟩ .nil)
      · have g' : ¬ (i : Int) < (st : Int) + (l.size : Int) := of_decide_eq_false (Bool.eq_false_iff.mpr g)
        refine ⟨_, rfl, b, _, _, y, rfl, rfl, SqT.of hb1, rfl, _, rfl, _, rfl, r, y, st + l.size, i, _, _, rfl, rfl, rfl, hy.keep (Tk.of s1), by omega, by omega, fun H2 L2 us s2 hL2 hp2 => ?_⟩
        refine ⟨_, rfl, _, rfl, by show 2 ≤ sizeLine; decide, fun p4 np4 => ⟨by show 1 ≤ sizeLine; decide, fun L5 nL5 => ?_⟩⟩
        have k4 := sm_new (o := .tup [.int (st : Int), .int ((st : Int) + (l.size : Int))]) np4
        have k5 := sm_new (o := .lst [.ref p4]) nL5
        have k35 := k4.trans k5
        have bl := bes_len r (st + l.size) i
        have ul := hp2.length
        refine ⟨L2, L5, _, _, rfl, rfl, k35 _ _ hL2, upd_same, small _ (by simp only [List.length_cons, List.length_nil]; omega), fun L6 nL6 => ?_⟩
        have k6 := sm_new (o := .lst (us ++ [.ref p4])) nL6
        refine q _ L6 _ ((((k1.trans s1).trans s2).trans k35).trans k6) upd_same ?_
        rw [bes_r (by omega)]
        exact pd_append (prs_keep (Tk.of (k35.trans k6)) hp2) (.cons ⟨p4, rfl, k6 _ _ (k5 _ _ upd_same)⟩ .nil)
end
end Lp

namespace Lp
open PySem PySem.Spec PyProof.Rows L2
section
variable {P : Program} {w : World} {K : PySem.W.Frag} {mg : Str → Option Value} {base : Heap}
def rgcB (m L : Nat) : Bool := m == 0 || L == 0 || (decide (((L + 1 : Nat) : Int) ≠ 0) && decide (((L + 1 : Nat) : Int).natAbs < 1073741824) && Builtin.Range.small 0 (m : Int) ((L + 1 : Nat) : Int) && decide (Builtin.Range.rangeSize 0 (m : Int) ((L + 1 : Nat) : Int) = (((m + L) / (L + 1) : Nat) : Int)))
theorem rgc_all : ((List.range 41).all fun m => (List.range 9).all fun L => rgcB m L) = true := by decide +kernel
theorem rgc {m L : Nat} (h1 : 1 ≤ m) (h2 : m ≤ 40) (h3 : 1 ≤ L) (h4 : L ≤ 8) : RgC 0 (m : Int) ((L + 1 : Nat) : Int) ((m + L) / (L + 1)) := by
  have q := List.all_eq_true.mp (List.all_eq_true.mp rgc_all m (List.mem_range.mpr (by omega))) L (List.mem_range.mpr (by omega))
  have e1 : (m == 0) = false := beq_eq_false_iff_ne.mpr (by omega)
  have e2 : (L == 0) = false := beq_eq_false_iff_ne.mpr (by omega)
  rw [rgcB, e1, e2, Bool.false_or, Bool.false_or, Bool.and_eq_true, Bool.and_eq_true, Bool.and_eq_true] at q
  obtain ⟨⟨⟨q1, q2⟩, q3⟩, q4⟩ := q
  exact ⟨of_decide_eq_true q1, of_decide_eq_true q2, q3, of_decide_eq_true q4⟩
theorem cut_mid (xs : List V) (k b : Nat) : cutV xs (some (k : Int)) (some ((k + b : Nat) : Int)) = (xs.drop k).take b := by
  unfold cutV
  rw [HT.sIx_nat, HT.sIx_nat]
  by_cases h : k ≤ xs.length
  · rw [Nat.min_eq_left h]
    by_cases h2 : k + b ≤ xs.length
    · rw [Nat.min_eq_left h2, Nat.add_sub_cancel_left]
    · rw [Nat.min_eq_right (by omega), List.take_of_length_le (by rw [List.length_drop]; omega), List.take_of_length_le (by rw [List.length_drop]; omega)]
  · have e1 : min k xs.length = xs.length := by omega
    rw [e1, List.drop_of_length_le (Nat.le_refl _), List.drop_of_length_le (by omega)]
    simp
def spPressed : Sp := fun vs H Q _ => ∃ (t : Tab) (v : V) (L : Addr) (us : List V) (ss : List Sh), vs = [v, .ref L] ∧ TabAt H t v ∧ TabOk t ∧ H L = some (.lst us) ∧ ShsAt H ss us ∧ 1 ≤ ss.length ∧ ss.length ≤ 40 ∧ ∀ H' M ws, Same H H' → H' M = some (.lst ws) → ShsAt H' (pressRow t ss) ws → Q (.ref M) H'
theorem ok_law_pressed (T : Txt K mg) : Ok P w base 81 T.law_pressed spPressed := by
  have G_law_filled := ok_law_filled (P := P) (w := w) (base := base) T 40
  have G_law_entry := ok_law_entry (P := P) (w := w) (base := base) T
  refine T.law_pressed.fn.ok sc_law_pressed (fun vs H Q E h => ?_) (fun cdv A outer s H vs Q E hr h => ?_)
  · obtain ⟨_, _, _, _, _, rfl, _⟩ := h
    rfl
  obtain ⟨t, v, L, us, ss, rfl, hT, tok, hL, hs, n1, n2, q⟩ := h
  have hr : Room 80 _ := hr
  refine ⟨_, (pss_cons (ps_par (i := 2) (j := 3) rfl sc_law_pressed.nd rfl rfl (by decide) rfl rfl (pa_cons (pe_op op_add (pe_callB call_len_seq (by rfl) T.len_ PySem.boot_len (pa_cons (pv 0) pa_nil)) pe_int) (pa_cons (pe_lst pa_nil) pa_nil)) (by rfl))
      (pss_cons (ps_for PassesOwn.never rfl (pi_range3 rfl T.range_ (pa_cons pe_int (pa_cons (pe_callB call_len_seq (by rfl) T.len_ PySem.boot_len (pa_cons (pv 1) pa_nil)) (pa_cons (pv 2) pa_nil)))) (pg_name (i := 4) sc_law_pressed.nd rfl (Or.inl rfl))
      (pss_one (ps_expr (pe_bm PySem.F.plainAttrs_list PySem.F.slot_list_append PySem.F.type_list_append mt_append (pv 3) (pa_cons (pe_call G_law_filled (hr.mono (by omega)) (by rfl) T.law_filled.m T.law_filled.fn.kp T.law_filled.b .nil pass0 (pa_cons (pe_call G_law_entry (hr.mono (by omega)) (by rfl) T.law_entry.m T.law_entry.fn.kp T.law_entry.b .nil pass0 (pa_cons (pv 0) (pa_cons (pe_callB call_len_seq (by rfl) T.len_ PySem.boot_len (pa_cons (pe_slice sl_list (pv 1) (po_some (pv 4)) (po_some (pe_op op_add (pv 4) (pv 2)))) pa_nil)) pa_nil))) (pa_cons (pe_slice sl_list (pv 1) (po_some (pv 4)) (po_some (pe_op op_add (pv 4) (pv 2)))) pa_nil))) pa_nil)))))
      (pss_one (ps_ret (pv 3))))), ?_⟩
  have tl := tok.le
  have tn := tok.ne
  obtain ⟨a, xs, rfl, ha, hxs⟩ := id hT
  have xl := hxs.length
  have ul := hs.length
  refine ⟨_, rfl, a, xs, rfl, .inr (SqT.of ha), _, _, rfl, rfl, Nat.zero_le _, fun F nF => ⟨_, _, rfl, ?_⟩⟩
  have k1 := sm_new (o := .lst []) nF
  have eb : ((xs.length : Nat) : Int) + 1 = ((t.length + 1 : Nat) : Int) := by omega
  refine ⟨_, rfl, L, us, rfl, .inl (SqL.of (k1 _ _ hL)), _, rfl, 0, (us.length : Int), ((t.length + 1 : Nat) : Int), (ss.length + t.length) / (t.length + 1), congrArg (fun z => [V.int 0, V.int (us.length : Int), V.int z]) eb, by rw [← ul]; exact rgc n1 n2 tn tl, ?_⟩
  refine for_rangeC (lo := 0) (c := ((t.length + 1 : Nat) : Int)) (n := (ss.length + t.length) / (t.length + 1)) (fun i σ H' => ∃ ws x, σ = [some (.ref a), some (.ref L), some (.int ((t.length + 1 : Nat) : Int)), some (.ref F), x] ∧ H' F = some (.lst ws) ∧ ShsAt H' ((pressRow t ss).take i) ws ∧ Same H H') ⟨[], none, ?_, upd_same, .nil, k1⟩ ?_ ?_
  · show [some (V.ref a), some (V.ref L), some (V.int ((xs.length : Int) + 1)), some (V.ref F), none] = _
    rw [eb]
  · rintro i σ H1 hi ⟨ws, x, rfl, hw, hp, sm⟩
    have hL1 := sm _ _ hL
    have e1 : (0 : Int) + ((i : Nat) : Int) * ((t.length + 1 : Nat) : Int) = ((i * (t.length + 1) : Nat) : Int) := by rw [Int.zero_add, Int.natCast_mul]
    have e2 : (0 : Int) + ((i : Nat) : Int) * ((t.length + 1 : Nat) : Int) + ((t.length + 1 : Nat) : Int) = ((i * (t.length + 1) + (t.length + 1) : Nat) : Int) := by rw [e1]; rfl
    have lt := many_lt (b := t.length + 1) (by omega) (by rw [Nat.add_sub_cancel]; exact hi)
    have cm := cut_mid us (i * (t.length + 1)) (t.length + 1)
    have sl := stretch_len ss (t.length + 1) i
    refine ⟨_, rfl, .inl ⟨rfl, _, SqL.of hw⟩, _, rfl, _, rfl, _, rfl, _, rfl, _, rfl, _, rfl, _, _, rfl, rfl, _, rfl, L, us, rfl, SqL.of hL1, ?_⟩
    show ∀ p, H1 p = none → _
    rw [e2, e1, cm]
    intro M1 nM1
    have k2 := sm_new (o := .lst ((us.drop (i * (t.length + 1))).take (t.length + 1))) nM1
    have lenM : ((us.drop (i * (t.length + 1))).take (t.length + 1)).length = (stretch ss (t.length + 1) i).length := by
      rw [stretch, List.length_take, List.length_drop, List.length_take, List.length_drop, ul]
    refine ⟨M1, _, rfl, .inl (SqL.of upd_same), t, _, (stretch ss (t.length + 1) i).length, _, rfl, by rw [lenM], hT.keep (Tk.of (sm.trans k2)), by omega, by omega, fun u H3 s3 hu => ?_⟩
    refine ⟨_, rfl, _, rfl, _, rfl, _, rfl, _, rfl, _, _, rfl, rfl, _, rfl, L, us, rfl, SqL.of (s3 _ _ (k2 _ _ hL1)), ?_⟩
    show ∀ p, H3 p = none → _
    rw [show ((i * (t.length + 1) : Nat) : Int) + ((t.length + 1 : Nat) : Int) = ((i * (t.length + 1) + (t.length + 1) : Nat) : Int) from rfl, cm]
    intro M2 nM2
    have k4 := sm_new (o := .lst ((us.drop (i * (t.length + 1))).take (t.length + 1))) nM2
    have k24 := (k2.trans s3).trans k4
    have sz := entry_size tok (m := (stretch ss (t.length + 1) i).length) (by omega) (by omega)
    refine ⟨_, u, M2, _, stretch ss (t.length + 1) i, rfl, hu.keep (Tk.of k4), upd_same, ShsAt.keep (Tk.of (sm.trans k24)) (pd_take _ (pd_drop _ hs)), sz, by omega, by omega, fun H5 y s5 hy => ?_⟩
    have hw5 := s5 _ _ (k24 _ _ hw)
    have wl := hp.length
    rw [List.length_take, press_len] at wl
    have dl := Nat.div_le_self (ss.length + t.length) (t.length + 1)
    have tk6 := tk_lst (o := .lst (ws ++ [y])) hw5
    refine ⟨F, ws, _, rfl, rfl, hw5, smallL _ (by omega), ws ++ [y], _, rfl, upd_same, ?_, sm_mut ((sm.trans k24).trans s5) nF⟩
    rw [List.take_add_one, press_get hi]
    exact pd_append (ShsAt.keep ((Tk.of (k24.trans s5)).trans tk6) hp) (.cons (hy.keep tk6) .nil)
  · rintro σ H1 ⟨ws, x, rfl, hw, hp, sm⟩
    rw [List.take_of_length_le (by rw [press_len]; exact Nat.le_refl _)] at hp
    exact ⟨_, rfl, q _ F ws sm hw hp⟩
/-! ### the world -/
abbrev kT : Key := .inr "tables"
abbrev kE : Key := .inr "end"
abbrev kP : Key := .inr "plan"
theorem k_et : ¬ kT = kE := by decide +kernel
theorem k_pt : ¬ kT = kP := by decide +kernel
theorem k_pe : ¬ kE = kP := by decide +kernel
def wd (vt ve vp : V) : List (Key × V) := [(kT, vt), (kE, ve), (kP, vp)]
theorem wd_t (vt ve vp : V) : valV (wd vt ve vp) kT = some vt := valV_pos rfl
theorem wd_e (vt ve vp : V) : valV (wd vt ve vp) kE = some ve := by
  unfold wd
  rw [valV_neg k_et]
  exact valV_pos rfl
theorem wd_p (vt ve vp : V) : valV (wd vt ve vp) kP = some vp := by
  unfold wd
  rw [valV_neg k_pt, valV_neg k_pe]
  exact valV_pos rfl
theorem wd_merge (vt ve vp : V) : mergeK [] [(kT, vt), (kE, ve), (kP, vp)] = wd vt ve vp := by
  show putK (putK (putK [] kT vt) kE ve) kP vp = _
  rw [putK_new (k := kT) vt rfl, putK_new (k := kE) ve (by rw [List.nil_append, valV_neg k_et]; rfl), putK_new (k := kP) vp (by
    show valV [(kT, vt), (kE, ve)] kP = none
    rw [valV_neg k_pt, valV_neg k_pe]
    rfl)]
  rfl
def WorldAt (C : Addr) (H : Hp) (pl : Pl) (v : V) : Prop := ∃ a vt ve vp, v = .ref a ∧ H a = some (.dK (wd vt ve vp)) ∧ TabsAt H pl.ts vt ∧ EnAt H pl.en ve ∧ PlanAt C H pl vp
theorem WorldAt.keep {C : Addr} {H H' : Hp} (k : Same H H') {pl : Pl} {v : V} (h : WorldAt C H pl v) : WorldAt C H' pl v := by
  obtain ⟨a, vt, ve, vp, e, h, h1, h2, h3⟩ := h
  exact ⟨a, vt, ve, vp, e, k _ _ h, h1.keep (Tk.of k), h2.keep (Tk.of k), h3.keep k⟩
theorem dg_t {H : Hp} {a : Addr} {vt ve vp : V} (h : H a = some (.dK (wd vt ve vp))) : DGet H a (.str "tables") (some vt) := by
  have q := DGet.k (k := kT) h
  rw [wd_t] at q
  exact q
theorem dg_e {H : Hp} {a : Addr} {vt ve vp : V} (h : H a = some (.dK (wd vt ve vp))) : DGet H a (.str "end") (some ve) := by
  have q := DGet.k (k := kE) h
  rw [wd_e] at q
  exact q
theorem dg_p {H : Hp} {a : Addr} {vt ve vp : V} (h : H a = some (.dK (wd vt ve vp))) : DGet H a (.str "plan") (some vp) := by
  have q := DGet.k (k := kP) h
  rw [wd_p] at q
  exact q
def spLStage (C : Addr) : Sp := fun vs H Q _ => ∃ (pl : Pl) (v : V) (k : Nat) (j : Int), vs = [v, .int j] ∧ j = (k : Int) ∧ WorldAt C H pl v ∧ PlOk pl ∧ ∀ H' u, Same H H' → OptTab H' (pl.stage k) u → Q u H'
theorem ok_law_stage (T : Txt K mg) : Ok P w base 1 T.law_stage (spLStage T.cP) := by
  refine T.law_stage.fn.ok sc_law_stage (fun vs H Q E h => ?_) (fun cdv A outer s H vs Q E hr h => ?_)
  · obtain ⟨_, _, _, _, rfl, _⟩ := h
    rfl
  obtain ⟨pl, v, k, _, rfl, rfl, ⟨wa, vt, ve, vp, rfl, hw, ht, he, hp⟩, ok, q⟩ := h
  have hu := hu_of hr
  refine ⟨_, (pss_cons (ps_if (pt_cmpR op_lt (pv 1) (pe_callB call_len_seq (by rfl) T.len_ PySem.boot_len (pa_cons (pe_dget hu (pv 0) pe_str (fun _ _ => rfl)) pa_nil)) (nomark _))
      (pss_one (ps_ret (pe_ix ix_tup (pe_dget hu (pv 0) pe_str (fun _ _ => rfl)) (pv 1) (fun _ _ => rfl))))
      pss_nil)
      (pss_cons (ps_if (pt_cmpR (op_inTD hr) (pe_dget hu (pv 0) pe_str (fun _ _ => rfl)) (pe_tup (pa_cons pe_str (pa_cons pe_str pa_nil))) (by rfl))
      (pss_one (ps_ret pe_non))
      pss_nil)
      (pss_one (ps_ret (pe_ix ix_tup (pe_dget hu (pv 0) pe_str (fun _ _ => rfl)) (pe_op op_mod (pe_callTy call_int1 (by rfl) T.int_ (by decide +kernel) (pa_cons (pe_op op_sub (pv 1) (pe_callB call_len_seq (by rfl) T.len_ PySem.boot_len (pa_cons (pe_dget hu (pv 0) pe_str (fun _ _ => rfl)) pa_nil))) pa_nil)) (pe_callB call_len_seq (by rfl) T.len_ PySem.boot_len (pa_cons (pe_dget hu (pv 0) pe_str (fun _ _ => rfl)) pa_nil))) (fun _ _ => rfl)))))), ?_⟩
  obtain ⟨a, xs, rfl, ha, hs⟩ := ht
  have hl := hs.length
  refine ⟨_, rfl, _, rfl, wa, _, rfl, dg_t hw, a, xs, rfl, .inr (SqT.of ha), _, _, rfl, rfl, _, rfl, ite2 (fun c => ?_) (fun c => ?_)⟩
  · have c' : (k : Int) < ((xs.length : Nat) : Int) := of_decide_eq_true c
    have hk : k < pl.ts.length := by omega
    have e1 := List.getElem?_eq_getElem hk
    obtain ⟨u, hu, su⟩ := pd_get hs e1
    refine ⟨_, rfl, wa, _, rfl, dg_t hw, _, rfl, a, xs, _, u, rfl, rfl, SqT.of ha, atI_nat hu, q _ _ (Same.refl H) ?_⟩
    rw [Pl.stage, if_pos hk, e1]
    exact su
  · have c' : ¬ (k : Int) < ((xs.length : Nat) : Int) := of_decide_eq_false (Bool.eq_false_iff.mpr c)
    have hk : ¬ k < pl.ts.length := by omega
    refine ⟨_, rfl, wa, _, rfl, dg_e hw, by show 2 ≤ sizeLine; decide, fun p np => ?_⟩
    have k1 := sm_new (o := .tup [.str "left", .str "right"]) np
    have dE : Dp K (upd H p (.tup [.str "left", .str "right"])) (.ref p) (.tuple [.str "left", .str "right"]) := .tup (SqT.of upd_same) (.cons (.str _) (.cons (.str _) .nil))
    have sE : SeqAt.shaped (.tuple [.str "left", .str "right"]) = true := by decide +kernel
    obtain ⟨ts, en⟩ := pl
    cases en with
    | left =>
      obtain rfl : ve = .str "left" := he
      refine ⟨.str "left", _, .str _, dE, by decide +kernel, sE, true, by decide +kernel, iteT (q _ _ k1 ?_)⟩
      rw [stage_l hk]
      rfl
    | right =>
      obtain rfl : ve = .str "right" := he
      refine ⟨.str "right", _, .str _, dE, by decide +kernel, sE, true, by decide +kernel, iteT (q _ _ k1 ?_)⟩
      rw [stage_r hk]
      rfl
    | rnd us =>
      obtain ⟨b, ys, rfl, hb, hys⟩ := he.keep (Tk.of k1)
      obtain ⟨u1, u2, u3⟩ := ok.en
      have hl2 := hys.length
      have hw1 := k1 _ _ hw
      have ha1 := k1 _ _ ha
      refine ⟨.tuple (us.map tdat), _, .tup (SqT.of hb) (tabs_dp hys), dE, tabs_shaped u3, sE, false, by simp [PyData.eqv], iteF ?_⟩
      have hm : (k - ts.length) % us.length < us.length := Nat.mod_lt _ (by omega)
      have e1 := List.getElem?_eq_getElem hm
      obtain ⟨u, hu, su⟩ := pd_get hys e1
      refine ⟨_, rfl, wa, _, rfl, dg_e hw1, _, rfl, _, rfl, wa, _, rfl, dg_t hw1, a, xs, rfl, .inr (SqT.of ha1), _, _, rfl, rfl, .inl ⟨_, rfl, ?_⟩⟩
      refine ⟨_, rfl, wa, _, rfl, dg_e hw1, b, ys, rfl, .inr (SqT.of hb), _, _, rfl, rfl, by show (0 : Int) < ((ys.length : Nat) : Int); omega, b, ys, _, u, rfl, rfl, SqT.of hb, ?_, q _ _ k1 ?_⟩
      · have e2 : ((k : Int) - ((xs.length : Nat) : Int)) % ((ys.length : Nat) : Int) = (((k - ts.length) % us.length : Nat) : Int) := by
          rw [← hl, ← hl2, Int.natCast_emod]
          congr 1
          have hk' : ¬ k < ts.length := hk
          show (k : Int) - ((ts.length : Nat) : Int) = _
          omega
        show atI ys (((k : Int) - ((xs.length : Nat) : Int)) % ((ys.length : Nat) : Int)) = some u
        rw [e2]
        exact atI_nat hu
      · rw [stage_n hk, e1]
        exact su
end
end Lp

namespace Lp
open PySem PySem.Spec PyProof.Rows L2
section
variable {P : Program} {w : World} {K : PySem.W.Frag} {mg : Str → Option Value} {base : Heap}
def spTold (C : Addr) : Sp := fun vs H Q _ => ∃ (pl : Pl) (v : V) (n : Nat) (j : Int), vs = [v, .int j] ∧ j = (n : Int) ∧ 1 ≤ n ∧ n ≤ 40 ∧ WorldAt C H pl v ∧ PlOk pl ∧ ∀ H' u s k, Same H H' → IsTold pl n s k → ShAt H' s u → Q u H'
theorem ok_law_told (T : Txt K mg) : Ok P w base 82 T.law_told (spTold T.cP) := by
  have G_law_stage := ok_law_stage (P := P) (w := w) (base := base) T
  have G_law_pressed := ok_law_pressed (P := P) (w := w) (base := base) T
  have G_law_filled := ok_law_filled (P := P) (w := w) (base := base) T 40
  have G_law_comb := ok_law_comb (P := P) (w := w) (base := base) T
  refine T.law_told.fn.ok sc_law_told (fun vs H Q E h => ?_) (fun cdv A outer s H vs Q E hr h => ?_)
  · obtain ⟨_, _, _, _, rfl, _⟩ := h
    rfl
  obtain ⟨pl, v, n, _, rfl, rfl, n1, n2, hv, ok, q⟩ := h
  have hr : Room 81 _ := hr
  have hu := hu_of hr
  refine ⟨_, (pss_cons (ps_par (i := 2) (j := 3) rfl sc_law_told.nd rfl rfl (by decide) rfl rfl (pa_cons (pe_op op_rep (pe_lst (pa_cons (pe_tup pa_nil) pa_nil)) (pv 1)) (pa_cons pe_int pa_nil)) (by rfl))
      (pss_cons (ps_while PassesOwn.never (PW.pt (pw_and (pt_cmpR op_gt (pe_callB call_len_seq (by rfl) T.len_ PySem.boot_len (pa_cons (pv 2) pa_nil)) pe_int (nomark _)) (pw_and1 (pt_cmpR op_notN (pe_call G_law_stage (hr.mono (by omega)) (by rfl) T.law_stage.m T.law_stage.fn.kp T.law_stage.b .nil pass0 (pa_cons (pv 0) (pa_cons (pv 3) pa_nil))) pe_non (nomark _)))))
      (pss_one (ps_par (i := 2) (j := 3) rfl sc_law_told.nd rfl rfl (by decide) rfl rfl (pa_cons (pe_call G_law_pressed (hr.mono (by omega)) (by rfl) T.law_pressed.m T.law_pressed.fn.kp T.law_pressed.b .nil pass0 (pa_cons (pe_call G_law_stage (hr.mono (by omega)) (by rfl) T.law_stage.m T.law_stage.fn.kp T.law_stage.b .nil pass0 (pa_cons (pv 0) (pa_cons (pv 3) pa_nil))) (pa_cons (pv 2) pa_nil))) (pa_cons (pe_op op_add (pv 3) pe_int) pa_nil)) (by rfl))))
      (pss_one (ps_ret (pe_ifExp (pt_cmpR op_gt (pe_callB call_len_seq (by rfl) T.len_ PySem.boot_len (pa_cons (pv 2) pa_nil)) pe_int (nomark _)) (pe_call G_law_filled (hr.mono (by omega)) (by rfl) T.law_filled.m T.law_filled.fn.kp T.law_filled.b .nil pass0 (pa_cons (pe_call G_law_comb (hr.mono (by omega)) (by rfl) T.law_comb.m T.law_comb.fn.kp T.law_comb.b .nil pass0 (pa_cons (pe_callB call_len_seq (by rfl) T.len_ PySem.boot_len (pa_cons (pv 2) pa_nil)) (pa_cons (pe_dget hu (pv 0) pe_str (fun _ _ => rfl)) pa_nil))) (pa_cons (pv 2) pa_nil))) (pe_ix ix_list (pv 2) pe_int (fun _ _ => rfl))))))), ?_⟩
  refine ⟨Nat.zero_le _, fun p0 np0 => ⟨by show 1 ≤ sizeLine; decide, fun L0 nL0 => ⟨_, rfl, L0, _, _, rfl, rfl, upd_same, by omega, by omega, small _ (by simp only [List.length_cons, List.length_nil, Int.toNat_natCast]; omega), ?_⟩⟩⟩
  have fl : (List.replicate ((n : Int).toNat) [V.ref p0]).flatten = List.replicate n (V.ref p0) := by
    rw [Int.toNat_natCast, List.flatten_replicate_singleton]
  rw [fl]
  intro L1 nL1
  have k1 := sm_new (o := .tup []) np0
  have k2 := sm_new (o := .lst [.ref p0]) nL0
  have k3 := sm_new (o := .lst (List.replicate n (V.ref p0))) nL1
  have k13 := (k1.trans k2).trans k3
  refine ⟨_, _, rfl, ?_⟩
  refine ⟨fun m σ H' => ∃ (k : Nat) (L : Addr) (us : List V), σ = [some v, some (.int (n : Int)), some (.ref L), some (.int (k : Int))] ∧ H' L = some (.lst us) ∧ ShsAt H' (rowAt pl n k) us ∧ Same H H' ∧ m = (rowAt pl n k).length ∧ ∀ j, j < k → 1 < (rowAt pl n j).length ∧ (pl.stage j).isSome = true,
    ⟨_, 0, L1, _, rfl, upd_same, pd_rep ⟨p0, rfl, k3 _ _ (k2 _ _ upd_same)⟩ n, k13, rfl, fun j hj => absurd hj (Nat.not_lt_zero _)⟩, ?_⟩
  rintro m σ H1 ⟨k, L, us, rfl, hL, hs, sm, rfl, run⟩
  have ul := hs.length
  have rl := row_le ok n k
  have rp := row_pos ok n1 k
  have hv1 := hv.keep sm
  refine ⟨_, rfl, L, us, rfl, .inl (SqL.of hL), _, _, rfl, rfl, _, rfl, ite2 (fun g => ?_) (fun g => ?_)⟩
  · have g' : (1 : Int) < ((us.length : Nat) : Int) := of_decide_eq_true g
    refine ⟨_, rfl, _, rfl, pl, v, k, _, rfl, rfl, hv1, ok, fun H2 u s2 hu => ?_⟩
    have hL2 := s2 _ _ hL
    have hs2 := ShsAt.keep (Tk.of s2) hs
    have sm2 := sm.trans s2
    cases es : pl.stage k with
    | none =>
      rw [es] at hu
      obtain rfl : u = .non := hu
      refine ⟨rfl, false, rfl, iteF ?_⟩
      have told : IsTold pl n (fin pl.en (rowAt pl n k)) k := ⟨run, .inr es, rfl⟩
      have ef : fin pl.en (rowAt pl n k) = fill (comb pl.en.isLeft ((rowAt pl n k).length - 1)) (rowAt pl n k) := by rw [fin, if_pos (by omega)]
      refine ⟨_, rfl, L, us, rfl, .inl (SqL.of hL2), _, _, rfl, rfl, true, congrArg V.bl (decide_eq_true g'), iteT ?_⟩
      obtain ⟨wa, vt, ve, vp, rfl, hw, ht, he, hp⟩ := hv.keep sm2
      have su : ve = .str (side pl.en.isLeft) := by
        rcases en_flat ok es with e | e <;> rw [e] at he ⊢ <;> exact he
      subst su
      refine ⟨_, rfl, L, us, rfl, .inl (SqL.of hL2), _, rfl, wa, _, rfl, dg_e hw, pl.en.isLeft, us.length, _, rfl, rfl, by omega, by omega, fun H3 c s3 hc => ?_⟩
      rw [← ul] at hc
      have sz := comb_size pl.en.isLeft ((rowAt pl n k).length - 1)
      refine ⟨_, rfl, _, c, L, us, rowAt pl n k, rfl, hc, s3 _ _ hL2, ShsAt.keep (Tk.of s3) hs2, by omega, by omega, by omega, fun H4 y s4 hy => ?_⟩
      rw [← ef] at hy
      exact q _ _ _ k ((sm2.trans s3).trans s4) told hy
    | some t =>
      rw [es] at hu
      have tok := Pl.stage_ok ok es
      have un : u ≠ .non := by
        obtain ⟨y, _, rfl, _⟩ := hu
        intro z
        cases z
      refine ⟨rfl, true, by show V.bl (!decide (u = .non)) = _; rw [decide_eq_false un]; rfl, iteT ⟨fun σ' H' => ∃ m', m' < (rowAt pl n k).length ∧ ∃ (k : Nat) (L : Addr) (us : List V), σ' = [some v, some (.int (n : Int)), some (.ref L), some (.int (k : Int))] ∧ H' L = some (.lst us) ∧ ShsAt H' (rowAt pl n k) us ∧ Same H H' ∧ m' = (rowAt pl n k).length ∧ ∀ j, j < k → 1 < (rowAt pl n j).length ∧ (pl.stage j).isSome = true, fun σ' H' h => h, ?_⟩⟩
      refine ⟨_, rfl, _, rfl, pl, v, k, _, rfl, rfl, hv.keep sm2, ok, fun H3 u3 s3 hu3 => ?_⟩
      rw [es] at hu3
      refine ⟨_, rfl, t, u3, L, us, _, rfl, hu3, tok, s3 _ _ hL2, ShsAt.keep (Tk.of s3) hs2, rp, by omega, fun H4 M ws s4 hM hws => ?_⟩
      refine ⟨_, rfl, _, _, rfl, rfl, _, _, rfl, ?_⟩
      refine ⟨(rowAt pl n (k + 1)).length, ?_, k + 1, M, ws, rfl, hM, by rw [row_some es]; exact hws, (sm2.trans s3).trans s4, rfl, fun j hj => ?_⟩
      · rw [row_some es, press_len]
        exact div_less (by omega) tok.ne
      · by_cases e : j < k
        · exact run j e
        · obtain rfl : j = k := by omega
          rw [es]
          exact ⟨by omega, rfl⟩
  · have g' : ¬ (1 : Int) < ((us.length : Nat) : Int) := of_decide_eq_false (Bool.eq_false_iff.mpr g)
    have told : IsTold pl n (fin pl.en (rowAt pl n k)) k := ⟨run, .inl (by omega), rfl⟩
    refine iteF ⟨_, rfl, L, us, rfl, .inl (SqL.of hL), _, _, rfl, rfl, false, congrArg V.bl (decide_eq_false g'), iteF ?_⟩
    have ef : fin pl.en (rowAt pl n k) = (rowAt pl n k).headD .o := by rw [fin, if_neg (by omega)]
    cases er : rowAt pl n k with
    | nil =>
      rw [er] at rp
      exact absurd rp (by decide)
    | cons y ys =>
      rw [er] at hs ef
      obtain ⟨u, hu, hy⟩ := pd_get (i := 0) hs rfl
      refine ⟨_, rfl, L, us, _, u, rfl, rfl, SqL.of hL, atI_nat (j := 0) hu, q _ _ _ k sm told ?_⟩
      rw [er, ef]
      exact hy
/-! ### pressed again -/
theorem again_none : ∀ (x : List (Sh × Nat)) {f : Sh} {i j : Nat} {q : Sh} {a : Nat} {r : List (Sh × Nat)} {f0 : Sh} {i0 j0 : Nat}, again f0 i0 j0 x = some (f, i, j) → agStep f i j q a = none → again f0 i0 j0 (x ++ (q, a) :: r) = none := by
  intro x f i j q a r f0 i0 j0 h e
  rw [again_app _ _ _ _ _ _ _ _ h, again, e]
theorem ag_min (a i : Nat) : (if (a : Int) < (i : Int) then (a : Int) else (i : Int)) = ((min i a : Nat) : Int) := by split <;> omega
theorem ag_max (a j : Nat) : (if (a : Int) > (j : Int) then (a : Int) else (j : Int)) = ((max j a : Nat) : Int) := by split <;> omega
def spAgain : Sp := fun vs H Q _ => ∃ (S : Sh) (v : V) (L : Addr) (us : List V) (items : List (Sh × Nat)) (pc : Nat) (j : Int), vs = [v, .ref L, .int j] ∧ j = (pc : Int) ∧ ShAt H S v ∧ S.size ≤ 40 ∧ H L = some (.lst us) ∧ PrsAt H (items.map pr) us ∧ (∀ z ∈ items, Sub S z.1 z.2) ∧
  ∀ H' u, Same H H' → (match again .o pc (pc + 1) items with | none => u = .non | some z => ShAt H' z.1 u) → Q u H'
theorem ok_law_again (T : Txt K mg) : Ok P w base 81 T.law_again spAgain := by
  have G_law_part := ok_law_part (P := P) (w := w) (base := base) T 40
  refine T.law_again.fn.ok sc_law_again (fun vs H Q E h => ?_) (fun cdv A outer s H vs Q E hr h => ?_)
  · obtain ⟨_, _, _, _, _, _, _, rfl, _⟩ := h
    rfl
  obtain ⟨S, v, L, us, items, pc, _, rfl, rfl, hA, h40, hL, hp, hsub, q⟩ := h
  have hr : Room 80 _ := hr
  refine ⟨_, (pss_cons (ps_par3 (i := 3) (j := 4) (l := 5) rfl sc_law_again.nd rfl rfl rfl (by decide) (by decide) (by decide) rfl rfl rfl (pa_cons (pe_tup pa_nil) (pa_cons (pv 2) (pa_cons (pe_op op_add (pv 2) pe_int) pa_nil))) (by rfl))
      (pss_cons (ps_for PassesOwn.never rfl (pi_list (pv 1)) (pg_tup rfl (pgs_cons (pg_name (i := 6) sc_law_again.nd rfl (Or.inl rfl)) (pgs_cons (pg_name (i := 7) sc_law_again.nd rfl (Or.inl rfl)) pgs_nil)))
      (pss_cons (ps_set (i := 8) sc_law_again.nd rfl (Or.inl rfl) (pe_call G_law_part (hr.mono (by omega)) (by rfl) T.law_part.m T.law_part.fn.kp T.law_part.b .nil pass0 (pa_cons (pv 0) (pa_cons (pv 6) (pa_cons (pv 7) pa_nil)))))
      (pss_cons (ps_if (PW.pt (pw_or (pt_cmpR op_isN (pv 8) pe_non (nomark _)) (pw_or1 (PW.pt (pw_and (pt_cmpR op_ne (pv 6) (pv 5) (nomark _)) (pw_and1 (pt_cmpR op_ne (pv 7) (pv 4) (nomark _))))))))
      (pss_one (ps_ret pe_non))
      pss_nil)
      (pss_cons (ps_set (i := 3) sc_law_again.nd rfl (Or.inl rfl) (pe_ifExp (pt_cmpR op_eq (pv 6) (pv 5) (nomark _)) (pe_tup (pa_cons (pv 3) (pa_cons (pv 8) pa_nil))) (pe_tup (pa_cons (pv 8) (pa_cons (pv 3) pa_nil)))))
      (pss_one (ps_par (i := 4) (j := 5) rfl sc_law_again.nd rfl rfl (by decide) rfl rfl (pa_cons (pe_callB (call_min2 rfl) (by rfl) T.min_ (by decide +kernel) (pa_cons (pv 4) (pa_cons (pv 6) pa_nil))) (pa_cons (pe_callB (call_max2 rfl) (by rfl) T.max_ (by decide +kernel) (pa_cons (pv 5) (pa_cons (pv 7) pa_nil))) pa_nil)) (by rfl)))))))
      (pss_one (ps_ret (pv 3))))), ?_⟩
  refine ⟨Nat.zero_le _, fun p0 np0 => ⟨_, rfl, _, rfl, _, _, rfl, rfl, _, _, _, rfl, ?_⟩⟩
  have k1 := sm_new (o := .tup []) np0
  refine ⟨_, rfl, L, rfl, ⟨_, SqL.of (k1 _ _ hL)⟩, for_list (K := K) (a := L) (xs := us) (fun idx σ H' => ∃ (f : Sh) (i j : Nat) (u : V) (x6 x7 x8 : Option V), σ = [some v, some (.ref L), some (.int (pc : Int)), some u, some (.int (i : Int)), some (.int (j : Int)), x6, x7, x8] ∧ again .o pc (pc + 1) (items.take idx) = some (f, i, j) ∧ ShAt H' f u ∧ Same H H')
    ⟨.o, pc, pc + 1, _, none, none, none, rfl, rfl, ⟨p0, rfl, upd_same⟩, k1⟩ (fun i σ H' _ h => ?_) ?_ ?_⟩
  · obtain ⟨_, _, _, _, _, _, _, _, _, _, sm⟩ := h
    exact SqL.of (sm _ _ hL)
  · rintro idx y σ H1 hy ⟨f, i, j, u, x6, x7, x8, rfl, ag, hf, sm⟩
    obtain ⟨z, hz, b, rfl, hb⟩ := pd_getR hp hy
    rw [List.getElem?_map] at hz
    obtain ⟨⟨c, a⟩, hi, rfl⟩ := Option.map_eq_some_iff.mp hz
    have sub := hsub _ (List.mem_of_getElem? hi)
    have hb1 := sm _ _ hb
    refine ⟨b, _, rfl, SqT.of hb1, rfl, _, _, rfl, _, _, rfl, rfl, ?_⟩
    refine ⟨_, rfl, _, rfl, _, rfl, S, c, v, a, _, _, rfl, rfl, rfl, hA.keep (Tk.of sm), sub, h40, h40, fun H2 w2 s2 hc => ?_⟩
    obtain ⟨wa, wxs, rfl, _⟩ := hc.ref
    refine ⟨_, rfl, rfl, false, rfl, iteF ?_⟩
    have sm2 := sm.trans s2
    have hf2 := hf.keep (Tk.of s2)
    have split : items = items.take idx ++ (c, a) :: items.drop (idx + 1) := by
      have il := (List.getElem?_eq_some_iff.mp hi).1
      have e := List.drop_eq_getElem_cons il
      rw [(List.getElem?_eq_some_iff.mp hi).2] at e
      rw [← e, List.take_append_drop]
    have tk1 : items.take (idx + 1) = items.take idx ++ [(c, a)] := by rw [List.take_add_one, hi]; rfl
    refine ⟨_, rfl, _, rfl, rfl, _, rfl, ite2 (fun g1 => ?_) (fun g1 => ?_)⟩
    · have g1' : a ≠ j := by
        rintro rfl
        simp at g1
      refine ⟨_, rfl, _, rfl, rfl, _, rfl, ite2 (fun g2 => ?_) (fun g2 => ?_)⟩
      · have g2' : a + c.size ≠ i := by
          intro e
          have e' : (V.int ((a + c.size : Nat) : Int)) = V.int (i : Int) := by rw [e]
          have : decide ((V.int ((a + c.size : Nat) : Int)) = V.int (i : Int)) = true := decide_eq_true e'
          have g3 : (!decide ((V.int ((a + c.size : Nat) : Int)) = V.int (i : Int))) = true := g2
          rw [this] at g3
          exact absurd g3 (by decide)
        refine q _ _ sm2 ?_
        have an : again .o pc (pc + 1) items = none := by
          rw [split]
          exact again_none _ ag (by rw [agStep, if_neg g1', if_neg g2'])
        rw [an]
      · have g2' : a + c.size = i := by
          have g3 : ¬ (!decide ((V.int ((a + c.size : Nat) : Int)) = V.int (i : Int))) = true := g2
          have g4 : decide ((V.int ((a + c.size : Nat) : Int)) = V.int (i : Int)) = true := by
            revert g3
            cases decide ((V.int ((a + c.size : Nat) : Int)) = V.int (i : Int)) <;> simp
          have := V.int.inj (of_decide_eq_true g4)
          omega
        refine ⟨_, rfl, _, rfl, rfl, false, congrArg V.bl (decide_eq_false fun e => g1' (by have : (a : Int) = (j : Int) := V.int.inj e; omega)), iteF ⟨_, rfl, _, rfl, by show 2 ≤ sizeLine; decide, fun p3 np3 => ?_⟩⟩
        have k3 := sm_new (o := .tup [.ref wa, u]) np3
        refine ⟨_, rfl, _, rfl, _, _, rfl, _, rfl, _, rfl, _, _, rfl, _, _, rfl, ?_⟩
        refine ⟨.p c f, min i a, max j (a + c.size), _, some (.int (a : Int)), some (.int ((a + c.size : Nat) : Int)), some (.ref wa), ?_, ?_, ⟨p3, _, _, rfl, upd_same, hc.keep (Tk.of k3), hf2.keep (Tk.of k3)⟩, sm2.trans k3⟩
        · show [some v, some (V.ref L), some (V.int (pc : Int)), some (V.ref p3), some (V.int (if (a : Int) < (i : Int) then (a : Int) else (i : Int))), some (V.int (if ((a + c.size : Nat) : Int) > (j : Int) then ((a + c.size : Nat) : Int) else (j : Int))), some (V.int (a : Int)), some (V.int ((a + c.size : Nat) : Int)), some (V.ref wa)] = _
          rw [ag_min, ag_max]
        · rw [tk1, again_app _ _ _ _ _ _ _ _ ag, again, agStep, if_neg g1', if_pos g2']
          rfl
    · have g1' : a = j := by
        have g3 : ¬ (!decide ((V.int (a : Int)) = V.int (j : Int))) = true := g1
        have g4 : decide ((V.int (a : Int)) = V.int (j : Int)) = true := by
          revert g3
          cases decide ((V.int (a : Int)) = V.int (j : Int)) <;> simp
        have := V.int.inj (of_decide_eq_true g4)
        omega
      refine iteF ⟨_, rfl, _, rfl, rfl, true, congrArg V.bl (decide_eq_true (by rw [g1'])), iteT ⟨_, rfl, _, rfl, by show 2 ≤ sizeLine; decide, fun p3 np3 => ?_⟩⟩
      have k3 := sm_new (o := .tup [u, .ref wa]) np3
      refine ⟨_, rfl, _, rfl, _, _, rfl, _, rfl, _, rfl, _, _, rfl, _, _, rfl, ?_⟩
      refine ⟨.p f c, min i a, max j (a + c.size), _, some (.int (a : Int)), some (.int ((a + c.size : Nat) : Int)), some (.ref wa), ?_, ?_, ⟨p3, _, _, rfl, upd_same, hf2.keep (Tk.of k3), hc.keep (Tk.of k3)⟩, sm2.trans k3⟩
      · show [some v, some (V.ref L), some (V.int (pc : Int)), some (V.ref p3), some (V.int (if (a : Int) < (i : Int) then (a : Int) else (i : Int))), some (V.int (if ((a + c.size : Nat) : Int) > (j : Int) then ((a + c.size : Nat) : Int) else (j : Int))), some (V.int (a : Int)), some (V.int ((a + c.size : Nat) : Int)), some (V.ref wa)] = _
        rw [ag_min, ag_max]
      · rw [tk1, again_app _ _ _ _ _ _ _ _ ag, again, agStep, if_pos g1']
        rfl
  · rintro σ H1 ⟨f, i, j, u, x6, x7, x8, rfl, ag, hf, sm⟩
    have il : us.length = items.length := by
      have := hp.length
      rw [List.length_map] at this
      exact this.symm
    rw [il, List.take_length] at ag
    refine ⟨_, rfl, q _ _ sm ?_⟩
    rw [ag]
    exact hf
end
end Lp

namespace Lp
open PySem PySem.Spec PyProof.Rows L2
section
variable {P : Program} {w : World} {K : PySem.W.Frag} {mg : Str → Option Value} {base : Heap}
theorem pe_bmK {X : Cx} {K : PySem.W.Frag} {o e : Expr} {es : List Expr} {to : TE} {t : TA} {name : Str} {apos cpos : Pos} {T id : String} {r : V → List V → Hp → VK → Prop} (hK : X.K = K) (pa : PlainAttrs T) (slot : Slot T name id) (hty : typeOf (.builtin id) = pure (.type "method_descriptor")) (hm : MtR X id r) (ho : PE X o to) (ha : PA X (e :: es) t)
    (hbase : attributeBase o name X.env (eval o X.env) = eval o X.env := by rfl) (hfew : ((backTo cpos (starEach (e :: es) X.env)).all (fun x => !x.1) && (backToKw cpos (keywordEach [] X.env)).all (fun x => x.1.isSome) && decide ((e :: es).length + ([] : List Keyword).length + (if ([] : List Keyword).isEmpty then 0 else 1) < 30)) = true := by rfl) (hline : (apos.endLine == cpos.line) = true := by rfl) (hs : starEach (e :: es) X.env = (false, eval e X.env) :: starEach es X.env := by rfl) (hplain : (backTo cpos (starEach es X.env)).any (·.1) = false := by rfl) :
    PE X (.Call (.Attribute o name apos) (e :: es) [] cpos) (tBM K T r to t) := by
  subst hK
  exact pe_bm pa slot hty hm ho ha hbase hfew hline hs hplain
/-! ### the source -/
abbrev kC : Key := .inr "cells"
abbrev kL : Key := .inr "left"
abbrev kM : Key := .inr "mixed"
abbrev kN : Key := .inr "turn"
theorem k_cl : ¬ kC = kL := by decide +kernel
theorem k_cm : ¬ kC = kM := by decide +kernel
theorem k_cn : ¬ kC = kN := by decide +kernel
theorem k_lm : ¬ kL = kM := by decide +kernel
theorem k_ln : ¬ kL = kN := by decide +kernel
theorem k_mn : ¬ kM = kN := by decide +kernel
def sd (c : Addr) (l m t : Int) : List (Key × V) := [(kC, .ref c), (kL, .int l), (kM, .int m), (kN, .int t)]
theorem sd_c (c : Addr) (l m t : Int) : valV (sd c l m t) kC = some (.ref c) := valV_pos rfl
theorem sd_l (c : Addr) (l m t : Int) : valV (sd c l m t) kL = some (.int l) := by
  unfold sd
  rw [valV_neg k_cl]
  exact valV_pos rfl
theorem sd_m (c : Addr) (l m t : Int) : valV (sd c l m t) kM = some (.int m) := by
  unfold sd
  rw [valV_neg k_cm, valV_neg k_lm]
  exact valV_pos rfl
theorem sd_n (c : Addr) (l m t : Int) : valV (sd c l m t) kN = some (.int t) := by
  unfold sd
  rw [valV_neg k_cn, valV_neg k_ln, valV_neg k_mn]
  exact valV_pos rfl
theorem put_there {kvs : List (Key × V)} {k : Key} {v x : V} (h : valV kvs k = some x) : putK kvs k v = kvs.map fun kv => if kv.1 = k then (kv.1, v) else kv := by
  unfold putK
  rw [valV_any, h]
  exact if_pos rfl
theorem sd_pl (c : Addr) (l m t z : Int) : putK (sd c l m t) kL (.int z) = sd c z m t := by
  rw [put_there (sd_l c l m t)]
  unfold sd
  simp only [List.map_cons, List.map_nil]
  rw [if_neg k_cl, if_pos trivial, if_neg (fun e => k_lm e.symm), if_neg (fun e => k_ln e.symm)]
theorem sd_pm (c : Addr) (l m t z : Int) : putK (sd c l m t) kM (.int z) = sd c l z t := by
  rw [put_there (sd_m c l m t)]
  unfold sd
  simp only [List.map_cons, List.map_nil]
  rw [if_neg k_cm, if_neg k_lm, if_pos trivial, if_neg (fun e => k_mn e.symm)]
theorem sd_pn (c : Addr) (l m t z : Int) : putK (sd c l m t) kN (.int z) = sd c l m z := by
  rw [put_there (sd_n c l m t)]
  unfold sd
  simp only [List.map_cons, List.map_nil]
  rw [if_neg k_cn, if_neg k_ln, if_neg k_mn, if_pos trivial]
theorem sd_merge (c : Addr) (l m t : Int) : mergeK [] [(kC, .ref c), (kL, .int l), (kM, .int m), (kN, .int t)] = sd c l m t := by
  show putK (putK (putK (putK [] kC (.ref c)) kL (.int l)) kM (.int m)) kN (.int t) = _
  rw [putK_new (k := kC) _ rfl, putK_new (k := kL) _ (by rw [List.nil_append, valV_neg k_cl]; rfl), putK_new (k := kM) _ (by
    show valV [(kC, V.ref c), (kL, V.int l)] kM = none
    rw [valV_neg k_cm, valV_neg k_lm]
    rfl), putK_new (k := kN) _ (by
    show valV [(kC, V.ref c), (kL, V.int l), (kM, V.int m)] kN = none
    rw [valV_neg k_cn, valV_neg k_ln, valV_neg k_mn]
    rfl)]
  rfl
structure SrcOk (H : Hp) (p c : Addr) : Prop where
  d : ∃ l m t, H p = some (.dK (sd c l m t))
  l : ∃ cs : List Int, H c = some (.lst (cs.map V.int))
/-- the source may have changed, nothing else -/
structure Dr (p c : Addr) (H H' : Hp) : Prop where
  ok : SrcOk H' p c
  keep : ∀ b o, b ≠ p → b ≠ c → H b = some o → H' b = some o
theorem Dr.refl {p c : Addr} {H : Hp} (s : SrcOk H p c) : Dr p c H H := ⟨s, fun _ _ _ _ h => h⟩
theorem Dr.trans {p c : Addr} {H H1 H2 : Hp} (a : Dr p c H H1) (b : Dr p c H1 H2) : Dr p c H H2 := ⟨b.ok, fun x o h1 h2 h => b.keep x o h1 h2 (a.keep x o h1 h2 h)⟩
theorem SrcOk.same {p c : Addr} {H H' : Hp} (s : SrcOk H p c) (k : Same H H') : SrcOk H' p c := by
  obtain ⟨⟨l, m, t, h1⟩, cs, h2⟩ := s
  exact ⟨⟨l, m, t, k _ _ h1⟩, cs, k _ _ h2⟩
theorem Dr.same {p c : Addr} {H H1 H2 : Hp} (a : Dr p c H H1) (k : Same H1 H2) : Dr p c H H2 := ⟨a.ok.same k, fun x o h1 h2 h => k _ _ (a.keep x o h1 h2 h)⟩
theorem Dr.of {p c : Addr} {H H' : Hp} (s : SrcOk H p c) (k : Same H H') : Dr p c H H' := (Dr.refl s).same k
theorem SrcOk.apart {p c : Addr} {H : Hp} (s : SrcOk H p c) : p ≠ c := by
  obtain ⟨⟨l, m, t, h1⟩, cs, h2⟩ := s
  exact ne_of h1 h2 (by intro z; cases z)
theorem SrcOk.np {p c b : Addr} {H : Hp} {o : HO} (s : SrcOk H p c) (h : H b = some o) (k : ∀ kvs, o ≠ .dK kvs) : b ≠ p := by
  obtain ⟨⟨l, m, t, h1⟩, _⟩ := s
  exact ne_of h h1 (k _)
theorem SrcOk.nc {p c b : Addr} {H : Hp} {o : HO} (s : SrcOk H p c) (h : H b = some o) (k : ∀ us, o ≠ .lst us) : b ≠ c := by
  obtain ⟨_, cs, h2⟩ := s
  exact ne_of h h2 (k _)
theorem Dr.tk {p c : Addr} {H H' : Hp} (a : Dr p c H H') (s : SrcOk H p c) : Tk H H' := fun b xs h => a.keep b _ (s.np h (fun _ z => by cases z)) (s.nc h (fun _ z => by cases z)) h
theorem ds_c {H : Hp} {p c : Addr} {l m t : Int} (h : H p = some (.dK (sd c l m t))) : DGet H p (.str "cells") (some (.ref c)) := by
  have q := DGet.k (k := kC) h
  rw [sd_c] at q
  exact q
theorem ds_l {H : Hp} {p c : Addr} {l m t : Int} (h : H p = some (.dK (sd c l m t))) : DGet H p (.str "left") (some (.int l)) := by
  have q := DGet.k (k := kL) h
  rw [sd_l] at q
  exact q
theorem ds_m {H : Hp} {p c : Addr} {l m t : Int} (h : H p = some (.dK (sd c l m t))) : DGet H p (.str "mixed") (some (.int m)) := by
  have q := DGet.k (k := kM) h
  rw [sd_m] at q
  exact q
theorem ds_n {H : Hp} {p c : Addr} {l m t : Int} (h : H p = some (.dK (sd c l m t))) : DGet H p (.str "turn") (some (.int t)) := by
  have q := DGet.k (k := kN) h
  rw [sd_n] at q
  exact q
theorem dp_l {H : Hp} {p c : Addr} {l m t z : Int} (h : H p = some (.dK (sd c l m t))) : DPut H p (.str "left") (.int z) (upd H p (.dK (sd c z m t))) := by
  have q := DPut.k (k := kL) (v := .int z) h (by show 4 < sizeLine; decide)
  rw [sd_pl] at q
  exact q
theorem dp_m {H : Hp} {p c : Addr} {l m t z : Int} (h : H p = some (.dK (sd c l m t))) : DPut H p (.str "mixed") (.int z) (upd H p (.dK (sd c l z t))) := by
  have q := DPut.k (k := kM) (v := .int z) h (by show 4 < sizeLine; decide)
  rw [sd_pm] at q
  exact q
theorem dp_n {H : Hp} {p c : Addr} {l m t z : Int} (h : H p = some (.dK (sd c l m t))) : DPut H p (.str "turn") (.int z) (upd H p (.dK (sd c l m z))) := by
  have q := DPut.k (k := kN) (v := .int z) h (by show 4 < sizeLine; decide)
  rw [sd_pn] at q
  exact q
theorem dr_p {p c : Addr} {H : Hp} {l m t l' m' t' : Int} {cs : List Int} (h : H p = some (.dK (sd c l m t))) (hc : H c = some (.lst (cs.map V.int))) : Dr p c H (upd H p (.dK (sd c l' m' t'))) := by
  have ne : c ≠ p := ne_of hc h (by intro z; cases z)
  refine ⟨⟨⟨_, _, _, upd_same⟩, cs, by rw [upd_ne ne]; exact hc⟩, fun b o h1 _ e => by rw [upd_ne h1]; exact e⟩
theorem dr_c {p c : Addr} {H : Hp} {l m t : Int} {cs cs' : List Int} (h : H p = some (.dK (sd c l m t))) (hc : H c = some (.lst (cs.map V.int))) : Dr p c H (upd H c (.lst (cs'.map V.int))) := by
  have ne : p ≠ c := ne_of h hc (by intro z; cases z)
  refine ⟨⟨⟨_, _, _, by rw [upd_ne ne]; exact h⟩, cs', upd_same⟩, fun b o _ h2 e => by rw [upd_ne h2]; exact e⟩
def spPick : Sp := fun vs H Q _ => ∃ (p c : Addr) (j : Int), vs = [.ref p, .int j] ∧ SrcOk H p c ∧ 1 ≤ j ∧ j ≤ 1000 ∧ ∀ H' z, Dr p c H H' → 0 ≤ z → z < j → Q (.int z) H'
theorem ok_law_pick (T : Txt K mg) : Ok P w base 1 T.law_pick spPick := by
  refine T.law_pick.fn.ok sc_law_pick (fun vs H Q E h => ?_) (fun cdv A outer s H vs Q E hr h => ?_)
  · obtain ⟨_, _, _, rfl, _⟩ := h
    rfl
  obtain ⟨p, c, j, rfl, hs, j1, j2, q⟩ := h
  have hu := hu_of hr
  refine ⟨_, (Evl.pss_cut (ps_while PassesOwn.never (PW.pt (pw_and (pt_cmpR op_gt (pv 1) pe_int (nomark _)) (pw_and (pt_cmpR op_lt (pe_dget hu (pv 0) pe_str (fun _ _ => rfl)) pe_int (nomark _)) (pw_and1 (pt_cmpR op_gt (pe_callB call_len_seq (by rfl) T.len_ PySem.boot_len (pa_cons (pe_dget hu (pv 0) pe_str (fun _ _ => rfl)) pa_nil)) pe_int (nomark _))))))
      (pss_one (ps_dput hu (pv 0) pe_str (pe_bm0 PySem.F.plainAttrs_list PySem.F.slot_list_pop PySem.F.type_list_pop mt_pop (pe_dget hu (pv 0) pe_str (fun _ _ => rfl))) rfl)))
      (pss_cons (ps_set (i := 2) sc_law_pick.nd rfl (Or.inl rfl) (pe_dget hu (pv 0) pe_str (fun _ _ => rfl)))
      (pss_cons (ps_if (PW.pt (pw_or (pt_cmpR op_lt (pv 1) pe_int (nomark _)) (pw_or1 (pt_cmpR op_gt (pv 2) pe_int (nomark _)))))
      (pss_cons (ps_dput hu (pv 0) pe_str (pe_op op_fdiv (pv 2) (pe_callB (call_max2 rfl) (by rfl) T.max_ (by decide +kernel) (pa_cons pe_int (pa_cons (pv 1) pa_nil)))) rfl)
      (pss_one (ps_ret (pe_op op_mod (pe_callTy call_int1 (by rfl) T.int_ (by decide +kernel) (pa_cons (pv 2) pa_nil)) (pe_callB (call_max2 rfl) (by rfl) T.max_ (by decide +kernel) (pa_cons pe_int (pa_cons (pv 1) pa_nil)))))))
      pss_nil)
      (pss_cons (ps_dput hu (pv 0) pe_str (pe_op op_add (pe_dget hu (pv 0) pe_str (fun _ _ => rfl)) pe_int) rfl)
      (pss_cons (ps_set (i := 3) sc_law_pick.nd rfl (Or.inl rfl) (pe_op op_mod (pe_callTy call_int1 (by rfl) T.int_ (by decide +kernel) (pa_cons (pe_op op_add (pe_dget hu (pv 0) pe_str (fun _ _ => rfl)) (pe_op op_mul (pe_dget hu (pv 0) pe_str (fun _ _ => rfl)) pe_int)) pa_nil)) pe_int))
      (pss_cons (ps_set (i := 3) sc_law_pick.nd rfl (Or.inl rfl) (pe_op op_mod (pe_callTy call_int1 (by rfl) T.int_ (by decide +kernel) (pa_cons (pe_op op_add (pe_op op_mul (pv 3) (pv 3)) (pe_op op_mul (pe_dget hu (pv 0) pe_str (fun _ _ => rfl)) pe_int)) pa_nil)) pe_int))
      (pss_cons (ps_dput hu (pv 0) pe_str (pv 3) rfl)
      (pss_one (ps_ret (pe_op op_mod (pe_callTy call_int1 (by rfl) T.int_ (by decide +kernel) (pa_cons (pe_op op_fdiv (pv 3) pe_int) pa_nil)) (pv 1))))))))))), ?_⟩
  obtain ⟨⟨l0, m0, t0, hp0⟩, cs0, hc0⟩ := id hs
  refine ⟨fun σ H' => ∃ (l m t : Int) (cs : List Int), σ = [some (.ref p), some (.int j), none, none] ∧ H' p = some (.dK (sd c l m t)) ∧ H' c = some (.lst (cs.map V.int)) ∧ Dr p c H H', ?_, ?_⟩
  · refine ⟨fun n σ H' => ∃ (l m t : Int) (cs : List Int), σ = [some (.ref p), some (.int j), none, none] ∧ H' p = some (.dK (sd c l m t)) ∧ H' c = some (.lst (cs.map V.int)) ∧ Dr p c H H' ∧ n = cs.length, ⟨_, l0, m0, t0, cs0, rfl, hp0, hc0, Dr.refl hs, rfl⟩, ?_⟩
    rintro n σ H1 ⟨l, m, t, cs, rfl, hp, hc, dr, rfl⟩
    refine ⟨_, rfl, _, _, rfl, rfl, _, rfl, ite2 (fun g1 => ?_) (fun g1 => ?_)⟩
    · refine ⟨_, rfl, p, _, rfl, ds_l hp, _, _, rfl, rfl, _, rfl, ite2 (fun g2 => ?_) (fun g2 => ?_)⟩
      · refine ⟨_, rfl, p, _, rfl, ds_c hp, c, _, rfl, .inl (SqL.of hc), _, _, rfl, rfl, _, rfl, ite2 (fun g3 => ?_) (fun g3 => ?_)⟩
        · have g3' : (0 : Int) < (((cs.map V.int).length : Nat) : Int) := of_decide_eq_true g3
          rw [List.length_map] at g3'
          have ne : cs ≠ [] := by
            rintro rfl
            simp at g3'
          obtain ⟨ca, z, rfl⟩ : ∃ ca z, cs = ca ++ [z] := ⟨cs.dropLast, cs.getLast ne, (List.dropLast_concat_getLast ne).symm⟩
          refine ⟨fun σ' H' => ∃ n', n' < (ca ++ [z]).length ∧ ∃ (l m t : Int) (cs : List Int), σ' = [some (.ref p), some (.int j), none, none] ∧ H' p = some (.dK (sd c l m t)) ∧ H' c = some (.lst (cs.map V.int)) ∧ Dr p c H H' ∧ n' = cs.length, fun σ' H' h => h, ?_⟩
          have hc' := hc
          rw [List.map_append] at hc'
          refine ⟨_, rfl, p, _, rfl, ds_c hp, .inl ⟨rfl, _, SqL.of hc⟩, c, _, .int z, rfl, rfl, hc', at_end _ _, ?_⟩
          have ed : (ca.map V.int ++ [z].map V.int).dropLast = ca.map V.int := by
            show (ca.map V.int ++ [V.int z]).dropLast = _
            simp
          rw [ed]
          have d1 := dr_c (cs' := ca) hp hc
          have npc : p ≠ c := hs.apart
          have hp2 : upd H1 c (.lst (ca.map V.int)) p = some (.dK (sd c l m t)) := by rw [upd_ne npc]; exact hp
          refine ⟨_, rfl, p, _, rfl, dp_l (z := z) hp2, ca.length, by simp, z, m, t, ca, rfl, upd_same, ?_, (dr.trans d1).trans (dr_p hp2 upd_same), rfl⟩
          rw [upd_ne npc.symm, upd_same]
        · exact ⟨l, m, t, cs, rfl, hp, hc, dr⟩
      · exact ⟨l, m, t, cs, rfl, hp, hc, dr⟩
    · exact ⟨l, m, t, cs, rfl, hp, hc, dr⟩
  · rintro σ H1 ⟨l, m, t, cs, rfl, hp, hc, dr⟩
    have jm : (if j > 1 then j else 1) = j := by split <;> omega
    refine ⟨_, rfl, p, _, rfl, ds_l hp, ?_⟩
    refine ⟨_, rfl, _, _, rfl, rfl, _, rfl, ite2 (fun g1 => ?_) (fun g1 => ?_)⟩
    · refine ⟨_, rfl, _, rfl, _, _, rfl, _, _, rfl, rfl, ⟨by rw [jm]; omega, by rw [jm]; omega⟩, _, rfl, p, _, rfl, dp_l hp, ?_⟩
      refine ⟨_, rfl, .inl ⟨_, rfl, _, rfl, _, _, rfl, _, _, rfl, rfl, by rw [jm]; omega, ?_⟩⟩
      refine q _ _ (dr.trans (dr_p hp hc)) ?_ ?_
      · exact Int.emod_nonneg _ (by rw [jm]; omega)
      · show l % (if j > 1 then j else 1) < j
        rw [jm]
        exact Int.emod_lt_of_pos _ (by omega)
    · refine ⟨_, rfl, _, _, rfl, rfl, _, rfl, ite2 (fun g2 => ?_) (fun g2 => ?_)⟩
      · refine ⟨_, rfl, _, rfl, _, _, rfl, _, _, rfl, rfl, ⟨by rw [jm]; omega, by rw [jm]; omega⟩, _, rfl, p, _, rfl, dp_l hp, ?_⟩
        refine ⟨_, rfl, .inl ⟨_, rfl, _, rfl, _, _, rfl, _, _, rfl, rfl, by rw [jm]; omega, ?_⟩⟩
        refine q _ _ (dr.trans (dr_p hp hc)) ?_ ?_
        · exact Int.emod_nonneg _ (by rw [jm]; omega)
        · show l % (if j > 1 then j else 1) < j
          rw [jm]
          exact Int.emod_lt_of_pos _ (by omega)
      · -- src['turn'] = src['turn'] + 1
        refine ⟨_, rfl, p, _, rfl, ds_n hp, _, _, rfl, rfl, _, rfl, p, _, rfl, dp_n hp, ?_⟩
        have d1 := dr.trans (dr_p (l' := l) (m' := m) (t' := t + 1) hp hc)
        have hp1 := upd_same (H := H1) (a := p) (o := .dK (sd c l m (t + 1)))
        obtain ⟨_, cs1, hc1⟩ := d1.ok
        refine ⟨_, rfl, p, _, rfl, ds_m hp1, _, rfl, p, _, rfl, ds_n hp1, _, _, rfl, rfl, .inr ⟨by decide, by decide⟩, _, _, rfl, rfl, .inl ⟨_, rfl, _, _, rfl, rfl, by show (0 : Int) < 998244353; decide, ?_⟩⟩
        have b0 : 0 ≤ (m + (t + 1) * 104729) % 998244353 := Int.emod_nonneg _ (by decide)
        have b1 : (m + (t + 1) * 104729) % 998244353 < 998244353 := Int.emod_lt_of_pos _ (by decide)
        refine ⟨_, rfl, _, rfl, _, _, rfl, rfl, .inl ⟨by omega, by omega⟩, _, rfl, p, _, rfl, ds_n hp1, _, _, rfl, rfl, .inr ⟨by decide, by decide⟩, _, _, rfl, rfl, .inl ⟨_, rfl, _, _, rfl, rfl, by show (0 : Int) < 2147483647; decide, ?_⟩⟩
        refine ⟨_, rfl, _, rfl, p, _, rfl, dp_m hp1, ?_⟩
        refine ⟨_, rfl, _, _, rfl, rfl, ⟨by decide, by decide⟩, .inl ⟨_, rfl, _, rfl, _, _, rfl, rfl, by omega, ?_⟩⟩
        exact q _ _ (d1.trans (dr_p hp1 hc1)) (Int.emod_nonneg _ (by omega)) (Int.emod_lt_of_pos _ (by omega))
end
end Lp

namespace Lp
open PySem PySem.Spec PyProof.Rows L2
section
variable {P : Program} {w : World} {K : PySem.W.Frag} {mg : Str → Option Value} {base : Heap}
def spSource (K : PySem.W.Frag) : Sp := fun vs H Q _ => ∃ (a : Addr) (ns : List Int), vs = [.ref a] ∧ SqL K H a (ns.map V.int) ∧ ns.length ≤ 63 ∧ ∀ H' p c, Same H H' → SrcOk H' p c → Q (.ref p) H'
theorem ok_law_source (T : Txt K mg) : Ok P w base 1 T.law_source (spSource K) := by
  refine T.law_source.fn.ok sc_law_source (fun vs H Q E h => ?_) (fun cdv A outer s H vs Q E hr h => ?_)
  · obtain ⟨_, _, rfl, _⟩ := h
    rfl
  obtain ⟨a, ns, rfl, hS, hn, q⟩ := h
  refine ⟨_, (pss_cons (ps_set (i := 1) sc_law_source.nd rfl (Or.inl rfl) pe_int)
      (pss_cons (ps_for PassesOwn.never rfl (pi_list (pv 0)) (pg_name (i := 2) sc_law_source.nd rfl (Or.inl rfl))
      (pss_one (ps_set (i := 1) sc_law_source.nd rfl (Or.inl rfl) (pe_op op_mod (pe_callTy call_int1 (by rfl) T.int_ (by decide +kernel) (pa_cons (pe_op op_add (pe_op op_add (pe_op op_mul (pv 1) pe_int) (pe_op op_mul (pv 2) pe_int)) pe_int) pa_nil)) pe_int))))
      (pss_one (ps_ret (pe_disp (pps_cons pe_str (pe_revL (pe_lc (own := [("_law_cell", 2)]) rfl sc_law_source.nd (pi_list (pv 0)) (blkOk_by (own := [("_law_cell", 2)]) (N := ["_law_script", "_law_mixed_here", "_law_cell"]) (sc := defScope s_law_source) (by decide +kernel)) (fun _ _ _ _ _ => (pg_name (i := 2) sc_law_source.nd rfl (Or.inl rfl))) (fun _ _ _ _ _ => pts_nil) (fun _ _ _ _ _ => (pe_callB call_abs (by rfl) T.abs_ (by decide +kernel) (pa_cons (pv 2) pa_nil))))) (pps_cons pe_str pe_int (pps_cons pe_str (pv 1) (pps_cons pe_str pe_int pps_nil)))) (by rfl) (by rfl) (fun z => by cases z) (by decide)))))), ?_⟩
  refine ⟨_, rfl, a, rfl, ⟨_, hS⟩, for_list (K := K) (a := a) (xs := ns.map V.int) (fun i σ H' => ∃ (z : Int) (x : Option V), σ = [some (.ref a), some (.int z), x] ∧ H' = H) ⟨11, none, rfl, rfl⟩ (fun i σ H' _ h => ?_) ?_ ?_⟩
  · obtain ⟨_, _, _, rfl⟩ := h
    exact hS
  · rintro i y σ H1 hy ⟨z, x, rfl, rfl⟩
    rw [List.getElem?_map] at hy
    obtain ⟨n, _, rfl⟩ := Option.map_eq_some_iff.mp hy
    refine ⟨_, rfl, _, _, rfl, rfl, .inr ⟨by decide, by decide⟩, _, rfl, _, _, rfl, rfl, .inr ⟨by decide, by decide⟩, _, _, rfl, rfl, _, _, rfl, rfl, .inl ⟨_, rfl, _, _, rfl, rfl, by show (0 : Int) < 2147483629; decide, ?_⟩⟩
    exact ⟨_, _, rfl, rfl⟩
  · rintro σ H1 ⟨z, x, rfl, rfl⟩
    intro p np
    have k1 := sm_new (o := .dK []) np
    refine ⟨_, rfl, a, rfl, ⟨_, k1.seq hS⟩, fun D nD => ?_⟩
    have k2 := sm_new (o := .lst []) nD
    refine lc_list (K := K) (a := a) (xs := ns.map V.int) (fun i H' => ∃ acc : List Int, H' D = some (.lst (acc.map V.int)) ∧ acc.length = i ∧ Same (upd H1 p (.dK [])) H') ⟨[], upd_same, rfl, k2⟩ (fun i H' _ h => ?_) ?_ ?_
    · obtain ⟨_, _, _, s3⟩ := h
      exact s3.seq (k1.seq hS)
    · rintro i y H3 hy ⟨acc, hacc, la, s3⟩
      rw [List.getElem?_map] at hy
      obtain ⟨n, hin, rfl⟩ := Option.map_eq_some_iff.mp hy
      have il := (List.getElem?_eq_some_iff.mp hin).1
      refine ⟨rfl, ?_⟩
      refine ⟨_, rfl, _, rfl, acc.map V.int, hacc, smallL _ (by rw [List.length_map]; omega), acc ++ [if n < 0 then -n else n], ?_, by simp [la], sm_mut s3 nD⟩
      rw [upd_same, List.map_append]
      rfl
    · rintro H3 ⟨acc, hacc, la, s3⟩
      refine ⟨D, _, rfl, SqL.of hacc, fun R nR => ?_⟩
      have k4 := sm_new (o := .lst (acc.map V.int).reverse) nR
      have hp := k4 _ _ (s3 _ _ upd_same)
      refine ⟨_, rfl, hp, [(kC, .ref R), (kL, .int 1), (kM, .int z), (kN, .int 0)], rfl, by show 4 ≤ 15; decide, ?_⟩
      rw [sd_merge]
      have nRp : R ≠ p := fun e => by
        rw [e] at nR
        rw [s3 _ _ upd_same] at nR
        cases nR
      refine q _ p R (sm_mut ((k1.trans s3).trans k4) np) ⟨⟨_, _, _, upd_same⟩, acc.reverse, ?_⟩
      rw [upd_ne nRp, upd_same, List.map_reverse]
def spOf : Sp := fun vs H Q _ => ∃ (p c L : Addr) (xs : List V), vs = [.ref p, .ref L] ∧ SrcOk H p c ∧ H L = some (.lst xs) ∧ L ≠ c ∧ 1 ≤ xs.length ∧ xs.length ≤ 1000 ∧ ∀ H' x, Dr p c H H' → x ∈ xs → Q x H'
theorem ok_law_of (T : Txt K mg) : Ok P w base 2 T.law_of spOf := by
  have G_law_pick := ok_law_pick (P := P) (w := w) (base := base) T
  refine T.law_of.fn.ok sc_law_of (fun vs H Q E h => ?_) (fun cdv A outer s H vs Q E hr h => ?_)
  · obtain ⟨_, _, _, _, rfl, _⟩ := h
    rfl
  obtain ⟨p, c, L, xs, rfl, hs, hL, nc, n1, n2, q⟩ := h
  refine ⟨_, (pss_one (ps_ret (pe_ix ix_list (pv 1) (pe_call G_law_pick (hr.mono (by omega)) (by rfl) T.law_pick.m T.law_pick.fn.kp T.law_pick.b .nil pass0 (pa_cons (pv 0) (pa_cons (pe_callB call_len_seq (by rfl) T.len_ PySem.boot_len (pa_cons (pv 1) pa_nil)) pa_nil))) (fun _ _ => rfl)))), ?_⟩
  refine ⟨_, rfl, _, rfl, _, rfl, L, xs, rfl, .inl (SqL.of hL), p, c, _, rfl, hs, by omega, by omega, fun H' z dr z0 z1 => ?_⟩
  have np : L ≠ p := hs.np hL (fun _ z => by cases z)
  have hL' := dr.keep L _ np nc hL
  obtain ⟨k, rfl⟩ : ∃ k : Nat, z = (k : Int) := ⟨z.toNat, by omega⟩
  have zl : k < xs.length := by omega
  exact ⟨L, xs, _, xs[k], rfl, rfl, SqL.of hL', atI_nat (List.getElem?_eq_getElem zl), q _ _ dr (List.getElem_mem zl)⟩
def spMixed : Sp := fun vs H Q _ => ∃ (p c L : Addr) (xs : List V), vs = [.ref p, .ref L] ∧ SrcOk H p c ∧ H L = some (.lst xs) ∧ xs.length ≤ 1000 ∧ ∀ H' M ys, Dr p c H H' → H M = none → H' M = some (.lst ys) → ys.length = xs.length → (∀ y ∈ ys, y ∈ xs) → Q (.ref M) H'
theorem ok_law_mixed (T : Txt K mg) : Ok P w base 2 T.law_mixed spMixed := by
  have G_law_pick := ok_law_pick (P := P) (w := w) (base := base) T
  refine T.law_mixed.fn.ok sc_law_mixed (fun vs H Q E h => ?_) (fun cdv A outer s H vs Q E hr h => ?_)
  · obtain ⟨_, _, _, _, rfl, _⟩ := h
    rfl
  obtain ⟨p, c, L, xs, rfl, hs, hL, n2, q⟩ := h
  refine ⟨_, (pss_cons (ps_set (i := 2) sc_law_mixed.nd rfl (Or.inr rfl) (pe_callTy call_list_of (by rfl) T.list_ (by decide +kernel) (pa_cons (pv 1) pa_nil)))
      (pss_one (ps_ret (pe_lc (own := [("_law_lap", 3)]) rfl sc_law_mixed.nd (pi_range1 rfl T.range_ (pa_cons (pe_callB call_len_seq (by rfl) T.len_ PySem.boot_len (pa_cons (pv 2) pa_nil)) pa_nil)) (blkOk_by (own := [("_law_lap", 3)]) (N := ["_law_source_here", "_law_things", "_law_rest", "_law_lap"]) (sc := defScope s_law_mixed) (by decide +kernel)) (fun _ _ _ _ _ => (pg_name (i := 3) sc_law_mixed.nd rfl (Or.inl rfl))) (fun _ _ _ _ _ => pts_nil) (fun _ _ _ _ _ => (pe_bmK (K := K) rfl PySem.F.plainAttrs_list PySem.F.slot_list_pop PySem.F.type_list_pop mt_popAt (pv 2) (pa_cons (pe_call G_law_pick (hr.mono (by omega)) (by rfl) T.law_pick.m T.law_pick.fn.kp T.law_pick.b .nil pass0 (pa_cons (pv 0) (pa_cons (pe_callB (call_lenK (K := K)) (by rfl) T.len_ PySem.boot_len (pa_cons (pv 2) pa_nil)) pa_nil))) pa_nil))))))), ?_⟩
  refine ⟨_, rfl, L, xs, rfl, .inl (SqL.of hL), fun R nR => ?_⟩
  have k1 := sm_new (o := .lst xs) nR
  refine ⟨_, rfl, R, xs, rfl, .inl (SqL.of upd_same), (xs.length : Int), rfl, by omega, by omega, ?_⟩
  intro D nD
  rw [Int.toNat_natCast]
  have k2 := sm_new (o := .lst []) nD
  have d2 := (Dr.of hs k1).same k2
  have nDR : D ≠ R := fun e => by rw [e, upd_same] at nD; cases nD
  have ncR : c ≠ R := fun e => by
    obtain ⟨_, cs, hc⟩ := hs
    rw [e, nR] at hc
    cases hc
  have hsc := d2.ok
  have nD0 : H D = none := k1.free nD
  have ncD : c ≠ D := fun e => by
    obtain ⟨_, cs, hc⟩ := hs
    rw [e, nD0] at hc
    cases hc
  have nRp : R ≠ p := fun e => by
    obtain ⟨⟨_, _, _, hp⟩, _⟩ := hs
    rw [← e, nR] at hp
    cases hp
  have nDp : D ≠ p := fun e => by
    obtain ⟨⟨_, _, _, hp⟩, _⟩ := hs
    rw [← e, nD0] at hp
    cases hp
  refine lc_range (lo := 0) (n := xs.length) (fun i H' => ∃ rs acc : List V, H' R = some (.lst rs) ∧ H' D = some (.lst acc) ∧ rs.length + i = xs.length ∧ acc.length = i ∧ (∀ y ∈ rs, y ∈ xs) ∧ (∀ y ∈ acc, y ∈ xs) ∧ SrcOk H' p c ∧ ∀ b o, b ≠ p → b ≠ c → H b = some o → H' b = some o)
    ⟨xs, [], k2 _ _ upd_same, upd_same, rfl, rfl, fun _ h => h, (fun y h => by cases h), d2.ok, d2.keep⟩ ?_ ?_
  · rintro i H3 hi ⟨rs, acc, hR, hD, l1, l2, m1, m2, ok3, kp3⟩
    refine ⟨rfl, ?_⟩
    refine ⟨_, rfl, .inl ⟨rfl, _, SqL.of hR⟩, _, rfl, _, rfl, R, rs, rfl, .inl (SqL.of hR), p, c, _, rfl, ok3, by omega, by omega, fun H4 z d4 z0 z1 => ?_⟩
    have hR4 := d4.keep R _ nRp ncR.symm hR
    have hD4 := d4.keep D _ nDp ncD.symm hD
    obtain ⟨k, rfl⟩ : ∃ k : Nat, z = (k : Int) := ⟨z.toNat, by omega⟩
    have zl : k < rs.length := by omega
    have si : seqIndex? (k : Int) rs.length = some k := by
      rw [seqIndex_of (by omega) (by omega)]
      rfl
    refine ⟨R, rs, _, k, rs[k], rfl, rfl, hR4, by omega, by omega, si, List.getElem?_eq_getElem zl, ?_⟩
    have nRD : R ≠ D := nDR.symm
    refine ⟨acc, by rw [upd_ne nDR]; exact hD4, smallL _ (by omega), rs.eraseIdx k, acc ++ [rs[k]], by rw [upd_ne nRD, upd_same], upd_same, ?_, by simp [l2], fun y hy => m1 y (List.mem_of_mem_eraseIdx hy), fun y hy => ?_, ?_, fun b o h1 h2 e => ?_⟩
    · rw [List.length_eraseIdx, if_pos zl]
      omega
    · rcases List.mem_append.mp hy with e | e
      · exact m2 y e
      · rw [List.mem_singleton.mp e]
        exact m1 _ (List.getElem_mem zl)
    · obtain ⟨⟨l, m, t, e1⟩, cs, e2⟩ := d4.ok
      refine ⟨⟨l, m, t, ?_⟩, cs, ?_⟩
      · rw [upd_ne nDp.symm, upd_ne nRp.symm]
        exact e1
      · rw [upd_ne ncD, upd_ne ncR]
        exact e2
    · rw [upd_ne (ne_of_none e nD0), upd_ne (ne_of_none e nR)]
      exact d4.keep b o h1 h2 (kp3 b o h1 h2 e)
  · rintro H3 ⟨rs, acc, hR, hD, l1, l2, m1, m2, ok3, kp3⟩
    exact q H3 D acc ⟨ok3, kp3⟩ nD0 hD l2 m2
end
end Lp

namespace Lp
open PySem PySem.Spec PyProof.Rows L2
section
variable {P : Program} {w : World} {K : PySem.W.Frag} {mg : Str → Option Value} {base : Heap}
def spShape (k : Nat) : Sp := fun vs H Q _ => ∃ (p c : Addr) (n : Nat) (j : Int), vs = [.ref p, .int j] ∧ j = (n : Int) ∧ 1 ≤ n ∧ n ≤ k ∧ n ≤ 40 ∧ SrcOk H p c ∧ ∀ H' s u, Dr p c H H' → ShAt H' s u → s.size = n → Q u H'
theorem ok_law_shape (T : Txt K mg) : ∀ k : Nat, Ok P w base (41 + k) T.law_shape (spShape k)
  | 0 => by
    have no : ∀ vs H Q E, ¬ spShape 0 vs H Q E := by
      rintro vs H Q E ⟨_, _, n, _, _, _, h1, h2, _⟩
      omega
    exact ⟨fun vs H Q E h => absurd h (no vs H Q E), fun A outer s H args us vs Q E _ _ _ _ h => absurd h (no vs H Q E)⟩
  | k + 1 => by
    have G_law_shape := ok_law_shape T k
    have G_law_halves := ok_law_halves (P := P) (w := w) (base := base) T 40
    have G_law_comb := ok_law_comb (P := P) (w := w) (base := base) T
    have G_law_pick := ok_law_pick (P := P) (w := w) (base := base) T
    refine T.law_shape.fn.ok sc_law_shape (fun vs H Q E h => ?_) (fun cdv A outer s H vs Q E hr h => ?_)
    · obtain ⟨_, _, _, _, rfl, _⟩ := h
      rfl
    obtain ⟨p, c, n, _, rfl, rfl, n1, nk, n40, hs, q⟩ := h
    have hr : Room (41 + k) _ := hr
    refine ⟨_, (pss_cons (ps_set (i := 2) sc_law_shape.nd rfl (Or.inl rfl) (pe_call G_law_pick (hr.mono (by omega)) (by rfl) T.law_pick.m T.law_pick.fn.kp T.law_pick.b .nil pass0 (pa_cons (pv 0) (pa_cons pe_int pa_nil))))
        (pss_cons (ps_if (PW.pt (pw_or (pt_cmpR op_lt (pv 1) pe_int (nomark _)) (pw_or1 (pt_cmpR op_lt (pv 2) pe_int (nomark _)))))
        (pss_one (ps_ret (pe_ix ix_list (pe_lst (pa_cons (pe_call G_law_comb (hr.mono (by omega)) (by rfl) T.law_comb.m T.law_comb.fn.kp T.law_comb.b .nil pass0 (pa_cons (pv 1) (pa_cons pe_str pa_nil))) (pa_cons (pe_call G_law_comb (hr.mono (by omega)) (by rfl) T.law_comb.m T.law_comb.fn.kp T.law_comb.b .nil pass0 (pa_cons (pv 1) (pa_cons pe_str pa_nil))) (pa_cons (pe_call G_law_halves (hr.mono (by omega)) (by rfl) T.law_halves.m T.law_halves.fn.kp T.law_halves.b .nil pass0 (pa_cons (pv 1) pa_nil)) pa_nil)))) (pe_ifExp (pt_cmpR op_lt (pv 2) pe_int (nomark _)) (pv 2) pe_int) (fun _ _ => rfl))))
        pss_nil)
        (pss_cons (ps_set (i := 3) sc_law_shape.nd rfl (Or.inl rfl) (pe_op op_add pe_int (pe_call G_law_pick (hr.mono (by omega)) (by rfl) T.law_pick.m T.law_pick.fn.kp T.law_pick.b .nil pass0 (pa_cons (pv 0) (pa_cons (pe_op op_sub (pv 1) pe_int) pa_nil)))))
        (pss_one (ps_ret (pe_tup (pa_cons (pe_call G_law_shape (hr.mono (by omega)) (by rfl) T.law_shape.m T.law_shape.fn.kp T.law_shape.b .nil pass0 (pa_cons (pv 0) (pa_cons (pv 3) pa_nil))) (pa_cons (pe_call G_law_shape (hr.mono (by omega)) (by rfl) T.law_shape.m T.law_shape.fn.kp T.law_shape.b .nil pass0 (pa_cons (pv 0) (pa_cons (pe_op op_sub (pv 1) (pv 3)) pa_nil))) pa_nil)))))))), ?_⟩
    refine ⟨_, rfl, p, c, _, rfl, hs, by decide, by decide, fun H1 z d1 z0 z1 => ?_⟩
    obtain ⟨m, rfl⟩ : ∃ m : Nat, z = (m : Int) := ⟨z.toNat, by omega⟩
    refine ⟨_, rfl, _, _, rfl, rfl, _, rfl, ite2 (fun g1 => ?_) (fun g1 => ⟨_, rfl, _, _, rfl, rfl, _, rfl, ite2 (fun g2 => ?_) (fun g2 => ?_)⟩)⟩
    rotate_left 2
    · have g1' : ¬ (n : Int) < 2 := of_decide_eq_false (Bool.eq_false_iff.mpr g1)
      refine ⟨_, rfl, _, rfl, _, _, rfl, rfl, p, c, _, rfl, d1.ok, by omega, by omega, fun H2 z d2 y0 y1 => ?_⟩
      obtain ⟨a, rfl⟩ : ∃ a : Nat, z = (a : Int) := ⟨z.toNat, by omega⟩
      refine ⟨_, _, rfl, rfl, _, rfl, _, rfl, p, c, a + 1, _, rfl, by omega, by omega, by omega, by omega, d2.ok, fun H3 s3 u3 d3 h3 e3 => ?_⟩
      refine ⟨_, rfl, _, rfl, _, rfl, _, _, rfl, rfl, p, c, n - (a + 1), _, rfl, by omega, by omega, by omega, by omega, d3.ok, fun H4 s4 u4 d4 h4 e4 => ⟨by show 2 ≤ sizeLine; decide, fun p5 np5 => ?_⟩⟩
      have k5 := sm_new (o := .tup [u3, u4]) np5
      have dd := ((d1.trans d2).trans d3).trans d4
      refine q _ (.p s3 s4) _ (dd.same k5) ⟨p5, u3, u4, rfl, upd_same, h3.keep ((d4.tk d3.ok).trans (Tk.of k5)), h4.keep (Tk.of k5)⟩ ?_
      simp only [Sh.size]
      omega
    all_goals
      refine ⟨_, rfl, true, n, _, rfl, rfl, n1, by omega, fun H2 u2 s2 h2 => ⟨_, rfl, false, n, _, rfl, rfl, n1, by omega, fun H3 u3 s3 h3 => ⟨_, rfl, n, _, rfl, rfl, n1, n40, by omega, fun H4 f4 u4 s4 h4 e4 => ⟨by show 3 ≤ sizeLine; decide, fun L nL => ?_⟩⟩⟩⟩
      have k5 := sm_new (o := .lst [u2, u3, u4]) nL
      have dd := (((d1.same s2).same s3).same s4).same k5
      have e2 := comb_size true (n - 1)
      have e3 := comb_size false (n - 1)
      have a2 := h2.keep (Tk.of ((s3.trans s4).trans k5))
      have a3 := h3.keep (Tk.of (s4.trans k5))
      have a4 := h4.keep (Tk.of k5)
      refine ⟨_, rfl, _, _, rfl, rfl, _, rfl, ite2 (fun g => ?_) (fun g => ?_)⟩
      · have g' : (m : Int) < 3 := of_decide_eq_true g
        obtain rfl | rfl | rfl : m = 0 ∨ m = 1 ∨ m = 2 := by omega
        · exact ⟨_, rfl, L, _, _, u2, rfl, rfl, SqL.of upd_same, atI_nat (j := 0) rfl, q _ _ _ dd a2 (by omega)⟩
        · exact ⟨_, rfl, L, _, _, u3, rfl, rfl, SqL.of upd_same, atI_nat (j := 1) rfl, q _ _ _ dd a3 (by omega)⟩
        · exact ⟨_, rfl, L, _, _, u4, rfl, rfl, SqL.of upd_same, atI_nat (j := 2) rfl, q _ _ _ dd a4 (by omega)⟩
      · exact ⟨L, _, _, u2, rfl, rfl, SqL.of upd_same, atI_nat (j := 0) rfl, q _ _ _ dd a2 (by omega)⟩
def spAnyTable : Sp := fun vs H Q _ => ∃ (p c : Addr) (n : Nat) (j : Int), vs = [.ref p, .int j] ∧ j = (n : Int) ∧ 2 ≤ n ∧ n ≤ 9 ∧ SrcOk H p c ∧ ∀ H' t u, Dr p c H H' → TabAt H' t u → TabOk t → t.length = n - 1 → Q u H'
theorem tab_ok {t : Tab} {n : Nat} (h1 : 2 ≤ n) (h2 : n ≤ 9) (hl : t.length = n - 1) (hz : ∀ k s, t[k]? = some s → s.size = k + 2) : TabOk t := ⟨by omega, by omega, hz⟩
theorem ok_law_any_table (T : Txt K mg) : Ok P w base 82 T.law_any_table spAnyTable := by
  have G_law_shape := ok_law_shape (P := P) (w := w) (base := base) T 40
  refine T.law_any_table.fn.ok sc_law_any_table (fun vs H Q E h => ?_) (fun cdv A outer s H vs Q E hr h => ?_)
  · obtain ⟨_, _, _, _, rfl, _⟩ := h
    rfl
  obtain ⟨p, c, n, _, rfl, rfl, n1, n9, hs, q⟩ := h
  have hr : Room 81 _ := hr
  refine ⟨_, (pss_one (ps_ret (pe_callTy call_tuple_of (by rfl) T.tuple_ (by decide +kernel) (pa_cons (pe_lc (own := [("_law_m", 2)]) rfl sc_law_any_table.nd (pi_range2 rfl T.range_ (pa_cons pe_int (pa_cons (pe_op op_add (pv 1) pe_int) pa_nil))) (blkOk_by (own := [("_law_m", 2)]) (N := ["_law_source_here", "_law_size_here", "_law_m"]) (sc := defScope s_law_any_table) (by decide +kernel)) (fun _ _ _ _ _ => (pg_name (i := 2) sc_law_any_table.nd rfl (Or.inl rfl))) (fun _ _ _ _ _ => pts_nil) (fun _ _ _ _ _ => (pe_call G_law_shape (hr.mono (by omega)) (by rfl) T.law_shape.m T.law_shape.fn.kp T.law_shape.b .nil pass0 (pa_cons (pv 0) (pa_cons (pv 2) pa_nil))))) pa_nil)))), ?_⟩
  refine ⟨_, rfl, _, _, rfl, rfl, 2, (n : Int) + 1, rfl, by omega, ?_⟩
  intro D nD
  have en : ((n : Int) + 1 - 2).toNat = n - 1 := by omega
  rw [en]
  have k1 := sm_new (o := .lst []) nD
  have d1 := Dr.of hs k1
  have nDp : D ≠ p := fun e => by
    obtain ⟨⟨_, _, _, hp⟩, _⟩ := hs
    rw [← e, nD] at hp
    cases hp
  have nDc : D ≠ c := fun e => by
    obtain ⟨_, cs, hc⟩ := hs
    rw [← e, nD] at hc
    cases hc
  refine lc_range (lo := 2) (n := n - 1) (fun i H' => ∃ (acc : List V) (t : Tab), H' D = some (.lst acc) ∧ ShsAt H' t acc ∧ t.length = i ∧ (∀ k s, t[k]? = some s → s.size = k + 2) ∧ SrcOk H' p c ∧ ∀ b o, b ≠ p → b ≠ c → H b = some o → H' b = some o)
    ⟨[], [], upd_same, .nil, rfl, (fun k s e => by cases e), d1.ok, d1.keep⟩ ?_ ?_
  · rintro i H3 hi ⟨acc, t, hD, ht, l1, sz, ok3, kp3⟩
    refine ⟨rfl, _, rfl, _, rfl, p, c, i + 2, _, rfl, by omega, by omega, by omega, by omega, ok3, fun H4 s u d4 hu eu => ?_⟩
    have hD4 := d4.keep D _ nDp nDc hD
    have al := ht.length
    have tk := d4.tk ok3
    refine ⟨acc, hD4, smallL _ (by omega), acc ++ [u], t ++ [s], upd_same, ?_, by simp [l1], ?_, ?_, fun b o h1 h2 e => ?_⟩
    · exact pd_append (ShsAt.keep (tk.trans (tk_lst hD4)) ht) (.cons (hu.keep (tk_lst hD4)) .nil)
    · intro k x e
      by_cases hk : k < t.length
      · rw [List.getElem?_append_left hk] at e
        exact sz k x e
      · rw [List.getElem?_append_right (by omega)] at e
        have k0 : k - t.length = 0 := by
          have := (List.getElem?_eq_some_iff.mp e).1
          simp at this
          omega
        rw [k0] at e
        cases e
        omega
    · obtain ⟨⟨l, m, t, e1⟩, cs, e2⟩ := d4.ok
      refine ⟨⟨l, m, t, ?_⟩, cs, ?_⟩
      · rw [upd_ne nDp.symm]
        exact e1
      · rw [upd_ne nDc.symm]
        exact e2
    · rw [upd_ne (ne_of_none e nD)]
      exact d4.keep b o h1 h2 (kp3 b o h1 h2 e)
  · rintro H3 ⟨acc, t, hD, ht, l1, sz, ok3, kp3⟩
    refine ⟨D, acc, rfl, .inl ⟨SqL.of hD, fun l hl => ?_⟩⟩
    have k9 := sm_new (o := .tup acc) hl
    exact q _ t _ ((Dr.mk ok3 kp3).same k9) ⟨l, acc, rfl, upd_same, ShsAt.keep (Tk.of k9) ht⟩ (tab_ok n1 n9 l1 sz) l1
end
end Lp

namespace Lp
open PySem PySem.Spec PyProof.Rows L2
section
variable {P : Program} {w : World} {K : PySem.W.Frag} {mg : Str → Option Value} {base : Heap}
theorem press_all {t : Tab} (ok : TabOk t) (row : List Sh) : sizes (pressRow t row) = sizes row := by
  have h := press_sizes ok row ((pressRow t row).length + row.length)
  rw [List.take_of_length_le (by omega), List.take_of_length_le (by
    have : (pressRow t row).length + row.length ≤ ((pressRow t row).length + row.length) * (t.length + 1) := Nat.le_mul_of_pos_right _ (Nat.succ_pos _)
    omega)] at h
  exact h
theorem rep_all (n : Nat) : sizes (List.replicate n Sh.o) = n := by
  have h := sizes_rep n n
  rw [List.take_of_length_le (by simp)] at h
  omega
theorem sz_snoc {t : Tab} {y : Sh} (sz : ∀ k s, t[k]? = some s → s.size = k + 2) (hy : y.size = t.length + 2) : ∀ k s, (t ++ [y])[k]? = some s → s.size = k + 2 := by
  intro k x e
  by_cases hk : k < t.length
  · rw [List.getElem?_append_left hk] at e
    exact sz k x e
  · rw [List.getElem?_append_right (by omega)] at e
    have k0 : k - t.length = 0 := by
      have := (List.getElem?_eq_some_iff.mp e).1
      simp at this
      omega
    rw [k0] at e
    cases e
    omega
def spGlue : Sp := fun vs H Q _ => ∃ (t1 t2 : Tab) (v1 v2 : V), vs = [v1, v2] ∧ TabAt H t1 v1 ∧ TabOk t1 ∧ t1.length ≤ 2 ∧ TabAt H t2 v2 ∧ TabOk t2 ∧ t2.length ≤ 2 ∧ ∀ H' t u, Same H H' → TabAt H' t u → TabOk t → Q u H'
theorem ok_law_glue (T : Txt K mg) : Ok P w base 82 T.law_glue spGlue := by
  have G_law_pressed := ok_law_pressed (P := P) (w := w) (base := base) T
  have G_law_filled := ok_law_filled (P := P) (w := w) (base := base) T 40
  have G_law_entry := ok_law_entry (P := P) (w := w) (base := base) T
  refine T.law_glue.fn.ok sc_law_glue (fun vs H Q E h => ?_) (fun cdv A outer s H vs Q E hr h => ?_)
  · obtain ⟨_, _, _, _, rfl, _⟩ := h
    rfl
  obtain ⟨t1, t2, v1, v2, rfl, h1, ok1, l1, h2, ok2, l2, q⟩ := h
  have hr : Room 81 _ := hr
  refine ⟨_, (pss_cons (ps_par (i := 2) (j := 3) rfl sc_law_glue.nd rfl rfl (by decide) rfl rfl (pa_cons (pe_lst pa_nil) (pa_cons (pe_op op_mul (pe_op op_add (pe_callB call_len_seq (by rfl) T.len_ PySem.boot_len (pa_cons (pv 0) pa_nil)) pe_int) (pe_op op_add (pe_callB call_len_seq (by rfl) T.len_ PySem.boot_len (pa_cons (pv 1) pa_nil)) pe_int)) pa_nil)) (by rfl))
      (pss_cons (ps_for PassesOwn.never rfl (pi_range2 rfl T.range_ (pa_cons pe_int (pa_cons (pe_op op_add (pv 3) pe_int) pa_nil))) (pg_name (i := 4) sc_law_glue.nd rfl (Or.inl rfl))
      (pss_cons (ps_set (i := 5) sc_law_glue.nd rfl (Or.inl rfl) (pe_call G_law_pressed (hr.mono (by omega)) (by rfl) T.law_pressed.m T.law_pressed.fn.kp T.law_pressed.b .nil pass0 (pa_cons (pv 0) (pa_cons (pe_op op_rep (pe_lst (pa_cons (pe_tup pa_nil) pa_nil)) (pv 4)) pa_nil))))
      (pss_one (ps_expr (pe_bm PySem.F.plainAttrs_list PySem.F.slot_list_append PySem.F.type_list_append mt_append (pv 2) (pa_cons (pe_call G_law_filled (hr.mono (by omega)) (by rfl) T.law_filled.m T.law_filled.fn.kp T.law_filled.b .nil pass0 (pa_cons (pe_call G_law_entry (hr.mono (by omega)) (by rfl) T.law_entry.m T.law_entry.fn.kp T.law_entry.b .nil pass0 (pa_cons (pv 1) (pa_cons (pe_callB call_len_seq (by rfl) T.len_ PySem.boot_len (pa_cons (pv 5) pa_nil)) pa_nil))) (pa_cons (pv 5) pa_nil))) pa_nil))))))
      (pss_one (ps_ret (pe_callTy call_tuple_of (by rfl) T.tuple_ (by decide +kernel) (pa_cons (pv 2) pa_nil)))))), ?_⟩
  obtain ⟨a, xs, rfl, ha, hxs⟩ := id h1
  obtain ⟨b, ys, rfl, hb, hys⟩ := id h2
  have xl := hxs.length
  have yl := hys.length
  have n1 := ok1.ne
  have n2 := ok2.ne
  refine ⟨Nat.zero_le _, fun F nF => ?_⟩
  have k1 := sm_new (o := .lst []) nF
  refine ⟨_, rfl, a, xs, rfl, .inr (SqT.of (k1 _ _ ha)), _, _, rfl, rfl, _, rfl, b, ys, rfl, .inr (SqT.of (k1 _ _ hb)), _, _, rfl, rfl, _, _, rfl, rfl, .inl ⟨by omega, by omega⟩, _, _, rfl, ?_⟩
  obtain ⟨N, hN, hN1, hN9⟩ : ∃ N : Nat, N = (t1.length + 1) * (t2.length + 1) ∧ 4 ≤ N ∧ N ≤ 9 := by
    refine ⟨_, rfl, ?_⟩
    obtain e | e : t1.length = 1 ∨ t1.length = 2 := by omega
    all_goals
      obtain f | f : t2.length = 1 ∨ t2.length = 2 := by omega
      all_goals rw [e, f]; decide
  have eN : (((xs.length : Nat) : Int) + 1) * (((ys.length : Nat) : Int) + 1) = (N : Int) := by
    rw [hN, ← xl, ← yl, Int.natCast_mul]
    rfl
  refine ⟨_, rfl, _, _, rfl, rfl, 2, ((N + 1 : Nat) : Int), ?_, by omega, ?_⟩
  · show [V.int 2, V.int ((((xs.length : Nat) : Int) + 1) * (((ys.length : Nat) : Int) + 1) + 1)] = _
    rw [eN]
    rfl
  rw [show (((N + 1 : Nat) : Int) - 2).toNat = N - 1 by omega]
  refine for_range (lo := 2) (n := N - 1) (fun i σ H' => ∃ (ws : List V) (t : Tab) (x y : Option V), σ = [some (.ref a), some (.ref b), some (.ref F), some (.int (N : Int)), x, y] ∧ H' F = some (.lst ws) ∧ ShsAt H' t ws ∧ t.length = i ∧ (∀ k s, t[k]? = some s → s.size = k + 2) ∧ Same H H')
    ⟨[], [], none, none, ?_, upd_same, .nil, rfl, (fun k s e => by cases e), k1⟩ ?_ ?_
  · show [some (V.ref a), some (V.ref b), some (V.ref F), some (V.int ((((xs.length : Nat) : Int) + 1) * (((ys.length : Nat) : Int) + 1))), none, none] = _
    rw [eN]
  · rintro i σ H1 hi ⟨ws, t, x, y, rfl, hw, ht, tl, sz, sm⟩
    have wl := ht.length
    refine ⟨_, rfl, Nat.zero_le _, fun p0 np0 => ⟨by show 1 ≤ sizeLine; decide, fun L0 nL0 => ⟨_, rfl, L0, _, _, rfl, rfl, upd_same, by omega, by omega, small _ (by simp only [List.length_cons, List.length_nil]; omega), ?_⟩⟩⟩
    rw [show ((2 : Int) + (i : Nat)).toNat = i + 2 by omega]
    have fl : (List.replicate (i + 2) [V.ref p0]).flatten = List.replicate (i + 2) (V.ref p0) := List.flatten_replicate_singleton
    rw [fl]
    intro L1 nL1
    have k2 := sm_new (o := .tup []) np0
    have k3 := sm_new (o := .lst [.ref p0]) nL0
    have k4 := sm_new (o := .lst (List.replicate (i + 2) (V.ref p0))) nL1
    have k24 := (k2.trans k3).trans k4
    have sm4 := sm.trans k24
    have hrow : ShsAt (upd (upd (upd H1 p0 (.tup [])) L0 (.lst [.ref p0])) L1 (.lst (List.replicate (i + 2) (V.ref p0)))) (List.replicate (i + 2) Sh.o) (List.replicate (i + 2) (V.ref p0)) := pd_rep ⟨p0, rfl, k4 _ _ (k3 _ _ upd_same)⟩ (i + 2)
    refine ⟨t1, _, L1, _, List.replicate (i + 2) .o, rfl, h1.keep (Tk.of sm4), ok1, upd_same, hrow, by simp, by simp; omega, fun H5 M us s5 hM hus => ?_⟩
    have sm5 := sm4.trans s5
    have ul := hus.length
    have pl := press_len t1 (List.replicate (i + 2) Sh.o)
    rw [List.length_replicate] at pl
    have pa := press_all ok1 (List.replicate (i + 2) Sh.o)
    rw [rep_all] at pa
    have bd : 1 ≤ (i + 2 + t1.length) / (t1.length + 1) ∧ (i + 2 + t1.length) / (t1.length + 1) ≤ t2.length + 1 := by
      obtain e | e : t1.length = 1 ∨ t1.length = 2 := by omega
      all_goals
        rw [e] at hN ⊢
        omega
    have e1 := entry_size ok2 (m := us.length) (by omega) (by omega)
    refine ⟨_, rfl, .inl ⟨rfl, _, SqL.of (s5 _ _ (k24 _ _ hw))⟩, _, rfl, _, rfl, M, us, rfl, .inl (SqL.of hM), t2, _, us.length, _, rfl, rfl, h2.keep (Tk.of sm5), by omega, by omega, fun u H6 s6 hu => ?_⟩
    refine ⟨_, rfl, _, u, M, us, _, rfl, hu, s6 _ _ hM, ShsAt.keep (Tk.of s6) hus, by omega, by omega, by omega, fun H7 z s7 hz => ?_⟩
    have k27 := ((k24.trans s5).trans s6).trans s7
    have hw7 := k27 _ _ hw
    have tk := tk_lst (o := .lst (ws ++ [z])) hw7
    have fz := fill_size _ (pressRow t1 (List.replicate (i + 2) Sh.o)) (show (entry t2 us.length).size = _ by omega)
    refine ⟨F, ws, _, rfl, rfl, hw7, smallL _ (by omega), ws ++ [z], t ++ [_], _, _, rfl, upd_same, pd_append (ShsAt.keep ((Tk.of k27).trans tk) ht) (.cons (hz.keep tk) .nil), by simp [tl], sz_snoc sz (by omega), sm_mut (sm.trans k27) nF⟩
  · rintro σ H1 ⟨ws, t, x, y, rfl, hw, ht, tl, sz, sm⟩
    refine ⟨_, rfl, F, ws, rfl, .inl ⟨SqL.of hw, fun l hl => ?_⟩⟩
    have k9 := sm_new (o := .tup ws) hl
    exact q _ t _ (sm.trans k9) ⟨l, ws, rfl, upd_same, ShsAt.keep (Tk.of k9) ht⟩ ⟨by omega, by omega, sz⟩
end
end Lp

namespace Lp
open PySem PySem.Spec PyProof.Rows L2
section
variable {P : Program} {w : World} {K : PySem.W.Frag} {mg : Str → Option Value} {base : Heap}
def spTable : Sp := fun vs H Q _ => ∃ (p c : Addr), vs = [.ref p] ∧ SrcOk H p c ∧ ∀ H' t u, Dr p c H H' → TabAt H' t u → TabOk t → Q u H'
theorem SrcOk.cne {p c L : Addr} {H : Hp} (s : SrcOk H p c) (h : H L = none) : L ≠ c := fun e => by
  obtain ⟨_, cs, hc⟩ := s
  rw [← e, h] at hc
  cases hc
theorem SrcOk.pne {p c L : Addr} {H : Hp} (s : SrcOk H p c) (h : H L = none) : L ≠ p := fun e => by
  obtain ⟨⟨_, _, _, hp⟩, _⟩ := s
  rw [← e, h] at hp
  cases hp
theorem ok_law_table (T : Txt K mg) : Ok P w base 83 T.law_table spTable := by
  have G_law_any_table := ok_law_any_table (P := P) (w := w) (base := base) T
  have G_law_glue := ok_law_glue (P := P) (w := w) (base := base) T
  have G_law_of := ok_law_of (P := P) (w := w) (base := base) T
  have G_law_pick := ok_law_pick (P := P) (w := w) (base := base) T
  refine T.law_table.fn.ok sc_law_table (fun vs H Q E h => ?_) (fun cdv A outer s H vs Q E hr h => ?_)
  · obtain ⟨_, _, rfl, _⟩ := h
    rfl
  obtain ⟨p, c, rfl, hs, q⟩ := h
  have hr : Room 82 _ := hr
  refine ⟨_, (pss_cons (ps_if (pt_cmpR op_eq (pe_call G_law_pick (hr.mono (by omega)) (by rfl) T.law_pick.m T.law_pick.fn.kp T.law_pick.b .nil pass0 (pa_cons (pv 0) (pa_cons pe_int pa_nil))) pe_int (nomark _))
      (pss_cons (ps_par (i := 1) (j := 2) rfl sc_law_table.nd rfl rfl (by decide) rfl rfl (pa_cons (pe_call G_law_any_table (hr.mono (by omega)) (by rfl) T.law_any_table.m T.law_any_table.fn.kp T.law_any_table.b .nil pass0 (pa_cons (pv 0) (pa_cons (pe_op op_add pe_int (pe_call G_law_pick (hr.mono (by omega)) (by rfl) T.law_pick.m T.law_pick.fn.kp T.law_pick.b .nil pass0 (pa_cons (pv 0) (pa_cons pe_int pa_nil)))) pa_nil))) (pa_cons (pe_call G_law_any_table (hr.mono (by omega)) (by rfl) T.law_any_table.m T.law_any_table.fn.kp T.law_any_table.b .nil pass0 (pa_cons (pv 0) (pa_cons (pe_op op_add pe_int (pe_call G_law_pick (hr.mono (by omega)) (by rfl) T.law_pick.m T.law_pick.fn.kp T.law_pick.b .nil pass0 (pa_cons (pv 0) (pa_cons pe_int pa_nil)))) pa_nil))) pa_nil)) (by rfl))
      (pss_one (ps_ret (pe_call G_law_glue (hr.mono (by omega)) (by rfl) T.law_glue.m T.law_glue.fn.kp T.law_glue.b .nil pass0 (pa_cons (pv 1) (pa_cons (pv 2) pa_nil))))))
      pss_nil)
      (pss_one (ps_ret (pe_call G_law_any_table (hr.mono (by omega)) (by rfl) T.law_any_table.m T.law_any_table.fn.kp T.law_any_table.b .nil pass0 (pa_cons (pv 0) (pa_cons (pe_call G_law_of (hr.mono (by omega)) (by rfl) T.law_of.m T.law_of.fn.kp T.law_of.b .nil pass0 (pa_cons (pv 0) (pa_cons (pe_lst (pa_cons pe_int (pa_cons pe_int (pa_cons pe_int (pa_cons pe_int (pa_cons pe_int (pa_cons pe_int (pa_cons pe_int (pa_cons pe_int pa_nil))))))))) pa_nil))) pa_nil)))))), ?_⟩
  refine ⟨_, rfl, p, c, _, rfl, hs, by decide, by decide, fun H1 z d1 z0 z1 => ⟨rfl, _, rfl, ite2 (fun g => ?_) (fun g => ?_)⟩⟩
  · refine ⟨_, rfl, _, rfl, p, c, _, rfl, d1.ok, by decide, by decide, fun H2 z2 d2 y0 y1 => ?_⟩
    obtain ⟨a, rfl⟩ : ∃ a : Nat, z2 = (a : Int) := ⟨z2.toNat, by omega⟩
    refine ⟨_, _, rfl, rfl, p, c, 2 + a, _, rfl, by omega, by omega, by omega, d2.ok, fun H3 t3 u3 d3 h3 o3 l3 => ?_⟩
    refine ⟨_, rfl, _, rfl, p, c, _, rfl, d3.ok, by decide, by decide, fun H4 z4 d4 x0 x1 => ?_⟩
    obtain ⟨b, rfl⟩ : ∃ b : Nat, z4 = (b : Int) := ⟨z4.toNat, by omega⟩
    refine ⟨_, _, rfl, rfl, p, c, 2 + b, _, rfl, by omega, by omega, by omega, d4.ok, fun H5 t5 u5 d5 h5 o5 l5 => ?_⟩
    refine ⟨_, _, rfl, _, rfl, _, rfl, t3, t5, _, _, rfl, h3.keep ((d4.tk d3.ok).trans (d5.tk d4.ok)), o3, by omega, h5, o5, by omega, fun H6 t u s6 hu ok => ?_⟩
    exact q _ t _ (((((d1.trans d2).trans d3).trans d4).trans d5).same s6) hu ok
  · refine ⟨_, rfl, _, rfl, by show 8 ≤ sizeLine; decide, fun L nL => ?_⟩
    have k2 := sm_new (o := .lst [.int 2, .int 2, .int 3, .int 3, .int 4, .int 4, .int 5, .int 6]) nL
    have d2 := d1.same k2
    refine ⟨p, c, L, _, rfl, d2.ok, upd_same, d1.ok.cne nL, by decide, by decide, fun H3 x d3 hx => ?_⟩
    obtain ⟨n, rfl, n1, n2⟩ : ∃ n : Nat, x = .int (n : Int) ∧ 2 ≤ n ∧ n ≤ 9 := by
      simp only [List.mem_cons, List.not_mem_nil, or_false] at hx
      rcases hx with e | e | e | e | e | e | e | e <;> rw [e]
      all_goals first | exact ⟨2, rfl, by decide, by decide⟩ | exact ⟨3, rfl, by decide, by decide⟩ | exact ⟨4, rfl, by decide, by decide⟩ | exact ⟨5, rfl, by decide, by decide⟩ | exact ⟨6, rfl, by decide, by decide⟩
    exact ⟨p, c, n, _, rfl, rfl, n1, n2, d3.ok, fun H4 t u d4 hu ok _ => q _ t _ ((d2.trans d3).trans d4) hu ok⟩
end
end Lp

namespace Lp
open PySem PySem.Spec PyProof.Rows L2
section
variable {P : Program} {w : World} {K : PySem.W.Frag} {mg : Str → Option Value} {base : Heap}
theorem ok_law_swung_table (T : Txt K mg) : Ok P w base 83 T.law_swung_table spTable := by
  have G_law_shape := ok_law_shape (P := P) (w := w) (base := base) T 40
  have G_law_mixed := ok_law_mixed (P := P) (w := w) (base := base) T
  have G_law_comb := ok_law_comb (P := P) (w := w) (base := base) T
  have G_law_pick := ok_law_pick (P := P) (w := w) (base := base) T
  refine T.law_swung_table.fn.ok sc_law_swung_table (fun vs H Q E h => ?_) (fun cdv A outer s H vs Q E hr h => ?_)
  · obtain ⟨_, _, rfl, _⟩ := h
    rfl
  obtain ⟨p, c, rfl, hs, q⟩ := h
  have hr : Room 82 _ := hr
  refine ⟨_, (pss_cons (ps_par (i := 1) (j := 2) rfl sc_law_swung_table.nd rfl rfl (by decide) rfl rfl (pa_cons (pe_lst (pa_cons (pe_tup (pa_cons (pe_tup pa_nil) (pa_cons (pe_tup pa_nil) pa_nil))) pa_nil)) (pa_cons (pe_call G_law_mixed (hr.mono (by omega)) (by rfl) T.law_mixed.m T.law_mixed.fn.kp T.law_mixed.b .nil pass0 (pa_cons (pv 0) (pa_cons (pe_lst (pa_cons pe_str (pa_cons pe_str pa_nil))) pa_nil))) pa_nil)) (by rfl))
      (pss_cons (ps_for PassesOwn.never rfl (pi_range2 rfl T.range_ (pa_cons pe_int (pa_cons (pe_op op_add pe_int (pe_call G_law_pick (hr.mono (by omega)) (by rfl) T.law_pick.m T.law_pick.fn.kp T.law_pick.b .nil pass0 (pa_cons (pv 0) (pa_cons pe_int pa_nil)))) pa_nil))) (pg_name (i := 3) sc_law_swung_table.nd rfl (Or.inl rfl))
      (pss_cons (ps_set (i := 4) sc_law_swung_table.nd rfl (Or.inl rfl) (pe_call G_law_comb (hr.mono (by omega)) (by rfl) T.law_comb.m T.law_comb.fn.kp T.law_comb.b .nil pass0 (pa_cons pe_int (pa_cons (pe_ix ix_list (pv 2) (pe_op op_mod (pe_callTy call_int1 (by rfl) T.int_ (by decide +kernel) (pa_cons (pv 3) pa_nil)) pe_int) (fun _ _ => rfl)) pa_nil))))
      (pss_one (ps_expr (pe_bm PySem.F.plainAttrs_list PySem.F.slot_list_append PySem.F.type_list_append mt_append (pv 1) (pa_cons (pe_ifExp (pt_cmpR op_eq (pv 3) pe_int (nomark _)) (pv 4) (pe_tup (pa_cons (pv 4) (pa_cons (pe_call G_law_shape (hr.mono (by omega)) (by rfl) T.law_shape.m T.law_shape.fn.kp T.law_shape.b .nil pass0 (pa_cons (pv 0) (pa_cons (pe_op op_sub (pv 3) pe_int) pa_nil))) pa_nil)))) pa_nil))))))
      (pss_one (ps_ret (pe_callTy call_tuple_of (by rfl) T.tuple_ (by decide +kernel) (pa_cons (pv 1) pa_nil)))))), ?_⟩
  refine ⟨Nat.zero_le _, fun p1 np1 => ⟨Nat.zero_le _, fun p2 np2 => ⟨by show 2 ≤ sizeLine; decide, fun p3 np3 => ⟨by show 1 ≤ sizeLine; decide, fun F nF => ⟨_, rfl, by show 2 ≤ sizeLine; decide, fun S nS => ?_⟩⟩⟩⟩⟩
  have k1 := sm_new (o := .tup []) np1
  have k2 := sm_new (o := .tup []) np2
  have k3 := sm_new (o := .tup [.ref p1, .ref p2]) np3
  have k4 := sm_new (o := .lst [.ref p3]) nF
  have k5 := sm_new (o := .lst [.str "left", .str "right"]) nS
  have k13 := (k1.trans k2).trans k3
  have nF0 : H F = none := k13.free nF
  have k15 := (k13.trans k4).trans k5
  have hs5 := hs.same k15
  have hF5 := k5 _ _ (upd_same (H := upd (upd (upd H p1 (.tup [])) p2 (.tup [])) p3 (.tup [.ref p1, .ref p2])) (a := F) (o := .lst [.ref p3]))
  have hsh5 : ShAt (upd (upd (upd (upd (upd H p1 (.tup [])) p2 (.tup [])) p3 (.tup [.ref p1, .ref p2])) F (.lst [.ref p3])) S (.lst [.str "left", .str "right"])) (.p .o .o) (.ref p3) :=
    ⟨p3, _, _, rfl, (k4.trans k5) _ _ upd_same, ⟨p1, rfl, ((k2.trans k3).trans (k4.trans k5)) _ _ upd_same⟩, ⟨p2, rfl, (k3.trans (k4.trans k5)) _ _ upd_same⟩⟩
  have nFp := hs.pne nF0
  have nFc := hs.cne nF0
  refine ⟨p, c, S, _, rfl, hs5, upd_same, by decide, fun H6 M ys d6 nM hM yl ym => ⟨_, _, rfl, ?_⟩⟩
  have nMp := hs5.pne nM
  have nMc := hs5.cne nM
  have nFM : F ≠ M := ne_of_none hF5 nM
  have d06 := (Dr.of hs k15).trans d6
  have side_of : ∀ k : Nat, k < 2 → ∃ b, ys[k]? = some (.str (side b)) := fun k hk => by
    have kl : k < ys.length := by rw [yl]; exact hk
    have y := ym ys[k] (List.getElem_mem kl)
    simp only [List.mem_cons, List.not_mem_nil, or_false] at y
    rcases y with y | y
    · exact ⟨true, by rw [List.getElem?_eq_getElem kl, y]; rfl⟩
    · exact ⟨false, by rw [List.getElem?_eq_getElem kl, y]; rfl⟩
  refine ⟨_, rfl, p, c, _, rfl, d6.ok, by decide, by decide, fun H7 z d7 z0 z1 => ?_⟩
  obtain ⟨r, rfl⟩ : ∃ r : Nat, z = (r : Int) := ⟨z.toNat, by omega⟩
  refine ⟨_, _, rfl, rfl, 3, (5 : Int) + (r : Int), rfl, by omega, ?_⟩
  rw [show ((5 : Int) + (r : Int) - 3).toNat = r + 2 by omega]
  have hF7 := d7.keep F _ nFp nFc (d6.keep F _ nFp nFc hF5)
  refine for_range (lo := 3) (n := r + 2) (fun i σ H' => ∃ (ws : List V) (t : Tab) (x y : Option V), σ = [some (.ref p), some (.ref F), some (.ref M), x, y] ∧ H' F = some (.lst ws) ∧ ShsAt H' t ws ∧ t.length = i + 1 ∧ (∀ k s, t[k]? = some s → s.size = k + 2) ∧ H' M = some (.lst ys) ∧ Dr p c H H')
    ⟨[.ref p3], [.p .o .o], none, none, rfl, hF7, .cons ((hsh5.keep (d6.tk hs5)).keep (d7.tk d6.ok)) .nil, rfl, fun k s e => ?_, d7.keep M _ nMp nMc hM, d06.trans d7⟩ ?_ ?_
  · have k0 : k = 0 := by
      have := (List.getElem?_eq_some_iff.mp e).1
      simp at this
      omega
    subst k0
    cases e
    rfl
  · rintro i σ H1 hi ⟨ws, t, x, y, rfl, hw, ht, tl, sz, hM1, dr⟩
    have wl := ht.length
    obtain ⟨b, hb⟩ := side_of ((3 + i) % 2) (Nat.mod_lt _ (by decide))
    have em : ((3 : Int) + (i : Nat)) % 2 = (((3 + i) % 2 : Nat) : Int) := by omega
    have hat : atI ys (((3 : Int) + (i : Nat)) % 2) = some (.str (side b)) := by rw [em]; exact atI_nat hb
    refine ⟨_, rfl, _, rfl, .inl ⟨_, rfl, _, _, rfl, rfl, by show (0 : Int) < 2; decide, M, ys, _, _, rfl, rfl, SqL.of hM1, hat, b, 3, _, rfl, rfl, by decide, by decide, fun H2 one s2 h1 => ?_⟩⟩
    have hw2 := s2 _ _ hw
    have hM2 := s2 _ _ hM1
    have d2 := dr.same s2
    refine ⟨_, rfl, .inl ⟨rfl, _, SqL.of hw2⟩, _, rfl, rfl, _, rfl, ite2 (fun g => ?_) (fun g => ?_)⟩
    · have i0 : i = 0 := by
        have e : (3 : Int) + ((i : Nat) : Int) = 3 := V.int.inj (of_decide_eq_true g)
        omega
      subst i0
      have tk := tk_lst (o := .lst (ws ++ [one])) hw2
      refine ⟨_, rfl, F, ws, _, rfl, rfl, hw2, smallL _ (by omega), ws ++ [one], t ++ [_], _, _, rfl, upd_same, pd_append (ShsAt.keep ((Tk.of s2).trans tk) ht) (.cons (h1.keep tk) .nil), by simp [tl], sz_snoc sz (by rw [comb_size, tl]), by rw [upd_ne nFM.symm]; exact hM2, ?_⟩
      refine ⟨⟨?_, ?_⟩, fun b o h1 h2 e => ?_⟩
      · obtain ⟨⟨l, m, t, e1⟩, cs, e2⟩ := d2.ok
        exact ⟨l, m, t, by rw [upd_ne nFp.symm]; exact e1⟩
      · obtain ⟨⟨l, m, t, e1⟩, cs, e2⟩ := d2.ok
        exact ⟨cs, by rw [upd_ne nFc.symm]; exact e2⟩
      · rw [upd_ne (ne_of_none e nF0)]
        exact d2.keep b o h1 h2 e
    · have i0 : i ≠ 0 := by
        rintro rfl
        exact g (by decide)
      refine ⟨_, rfl, _, rfl, _, rfl, _, _, rfl, rfl, p, c, i, _, rfl, by omega, by omega, by omega, by omega, d2.ok, fun H3 s3 u3 d3 h3 e3 => ⟨by show 2 ≤ sizeLine; decide, fun p5 np5 => ?_⟩⟩
      have kk5 := sm_new (o := .tup [one, u3]) np5
      have hw3 := kk5 _ _ (d3.keep F _ nFp nFc hw2)
      have hM3 := kk5 _ _ (d3.keep M _ nMp nMc hM2)
      have d5 := (d2.trans d3).same kk5
      have tk := tk_lst (o := .lst (ws ++ [.ref p5])) hw3
      have tk25 := (d3.tk d2.ok).trans (Tk.of kk5)
      have hone : ShAt _ (.p (comb b (3 - 1)) s3) (.ref p5) := ⟨p5, one, u3, rfl, upd_same, h1.keep tk25, h3.keep (Tk.of kk5)⟩
      refine ⟨F, ws, _, rfl, rfl, hw3, smallL _ (by omega), ws ++ [.ref p5], t ++ [_], _, _, rfl, upd_same, pd_append (ShsAt.keep (((Tk.of s2).trans tk25).trans tk) ht) (.cons (hone.keep tk) .nil), by simp [tl], sz_snoc sz ?_, by rw [upd_ne nFM.symm]; exact hM3, ?_⟩
      · simp only [Sh.size, comb_size]
        omega
      refine ⟨⟨?_, ?_⟩, fun b o h1 h2 e => ?_⟩
      · obtain ⟨⟨l, m, t, e1⟩, cs, e2⟩ := d5.ok
        exact ⟨l, m, t, by rw [upd_ne nFp.symm]; exact e1⟩
      · obtain ⟨⟨l, m, t, e1⟩, cs, e2⟩ := d5.ok
        exact ⟨cs, by rw [upd_ne nFc.symm]; exact e2⟩
      · rw [upd_ne (ne_of_none e nF0)]
        exact d5.keep b o h1 h2 e
  · rintro σ H1 ⟨ws, t, x, y, rfl, hw, ht, tl, sz, hM1, dr⟩
    refine ⟨_, rfl, F, ws, rfl, .inl ⟨SqL.of hw, fun l hl => ?_⟩⟩
    have k9 := sm_new (o := .tup ws) hl
    exact q _ t _ (dr.same k9) ⟨l, ws, rfl, upd_same, ShsAt.keep (Tk.of k9) ht⟩ ⟨by omega, by omega, sz⟩
end
end Lp

namespace Lp
open PySem PySem.Spec PyProof.Rows L2
section
variable {P : Program} {w : World} {K : PySem.W.Frag} {mg : Str → Option Value} {base : Heap}
def spPlan (C : Addr) : Sp := fun vs H Q _ => ∃ (p c : Addr), vs = [.ref p] ∧ SrcOk H p c ∧ ∀ H' pl u, Dr p c H H' → WorldAt C H' pl u → PlOk pl → Q u H'
theorem Dr.mut {p c D : Addr} {H H1 : Hp} {o : HO} (s : SrcOk H p c) (d : Dr p c H H1) (n : H D = none) : Dr p c H (upd H1 D o) := by
  have np := s.pne n
  have nc := s.cne n
  obtain ⟨⟨⟨l, m, t, e1⟩, cs, e2⟩, kp⟩ := d
  exact ⟨⟨⟨l, m, t, by rw [upd_ne np.symm]; exact e1⟩, cs, by rw [upd_ne nc.symm]; exact e2⟩, fun b o h1 h2 e => by rw [upd_ne (ne_of_none e n)]; exact kp b o h1 h2 e⟩
abbrev TabsL (H : Hp) (ts : List Tab) (vs : List V) : Prop := Paired (TabAt H) ts vs
theorem TabsL.keep {H H' : Hp} (k : Tk H H') {ts : List Tab} {vs : List V} (h : TabsL H ts vs) : TabsL H' ts vs := Paired.mapP h fun _ _ q => q.keep k
theorem all_snoc {P : Tab → Prop} {ts : List Tab} {t : Tab} (h : ∀ x ∈ ts, P x) (k : P t) : ∀ x ∈ ts ++ [t], P x := fun x hx => by
  rcases List.mem_append.mp hx with e | e
  · exact h x e
  · rw [List.mem_singleton.mp e]
    exact k
def spMade (C : Addr) : Sp := fun vs H Q _ => ∃ (pl : Pl) (L : Addr) (us : List V) (ve : V), vs = [.ref L, ve] ∧ H L = some (.lst us) ∧ TabsL H pl.ts us ∧ EnAt H pl.en ve ∧ PlOk pl ∧ ∀ H' u, Same H H' → WorldAt C H' pl u → Q u H'
theorem ok_law_made (T : Txt K mg) : Ok P w base 15 T.law_made (spMade T.cP) := by
  have G_initPlan := ok_initPlan (P := P) (w := w) (base := base) T
  refine T.law_made.fn.ok sc_law_made (fun vs H Q E h => ?_) (fun cdv A outer s H vs Q E hr h => ?_)
  · obtain ⟨_, _, _, _, rfl, _⟩ := h
    rfl
  obtain ⟨pl, L, us, ve, rfl, hL, ht, he, ok, q⟩ := h
  have hr : Room 14 _ := hr
  refine ⟨_, (pss_one (ps_ret (pe_disp (pps_cons pe_str (pe_callTy call_tuple_of (by rfl) T.tuple_ (by decide +kernel) (pa_cons (pv 0) pa_nil)) (pps_cons pe_str (pv 1) (pps_cons pe_str (pe_make T.mkPlan G_initPlan (hr.mono (by omega)) (by rfl) T.mgPlan T.initPlan.b .nil pass0 (pa_cons (pe_callTy call_tuple_of (by rfl) T.tuple_ (by decide +kernel) (pa_cons (pv 0) pa_nil)) (pa_cons (pv 1) pa_nil))) pps_nil))) (by rfl) (by rfl) (fun z => by cases z) (by decide)))), ?_⟩
  intro W nW
  have k0 := sm_new (o := .dK []) nW
  refine ⟨_, rfl, L, us, rfl, .inl ⟨SqL.of (k0 _ _ hL), fun a na => ?_⟩⟩
  have k1 := k0.trans (sm_new (o := .tup us) na)
  have hW1 := (sm_new (o := .tup us) na) _ _ (upd_same (H := H) (a := W) (o := .dK []))
  refine ⟨_, rfl, _, rfl, L, us, rfl, .inl ⟨SqL.of (k1 _ _ hL), fun b nb => ?_⟩⟩
  have k2 := sm_new (o := .tup us) nb
  refine ⟨_, rfl, fun x dx nx ndx nex => ?_⟩
  have k3 := sm_new (o := .own x) ndx
  have nx1 : upd (upd (upd (upd H W (.dK [])) a (.tup us)) b (.tup us)) dx (.own x) x = none := by rw [upd_ne nex.symm]; exact nx
  have k4 := sm_new (o := .ins T.cP dx []) nx1
  have k14 := ((k1.trans k2).trans k3).trans k4
  have hT : ∀ H', Same H H' → H' b = some (.tup us) → TabsAt H' pl.ts (.ref b) := fun H' s e => ⟨b, us, rfl, e, ht.keep (Tk.of s)⟩
  have hb4 := (k3.trans k4) _ _ (upd_same (H := upd (upd H W (.dK [])) a (.tup us)) (a := b) (o := .tup us))
  refine ⟨pl, x, dx, .ref b, ve, rfl, upd_same, hT _ k14 hb4, he.keep (Tk.of k14), ok, fun H5 s5 hx => ?_⟩
  have e3 := (k1.trans k2).trans k3
  have k5 : Same H H5 := fun d o e => s5 d o (ne_of_none (e3 _ _ e) nx1) (k4 _ _ (e3 _ _ e))
  have up : ∀ d o, upd (upd (upd (upd H W (.dK [])) a (.tup us)) b (.tup us)) dx (.own x) d = some o → H5 d = some o := fun d o e => s5 d o (ne_of_none e nx1) (k4 _ _ e)
  have ha5 := up _ _ ((k2.trans k3) _ _ (upd_same (H := upd H W (.dK [])) (a := a) (o := .tup us)))
  have hb5 := up _ _ (k3 _ _ (upd_same (H := upd (upd H W (.dK [])) a (.tup us)) (a := b) (o := .tup us)))
  have hW5 := up _ _ ((k2.trans k3) _ _ hW1)
  refine ⟨rfl, hW5, [(kT, .ref a), (kE, ve), (kP, .ref x)], rfl, by show 3 ≤ 15; decide, ?_⟩
  rw [wd_merge]
  have k56 : Same H (upd H5 W (.dK (wd (.ref a) ve (.ref x)))) := sm_mut k5 nW
  have na : a ≠ W := ne_of ha5 hW5 (by intro z; cases z)
  have nb : b ≠ W := ne_of hb5 hW5 (by intro z; cases z)
  have nx : x ≠ W := ne_of hx hW5 (by intro z; cases z)
  exact q _ _ k56 ⟨W, _, ve, _, rfl, upd_same, ⟨a, us, rfl, by rw [upd_ne na]; exact ha5, ht.keep (Tk.of k56)⟩, he.keep (Tk.of k56), x, dx, _, ve, rfl, by rw [upd_ne nx]; exact hx, hT _ k56 (by rw [upd_ne nb]; exact hb5), he.keep (Tk.of k56)⟩
theorem ok_law_near_table (T : Txt K mg) : Ok P w base 84 T.law_near_table spTable := by
  have G_law_any_table := ok_law_any_table (P := P) (w := w) (base := base) T
  have G_law_swung_table := ok_law_swung_table (P := P) (w := w) (base := base) T
  have G_law_of := ok_law_of (P := P) (w := w) (base := base) T
  have G_law_pick := ok_law_pick (P := P) (w := w) (base := base) T
  refine T.law_near_table.fn.ok sc_law_near_table (fun vs H Q E h => ?_) (fun cdv A outer s H vs Q E hr h => ?_)
  · obtain ⟨_, _, rfl, _⟩ := h
    rfl
  obtain ⟨p, c, rfl, hs, q⟩ := h
  have hr : Room 83 _ := hr
  refine ⟨_, (pss_cons (ps_if (pt_cmpR op_eq (pe_call G_law_pick (hr.mono (by omega)) (by rfl) T.law_pick.m T.law_pick.fn.kp T.law_pick.b .nil pass0 (pa_cons (pv 0) (pa_cons pe_int pa_nil))) pe_int (nomark _))
      (pss_one (ps_ret (pe_call G_law_swung_table (hr.mono (by omega)) (by rfl) T.law_swung_table.m T.law_swung_table.fn.kp T.law_swung_table.b .nil pass0 (pa_cons (pv 0) pa_nil))))
      pss_nil)
      (pss_one (ps_ret (pe_call G_law_any_table (hr.mono (by omega)) (by rfl) T.law_any_table.m T.law_any_table.fn.kp T.law_any_table.b .nil pass0 (pa_cons (pv 0) (pa_cons (pe_call G_law_of (hr.mono (by omega)) (by rfl) T.law_of.m T.law_of.fn.kp T.law_of.b .nil pass0 (pa_cons (pv 0) (pa_cons (pe_lst (pa_cons pe_int (pa_cons pe_int (pa_cons pe_int (pa_cons pe_int pa_nil))))) pa_nil))) pa_nil)))))), ?_⟩
  refine ⟨_, rfl, p, c, _, rfl, hs, by decide, by decide, fun H1 z d1 z0 z1 => ⟨rfl, _, rfl, ite2 (fun g => ?_) (fun g => ?_)⟩⟩
  · exact ⟨_, rfl, p, c, rfl, d1.ok, fun H2 t u d2 hu ok => q _ t _ (d1.trans d2) hu ok⟩
  · refine ⟨_, rfl, _, rfl, by show 4 ≤ sizeLine; decide, fun L nL => ?_⟩
    have k2 := sm_new (o := .lst [.int 2, .int 3, .int 3, .int 4]) nL
    have d2 := d1.same k2
    refine ⟨p, c, L, _, rfl, d2.ok, upd_same, d1.ok.cne nL, by decide, by decide, fun H3 x d3 hx => ?_⟩
    obtain ⟨n, rfl, n1, n2⟩ : ∃ n : Nat, x = .int (n : Int) ∧ 2 ≤ n ∧ n ≤ 9 := by
      simp only [List.mem_cons, List.not_mem_nil, or_false] at hx
      rcases hx with e | e | e | e <;> rw [e]
      all_goals first | exact ⟨2, rfl, by decide, by decide⟩ | exact ⟨3, rfl, by decide, by decide⟩ | exact ⟨4, rfl, by decide, by decide⟩
    exact ⟨p, c, n, _, rfl, rfl, n1, n2, d3.ok, fun H4 t u d4 hu ok _ => q _ t _ ((d2.trans d3).trans d4) hu ok⟩
end
end Lp

namespace Lp
open PySem PySem.Spec PyProof.Rows L2
section
variable {P : Program} {w : World} {K : PySem.W.Frag} {mg : Str → Option Value} {base : Heap}
theorem ok_law_small_plan (T : Txt K mg) : Ok P w base 85 T.law_small_plan (spPlan T.cP) := by
  have G_law_near_table := ok_law_near_table (P := P) (w := w) (base := base) T
  have G_law_of := ok_law_of (P := P) (w := w) (base := base) T
  have G_law_pick := ok_law_pick (P := P) (w := w) (base := base) T
  have G_law_made := ok_law_made (P := P) (w := w) (base := base) T
  refine T.law_small_plan.fn.ok sc_law_small_plan (fun vs H Q E h => ?_) (fun cdv A outer s H vs Q E hr h => ?_)
  · obtain ⟨_, _, rfl, _⟩ := h
    rfl
  obtain ⟨p, c, rfl, hs, q⟩ := h
  have hr : Room 84 _ := hr
  refine ⟨_, (pss_cons (ps_setLc (i := 1) (own := [("_law_lap", 4)]) rfl sc_law_small_plan.nd rfl rfl (sw_true rfl rfl rfl (by decide +kernel)) (pi_range1 rfl T.range_ (pa_cons (pe_call G_law_of (hr.mono (by omega)) (by rfl) T.law_of.m T.law_of.fn.kp T.law_of.b .nil pass0 (pa_cons (pv 0) (pa_cons (pe_lst (pa_cons pe_int (pa_cons pe_int (pa_cons pe_int (pa_cons pe_int pa_nil))))) pa_nil))) pa_nil)) (blkOk_by (own := [("_law_lap", 4)]) (N := ["_law_source_here", "_law_tables", "_law_end", "_law_many", "_law_lap"]) (sc := defScope s_law_small_plan) (by decide +kernel)) (fun _ _ _ _ _ => (pg_name (i := 4) sc_law_small_plan.nd rfl (Or.inl rfl))) (fun _ _ _ _ _ => pts_nil) (fun _ _ _ _ _ => (pe_call G_law_near_table (hr.mono (by omega)) (by rfl) T.law_near_table.m T.law_near_table.fn.kp T.law_near_table.b .nil pass0 (pa_cons (pv 0) pa_nil))))
      (pss_cons (ps_par (i := 2) (j := 3) rfl sc_law_small_plan.nd rfl rfl (by decide) rfl rfl (pa_cons (pe_call G_law_of (hr.mono (by omega)) (by rfl) T.law_of.m T.law_of.fn.kp T.law_of.b .nil pass0 (pa_cons (pv 0) (pa_cons (pe_lst (pa_cons pe_str (pa_cons pe_str (pa_cons pe_str (pa_cons pe_str pa_nil))))) pa_nil))) (pa_cons (pe_op op_add pe_int (pe_call G_law_pick (hr.mono (by omega)) (by rfl) T.law_pick.m T.law_pick.fn.kp T.law_pick.b .nil pass0 (pa_cons (pv 0) (pa_cons pe_int pa_nil)))) pa_nil)) (by rfl))
      (pss_one (ps_ret (pe_call G_law_made (hr.mono (by omega)) (by rfl) T.law_made.m T.law_made.fn.kp T.law_made.b .nil pass0 (pa_cons (pv 1) (pa_cons (pe_ifExp (pt_cmpR op_eq (pv 2) pe_str (nomark _)) (pe_callTy call_tuple_of (by rfl) T.tuple_ (by decide +kernel) (pa_cons (pe_lc (own := [("_law_lap", 4)]) rfl sc_law_small_plan.nd (pi_range1 rfl T.range_ (pa_cons (pv 3) pa_nil)) (blkOk_by (own := [("_law_lap", 4)]) (N := ["_law_source_here", "_law_tables", "_law_end", "_law_many", "_law_lap"]) (sc := defScope s_law_small_plan) (by decide +kernel)) (fun _ _ _ _ _ => (pg_name (i := 4) sc_law_small_plan.nd rfl (Or.inl rfl))) (fun _ _ _ _ _ => pts_nil) (fun _ _ _ _ _ => (pe_call G_law_near_table (hr.mono (by omega)) (by rfl) T.law_near_table.m T.law_near_table.fn.kp T.law_near_table.b .nil pass0 (pa_cons (pv 0) pa_nil)))) pa_nil)) (pv 2)) pa_nil))))))), ?_⟩
  refine ⟨_, rfl, by show 4 ≤ sizeLine; decide, fun L nL => ?_⟩
  have k1 := sm_new (o := .lst [.int 0, .int 1, .int 1, .int 2]) nL
  have d1 := Dr.of hs k1
  refine ⟨p, c, L, _, rfl, d1.ok, upd_same, hs.cne nL, by decide, by decide, fun H2 x d2 hx => ?_⟩
  have d02 := d1.trans d2
  obtain ⟨n, rfl, n3⟩ : ∃ n : Nat, x = .int (n : Int) ∧ n ≤ 3 := by
    simp only [List.mem_cons, List.not_mem_nil, or_false] at hx
    rcases hx with e | e | e | e <;> rw [e]
    all_goals first | exact ⟨0, rfl, by decide⟩ | exact ⟨1, rfl, by decide⟩ | exact ⟨2, rfl, by decide⟩ | exact ⟨3, rfl, by decide⟩
  refine ⟨(n : Int), rfl, by omega, by omega, ?_⟩
  intro D nD
  rw [Int.toNat_natCast]
  have nDp := d2.ok.pne nD
  have nDc := d2.ok.cne nD
  have lcstep : ∀ {H2 : Hp} {D : Addr}, SrcOk H2 p c → H2 D = none → ∀ {H3 : Hp} {acc : List V} {ts : List Tab} {i : Nat} {H4 : Hp} {t : Tab} {u : V}, i < 100 → H3 D = some (.lst acc) → TabsL H3 ts acc → ts.length = i → (∀ t ∈ ts, TabOk t) → Dr p c H2 H3 → Dr p c H3 H4 → TabAt H4 t u → TabOk t →
      ∃ acc, H4 D = some (.lst acc) ∧ acc.length < sizeLine ∧ ∃ acc' ts', upd H4 D (.lst (acc ++ [u])) D = some (.lst acc') ∧ TabsL (upd H4 D (.lst (acc ++ [u]))) ts' acc' ∧ ts'.length = i + 1 ∧ (∀ t ∈ ts', TabOk t) ∧ Dr p c H2 (upd H4 D (.lst (acc ++ [u]))) := by
    intro H2 D ok2 nD H3 acc ts i H4 t u hi hD ht l1 ho d23 d34 hu ok
    have hD4 := d34.keep D _ (ok2.pne nD) (ok2.cne nD) hD
    have al := ht.length
    have tk := tk_lst (o := .lst (acc ++ [u])) hD4
    exact ⟨acc, hD4, smallL _ (by omega), acc ++ [u], ts ++ [t], upd_same, pd_append (ht.keep ((d34.tk d23.ok).trans tk)) (.cons (hu.keep tk) .nil), by simp [l1], all_snoc ho ok, (d23.trans d34).mut ok2 nD⟩
  refine lc_range (lo := 0) (n := n) (fun i H' => ∃ (acc : List V) (ts : List Tab), H' D = some (.lst acc) ∧ TabsL H' ts acc ∧ ts.length = i ∧ (∀ t ∈ ts, TabOk t) ∧ Dr p c H2 H')
    ⟨[], [], upd_same, .nil, rfl, (fun t e => by cases e), (Dr.refl d2.ok).mut d2.ok nD⟩ ?_ ?_
  · rintro i H3 hi ⟨acc, ts, hD, ht, l1, ho, d3⟩
    exact ⟨rfl, _, rfl, p, c, rfl, d3.ok, fun H4 t u d4 hu ok => lcstep d2.ok nD (by omega) hD ht l1 ho d3 d4 hu ok⟩
  rintro H3 ⟨acc, ts, hD, ht, l1, ho, d3⟩
  have d03 := d02.trans d3
  refine ⟨_, rfl, by show 4 ≤ sizeLine; decide, fun L2 nL2 => ?_⟩
  have k4 := sm_new (o := .lst [.str "left", .str "right", .str "round", .str "round"]) nL2
  have d4 := Dr.of d3.ok k4
  refine ⟨p, c, L2, _, rfl, d4.ok, upd_same, d3.ok.cne nL2, by decide, by decide, fun H5 x d5 hx => ?_⟩
  refine ⟨_, rfl, p, c, _, rfl, d5.ok, by decide, by decide, fun H6 z d6 z0 z1 => ⟨_, _, rfl, rfl, _, _, rfl, _, rfl, ?_⟩⟩
  obtain ⟨r, rfl⟩ : ∃ r : Nat, z = (r : Int) := ⟨z.toNat, by omega⟩
  have d36 := (d4.trans d5).trans d6
  have d06 := d03.trans d36
  have hD6 := d36.keep D _ nDp nDc hD
  have ht6 := ht.keep (d36.tk d3.ok)
  have flat : ∀ (b : Bool) , (⟨ts, if b then .left else .right⟩ : Pl) = ⟨ts, if b then .left else .right⟩ := fun _ => rfl
  simp only [List.mem_cons, List.not_mem_nil, or_false] at hx
  have hx : x = .str "left" ∨ x = .str "right" ∨ x = .str "round" := by
    rcases hx with e | e | e | e
    · exact .inl e
    · exact .inr (.inl e)
    · exact .inr (.inr e)
    · exact .inr (.inr e)
  rcases hx with rfl | rfl | rfl
  · refine ⟨_, rfl, rfl, false, by decide +kernel, iteF ⟨_, rfl, ⟨ts, .left⟩, D, acc, _, rfl, hD6, ht6, rfl, ⟨by show ts.length ≤ 10; omega, ho, trivial⟩, fun H7 u s7 hu => ?_⟩⟩
    exact q _ _ _ (d06.same s7) hu ⟨by show ts.length ≤ 10; omega, ho, trivial⟩
  · refine ⟨_, rfl, rfl, false, by decide +kernel, iteF ⟨_, rfl, ⟨ts, .right⟩, D, acc, _, rfl, hD6, ht6, rfl, ⟨by show ts.length ≤ 10; omega, ho, trivial⟩, fun H7 u s7 hu => ?_⟩⟩
    exact q _ _ _ (d06.same s7) hu ⟨by show ts.length ≤ 10; omega, ho, trivial⟩
  · refine ⟨_, rfl, rfl, true, by decide +kernel, iteT ⟨_, rfl, ((1 + r : Nat) : Int), rfl, by omega, by omega, ?_⟩⟩
    intro D2 nD2
    rw [Int.toNat_natCast]
    refine lc_range (lo := 0) (n := 1 + r) (fun i H' => ∃ (acc : List V) (ts : List Tab), H' D2 = some (.lst acc) ∧ TabsL H' ts acc ∧ ts.length = i ∧ (∀ t ∈ ts, TabOk t) ∧ Dr p c H6 H')
      ⟨[], [], upd_same, .nil, rfl, (fun t e => by cases e), (Dr.refl d6.ok).mut d6.ok nD2⟩ ?_ ?_
    · rintro i H7 hi ⟨acc, ts, hD, ht, l1, ho, d3⟩
      exact ⟨rfl, _, rfl, p, c, rfl, d3.ok, fun H4 t u d4 hu ok => lcstep d6.ok nD2 (by omega) hD ht l1 ho d3 d4 hu ok⟩
    rintro H7 ⟨acc2, ts2, hE, ht2, l2, ho2, d7⟩
    refine ⟨D2, acc2, rfl, .inl ⟨SqL.of hE, fun l hl => ?_⟩⟩
    have k9 := sm_new (o := .tup acc2) hl
    have d9 := d7.same k9
    have pk : PlOk ⟨ts, .rnd ts2⟩ := ⟨by show ts.length ≤ 10; omega, ho, by omega, by omega, ho2⟩
    refine ⟨⟨ts, .rnd ts2⟩, D, acc, _, rfl, d9.keep D _ nDp nDc hD6, ht6.keep (d9.tk d6.ok), ⟨l, acc2, rfl, upd_same, ht2.keep (Tk.of k9)⟩, pk, fun H10 u s10 hu => ?_⟩
    exact q _ _ _ ((d06.trans d9).same s10) hu pk
theorem ok_law_plan (T : Txt K mg) : Ok P w base 85 T.law_plan (spPlan T.cP) := by
  have G_law_table := ok_law_table (P := P) (w := w) (base := base) T
  have G_law_of := ok_law_of (P := P) (w := w) (base := base) T
  have G_law_pick := ok_law_pick (P := P) (w := w) (base := base) T
  have G_law_made := ok_law_made (P := P) (w := w) (base := base) T
  refine T.law_plan.fn.ok sc_law_plan (fun vs H Q E h => ?_) (fun cdv A outer s H vs Q E hr h => ?_)
  · obtain ⟨_, _, rfl, _⟩ := h
    rfl
  obtain ⟨p, c, rfl, hs, q⟩ := h
  have hr : Room 84 _ := hr
  refine ⟨_, (pss_cons (ps_setLc (i := 1) (own := [("_law_lap", 4)]) rfl sc_law_plan.nd rfl rfl (sw_true rfl rfl rfl (by decide +kernel)) (pi_range1 rfl T.range_ (pa_cons (pe_call G_law_of (hr.mono (by omega)) (by rfl) T.law_of.m T.law_of.fn.kp T.law_of.b .nil pass0 (pa_cons (pv 0) (pa_cons (pe_lst (pa_cons pe_int (pa_cons pe_int (pa_cons pe_int (pa_cons pe_int (pa_cons pe_int pa_nil)))))) pa_nil))) pa_nil)) (blkOk_by (own := [("_law_lap", 4)]) (N := ["_law_source_here", "_law_tables", "_law_end", "_law_many", "_law_lap"]) (sc := defScope s_law_plan) (by decide +kernel)) (fun _ _ _ _ _ => (pg_name (i := 4) sc_law_plan.nd rfl (Or.inl rfl))) (fun _ _ _ _ _ => pts_nil) (fun _ _ _ _ _ => (pe_call G_law_table (hr.mono (by omega)) (by rfl) T.law_table.m T.law_table.fn.kp T.law_table.b .nil pass0 (pa_cons (pv 0) pa_nil))))
      (pss_cons (ps_par (i := 2) (j := 3) rfl sc_law_plan.nd rfl rfl (by decide) rfl rfl (pa_cons (pe_call G_law_of (hr.mono (by omega)) (by rfl) T.law_of.m T.law_of.fn.kp T.law_of.b .nil pass0 (pa_cons (pv 0) (pa_cons (pe_lst (pa_cons pe_str (pa_cons pe_str (pa_cons pe_str (pa_cons pe_str pa_nil))))) pa_nil))) (pa_cons (pe_op op_add pe_int (pe_call G_law_pick (hr.mono (by omega)) (by rfl) T.law_pick.m T.law_pick.fn.kp T.law_pick.b .nil pass0 (pa_cons (pv 0) (pa_cons pe_int pa_nil)))) pa_nil)) (by rfl))
      (pss_one (ps_ret (pe_call G_law_made (hr.mono (by omega)) (by rfl) T.law_made.m T.law_made.fn.kp T.law_made.b .nil pass0 (pa_cons (pv 1) (pa_cons (pe_ifExp (pt_cmpR op_eq (pv 2) pe_str (nomark _)) (pe_callTy call_tuple_of (by rfl) T.tuple_ (by decide +kernel) (pa_cons (pe_lc (own := [("_law_lap", 4)]) rfl sc_law_plan.nd (pi_range1 rfl T.range_ (pa_cons (pv 3) pa_nil)) (blkOk_by (own := [("_law_lap", 4)]) (N := ["_law_source_here", "_law_tables", "_law_end", "_law_many", "_law_lap"]) (sc := defScope s_law_plan) (by decide +kernel)) (fun _ _ _ _ _ => (pg_name (i := 4) sc_law_plan.nd rfl (Or.inl rfl))) (fun _ _ _ _ _ => pts_nil) (fun _ _ _ _ _ => (pe_call G_law_table (hr.mono (by omega)) (by rfl) T.law_table.m T.law_table.fn.kp T.law_table.b .nil pass0 (pa_cons (pv 0) pa_nil)))) pa_nil)) (pv 2)) pa_nil))))))), ?_⟩
  refine ⟨_, rfl, by show 5 ≤ sizeLine; decide, fun L nL => ?_⟩
  have k1 := sm_new (o := .lst [.int 0, .int 1, .int 1, .int 2, .int 3]) nL
  have d1 := Dr.of hs k1
  refine ⟨p, c, L, _, rfl, d1.ok, upd_same, hs.cne nL, by decide, by decide, fun H2 x d2 hx => ?_⟩
  have d02 := d1.trans d2
  obtain ⟨n, rfl, n3⟩ : ∃ n : Nat, x = .int (n : Int) ∧ n ≤ 3 := by
    simp only [List.mem_cons, List.not_mem_nil, or_false] at hx
    rcases hx with e | e | e | e | e <;> rw [e]
    all_goals first | exact ⟨0, rfl, by decide⟩ | exact ⟨1, rfl, by decide⟩ | exact ⟨2, rfl, by decide⟩ | exact ⟨3, rfl, by decide⟩
  refine ⟨(n : Int), rfl, by omega, by omega, ?_⟩
  intro D nD
  rw [Int.toNat_natCast]
  have nDp := d2.ok.pne nD
  have nDc := d2.ok.cne nD
  have lcstep : ∀ {H2 : Hp} {D : Addr}, SrcOk H2 p c → H2 D = none → ∀ {H3 : Hp} {acc : List V} {ts : List Tab} {i : Nat} {H4 : Hp} {t : Tab} {u : V}, i < 100 → H3 D = some (.lst acc) → TabsL H3 ts acc → ts.length = i → (∀ t ∈ ts, TabOk t) → Dr p c H2 H3 → Dr p c H3 H4 → TabAt H4 t u → TabOk t →
      ∃ acc, H4 D = some (.lst acc) ∧ acc.length < sizeLine ∧ ∃ acc' ts', upd H4 D (.lst (acc ++ [u])) D = some (.lst acc') ∧ TabsL (upd H4 D (.lst (acc ++ [u]))) ts' acc' ∧ ts'.length = i + 1 ∧ (∀ t ∈ ts', TabOk t) ∧ Dr p c H2 (upd H4 D (.lst (acc ++ [u]))) := by
    intro H2 D ok2 nD H3 acc ts i H4 t u hi hD ht l1 ho d23 d34 hu ok
    have hD4 := d34.keep D _ (ok2.pne nD) (ok2.cne nD) hD
    have al := ht.length
    have tk := tk_lst (o := .lst (acc ++ [u])) hD4
    exact ⟨acc, hD4, smallL _ (by omega), acc ++ [u], ts ++ [t], upd_same, pd_append (ht.keep ((d34.tk d23.ok).trans tk)) (.cons (hu.keep tk) .nil), by simp [l1], all_snoc ho ok, (d23.trans d34).mut ok2 nD⟩
  refine lc_range (lo := 0) (n := n) (fun i H' => ∃ (acc : List V) (ts : List Tab), H' D = some (.lst acc) ∧ TabsL H' ts acc ∧ ts.length = i ∧ (∀ t ∈ ts, TabOk t) ∧ Dr p c H2 H')
    ⟨[], [], upd_same, .nil, rfl, (fun t e => by cases e), (Dr.refl d2.ok).mut d2.ok nD⟩ ?_ ?_
  · rintro i H3 hi ⟨acc, ts, hD, ht, l1, ho, d3⟩
    exact ⟨rfl, _, rfl, p, c, rfl, d3.ok, fun H4 t u d4 hu ok => lcstep d2.ok nD (by omega) hD ht l1 ho d3 d4 hu ok⟩
  rintro H3 ⟨acc, ts, hD, ht, l1, ho, d3⟩
  have d03 := d02.trans d3
  refine ⟨_, rfl, by show 4 ≤ sizeLine; decide, fun L2 nL2 => ?_⟩
  have k4 := sm_new (o := .lst [.str "left", .str "right", .str "round", .str "round"]) nL2
  have d4 := Dr.of d3.ok k4
  refine ⟨p, c, L2, _, rfl, d4.ok, upd_same, d3.ok.cne nL2, by decide, by decide, fun H5 x d5 hx => ?_⟩
  refine ⟨_, rfl, p, c, _, rfl, d5.ok, by decide, by decide, fun H6 z d6 z0 z1 => ⟨_, _, rfl, rfl, _, _, rfl, _, rfl, ?_⟩⟩
  obtain ⟨r, rfl⟩ : ∃ r : Nat, z = (r : Int) := ⟨z.toNat, by omega⟩
  have d36 := (d4.trans d5).trans d6
  have d06 := d03.trans d36
  have hD6 := d36.keep D _ nDp nDc hD
  have ht6 := ht.keep (d36.tk d3.ok)
  have flat : ∀ (b : Bool) , (⟨ts, if b then .left else .right⟩ : Pl) = ⟨ts, if b then .left else .right⟩ := fun _ => rfl
  simp only [List.mem_cons, List.not_mem_nil, or_false] at hx
  have hx : x = .str "left" ∨ x = .str "right" ∨ x = .str "round" := by
    rcases hx with e | e | e | e
    · exact .inl e
    · exact .inr (.inl e)
    · exact .inr (.inr e)
    · exact .inr (.inr e)
  rcases hx with rfl | rfl | rfl
  · refine ⟨_, rfl, rfl, false, by decide +kernel, iteF ⟨_, rfl, ⟨ts, .left⟩, D, acc, _, rfl, hD6, ht6, rfl, ⟨by show ts.length ≤ 10; omega, ho, trivial⟩, fun H7 u s7 hu => ?_⟩⟩
    exact q _ _ _ (d06.same s7) hu ⟨by show ts.length ≤ 10; omega, ho, trivial⟩
  · refine ⟨_, rfl, rfl, false, by decide +kernel, iteF ⟨_, rfl, ⟨ts, .right⟩, D, acc, _, rfl, hD6, ht6, rfl, ⟨by show ts.length ≤ 10; omega, ho, trivial⟩, fun H7 u s7 hu => ?_⟩⟩
    exact q _ _ _ (d06.same s7) hu ⟨by show ts.length ≤ 10; omega, ho, trivial⟩
  · refine ⟨_, rfl, rfl, true, by decide +kernel, iteT ⟨_, rfl, ((1 + r : Nat) : Int), rfl, by omega, by omega, ?_⟩⟩
    intro D2 nD2
    rw [Int.toNat_natCast]
    refine lc_range (lo := 0) (n := 1 + r) (fun i H' => ∃ (acc : List V) (ts : List Tab), H' D2 = some (.lst acc) ∧ TabsL H' ts acc ∧ ts.length = i ∧ (∀ t ∈ ts, TabOk t) ∧ Dr p c H6 H')
      ⟨[], [], upd_same, .nil, rfl, (fun t e => by cases e), (Dr.refl d6.ok).mut d6.ok nD2⟩ ?_ ?_
    · rintro i H7 hi ⟨acc, ts, hD, ht, l1, ho, d3⟩
      exact ⟨rfl, _, rfl, p, c, rfl, d3.ok, fun H4 t u d4 hu ok => lcstep d6.ok nD2 (by omega) hD ht l1 ho d3 d4 hu ok⟩
    rintro H7 ⟨acc2, ts2, hE, ht2, l2, ho2, d7⟩
    refine ⟨D2, acc2, rfl, .inl ⟨SqL.of hE, fun l hl => ?_⟩⟩
    have k9 := sm_new (o := .tup acc2) hl
    have d9 := d7.same k9
    have pk : PlOk ⟨ts, .rnd ts2⟩ := ⟨by show ts.length ≤ 10; omega, ho, by omega, by omega, ho2⟩
    refine ⟨⟨ts, .rnd ts2⟩, D, acc, _, rfl, d9.keep D _ nDp nDc hD6, ht6.keep (d9.tk d6.ok), ⟨l, acc2, rfl, upd_same, ht2.keep (Tk.of k9)⟩, pk, fun H10 u s10 hu => ?_⟩
    exact q _ _ _ ((d06.trans d9).same s10) hu pk
end
end Lp

namespace Lp
open PySem PySem.Spec PyProof.Rows L2
section
variable {P : Program} {w : World} {K : PySem.W.Frag} {mg : Str → Option Value} {base : Heap}
/-! ### repr of data, where nothing is being shown already -/
theorem call_reprD {X : Cx} (gu : X.A.guards = some []) (un : X.A.units + 64 < cLine) : CallR X (.builtin "repr") (fun xs H Q => ∃ (d : PyData) (a : Addr), xs = [.ref a] ∧ Dp X.K H (.ref a) d ∧ d.showable = true ∧ d.hasDict = false ∧ d.depth ≤ 60 ∧ d.shown.length ≤ sizeLine ∧ Q (.str d.shown) H) := by
  rintro pins s σ H xs us Q I rv ⟨d, a, rfl, dp, sh, nd, dd, sz, q⟩
  match us, rv with
  | [u], .cons r1 .nil =>
    obtain rfl : u = .ref a := r1
    obtain ⟨as, R⟩ := Dp.reads I d _ _ dp rfl
    exact repr_of_reads' R sh (fun z => by rw [nd] at z; cases z) gu (by omega) (fun b o e => e)
      (fun h' u tk k => ⟨.str d.shown, H, I.turnedL (ch := []) (fun b o _ e => k b o e) (fun b hb => by cases hb), ⟨u, rfl⟩, q⟩) sz
/-- a call at hand: the body is read at that very place -/
theorem call_here {x qual : Str} {st : Stmt} {f : Addr} {fd : FuncData} {N ps : List Str} {k : Nat} (F : Fun K x qual st f fd) (S : FnScope N ps (defScope st)) {A : Around} {outer : List Env} {s : Shared} {H : Hp} {args : Args} {us : List Value} {vs : List V} {Q : VK} {E : XK}
    (hl : vs.length = ps.length) (room : Room (k + 1) A) (here : Env0 P w K mg base A outer s H) (bi : BindsTo s fd args (ps.zip us)) (rv : Vals vs us)
    (body : ∀ cdv : Value, Room k (A.deeper (envOfC qual (defScope st) s.heap.objs.size f cdv)) →
      ∃ t, PSs (cxOf CX0 P w K mg base N qual (defScope st) f cdv A outer s H E).nox (defBody st) t ∧ t { nx := fun _ H' => Q .non H', rt := Q } (L2.start N vs) H) :
    codeAny (model P w) A (.call (.ref f) args) (CR CX0 outer P w H s Q E) s := by
  obtain ⟨oc, od, kV, doc, pm, an, cdv, ct, osl, rfl, at_, cin⟩ := F.ex
  have inK := here.mod.kin.keeps fun b o e => (here.bs b o e).1
  have free := here.mod.nolimit.keeps fun b o e => (here.bs b o e).1
  refine codeAny_call_function room.depth (inK _ _ at_) rfl S.co S.gen rfl (PySem.W.codeRec_of inK cin) (bi _ _ _ _ ?_)
  refine wpAny_newFunctionEnv_cells S.kind (fun y hy => ?_) fun env he s1 entered => ?_
  · rcases S.par y.1 (List.of_mem_zip hy).1 with z | z
    · exact .inl z
    · exact .inr ⟨z, PySem.W.cellsFrom_some _ _ _ (.inl z)⟩
  subst he
  refine ⟨free.keeps entered.toInCall.keep, codeAny_func ?_⟩
  obtain ⟨t, ht, hq⟩ := body cdv (room.deeper _)
  refine wpAny_mono (ht.nox.run [] s1 _ H _ (inv_start S room.hd here hl rv entered) hq) (fun fl s' hs => ?_) fun e s' hs => hs
  cases fl with
  | ret u =>
    obtain ⟨v, σ', H', J, r1, q⟩ := hs
    exact ⟨v, H', J.os, J.bare, J.base, J.hok, r1, q⟩
  | next =>
    obtain ⟨σ', H', J, q⟩ := hs
    exact ⟨.non, H', J.os, J.bare, J.base, J.hok, rfl, q⟩
  | brk =>
    obtain ⟨_, _, _, q⟩ := hs
    exact False.elim q
  | cont =>
    obtain ⟨_, _, _, q⟩ := hs
    exact False.elim q
end
end Lp

namespace Lp
open PySem PySem.Spec PyProof.Rows L2
section
variable {P : Program} {w : World} {K : PySem.W.Frag} {mg : Str → Option Value} {base : Heap}
/-- the law's call behind the top: its body, read where nothing is being shown -/
theorem law_here {mb : Str → Option Value} {x qual : Str} {st : Stmt} {f a : Addr} {fd : FuncData} {N : List Str} {p : Str} {k : Nat} {s : Shared} {vs : List Value} {ns : List Int} (F : Fun K x qual st f fd) (S : FnScope N [p] (defScope st))
    (inK : K.In s.heap) (nsG : s.heap.Ns mainGlobals mg) (nsB : s.heap.Ns builtinsNs mb) (boot : ∀ y : Str, y ≠ "__name__" → mb y = bootBuiltins y) (free : s.heap.NoLimit) (noG : s.gens = #[])
    (at_ : s.heap.get? a = some { cls := .type "list", data := .seq vs.toArray }) (whole : IntsAre vs ns) (few : ns.length ≤ sizeLine) (room : Room (k + 1) callerA)
    (bi : ∀ (s : Shared) (u : Value), BindsTo s fd ⟨[u], []⟩ [(p, u)])
    (body : ∀ base : Heap, K.In base → base.Ns mainGlobals mg → ∀ (H : Hp) (cdv : Value), SqL K H a (ns.map V.int) → Room k (callerA.deeper (envOfC qual (defScope st) s.heap.objs.size f cdv)) →
      ∃ t, PSs (cxOf CX0 P w K mg base N qual (defScope st) f cdv callerA [] s H (fun _ _ _ => False)).nox (defBody st) t ∧ t { nx := fun _ _ => V.non = .bl true, rt := fun v _ => v = .bl true } (L2.start N [.ref a]) H) :
    codeAny (model P w) callerA (.call (.ref f) ⟨[.ref a], []⟩) (fun r s' => r = .ok (.ret (.bool true)) ∧ OldK s.heap s'.heap ∧ s'.os = s.os ∧ AllBare s'.gens) s := by
  have vals := vals_ints whole
  have many := whole.length
  suffices core : ∀ H : Hp, (∀ b, H b = none ∨ ∃ o xs, H b = some (.frz o (.lst xs))) → SqL K H a (ns.map V.int) → HOk P w H s.heap → (∀ b, H b ≠ none → b = a) → (H a ≠ none → K.lookup a = none) →
      codeAny (model P w) callerA (.call (.ref f) ⟨[.ref a], []⟩) (fun r s' => r = .ok (.ret (.bool true)) ∧ OldK s.heap s'.heap ∧ s'.os = s.os ∧ AllBare s'.gens) s by
    by_cases known : ∃ o, K.lookup a = some o
    · obtain ⟨o, lk⟩ := known
      have e := inK a o lk
      rw [at_] at e
      cases e
      exact core (fun _ => none) (fun _ => .inl rfl) (.inr ⟨_, vs.toArray, _, lk, rfl, rfl, rfl, by rw [List.size_toArray, many]; exact few, by simpa using vals⟩)
        (fun b u z => nomatch z) (fun b z => (z rfl).elim) (fun z => (z rfl).elim)
    · have lk : K.lookup a = none := Option.eq_none_iff_forall_not_mem.mpr fun o h => known ⟨o, h⟩
      have only : ∀ {b : Addr} {u : HO}, (if b = a then some (HO.frz { cls := .type "list", data := .seq vs.toArray } (.lst (ns.map V.int))) else none) = some u → b = a ∧ u = .frz { cls := .type "list", data := .seq vs.toArray } (.lst (ns.map V.int)) := by
        intro b u z
        split at z
        · exact ⟨by assumption, (Option.some.inj z).symm⟩
        · cases z
      refine core (fun b => if b = a then some (.frz { cls := .type "list", data := .seq vs.toArray } (.lst (ns.map V.int))) else none) (fun b => ?_) (.inl (.inr ⟨_, if_pos rfl⟩)) (fun b u z => ?_) (fun b z => ?_) fun _ => lk
      · by_cases h : b = a
        · exact .inr ⟨_, _, if_pos h⟩
        · exact .inl (if_neg h)
      · obtain ⟨rfl, rfl⟩ := only z
        exact ⟨at_, by rw [List.length_map]; exact few, vs, _, vals, at_⟩
      · exact Classical.byContradiction fun h => z (if_neg h)
  intro H old sq hok mine apart
  have stays : ∀ {b : Addr} {o : Obj}, s.heap.get? b = some o → H b = none → (hidT s.heap H).get? b = some o := fun e n => hidT_get e n
  have noDict : ∀ {b : Addr} {o : Obj} {es : Array DictEntry} {ep : Nat}, s.heap.get? b = some o → o.data = .dict es ep → H b = none := by
    intro b o es ep e d
    refine Classical.byContradiction fun h => ?_
    obtain rfl := mine b h
    rw [at_] at e
    cases e
    cases (show Data.seq vs.toArray _ = Data.dict es ep from d)
  have names : ∀ {b : Addr} {m : Str → Option Value}, s.heap.Ns b m → (hidT s.heap H).Ns b m := by
    rintro b m ⟨o, es, ep, e, d, r⟩
    exact ⟨o, es, ep, stays e (noDict e d), d, r⟩
  have inB : K.In (hidT s.heap H) := by
    intro b o e
    refine stays (inK b o e) (Classical.byContradiction fun h => ?_)
    obtain rfl := mine b h
    rw [apart h] at e
    cases e
  obtain ⟨mc, free1, free2⟩ := free
  have here : Env0 P w K mg (hidT s.heap H) callerA [] s H :=
    ⟨rfl, ⟨inB, names nsG, ⟨mb, names nsB, boot⟩, ⟨mc, names free1, free2⟩⟩, fun b o e => of_hidT e, Nat.le_of_eq (hidT_size _ _), trivial, fun b hb => (nomatch hb), hok, .of_eq noG⟩
  refine codeAny_mono (call_here (Q := fun v _ => v = .bl true) (E := fun _ _ _ => False) F S (us := [.ref a]) (vs := [.ref a]) rfl room here (bi s (.ref a)) (.cons rfl .nil) fun cdv r => ?_) fun r s' h => ?_
  · obtain ⟨t, ht, q⟩ := body _ inB (names nsG) H cdv sq r
    exact ⟨t, ht, q⟩
  match r, h with
  | .error e, h => exact h.elim
  | .ok (.ret u), ⟨v, H', os, bare, un, hok', rv, q⟩ =>
    obtain rfl : v = .bl true := q
    obtain rfl : u = Value.bool true := rv
    refine ⟨rfl, .of_keep fun b o e => ?_, os, bare⟩
    rcases old b with z | ⟨ob, xs, z⟩
    · exact un.keep b o e z (fun h => nomatch h) (by simp)
    · obtain ⟨e1, _⟩ := hok b _ z
      obtain ⟨e2, _⟩ := hok' b _ (un.frzs b ob _ z)
      rw [e] at e1
      cases e1
      exact e2
end
end Lp

namespace Lp
open PySem PySem.Spec PyProof.Rows L2
section
variable {P : Program} {w : World} {K : PySem.W.Frag} {mg : Str → Option Value} {base : Heap}
/-! ### papers as data -/
def pdat (z : Nat × Nat) : PyData := .tuple [.int (z.1 : Int), .int (z.2 : Int)]
def pdats (ps : List (Nat × Nat)) : List PyData := ps.map pdat
theorem prs_dp {H : Hp} : ∀ {ps : List (Nat × Nat)} {us : List V}, PrsAt H ps us → DpAll K H us (pdats ps)
  | [], _, .nil => .nil
  | z :: ps, _, .cons h r => by
    obtain ⟨b, rfl, hb⟩ := h
    exact .cons (two_dp hb) (prs_dp r)
theorem pl_lay : ∀ ps : List (Nat × Nat), PyData.canLayAll0 (pdats ps) = true
  | [] => rfl
  | z :: ps => by
    show (PyData.canLay0 (pdat z) && PyData.canLayAll0 (pdats ps)) = true
    rw [pl_lay ps]
    rfl
theorem pl_depth : ∀ ps : List (Nat × Nat), PyData.depthAll (pdats ps) ≤ 3
  | [] => by simp [pdats, PyData.depthAll]
  | z :: ps => by
    have h := pl_depth ps
    show PyData.depthAll (pdat z :: pdats ps) ≤ 3
    simp only [PyData.depthAll, pdat, PyData.depth]
    omega
theorem nat_weight : ∀ n : Fin 41, PyData.weight (.int ((n.val : Nat) : Int)) ≤ 6 := by decide +kernel
theorem pl_weight : ∀ ps : List (Nat × Nat), (∀ z ∈ ps, z.1 ≤ 40 ∧ z.2 ≤ 40) → PyData.weightAll (pdats ps) ≤ 100 * ps.length
  | [], _ => by simp [pdats, PyData.weightAll]
  | z :: ps, h => by
    obtain ⟨a, b⟩ := h z List.mem_cons_self
    have ih := pl_weight ps fun y hy => h y (List.mem_cons_of_mem _ hy)
    have e1 := nat_weight ⟨z.1, by omega⟩
    have e2 := nat_weight ⟨z.2, by omega⟩
    show PyData.weight (pdat z) + 1 + PyData.weightAll (pdats ps) ≤ 100 * (ps.length + 1)
    have e3 : PyData.weight (pdat z) = PyData.weight (.int (z.1 : Int)) + 1 + (PyData.weight (.int (z.2 : Int)) + 1 + 0) := rfl
    have e1' : PyData.weight (.int (z.1 : Int)) ≤ 6 := e1
    have e2' : PyData.weight (.int (z.2 : Int)) ≤ 6 := e2
    omega
theorem nat_short : ∀ n : Fin 41, ((PyData.int ((n.val : Nat) : Int)).shown.length ≤ 13) := by decide +kernel
theorem nat_log : ∀ n : Fin 41, ((n.val : Nat) : Int).natAbs.log2 < 1920 := by decide +kernel
theorem pl_short : ∀ ps : List (Nat × Nat), (∀ z ∈ ps, z.1 ≤ 40 ∧ z.2 ≤ 40) → PyData.intsShortAll 13 (pdats ps) = true
  | [], _ => rfl
  | z :: ps, h => by
    obtain ⟨a, b⟩ := h z List.mem_cons_self
    show (PyData.intsShort 13 (pdat z) && PyData.intsShortAll 13 (pdats ps)) = true
    rw [pl_short ps fun y hy => h y (List.mem_cons_of_mem _ hy)]
    have e1 := nat_short ⟨z.1, by omega⟩
    have e2 := nat_short ⟨z.2, by omega⟩
    simp only [pdat, PyData.intsShort, PyData.intsShortAll, Bool.and_true, Bool.and_eq_true, decide_eq_true_eq]
    exact ⟨e1, e2⟩
theorem pl_show : ∀ ps : List (Nat × Nat), (∀ z ∈ ps, z.1 ≤ 40 ∧ z.2 ≤ 40) → PyData.showableAll (pdats ps) = true
  | [], _ => rfl
  | z :: ps, h => by
    obtain ⟨a, b⟩ := h z List.mem_cons_self
    show (PyData.showable (pdat z) && PyData.showableAll (pdats ps)) = true
    rw [pl_show ps fun y hy => h y (List.mem_cons_of_mem _ hy)]
    have e1 := nat_log ⟨z.1, by omega⟩
    have e2 := nat_log ⟨z.2, by omega⟩
    simp only [pdat, PyData.showable, PyData.showableAll, Bool.and_true, Bool.and_eq_true, decide_eq_true_eq]
    exact ⟨e1, e2⟩
theorem pl_dict : ∀ ps : List (Nat × Nat), PyData.hasDictAll (pdats ps) = false
  | [] => rfl
  | z :: ps => by
    show (PyData.hasDict (pdat z) || PyData.hasDictAll (pdats ps)) = false
    rw [pl_dict ps]
    rfl
/-- all that repr asks -/
theorem pl_all {ps : List (Nat × Nat)} (h : ∀ z ∈ ps, z.1 ≤ 40 ∧ z.2 ≤ 40) (few : ps.length ≤ 100) :
    (PyData.list (pdats ps)).showable = true ∧ (PyData.list (pdats ps)).hasDict = false ∧ (PyData.list (pdats ps)).depth ≤ 60 ∧ (PyData.list (pdats ps)).shown.length ≤ sizeLine := by
  have d := pl_depth ps
  have w := pl_weight ps h
  refine ⟨by simpa only [PyData.showable] using pl_show ps h, by simpa only [PyData.hasDict] using pl_dict ps, by simp only [PyData.depth]; omega, ?_⟩
  refine Nat.le_trans (shown_le13 ?_ (by simpa only [PyData.intsShort] using pl_short ps h)) (by decide)
  unfold PyData.layable0
  simp only [PyData.canLay0, PyData.depth, PyData.weight, pl_lay, Bool.true_and, Bool.and_eq_true, decide_eq_true_eq]
  have e : (2 : Nat) ^ 20 = 1048576 := by decide
  rw [e]
  exact ⟨decide_eq_true (by omega), decide_eq_true (by omega)⟩
end
end Lp

namespace Lp
open PySem PySem.Spec PyProof.Rows L2
section
variable {P : Program} {w : World} {K : PySem.W.Frag} {mg : Str → Option Value} {base : Heap}
theorem PlanAt.dr {C p c : Addr} {H H' : Hp} {pl : Pl} {v : V} (s : SrcOk H p c) (d : Dr p c H H') (h : PlanAt C H pl v) : PlanAt C H' pl v := by
  obtain ⟨q, dx, vt2, ve2, rfl, hq, h3, h4⟩ := h
  have tk := d.tk s
  exact ⟨q, dx, vt2, ve2, rfl, d.keep q _ (s.np hq (fun _ z => by cases z)) (s.nc hq (fun _ z => by cases z)) hq, h3.keep tk, h4.keep tk⟩
theorem WorldAt.dr {C p c : Addr} {H H' : Hp} {pl : Pl} {v : V} (s : SrcOk H p c) (d : Dr p c H H') (h : WorldAt C H pl v) : WorldAt C H' pl v := by
  obtain ⟨a, vt, ve, vp, rfl, ha, h1, h2, h3⟩ := h
  have tk := d.tk s
  have np : a ≠ p := by
    rintro rfl
    obtain ⟨⟨l, m, t, e⟩, _⟩ := s
    rw [ha] at e
    have e2 : wd vt ve vp = sd c l m t := HO.dK.inj (Option.some.inj e)
    have e3 := congrArg List.length e2
    exact absurd e3 (by show ¬ 3 = 4; decide)
  exact ⟨a, vt, ve, _, rfl, d.keep a _ np (s.nc ha (fun _ z => by cases z)) ha, h1.keep tk, h2.keep tk, h3.dr s d⟩
/-- the sizes of what is pressed again, one of them left out -/
theorem again_small {s : Sh} {st i k : Nat} (h1 : st ≤ i) (h2 : i < st + s.size) {z : Sh × Nat × Nat}
    (h : again .o i (i + 1) ((besQ s st i).take k ++ (besQ s st i).drop (k + 1)) = some z) : z.1.size ≤ s.size := by
  have a1 := again_size _ _ _ _ _ (again_bes s st i h1 h2)
  have a2 := again_size _ _ _ _ _ h
  have e : qsizes (besQ s st i) = qsizes ((besQ s st i).take (k + 1)) + qsizes ((besQ s st i).drop (k + 1)) := by
    rw [← qsizes_append, List.take_append_drop]
  have e2 : qsizes ((besQ s st i).take k) ≤ qsizes ((besQ s st i).take (k + 1)) := by
    rw [List.take_add_one, qsizes_append]
    exact Nat.le_add_right _ _
  rw [qsizes_append] at a2
  simp only [] at a1
  omega
theorem bes_all (s : Sh) (i : Nat) (h : s.size ≤ 40) : ∀ z ∈ bes s 0 i, z.1 ≤ 40 ∧ z.2 ≤ 40 := fun z hz => by
  have q := bes_in s 0 i z hz
  omega
theorem bounds4 {i : Nat} (h : i < 4) : ∃ j : Int, atI [V.int 9, V.int 25, V.int 40, V.int 40] ((0 : Int) + (i : Nat)) = some (.int j) ∧ 1 ≤ j ∧ j ≤ 40 := by
  obtain rfl | rfl | rfl | rfl : i = 0 ∨ i = 1 ∨ i = 2 ∨ i = 3 := by omega
  · exact ⟨9, atI_nat (j := 0) rfl, by decide, by decide⟩
  · exact ⟨25, atI_nat (j := 1) rfl, by decide, by decide⟩
  · exact ⟨40, atI_nat (j := 2) rfl, by decide, by decide⟩
  · exact ⟨40, atI_nat (j := 3) rfl, by decide, by decide⟩
abbrev Nlaw : List Str := ["_law_script", "_law_source_here", "_law_turn", "_law_world", "_law_plan_here", "_law_numbers", "_law_n", "_law_shape_here", "_law_place", "_law_lap", "_law_told_here", "_law_k"]
theorem law_body (T : Txt K mg) {f a : Addr} {s : Shared} {ns : List Int} (few : ns.length ≤ 63) {H : Hp} {cdv : Value} (hS : SqL K H a (ns.map V.int)) (hr : Room 90 (callerA.deeper (envOfC "law" (defScope s_law) s.heap.objs.size f cdv))) :
    ∃ t, PSs (cxOf CX0 P w K mg base Nlaw "law" (defScope s_law) f cdv callerA [] s H (fun _ _ _ => False)).nox (defBody s_law) t ∧ t { nx := fun _ _ => V.non = .bl true, rt := fun v _ => v = .bl true } (L2.start Nlaw [.ref a]) H := by
  have G_law_source := ok_law_source (P := P) (w := w) (base := base) T
  have G_law_small_plan := ok_law_small_plan (P := P) (w := w) (base := base) T
  have G_law_plan := ok_law_plan (P := P) (w := w) (base := base) T
  have G_law_pick := ok_law_pick (P := P) (w := w) (base := base) T
  have G_law_told := ok_law_told (P := P) (w := w) (base := base) T
  have G_thing_paper := ok_thing_paper (P := P) (w := w) (base := base) T
  have G_law_beside := ok_law_beside (P := P) (w := w) (base := base) T 40
  have G_law_again := ok_law_again (P := P) (w := w) (base := base) T
  have hu := hu_of hr
  have hg : (callerA.deeper (envOfC "law" (defScope s_law) s.heap.objs.size f cdv)).guards = some [] := rfl
  refine ⟨_, (pss_cons (ps_set (i := 1) sc_law.nd rfl (Or.inr rfl) (pe_call G_law_source (hr.mono (by omega)) (by rfl) T.law_source.m T.law_source.fn.kp T.law_source.b .nil pass0 (pa_cons (pv 0) pa_nil)))
      (pss_cons (ps_for PassesOwn.never rfl (pi_range1 rfl T.range_ (pa_cons pe_int pa_nil)) (pg_name (i := 2) sc_law.nd rfl (Or.inr rfl))
      (pss_cons (ps_set (i := 3) sc_law.nd rfl (Or.inl rfl) (pe_ifExp (pt_cmpR op_lt (pv 2) pe_int (nomark _)) (pe_call G_law_small_plan (hr.mono (by omega)) (by rfl) T.law_small_plan.m T.law_small_plan.fn.kp T.law_small_plan.b .nil pass0 (pa_cons (pv 1) pa_nil)) (pe_call G_law_plan (hr.mono (by omega)) (by rfl) T.law_plan.m T.law_plan.fn.kp T.law_plan.b .nil pass0 (pa_cons (pv 1) pa_nil))))
      (pss_cons (ps_par (i := 4) (j := 5) rfl sc_law.nd rfl rfl (by decide) rfl rfl (pa_cons (pe_dget hu (pv 3) pe_str (fun _ _ => rfl)) (pa_cons (pe_lc (own := [("_law_lap", 9)]) rfl sc_law.nd (pi_range1 rfl T.range_ (pa_cons pe_int pa_nil)) (blkOk_by (own := [("_law_lap", 9)]) (N := ["_law_script", "_law_source_here", "_law_turn", "_law_world", "_law_plan_here", "_law_numbers", "_law_n", "_law_shape_here", "_law_place", "_law_lap", "_law_told_here", "_law_k"]) (sc := defScope s_law) (by decide +kernel)) (fun _ _ _ _ _ => (pg_name (i := 9) sc_law.nd rfl (Or.inl rfl))) (fun _ _ _ _ _ => pts_nil) (fun _ _ _ _ _ => (pe_op op_add pe_int (pe_call G_law_pick (hr.mono (by omega)) (by rfl) T.law_pick.m T.law_pick.fn.kp T.law_pick.b .nil pass0 (pa_cons (pv 1) (pa_cons (pe_ix (ix_listK (K := K)) (pe_lst (pa_cons pe_int (pa_cons pe_int (pa_cons pe_int (pa_cons pe_int pa_nil))))) (pv 2) (fun _ _ => rfl)) pa_nil)))))) pa_nil)) (by rfl))
      (pss_one (ps_for PassesOwn.never rfl (pi_list (pe_op op_rep (pv 5) pe_int)) (pg_name (i := 6) sc_law.nd rfl (Or.inl rfl))
      (pss_cons (ps_par (i := 7) (j := 8) rfl sc_law.nd rfl rfl (by decide) rfl rfl (pa_cons (pe_call G_law_told (hr.mono (by omega)) (by rfl) T.law_told.m T.law_told.fn.kp T.law_told.b .nil pass0 (pa_cons (pv 3) (pa_cons (pv 6) pa_nil))) (pa_cons (pe_call G_law_pick (hr.mono (by omega)) (by rfl) T.law_pick.m T.law_pick.fn.kp T.law_pick.b .nil pass0 (pa_cons (pv 1) (pa_cons (pv 6) pa_nil))) pa_nil)) (by rfl))
      (pss_cons (ps_for PassesOwn.never rfl (pi_range1 rfl T.range_ (pa_cons pe_int pa_nil)) (pg_name (i := 9) sc_law.nd rfl (Or.inl rfl))
      (pss_cons (ps_set (i := 10) sc_law.nd rfl (Or.inl rfl) (pe_call G_thing_paper (hr.mono (by omega)) (by rfl) T.thing_paper.m T.thing_paper.fn.kp T.thing_paper.b .nil pass0 (pa_cons (pv 4) (pa_cons (pv 6) (pa_cons (pv 8) pa_nil)))))
      (pss_cons (ps_if (PW.pt (pw_or (pt_cmpR op_ne (pe_callB (call_reprD hg hr.units) (by rfl) T.repr_ (by decide +kernel) (pa_cons (pv 10) pa_nil)) (pe_callB (call_reprD hg hr.units) (by rfl) T.repr_ (by decide +kernel) (pa_cons (pe_call G_law_beside (hr.mono (by omega)) (by rfl) T.law_beside.m T.law_beside.fn.kp T.law_beside.b .nil pass0 (pa_cons (pv 7) (pa_cons pe_int (pa_cons (pv 8) pa_nil)))) pa_nil)) (nomark _)) (pw_or1 (pt_cmpR (op_neD hr.units) (pe_call G_law_again (hr.mono (by omega)) (by rfl) T.law_again.m T.law_again.fn.kp T.law_again.b .nil pass0 (pa_cons (pv 7) (pa_cons (pv 10) (pa_cons (pv 8) pa_nil)))) (pv 7) (nomark _)))))
      (pss_one (ps_ret pe_bl))
      pss_nil)
      (pss_one (ps_expr (pe_bm PySem.F.plainAttrs_list PySem.F.slot_list_append PySem.F.type_list_append mt_append (pv 10) (pa_cons pe_non pa_nil)))))))
      (pss_cons (ps_par (i := 10) (j := 11) rfl sc_law.nd rfl rfl (by decide) rfl rfl (pa_cons (pe_call G_thing_paper (hr.mono (by omega)) (by rfl) T.thing_paper.m T.thing_paper.fn.kp T.thing_paper.b .nil pass0 (pa_cons (pv 4) (pa_cons (pv 6) (pa_cons (pv 8) pa_nil)))) (pa_cons (pe_call G_law_pick (hr.mono (by omega)) (by rfl) T.law_pick.m T.law_pick.fn.kp T.law_pick.b .nil pass0 (pa_cons (pv 1) (pa_cons (pe_callB (call_max2 rfl) (by rfl) T.max_ (by decide +kernel) (pa_cons pe_int (pa_cons (pv 6) pa_nil))) pa_nil))) pa_nil)) (by rfl))
      (pss_one (ps_if (PW.pt (pw_and (pt_cmpR op_lt (pv 11) (pe_callB call_len_seq (by rfl) T.len_ PySem.boot_len (pa_cons (pv 10) pa_nil)) (nomark _)) (pw_and1 (pt_cmpR (op_eqD hr.units) (pe_call G_law_again (hr.mono (by omega)) (by rfl) T.law_again.m T.law_again.fn.kp T.law_again.b .nil pass0 (pa_cons (pv 7) (pa_cons (pe_op op_cat (pe_slice sl_list (pv 10) po_none (po_some (pv 11))) (pe_slice sl_list (pv 10) (po_some (pe_op op_add (pv 11) pe_int)) po_none)) (pa_cons (pv 8) pa_nil)))) (pv 7) (nomark _)))))
      (pss_one (ps_ret pe_bl))
      pss_nil))))))))))
      (pss_one (ps_ret pe_bl)))), ?_⟩
  refine ⟨_, rfl, a, ns, rfl, hS, few, fun H1 p c s1 ok1 => ?_⟩
  refine ⟨4, rfl, by decide, by decide, ?_⟩
  refine for_range (lo := 0) (n := 4) (fun i σ H' => ∃ (x2 x3 x4 x5 x6 x7 x8 x9 x10 x11 : Option V), σ = [some (.ref a), some (.ref p), x2, x3, x4, x5, x6, x7, x8, x9, x10, x11] ∧ SrcOk H' p c)
    ⟨none, none, none, none, none, none, none, none, none, none, rfl, ok1⟩ ?_ ?_
  rotate_left 1
  · rintro σ H2 ⟨x2, x3, x4, x5, x6, x7, x8, x9, x10, x11, rfl, ok2⟩
    rfl
  rintro i σ H2 hi ⟨x2, x3, x4, x5, x6, x7, x8, x9, x10, x11, rfl, ok2⟩
  refine ⟨_, rfl, _, _, rfl, rfl, _, rfl, ite2 (fun g => ⟨_, rfl, p, c, rfl, ok2, fun H3 pl u d3 hw pk => ?_⟩) (fun g => ⟨_, rfl, p, c, rfl, ok2, fun H3 pl u d3 hw pk => ?_⟩)⟩
  all_goals
    clear g
    have ok3 := d3.ok
    obtain ⟨wa, vt, ve, vp, rfl, hwa, _, _, hp⟩ := id hw
    refine ⟨_, rfl, wa, _, rfl, dg_p hwa, ?_⟩
    refine ⟨2, rfl, by decide, by decide, ?_⟩
    intro D nD
    have nDp := ok3.pne nD
    have nDc := ok3.cne nD
    refine lc_range (lo := 0) (n := 2) (fun j H' => ∃ (nsx : List Nat), H' D = some (.lst (nsx.map fun n : Nat => V.int (n : Int))) ∧ nsx.length = j ∧ (∀ n ∈ nsx, 1 ≤ n ∧ n ≤ 40) ∧ Dr p c H3 H')
      ⟨[], upd_same, rfl, (fun n h => by cases h), (Dr.refl ok3).mut ok3 nD⟩ ?_ ?_
    · rintro j H4 hj ⟨nsx, hD, l1, hb, d4⟩
      obtain ⟨b, hat, b1, b2⟩ := bounds4 hi
      refine ⟨rfl, _, rfl, by show 4 ≤ sizeLine; decide, fun L nL => ?_⟩
      have k5 := sm_new (o := .lst [.int 9, .int 25, .int 40, .int 40]) nL
      refine ⟨_, rfl, L, _, _, _, rfl, rfl, SqL.of upd_same, hat, p, c, b, rfl, (d4.same k5).ok, b1, by omega, fun H6 z d6 z0 z1 => ?_⟩
      obtain ⟨n, rfl⟩ : ∃ n : Nat, z = (n : Int) := ⟨z.toNat, by omega⟩
      have hD6 := d6.keep D _ nDp nDc (k5 _ _ hD)
      refine ⟨_, _, rfl, rfl, _, hD6, smallL _ (by rw [List.length_map]; omega), nsx ++ [1 + n], ?_, by simp [l1], ?_, ((d4.same k5).trans d6).mut ok3 nD⟩
      · rw [upd_same, List.map_append]
        rfl
      · intro m hm
        rcases List.mem_append.mp hm with e | e
        · exact hb m e
        · rw [List.mem_singleton.mp e]
          omega
    rintro H4 ⟨nsx, hD, l1, hb, d4⟩
    refine ⟨_, _, rfl, ?_⟩
    refine ⟨_, rfl, D, _, _, rfl, rfl, hD, by decide, by decide, small _ (by rw [List.length_map, l1]; decide), ?_⟩
    intro E nE
    have mem2 : ∀ y ∈ (List.replicate ((2 : Int).toNat) (nsx.map fun n : Nat => V.int (n : Int))).flatten, ∃ n : Nat, y = .int (n : Int) ∧ 1 ≤ n ∧ n ≤ 40 := fun y hy => by
      obtain ⟨l, hl, hy⟩ := List.mem_flatten.mp hy
      rw [(List.mem_replicate.mp hl).2] at hy
      obtain ⟨n, hn, rfl⟩ := List.mem_map.mp hy
      exact ⟨n, rfl, hb n hn⟩
    generalize (List.replicate ((2 : Int).toNat) (nsx.map fun n : Nat => V.int (n : Int))).flatten = xs2 at mem2
    have k5 := sm_new (o := .lst xs2) nE
    have ok5 := d4.ok.same k5
    have d35 := d4.same k5
    have hw5 := hw.dr ok3 d35
    have hp5 := hp.dr ok3 d35
    have hE := upd_same (H := H4) (a := E) (o := .lst xs2)
    have nEp := d4.ok.pne nE
    have nEc := d4.ok.cne nE
    generalize upd H4 E (.lst xs2) = H5 at ok5 d35 hw5 hp5 hE
    refine ⟨E, rfl, ⟨_, SqL.of hE⟩, for_list (K := K) (a := E) (xs := xs2) (fun idx σ H' => ∃ (x6 x7 x8 x9 x10 x11 : Option V), σ = [some (.ref a), some (.ref p), some (.int (0 + (i : Int))), some (.ref wa), some vp, some (.ref D), x6, x7, x8, x9, x10, x11] ∧ Dr p c H5 H')
      ⟨x6, x7, x8, x9, x10, x11, rfl, Dr.refl ok5⟩ (fun idx σ H' _ h => ?_) ?_ ?_⟩
    · obtain ⟨_, _, _, _, _, _, _, dr⟩ := h
      exact SqL.of (dr.keep E _ nEp nEc hE)
    · rintro idx y σ H6 hy ⟨x6, x7, x8, x9, x10, x11, rfl, d6⟩
      obtain ⟨n, rfl, n1, n40⟩ := mem2 y (List.mem_of_getElem? hy)
      have ok6 := d6.ok
      refine ⟨_, rfl, _, rfl, pl, _, n, _, rfl, rfl, n1, n40, hw5.dr ok5 d6, pk, fun H7 u sh kk s7 told hu7 => ?_⟩
      have size : sh.size = n := by rw [told.eq, fin_size pk n1 kk]
      have ok7 := ok6.same s7
      refine ⟨_, rfl, _, rfl, p, c, _, rfl, ok7, by omega, by omega, fun H8 z d8 z0 z1 => ⟨_, _, rfl, ?_⟩⟩
      obtain ⟨m, rfl⟩ : ∃ m : Nat, z = (m : Int) := ⟨z.toNat, by omega⟩
      have hm : m < n := by omega
      have hu8 := hu7.keep (d8.tk ok7)
      have d58 := (d6.same s7).trans d8
      have hp8 := hp5.dr ok5 d58
      have hsub := fun z (hz : z ∈ besQ sh 0 m) => bes_sub sh 0 m z hz
      have hsub : ∀ z ∈ besQ sh 0 m, Sub sh z.1 z.2 := fun z hz => by
        obtain ⟨a, e, q⟩ := hsub z hz
        rw [e, Nat.zero_add]
        exact q
      have bl := bes_len sh 0 m
      obtain ⟨sh1, sh2, sh3, sh4⟩ := pl_all (bes_all sh m (by omega)) (by omega)
      refine ⟨2, rfl, by decide, by decide, ?_⟩
      refine for_range (lo := 0) (n := 2) (fun j σ H' => ∃ (x9 x10 x11 : Option V), σ = [some (.ref a), some (.ref p), some (.int (0 + (i : Int))), some (.ref wa), some vp, some (.ref D), some (.int (n : Int)), some u, some (.int (m : Int)), x9, x10, x11] ∧ Same H8 H')
        ⟨x9, x10, x11, rfl, Same.refl _⟩ ?_ ?_
      · rintro j σ H9 hj ⟨x9, x10, x11, rfl, s9⟩
        refine ⟨_, rfl, _, rfl, _, rfl, pl, _, n, m, kk, sh, _, _, rfl, rfl, rfl, hm, by omega, hp8.keep s9, pk, told, fun H10 L us s10 nL hL hpr => ?_⟩
        have dp1 : Dp K H10 (.ref L) (.list (pdats (bes sh 0 m))) := .lst (SqL.of hL) (prs_dp hpr)
        refine ⟨_, rfl, _, L, rfl, dp1, sh1, sh2, sh3, sh4, ?_⟩
        refine ⟨_, rfl, _, rfl, sh, u, 0, m, _, _, rfl, rfl, rfl, hu8.keep (Tk.of (s9.trans s10)), by omega, by omega, fun H11 L2 us2 s11 hL2 hpr2 => ?_⟩
        have dp2 : Dp K H11 (.ref L2) (.list (pdats (bes sh 0 m))) := .lst (SqL.of hL2) (prs_dp hpr2)
        refine ⟨_, L2, rfl, dp2, sh1, sh2, sh3, sh4, rfl, false, by show V.bl (!decide (V.str _ = V.str _)) = _; rw [decide_eq_true rfl]; rfl, iteF ?_⟩
        have hu11 := hu8.keep (Tk.of ((s9.trans s10).trans s11))
        have hL11 := s11 _ _ hL
        refine ⟨_, rfl, _, rfl, _, rfl, sh, u, L, us, besQ sh 0 m, m, _, rfl, rfl, hu11, by omega, hL11, prs_keep (Tk.of s11) hpr, hsub, fun H12 r s12 hr12 => ?_⟩
        rw [again_bes sh 0 m (Nat.zero_le _) (by omega)] at hr12
        have hr12 : ShAt H12 sh r := hr12
        refine ⟨_, rfl, _, _, hr12.dp, (hu11.keep (Tk.of s12)).dp, Sh.shaped (by omega), Sh.shaped (by omega), false, by rw [Sh.eqv, decide_eq_true rfl]; rfl, iteF ?_⟩
        have hL12 := s12 _ _ hL11
        refine ⟨_, rfl, .inl ⟨rfl, _, SqL.of hL12⟩, L, us, _, rfl, rfl, hL12, smallL _ (by rw [← hpr.length]; omega), _, _, _, rfl, sm_mut (((s9.trans s10).trans s11).trans s12) (s9.free nL)⟩
      · rintro σ H9 ⟨x9, x10, x11, rfl, s9⟩
        have d59 := d58.same s9
        refine ⟨_, rfl, _, rfl, _, rfl, pl, _, n, m, kk, sh, _, _, rfl, rfl, rfl, hm, by omega, hp8.keep s9, pk, told, fun H10 L us s10 nL hL hpr => ?_⟩
        have d510 := d59.same s10
        have jb : 1 ≤ (if (n : Int) > 1 then (n : Int) else 1) ∧ (if (n : Int) > 1 then (n : Int) else 1) ≤ 1000 := by split <;> omega
        refine ⟨_, rfl, _, rfl, _, _, rfl, p, c, _, rfl, d510.ok, jb.1, jb.2, fun H11 z d11 z0 z1 => ⟨_, _, rfl, ?_⟩⟩
        obtain ⟨k, rfl⟩ : ∃ k : Nat, z = (k : Int) := ⟨z.toNat, by omega⟩
        have nLp := d59.ok.pne nL
        have nLc := d59.ok.cne nL
        have hL11 := d11.keep L _ nLp nLc hL
        have d511 := d510.trans d11
        have hu11 := hu8.keep (Tk.of (s9.trans s10) |>.trans (d11.tk d510.ok))
        have hpr11 := prs_keep (d11.tk d510.ok) hpr
        have ul := hpr.length
        refine ⟨_, rfl, _, rfl, L, us, rfl, .inl (SqL.of hL11), _, _, rfl, rfl, _, rfl, ite2 (fun g => ?_) (fun g => ?_)⟩
        · have g' : (k : Int) < ((us.length : Nat) : Int) := of_decide_eq_true g
          have kl : k < (besQ sh 0 m).length := by
            have e : (bes sh 0 m).length = (besQ sh 0 m).length := List.length_map _
            omega
          refine ⟨_, rfl, _, rfl, _, rfl, _, rfl, L, us, rfl, SqL.of hL11, ?_⟩
          rw [cut_to]
          intro M nM
          have kM := sm_new (o := .lst (us.take k)) nM
          refine ⟨_, rfl, _, rfl, _, _, rfl, rfl, _, rfl, L, us, rfl, SqL.of (kM _ _ hL11), ?_⟩
          show ∀ q, upd H11 M (.lst (us.take k)) q = none → _
          rw [show (k : Int) + 1 = ((k + 1 : Nat) : Int) from rfl, cut_from]
          intro M2 nM2
          have kM2 := sm_new (o := .lst (us.drop (k + 1))) nM2
          refine ⟨M, M2, _, _, rfl, rfl, kM2 _ _ upd_same, upd_same, small _ (by rw [List.length_take, List.length_drop]; omega), fun R nR => ?_⟩
          have kR := sm_new (o := .lst (us.take k ++ us.drop (k + 1))) nR
          have k1R := (kM.trans kM2).trans kR
          have eqm : ((besQ sh 0 m).take k ++ (besQ sh 0 m).drop (k + 1)).map pr = (bes sh 0 m).take k ++ (bes sh 0 m).drop (k + 1) := by
            rw [List.map_append, List.map_take, List.map_drop]
            rfl
          have hprR := prs_keep (Tk.of k1R) (pd_append (pd_take k hpr11) (pd_drop (k + 1) hpr11))
          rw [← eqm] at hprR
          have subR : ∀ z ∈ (besQ sh 0 m).take k ++ (besQ sh 0 m).drop (k + 1), Sub sh z.1 z.2 := fun z hz => by
            rcases List.mem_append.mp hz with e | e
            · exact hsub z (List.mem_of_mem_take e)
            · exact hsub z (List.mem_of_mem_drop e)
          refine ⟨_, rfl, sh, u, R, _, (besQ sh 0 m).take k ++ (besQ sh 0 m).drop (k + 1), m, _, rfl, rfl, hu11.keep (Tk.of k1R), by omega, upd_same, hprR, subR, fun H12 r s12 hr12 => ?_⟩
          have hu12 := hu11.keep (Tk.of (k1R.trans s12))
          have dEnd := d511.same (k1R.trans s12)
          cases ea : again .o m (m + 1) ((besQ sh 0 m).take k ++ (besQ sh 0 m).drop (k + 1)) with
          | none =>
            rw [ea] at hr12
            obtain rfl : r = .non := hr12
            refine ⟨_, rfl, .none, _, .non, hu12.dp, by decide, Sh.shaped (by omega), false, ?_, iteF ?_⟩
            · cases sh <;> simp [Sh.dat, PyData.eqv]
            · exact ⟨_, _, _, _, _, _, rfl, dEnd⟩
          | some z =>
            rw [ea] at hr12
            have hr12 : ShAt H12 z.1 r := hr12
            have ne := again_less (Nat.zero_le _) (by omega) kl ea
            have le := again_small (Nat.zero_le _) (by omega) ea
            refine ⟨_, rfl, _, _, hr12.dp, hu12.dp, Sh.shaped (by omega), Sh.shaped (by omega), false, by rw [Sh.eqv, decide_eq_false ne], iteF ?_⟩
            exact ⟨_, _, _, _, _, _, rfl, dEnd⟩
        · exact ⟨_, _, _, _, _, _, rfl, d511⟩
    · rintro σ H6 ⟨x6, x7, x8, x9, x10, x11, rfl, d6⟩
      exact ⟨_, _, _, _, _, _, _, _, _, _, rfl, d6.ok⟩
end
end Lp

namespace Lp
open PySem PySem.Spec PyProof.Rows L2
section
variable {w : World} {K : PySem.W.Frag} {mg : Str → Option Value} {h : Heap} {R : Prop}
/-! ### what the top has written, piece by piece -/
abbrev Bi (x qual : Str) (st : Stmt) (ps : List Str) : Prop := ∀ (kV doc pm : Value) (an : Option Addr) (cdv ct : Value) (us : List Value), us.length = ps.length →
  bindArgs (PySem.W.fnOf x qual (defArgs st) (defBody st) (defScope st) .none kV doc pm an cdv ct) ⟨us, []⟩ = pure (ps.zip us)
theorem st_def (x : Str) (st : Stmt) (ps : List Str) (b : Bi x x st ps) {f : Addr} {oc kV dc pm cd ct : Value} {od an : Option Addr} {sl : Array (Option Value)} (X : K.In h) (G : h.Ns mainGlobals mg)
    (a : PySem.W.nsIn K mainGlobals x = some (some (.ref f))) (l : K.lookup f = some ⟨oc, od, .func (PySem.W.fnOf x x (defArgs st) (defBody st) (defScope st) .none kV dc pm an cd ct), sl⟩) (c : PySem.W.codeIn K cd x = true) (k : PySem.W.keepIn K (.ref f) = true) (next : Dn K mg x st ps → R) : R :=
  next ⟨f, _, fun_mk l c k, (fun_mk l c k).binds b, PySem.W.mg_of X G a⟩
structure PlanPart (K : PySem.W.Frag) (mg : Str → Option Value) where
  C : Addr
  cls : Cls K C
  mgC : mg "Plan" = some (.ref C)
  i : Dm K "__init__" "Plan.__init__" s_initPlan ["self", "tables", "end"]
  mkC : Mk K C i.f
  e : Dm K "end" "Plan.end" s_end_ ["self"]
  me : Meth K C "end" e.f
  s : Dm K "stage" "Plan.stage" s_stage ["self", "k"]
  ms : Meth K C "stage" s.f
  nT : NoAttr K C "own_tables"
  nE : NoAttr K C "own_end"
structure RowsPart (K : PySem.W.Frag) (mg : Str → Option Value) where
  C : Addr
  cls : Cls K C
  mgC : mg "Rows" = some (.ref C)
  i : Dm K "__init__" "Rows.__init__" s_initRows ["self", "plan", "n"]
  mkC : Mk K C i.f
  s : Dm K "stretch" "Rows.stretch" s_stretch ["self", "level", "number"]
  ms : Meth K C "stretch" s.f
  nPl : NoAttr K C "plan"
  nMa : NoAttr K C "many"
  nWi : NoAttr K C "width"
theorem st_plan {C : Addr} {f1 : Addr} {oc1 kV1 dc1 pm1 cd1 ct1 : Value} {od1 an1 : Option Addr} {sl1 : Array (Option Value)} {f2 : Addr} {oc2 kV2 dc2 pm2 cd2 ct2 : Value} {od2 an2 : Option Addr} {sl2 : Array (Option Value)} {f3 : Addr} {oc3 kV3 dc3 pm3 cd3 ct3 : Value} {od3 an3 : Option Addr} {sl3 : Array (Option Value)} (X : K.In h) (G : h.Ns mainGlobals mg) (aC : PySem.W.nsIn K mainGlobals "Plan" = some (some (.ref C)))
    (b1 : Bi "__init__" "Plan.__init__" s_initPlan ["self", "tables", "end"]) (a1 : PySem.W.findIn K (.ref C) "__init__" = some (some (.ref f1))) (i1 : PySem.W.isFn K (.ref f1) = true) (l1 : K.lookup f1 = some ⟨oc1, od1, .func (PySem.W.fnOf "__init__" "Plan.__init__" (defArgs s_initPlan) (defBody s_initPlan) (defScope s_initPlan) .none kV1 dc1 pm1 an1 cd1 ct1), sl1⟩) (c1 : PySem.W.codeIn K cd1 "Plan.__init__" = true) (k1 : PySem.W.keepIn K (.ref f1) = true)
    (b2 : Bi "end" "Plan.end" s_end_ ["self"]) (a2 : PySem.W.findIn K (.ref C) "end" = some (some (.ref f2))) (i2 : PySem.W.isFn K (.ref f2) = true) (l2 : K.lookup f2 = some ⟨oc2, od2, .func (PySem.W.fnOf "end" "Plan.end" (defArgs s_end_) (defBody s_end_) (defScope s_end_) .none kV2 dc2 pm2 an2 cd2 ct2), sl2⟩) (c2 : PySem.W.codeIn K cd2 "Plan.end" = true) (k2 : PySem.W.keepIn K (.ref f2) = true)
    (b3 : Bi "stage" "Plan.stage" s_stage ["self", "k"]) (a3 : PySem.W.findIn K (.ref C) "stage" = some (some (.ref f3))) (i3 : PySem.W.isFn K (.ref f3) = true) (l3 : K.lookup f3 = some ⟨oc3, od3, .func (PySem.W.fnOf "stage" "Plan.stage" (defArgs s_stage) (defBody s_stage) (defScope s_stage) .none kV3 dc3 pm3 an3 cd3 ct3), sl3⟩) (c3 : PySem.W.codeIn K cd3 "Plan.stage" = true) (k3 : PySem.W.keepIn K (.ref f3) = true)
    (pg : PySem.W.plainGet K C Str.empty = true) (hd : PySem.W.hasDictIn K C = true) (po : PySem.W.plainOver K C = true) (sa : PySem.W.findIn K (.ref C) "__setattr__" = some (some (.builtin "object.__setattr__"))) (mk : PySem.W.makesIn K C = true) (kc : PySem.W.keepIn K (.ref C) = true)
    (nT : PySem.W.findIn K (.ref C) "own_tables" = some none) (nE : PySem.W.findIn K (.ref C) "own_end" = some none) (next : PlanPart K mg → R) : R :=
  next ⟨C, ⟨pg, hd, po, sa⟩, PySem.W.mg_of X G aC, ⟨f1, _, fun_mk l1 c1 k1, (fun_mk l1 c1 k1).binds b1⟩, ⟨mk, a1, i1, kc⟩, ⟨f2, _, fun_mk l2 c2 k2, (fun_mk l2 c2 k2).binds b2⟩, ⟨a2, i2, k2⟩, ⟨f3, _, fun_mk l3 c3 k3, (fun_mk l3 c3 k3).binds b3⟩, ⟨a3, i3, k3⟩, nT, nE⟩
theorem st_rows {C : Addr} {f1 : Addr} {oc1 kV1 dc1 pm1 cd1 ct1 : Value} {od1 an1 : Option Addr} {sl1 : Array (Option Value)} {f2 : Addr} {oc2 kV2 dc2 pm2 cd2 ct2 : Value} {od2 an2 : Option Addr} {sl2 : Array (Option Value)} (X : K.In h) (G : h.Ns mainGlobals mg) (aC : PySem.W.nsIn K mainGlobals "Rows" = some (some (.ref C)))
    (b1 : Bi "__init__" "Rows.__init__" s_initRows ["self", "plan", "n"]) (a1 : PySem.W.findIn K (.ref C) "__init__" = some (some (.ref f1))) (i1 : PySem.W.isFn K (.ref f1) = true) (l1 : K.lookup f1 = some ⟨oc1, od1, .func (PySem.W.fnOf "__init__" "Rows.__init__" (defArgs s_initRows) (defBody s_initRows) (defScope s_initRows) .none kV1 dc1 pm1 an1 cd1 ct1), sl1⟩) (c1 : PySem.W.codeIn K cd1 "Rows.__init__" = true) (k1 : PySem.W.keepIn K (.ref f1) = true)
    (b2 : Bi "stretch" "Rows.stretch" s_stretch ["self", "level", "number"]) (a2 : PySem.W.findIn K (.ref C) "stretch" = some (some (.ref f2))) (i2 : PySem.W.isFn K (.ref f2) = true) (l2 : K.lookup f2 = some ⟨oc2, od2, .func (PySem.W.fnOf "stretch" "Rows.stretch" (defArgs s_stretch) (defBody s_stretch) (defScope s_stretch) .none kV2 dc2 pm2 an2 cd2 ct2), sl2⟩) (c2 : PySem.W.codeIn K cd2 "Rows.stretch" = true) (k2 : PySem.W.keepIn K (.ref f2) = true)
    (pg : PySem.W.plainGet K C Str.empty = true) (hd : PySem.W.hasDictIn K C = true) (po : PySem.W.plainOver K C = true) (sa : PySem.W.findIn K (.ref C) "__setattr__" = some (some (.builtin "object.__setattr__"))) (mk : PySem.W.makesIn K C = true) (kc : PySem.W.keepIn K (.ref C) = true)
    (nP : PySem.W.findIn K (.ref C) "plan" = some none) (nM : PySem.W.findIn K (.ref C) "many" = some none) (nW : PySem.W.findIn K (.ref C) "width" = some none) (next : RowsPart K mg → R) : R :=
  next ⟨C, ⟨pg, hd, po, sa⟩, PySem.W.mg_of X G aC, ⟨f1, _, fun_mk l1 c1 k1, (fun_mk l1 c1 k1).binds b1⟩, ⟨mk, a1, i1, kc⟩, ⟨f2, _, fun_mk l2 c2 k2, (fun_mk l2 c2 k2).binds b2⟩, ⟨a2, i2, k2⟩, nP, nM, nW⟩
structure EndsPart (K : PySem.W.Frag) (mg : Str → Option Value) where
  a : Addr
  m : mg "ENDS" = some (.ref a)
  sq : ∀ H, SqT K H a [.str "left", .str "right"]
theorem st_ends {a : Addr} {od : Option Addr} {sl : Array (Option Value)} {t1 t2 : Tok} {n : Nat} (X : K.In h) (G : h.Ns mainGlobals mg) (m : PySem.W.nsIn K mainGlobals "ENDS" = some (some (.ref a)))
    (l : K.lookup a = some ⟨.type "tuple", od, .seq #[.str "left" t1, .str "right" t2] n, sl⟩) (next : EndsPart K mg → R) : R :=
  next ⟨a, PySem.W.mg_of X G m, fun H => .inr ⟨_, _, _, l, rfl, rfl, by show 2 ≤ sizeLine; decide, .cons ⟨t1, rfl⟩ (.cons ⟨t2, rfl⟩ .nil)⟩⟩
theorem st_most {t : Tok} (X : K.In h) (G : h.Ns mainGlobals mg) (m : PySem.W.nsIn K mainGlobals "MOST" = some (some (.int 400 t))) (next : (∃ t, mg "MOST" = some (.int 400 t)) → R) : R :=
  next ⟨t, PySem.W.mg_of X G m⟩
theorem st_none (x : Str) (X : K.In h) (G : h.Ns mainGlobals mg) (m : PySem.W.nsIn K mainGlobals x = some none) (next : mg x = none → R) : R :=
  next (PySem.W.mg_none_of X G m)
/-- the law's own def, and the text it calls -/
def LawAt (K : PySem.W.Frag) (mg : Str → Option Value) (fa : Addr) : Prop :=
  ∃ fd : FuncData, Fun K "law" "law" s_law fa fd ∧ (∀ (s : Shared) (u : Value), BindsTo s fd ⟨[u], []⟩ [("_law_script", u)]) ∧ Nonempty (Txt K mg)
theorem law_at {fa f : Addr} {oc kV dc pm cd ct : Value} {od an : Option Addr} {sl : Array (Option Value)} (X : K.In h) (G : h.Ns mainGlobals mg) (hfa : mg "law" = some (.ref fa))
    (a : PySem.W.nsIn K mainGlobals "law" = some (some (.ref f))) (l : K.lookup f = some ⟨oc, od, .func (PySem.W.fnOf "law" "law" (defArgs s_law) (defBody s_law) (defScope s_law) .none kV dc pm an cd ct), sl⟩) (c : PySem.W.codeIn K cd "law" = true) (k : PySem.W.keepIn K (.ref f) = true) (T : Txt K mg) : LawAt K mg fa := by
  have e := hfa.symm.trans (PySem.W.mg_of X G a)
  cases e
  exact ⟨_, fun_mk l c k, fun s v => .of_eq rfl, ⟨T⟩⟩
theorem walk {l : PySem.W.OpenLaw} {q : Program} {loose : List Str} {XP : (Str → Option Value) → Heap → Prop} {YP : World → Heap → Prop} {d : DefRec} {K : Params → PySem.W.Frag} (hn : l.most = some 63) (hdf : d.params.defaults = []) (hname : d.name = "law")
    (hY : ∀ (w : World) (h : Heap), YP w h → (K w.params).In h)
    (F : ∀ (w : World) (mg : Str → Option Value) (fa : Addr) (h : Heap), (K w.params).In h → h.Ns mainGlobals mg → mg "law" = some (.ref fa) → LawAt (K w.params) mg fa) :
    PySem.W.WalkO q loose XP YP l.row.toRowW d []
      (fun f vs => PySem.call f vs) := by
  refine Att.attach_call hn hdf fun w _ _ mg _ at_ _ _ _ _ a _ ns G Y _ _ _ named script whole few noG => ?_
  have inK := hY w _ Y
  rw [hname] at named
  obtain ⟨fd, fn, bi, ⟨T⟩⟩ := F w mg at_ _ inK G.T.g named
  exact law_here (K := K w.params) fn sc_law inK G.T.g G.T.b G.T.builtins G.T.nolimit noG script whole (Nat.le_trans few (by decide)) (k := 90) ⟨rfl, by decide, by decide⟩ bi
    fun _ _ _ _ _ sq room => law_body T few sq room
end
end Lp

open PySem PySem.W PyProof.Rows in
set_option Elab.async false in
set_option maxRecDepth 100000 in
set_option maxHeartbeats 0 in
theorem PySem.Challenge.cw_lumpplans_k74_whole_thing_papers_holds : PySem.Challenge.rw_lumpplans_k74_whole_thing_papers.Holds := by
  w_on; o_law; k_head; (case hw => w_witness2)
  k_fill
  refine Lp.walk (l := PySem.Challenge.rw_lumpplans_k74_whole_thing_papers) rfl rfl rfl (fun w h Y => PySem.W.kIn_of Y) ?F
  case F =>
    intro w mg fa h KX G hmg
    refine' Lp.st_def "is_integer" Lp.s_is_integer ["value"] (fun _ _ _ _ _ _ us hl => match us, hl with | [_], _ => rfl) KX G ?a_1 ?l_1 ?c_1 ?k_1 fun d_is_integer => ?next1
    (case a_1 => k_is)
    (case l_1 => k_is)
    (case c_1 => k_is)
    (case k_1 => k_is)
    refine' Lp.st_def "is_number" Lp.s_is_number ["value"] (fun _ _ _ _ _ _ us hl => match us, hl with | [_], _ => rfl) KX G ?a_2 ?l_2 ?c_2 ?k_2 fun d_is_number => ?next2
    (case a_2 => k_is)
    (case l_2 => k_is)
    (case c_2 => k_is)
    (case k_2 => k_is)
    refine' Lp.st_def "wrong_shape" Lp.s_wrong_shape ["value"] (fun _ _ _ _ _ _ us hl => match us, hl with | [_], _ => rfl) KX G ?a_3 ?l_3 ?c_3 ?k_3 fun d_wrong_shape => ?next3
    (case a_3 => k_is)
    (case l_3 => k_is)
    (case c_3 => k_is)
    (case k_3 => k_is)
    refine' Lp.st_def "size_of" Lp.s_size_of ["shape"] (fun _ _ _ _ _ _ us hl => match us, hl with | [_], _ => rfl) KX G ?a_4 ?l_4 ?c_4 ?k_4 fun d_size_of => ?next4
    (case a_4 => k_is)
    (case l_4 => k_is)
    (case c_4 => k_is)
    (case k_4 => k_is)
    refine' Lp.st_def "wrong_sizes" Lp.s_wrong_sizes ["shapes"] (fun _ _ _ _ _ _ us hl => match us, hl with | [_], _ => rfl) KX G ?a_5 ?l_5 ?c_5 ?k_5 fun d_wrong_sizes => ?next5
    (case a_5 => k_is)
    (case l_5 => k_is)
    (case c_5 => k_is)
    (case k_5 => k_is)
    refine' Lp.st_def "wrong_table" Lp.s_wrong_table ["value"] (fun _ _ _ _ _ _ us hl => match us, hl with | [_], _ => rfl) KX G ?a_6 ?l_6 ?c_6 ?k_6 fun d_wrong_table => ?next6
    (case a_6 => k_is)
    (case l_6 => k_is)
    (case c_6 => k_is)
    (case k_6 => k_is)
    refine' Lp.st_def "table_size" Lp.s_table_size ["table"] (fun _ _ _ _ _ _ us hl => match us, hl with | [_], _ => rfl) KX G ?a_7 ?l_7 ?c_7 ?k_7 fun d_table_size => ?next7
    (case a_7 => k_is)
    (case l_7 => k_is)
    (case c_7 => k_is)
    (case k_7 => k_is)
    refine' Lp.st_def "entry" Lp.s_entry ["table", "m"] (fun _ _ _ _ _ _ us hl => match us, hl with | [_, _], _ => rfl) KX G ?a_8 ?l_8 ?c_8 ?k_8 fun d_entry => ?next8
    (case a_8 => k_is)
    (case l_8 => k_is)
    (case c_8 => k_is)
    (case k_8 => k_is)
    refine' Lp.st_def "counts" Lp.s_counts ["plan", "n"] (fun _ _ _ _ _ _ us hl => match us, hl with | [_, _], _ => rfl) KX G ?a_9 ?l_9 ?c_9 ?k_9 fun d_counts => ?next9
    (case a_9 => k_is)
    (case l_9 => k_is)
    (case c_9 => k_is)
    (case k_9 => k_is)
    refine' Lp.st_def "widths" Lp.s_widths ["plan", "n"] (fun _ _ _ _ _ _ us hl => match us, hl with | [_, _], _ => rfl) KX G ?a_10 ?l_10 ?c_10 ?k_10 fun d_widths => ?next10
    (case a_10 => k_is)
    (case l_10 => k_is)
    (case c_10 => k_is)
    (case k_10 => k_is)
    refine' Lp.st_def "shape_lumps" Lp.s_shape_lumps ["form"] (fun _ _ _ _ _ _ us hl => match us, hl with | [_], _ => rfl) KX G ?a_11 ?l_11 ?c_11 ?k_11 fun d_shape_lumps => ?next11
    (case a_11 => k_is)
    (case l_11 => k_is)
    (case c_11 => k_is)
    (case k_11 => k_is)
    refine' Lp.st_def "need_places" Lp.s_need_places ["n", "values"] (fun _ _ _ _ _ _ us hl => match us, hl with | [_, _], _ => rfl) KX G ?a_12 ?l_12 ?c_12 ?k_12 fun d_need_places => ?next12
    (case a_12 => k_is)
    (case l_12 => k_is)
    (case c_12 => k_is)
    (case k_12 => k_is)
    refine' Lp.st_def "depth" Lp.s_depth ["plan", "n", "i"] (fun _ _ _ _ _ _ us hl => match us, hl with | [_, _, _], _ => rfl) KX G ?a_13 ?l_13 ?c_13 ?k_13 fun d_depth => ?next13
    (case a_13 => k_is)
    (case l_13 => k_is)
    (case c_13 => k_is)
    (case k_13 => k_is)
    refine' Lp.st_def "lumps_in" Lp.s_lumps_in ["shape"] (fun _ _ _ _ _ _ us hl => match us, hl with | [_], _ => rfl) KX G ?a_14 ?l_14 ?c_14 ?k_14 fun d_lumps_in => ?next14
    (case a_14 => k_is)
    (case l_14 => k_is)
    (case c_14 => k_is)
    (case k_14 => k_is)
    refine' Lp.st_def "last_stretch" Lp.s_last_stretch ["n", "size"] (fun _ _ _ _ _ _ us hl => match us, hl with | [_, _], _ => rfl) KX G ?a_15 ?l_15 ?c_15 ?k_15 fun d_last_stretch => ?next15
    (case a_15 => k_is)
    (case l_15 => k_is)
    (case c_15 => k_is)
    (case k_15 => k_is)
    refine' Lp.st_def "moved" Lp.s_moved ["pairs", "start"] (fun _ _ _ _ _ _ us hl => match us, hl with | [_, _], _ => rfl) KX G ?a_16 ?l_16 ?c_16 ?k_16 fun d_moved => ?next16
    (case a_16 => k_is)
    (case l_16 => k_is)
    (case c_16 => k_is)
    (case k_16 => k_is)
    refine' Lp.st_def "beside_in" Lp.s_beside_in ["shape", "place"] (fun _ _ _ _ _ _ us hl => match us, hl with | [_, _], _ => rfl) KX G ?a_17 ?l_17 ?c_17 ?k_17 fun d_beside_in => ?next17
    (case a_17 => k_is)
    (case l_17 => k_is)
    (case c_17 => k_is)
    (case k_17 => k_is)
    refine' Lp.st_def "beside_comb" Lp.s_beside_comb ["end", "n", "i"] (fun _ _ _ _ _ _ us hl => match us, hl with | [_, _, _], _ => rfl) KX G ?a_18 ?l_18 ?c_18 ?k_18 fun d_beside_comb => ?next18
    (case a_18 => k_is)
    (case l_18 => k_is)
    (case c_18 => k_is)
    (case k_18 => k_is)
    refine' Lp.st_def "beside" Lp.s_beside ["plan", "n", "i"] (fun _ _ _ _ _ _ us hl => match us, hl with | [_, _, _], _ => rfl) KX G ?a_19 ?l_19 ?c_19 ?k_19 fun d_beside => ?next19
    (case a_19 => k_is)
    (case l_19 => k_is)
    (case c_19 => k_is)
    (case k_19 => k_is)
    refine' Lp.st_def "thing_paper" Lp.s_thing_paper ["plan", "n", "i"] (fun _ _ _ _ _ _ us hl => match us, hl with | [_, _, _], _ => rfl) KX G ?a_20 ?l_20 ?c_20 ?k_20 fun d_thing_paper => ?next20
    (case a_20 => k_is)
    (case l_20 => k_is)
    (case c_20 => k_is)
    (case k_20 => k_is)
    refine' Lp.st_def "wrong_member" Lp.s_wrong_member ["tables"] (fun _ _ _ _ _ _ us hl => match us, hl with | [_], _ => rfl) KX G ?a_21 ?l_21 ?c_21 ?k_21 fun d_wrong_member => ?next21
    (case a_21 => k_is)
    (case l_21 => k_is)
    (case c_21 => k_is)
    (case k_21 => k_is)
    refine' Lp.st_def "wrong_plan" Lp.s_wrong_plan ["tables", "end"] (fun _ _ _ _ _ _ us hl => match us, hl with | [_, _], _ => rfl) KX G ?a_22 ?l_22 ?c_22 ?k_22 fun d_wrong_plan => ?next22
    (case a_22 => k_is)
    (case l_22 => k_is)
    (case c_22 => k_is)
    (case k_22 => k_is)
    refine' Lp.st_def "_law_source" Lp.s_law_source ["_law_script"] (fun _ _ _ _ _ _ us hl => match us, hl with | [_], _ => rfl) KX G ?a_23 ?l_23 ?c_23 ?k_23 fun d_law_source => ?next23
    (case a_23 => k_is)
    (case l_23 => k_is)
    (case c_23 => k_is)
    (case k_23 => k_is)
    refine' Lp.st_def "_law_pick" Lp.s_law_pick ["_law_source_here", "_law_many"] (fun _ _ _ _ _ _ us hl => match us, hl with | [_, _], _ => rfl) KX G ?a_24 ?l_24 ?c_24 ?k_24 fun d_law_pick => ?next24
    (case a_24 => k_is)
    (case l_24 => k_is)
    (case c_24 => k_is)
    (case k_24 => k_is)
    refine' Lp.st_def "_law_of" Lp.s_law_of ["_law_source_here", "_law_some"] (fun _ _ _ _ _ _ us hl => match us, hl with | [_, _], _ => rfl) KX G ?a_25 ?l_25 ?c_25 ?k_25 fun d_law_of => ?next25
    (case a_25 => k_is)
    (case l_25 => k_is)
    (case c_25 => k_is)
    (case k_25 => k_is)
    refine' Lp.st_def "_law_mixed" Lp.s_law_mixed ["_law_source_here", "_law_things"] (fun _ _ _ _ _ _ us hl => match us, hl with | [_, _], _ => rfl) KX G ?a_26 ?l_26 ?c_26 ?k_26 fun d_law_mixed => ?next26
    (case a_26 => k_is)
    (case l_26 => k_is)
    (case c_26 => k_is)
    (case k_26 => k_is)
    refine' Lp.st_def "_law_comb" Lp.s_law_comb ["_law_n", "_law_side"] (fun _ _ _ _ _ _ us hl => match us, hl with | [_, _], _ => rfl) KX G ?a_27 ?l_27 ?c_27 ?k_27 fun d_law_comb => ?next27
    (case a_27 => k_is)
    (case l_27 => k_is)
    (case c_27 => k_is)
    (case k_27 => k_is)
    refine' Lp.st_def "_law_halves" Lp.s_law_halves ["_law_n"] (fun _ _ _ _ _ _ us hl => match us, hl with | [_], _ => rfl) KX G ?a_28 ?l_28 ?c_28 ?k_28 fun d_law_halves => ?next28
    (case a_28 => k_is)
    (case l_28 => k_is)
    (case c_28 => k_is)
    (case k_28 => k_is)
    refine' Lp.st_def "_law_shape" Lp.s_law_shape ["_law_source_here", "_law_n"] (fun _ _ _ _ _ _ us hl => match us, hl with | [_, _], _ => rfl) KX G ?a_29 ?l_29 ?c_29 ?k_29 fun d_law_shape => ?next29
    (case a_29 => k_is)
    (case l_29 => k_is)
    (case c_29 => k_is)
    (case k_29 => k_is)
    refine' Lp.st_def "_law_size" Lp.s_law_size ["_law_form"] (fun _ _ _ _ _ _ us hl => match us, hl with | [_], _ => rfl) KX G ?a_30 ?l_30 ?c_30 ?k_30 fun d_law_size => ?next30
    (case a_30 => k_is)
    (case l_30 => k_is)
    (case c_30 => k_is)
    (case k_30 => k_is)
    refine' Lp.st_def "_law_any_table" Lp.s_law_any_table ["_law_source_here", "_law_size_here"] (fun _ _ _ _ _ _ us hl => match us, hl with | [_, _], _ => rfl) KX G ?a_31 ?l_31 ?c_31 ?k_31 fun d_law_any_table => ?next31
    (case a_31 => k_is)
    (case l_31 => k_is)
    (case c_31 => k_is)
    (case k_31 => k_is)
    refine' Lp.st_def "_law_entry" Lp.s_law_entry ["_law_table_here", "_law_m"] (fun _ _ _ _ _ _ us hl => match us, hl with | [_, _], _ => rfl) KX G ?a_32 ?l_32 ?c_32 ?k_32 fun d_law_entry => ?next32
    (case a_32 => k_is)
    (case l_32 => k_is)
    (case c_32 => k_is)
    (case k_32 => k_is)
    refine' Lp.st_def "_law_filled" Lp.s_law_filled ["_law_form", "_law_lumps"] (fun _ _ _ _ _ _ us hl => match us, hl with | [_, _], _ => rfl) KX G ?a_33 ?l_33 ?c_33 ?k_33 fun d_law_filled => ?next33
    (case a_33 => k_is)
    (case l_33 => k_is)
    (case c_33 => k_is)
    (case k_33 => k_is)
    refine' Lp.st_def "_law_pressed" Lp.s_law_pressed ["_law_table_here", "_law_row"] (fun _ _ _ _ _ _ us hl => match us, hl with | [_, _], _ => rfl) KX G ?a_34 ?l_34 ?c_34 ?k_34 fun d_law_pressed => ?next34
    (case a_34 => k_is)
    (case l_34 => k_is)
    (case c_34 => k_is)
    (case k_34 => k_is)
    refine' Lp.st_def "_law_glue" Lp.s_law_glue ["_law_one", "_law_other"] (fun _ _ _ _ _ _ us hl => match us, hl with | [_, _], _ => rfl) KX G ?a_35 ?l_35 ?c_35 ?k_35 fun d_law_glue => ?next35
    (case a_35 => k_is)
    (case l_35 => k_is)
    (case c_35 => k_is)
    (case k_35 => k_is)
    refine' Lp.st_def "_law_table" Lp.s_law_table ["_law_source_here"] (fun _ _ _ _ _ _ us hl => match us, hl with | [_], _ => rfl) KX G ?a_36 ?l_36 ?c_36 ?k_36 fun d_law_table => ?next36
    (case a_36 => k_is)
    (case l_36 => k_is)
    (case c_36 => k_is)
    (case k_36 => k_is)
    refine' Lp.st_def "_law_made" Lp.s_law_made ["_law_tables", "_law_end"] (fun _ _ _ _ _ _ us hl => match us, hl with | [_, _], _ => rfl) KX G ?a_37 ?l_37 ?c_37 ?k_37 fun d_law_made => ?next37
    (case a_37 => k_is)
    (case l_37 => k_is)
    (case c_37 => k_is)
    (case k_37 => k_is)
    refine' Lp.st_def "_law_plan" Lp.s_law_plan ["_law_source_here"] (fun _ _ _ _ _ _ us hl => match us, hl with | [_], _ => rfl) KX G ?a_38 ?l_38 ?c_38 ?k_38 fun d_law_plan => ?next38
    (case a_38 => k_is)
    (case l_38 => k_is)
    (case c_38 => k_is)
    (case k_38 => k_is)
    refine' Lp.st_def "_law_stage" Lp.s_law_stage ["_law_world", "_law_k"] (fun _ _ _ _ _ _ us hl => match us, hl with | [_, _], _ => rfl) KX G ?a_39 ?l_39 ?c_39 ?k_39 fun d_law_stage => ?next39
    (case a_39 => k_is)
    (case l_39 => k_is)
    (case c_39 => k_is)
    (case k_39 => k_is)
    refine' Lp.st_def "_law_told" Lp.s_law_told ["_law_world", "_law_n"] (fun _ _ _ _ _ _ us hl => match us, hl with | [_, _], _ => rfl) KX G ?a_40 ?l_40 ?c_40 ?k_40 fun d_law_told => ?next40
    (case a_40 => k_is)
    (case l_40 => k_is)
    (case c_40 => k_is)
    (case k_40 => k_is)
    refine' Lp.st_def "_law_part" Lp.s_law_part ["_law_form", "_law_i", "_law_j"] (fun _ _ _ _ _ _ us hl => match us, hl with | [_, _, _], _ => rfl) KX G ?a_41 ?l_41 ?c_41 ?k_41 fun d_law_part => ?next41
    (case a_41 => k_is)
    (case l_41 => k_is)
    (case c_41 => k_is)
    (case k_41 => k_is)
    refine' Lp.st_def "_law_swung_table" Lp.s_law_swung_table ["_law_source_here"] (fun _ _ _ _ _ _ us hl => match us, hl with | [_], _ => rfl) KX G ?a_42 ?l_42 ?c_42 ?k_42 fun d_law_swung_table => ?next42
    (case a_42 => k_is)
    (case l_42 => k_is)
    (case c_42 => k_is)
    (case k_42 => k_is)
    refine' Lp.st_def "_law_near_table" Lp.s_law_near_table ["_law_source_here"] (fun _ _ _ _ _ _ us hl => match us, hl with | [_], _ => rfl) KX G ?a_43 ?l_43 ?c_43 ?k_43 fun d_law_near_table => ?next43
    (case a_43 => k_is)
    (case l_43 => k_is)
    (case c_43 => k_is)
    (case k_43 => k_is)
    refine' Lp.st_def "_law_small_plan" Lp.s_law_small_plan ["_law_source_here"] (fun _ _ _ _ _ _ us hl => match us, hl with | [_], _ => rfl) KX G ?a_44 ?l_44 ?c_44 ?k_44 fun d_law_small_plan => ?next44
    (case a_44 => k_is)
    (case l_44 => k_is)
    (case c_44 => k_is)
    (case k_44 => k_is)
    refine' Lp.st_def "_law_beside" Lp.s_law_beside ["_law_shape_here", "_law_start", "_law_place"] (fun _ _ _ _ _ _ us hl => match us, hl with | [_, _, _], _ => rfl) KX G ?a_45 ?l_45 ?c_45 ?k_45 fun d_law_beside => ?next45
    (case a_45 => k_is)
    (case l_45 => k_is)
    (case c_45 => k_is)
    (case k_45 => k_is)
    refine' Lp.st_def "_law_again" Lp.s_law_again ["_law_shape_here", "_law_paper", "_law_place"] (fun _ _ _ _ _ _ us hl => match us, hl with | [_, _, _], _ => rfl) KX G ?a_46 ?l_46 ?c_46 ?k_46 fun d_law_again => ?next46
    (case a_46 => k_is)
    (case l_46 => k_is)
    (case c_46 => k_is)
    (case k_46 => k_is)
    refine' Lp.st_plan KX G ?aC_47 (fun _ _ _ _ _ _ us hl => match us, hl with | [_, _, _], _ => rfl) ?a1_47 ?i1_47 ?l1_47 ?c1_47 ?k1_47 (fun _ _ _ _ _ _ us hl => match us, hl with | [_], _ => rfl) ?a2_47 ?i2_47 ?l2_47 ?c2_47 ?k2_47 (fun _ _ _ _ _ _ us hl => match us, hl with | [_, _], _ => rfl) ?a3_47 ?i3_47 ?l3_47 ?c3_47 ?k3_47 ?pg_47 ?hd_47 ?po_47 ?sa_47 ?mk_47 ?kc_47 ?nT_47 ?nE_47 fun pP => ?next47
    (case aC_47 => k_is)
    (case a1_47 => k_is)
    (case i1_47 => k_is)
    (case l1_47 => k_is)
    (case c1_47 => k_is)
    (case k1_47 => k_is)
    (case a2_47 => k_is)
    (case i2_47 => k_is)
    (case l2_47 => k_is)
    (case c2_47 => k_is)
    (case k2_47 => k_is)
    (case a3_47 => k_is)
    (case i3_47 => k_is)
    (case l3_47 => k_is)
    (case c3_47 => k_is)
    (case k3_47 => k_is)
    (case pg_47 => k_is)
    (case hd_47 => k_is)
    (case po_47 => k_is)
    (case sa_47 => k_is)
    (case mk_47 => k_is)
    (case kc_47 => k_is)
    (case nT_47 => k_is)
    (case nE_47 => k_is)
    refine' Lp.st_rows KX G ?aC_48 (fun _ _ _ _ _ _ us hl => match us, hl with | [_, _, _], _ => rfl) ?a1_48 ?i1_48 ?l1_48 ?c1_48 ?k1_48 (fun _ _ _ _ _ _ us hl => match us, hl with | [_, _, _], _ => rfl) ?a2_48 ?i2_48 ?l2_48 ?c2_48 ?k2_48 ?pg_48 ?hd_48 ?po_48 ?sa_48 ?mk_48 ?kc_48 ?nP_48 ?nM_48 ?nW_48 fun pR => ?next48
    (case aC_48 => k_is)
    (case a1_48 => k_is)
    (case i1_48 => k_is)
    (case l1_48 => k_is)
    (case c1_48 => k_is)
    (case k1_48 => k_is)
    (case a2_48 => k_is)
    (case i2_48 => k_is)
    (case l2_48 => k_is)
    (case c2_48 => k_is)
    (case k2_48 => k_is)
    (case pg_48 => k_is)
    (case hd_48 => k_is)
    (case po_48 => k_is)
    (case sa_48 => k_is)
    (case mk_48 => k_is)
    (case kc_48 => k_is)
    (case nP_48 => k_is)
    (case nM_48 => k_is)
    (case nW_48 => k_is)
    refine' Lp.st_ends KX G ?a_49 ?l_49 fun pE => ?next49
    (case a_49 => k_is)
    (case l_49 => k_is)
    refine' Lp.st_most KX G ?a_50 fun pM => ?next50
    (case a_50 => k_is)
    refine' Lp.st_none "len" KX G ?a_51 fun n_len => ?next51
    (case a_51 => k_is)
    refine' Lp.st_none "abs" KX G ?a_52 fun n_abs => ?next52
    (case a_52 => k_is)
    refine' Lp.st_none "max" KX G ?a_53 fun n_max => ?next53
    (case a_53 => k_is)
    refine' Lp.st_none "min" KX G ?a_54 fun n_min => ?next54
    (case a_54 => k_is)
    refine' Lp.st_none "isinstance" KX G ?a_55 fun n_isinstance => ?next55
    (case a_55 => k_is)
    refine' Lp.st_none "repr" KX G ?a_56 fun n_repr => ?next56
    (case a_56 => k_is)
    refine' Lp.st_none "range" KX G ?a_57 fun n_range => ?next57
    (case a_57 => k_is)
    refine' Lp.st_none "enumerate" KX G ?a_58 fun n_enumerate => ?next58
    (case a_58 => k_is)
    refine' Lp.st_none "int" KX G ?a_59 fun n_int => ?next59
    (case a_59 => k_is)
    refine' Lp.st_none "tuple" KX G ?a_60 fun n_tuple => ?next60
    (case a_60 => k_is)
    refine' Lp.st_none "list" KX G ?a_61 fun n_list => ?next61
    (case a_61 => k_is)
    refine' Lp.st_none "str" KX G ?a_62 fun n_str => ?next62
    (case a_62 => k_is)
    refine' Lp.st_none "bool" KX G ?a_63 fun n_bool => ?next63
    (case a_63 => k_is)
    obtain ⟨tM, hM⟩ := pM
    refine' Lp.law_at KX G hmg ?a ?l ?c ?k {
      is_integer := d_is_integer, is_number := d_is_number, wrong_shape := d_wrong_shape, size_of := d_size_of, wrong_sizes := d_wrong_sizes, wrong_table := d_wrong_table, table_size := d_table_size, entry := d_entry, counts := d_counts, widths := d_widths, shape_lumps := d_shape_lumps, need_places := d_need_places, depth := d_depth, lumps_in := d_lumps_in, last_stretch := d_last_stretch, moved := d_moved, beside_in := d_beside_in, beside_comb := d_beside_comb, beside := d_beside, thing_paper := d_thing_paper, wrong_member := d_wrong_member, wrong_plan := d_wrong_plan, law_source := d_law_source, law_pick := d_law_pick, law_of := d_law_of, law_mixed := d_law_mixed, law_comb := d_law_comb, law_halves := d_law_halves, law_shape := d_law_shape, law_size := d_law_size, law_any_table := d_law_any_table, law_entry := d_law_entry, law_filled := d_law_filled, law_pressed := d_law_pressed, law_glue := d_law_glue, law_table := d_law_table, law_made := d_law_made, law_plan := d_law_plan, law_stage := d_law_stage, law_told := d_law_told, law_part := d_law_part, law_swung_table := d_law_swung_table, law_near_table := d_law_near_table, law_small_plan := d_law_small_plan, law_beside := d_law_beside, law_again := d_law_again, initRows := pR.i, stretch := pR.s, initPlan := pP.i, end_ := pP.e, stage := pP.s, cP := pP.C, cR := pR.C, clPlan := pP.cls, clRows := pR.cls, mgPlan := pP.mgC, mgRows := pR.mgC, mkPlan := pP.mkC, mkRows := pR.mkC, m_stage := pP.ms, m_end_ := pP.me, m_stretch := pR.ms, nT := pP.nT, nE := pP.nE, nPl := pR.nPl, nMa := pR.nMa, nWi := pR.nWi, aE := pE.a, mgE := pE.m, sqE := pE.sq, tM := tM, MOST := hM, len_ := n_len, abs_ := n_abs, max_ := n_max, min_ := n_min, isinstance_ := n_isinstance, repr_ := n_repr, range_ := n_range, enumerate_ := n_enumerate, int_ := n_int, tuple_ := n_tuple, list_ := n_list, str_ := n_str, bool_ := n_bool }
    (case a => k_is)
    (case l => k_is)
    (case c => k_is)
    (case k => k_is)

import PyProof.Rows.All
import Wide.All
import OpenK.AllK
import Wide.FinOn
import KE.GoesEnum
import KE.DataMinMax
import HandS.ForMost
import HandS.IsInst
import HandS.TupAny
import HandS.TupMul
import HandS.Style
import HandS.SortInts
import HandS.SortRule
import HandS.Wide
import HandS.Walk
import HandS.More
import HandS.Codes
import HandS.Conv
import PySem.Challenge.RW_lastflame_k09_whole_what_must_be_added_a
set_option Elab.async false
set_option linter.all false
set_option maxRecDepth 100000
set_option maxHeartbeats 4000000
/-! ### la_walks: enumerate and zip over lists and tuples in any mix; sum, sorted of tuples -/
namespace LF
open PySem PySem.Spec PyProof.Rows L2

def SqB (K : PySem.W.Frag) : Bool → Hp → Addr → List V → Prop
  | false => SqL K
  | true => SqT K
def IsItB : Bool → Heap → Addr → Addr → Nat → Prop
  | false => fun h it a i => h.IsListIter it a i
  | true => fun h it a i => h.IsTupleIter it a i
def IsSeqB : Bool → Heap → Addr → Array Value → Prop
  | false => fun h a items => h.IsList a items
  | true => fun h a items => h.IsTuple a items
def itObj (tp : Bool) (a : Addr) : Obj := { cls := .type (if tp then "tuple_iterator" else "list_iterator"), data := .fields #[.ref a, .int 0 0] }
theorem drawsB {prog : Program} {w : World} {A : Around} (hh : A.handled = none) (tp : Bool) (it l : Addr) (hne : l ≠ it) (items : Array Value) :
    Draws prog w A it [it, l] items.size (fun i v => items[i]? = some v) (fun i h => IsItB tp h it l i ∧ IsSeqB tp h l items) := by
  cases tp with
  | false => exact Draws.list hh it l hne items
  | true => exact Draws.tuple hh it l hne items
theorem beginsB (tp : Bool) (l : Addr) (items : Array Value) : Begins (.ref l) (itObj tp l) fun h => IsSeqB tp h l items := by
  cases tp with
  | false => exact begins_list l items
  | true => exact begins_tuple l items
theorem IsItB.obj {tp : Bool} {h : Heap} {it a : Addr} {i : Nat} (x : IsItB tp h it a i) : ∃ o : Obj, h.get? it = some o ∧ o.cls = .type (if tp then "tuple_iterator" else "list_iterator") ∧ ∃ vs, o.data = .fields vs := by
  cases tp with
  | false => obtain ⟨o, e, c, d⟩ := x; exact ⟨o, e, c, _, d⟩
  | true => obtain ⟨o, e, c, d⟩ := x; exact ⟨o, e, c, _, d⟩
theorem IsItB.at {tp : Bool} {h h' : Heap} {it a : Addr} {i : Nat} (x : IsItB tp h it a i) (k : ∀ o, h.get? it = some o → h'.get? it = some o) : IsItB tp h' it a i := by
  cases tp with
  | false => obtain ⟨o, e, c⟩ := x; exact ⟨o, k o e, c⟩
  | true => obtain ⟨o, e, c⟩ := x; exact ⟨o, k o e, c⟩
theorem IsSeqB.obj {tp : Bool} {h : Heap} {a : Addr} {items : Array Value} (x : IsSeqB tp h a items) : ∃ o : Obj, h.get? a = some o ∧ ∃ n, o.data = .seq items n := by
  cases tp with
  | false => obtain ⟨o, e, _, n, d⟩ := x; exact ⟨o, e, n, d⟩
  | true => obtain ⟨o, e, _, n, d⟩ := x; exact ⟨o, e, n, d⟩
theorem neB {tp : Bool} {h : Heap} {it a : Addr} {i : Nat} {items : Array Value} (x : IsItB tp h it a i) (y : IsSeqB tp h a items) : a ≠ it := fun e => by
  obtain ⟨o, e1, _, vs, d1⟩ := x.obj
  obtain ⟨o2, e2, n, d2⟩ := y.obj
  rw [e, e1] at e2
  cases e2
  rw [d1] at d2
  cases d2
theorem itB_new {tp : Bool} {h : Heap} {it a : Addr} (e : h.get? it = some (itObj tp a)) : IsItB tp h it a 0 := by
  cases tp with
  | false => exact ⟨_, e, rfl, rfl⟩
  | true => exact ⟨_, e, rfl, rfl⟩
section
variable {X : Cx} {pins : List (Addr × Obj)} {σ : L2.St} {H : Hp} {s : Shared} {a : Addr} {xs ys : List V}
theorem seqB (tp : Bool) (I : Inv X pins σ H s) (h : SqB X.K tp H a xs) : ∃ its : List Value, Vals xs its ∧ IsSeqB tp s.heap a its.toArray ∧ xs.length ≤ sizeLine := by
  cases tp with
  | false => obtain ⟨its, rv, p, z⟩ := I.list h; exact ⟨its, rv, p.isList, z⟩
  | true => obtain ⟨its, rv, p, z⟩ := I.tuple h; exact ⟨its, rv, p, z⟩
theorem seqB_inj {tp : Bool} (I : Inv X pins σ H s) (h : SqB X.K tp H a xs) (h' : SqB X.K tp H a ys) : xs = ys := by
  cases tp with
  | false => exact I.list_inj h h'
  | true => exact I.tuple_inj h h'
end
/-! enumerate -/
def IteB (K : PySem.W.Frag) (tp : Bool) (a : Addr) : It :=
  ⟨fun i H => ∃ (xs : List V) (x : V), SqB K tp H a xs ∧ xs[i]? = some x, fun i H v H' => ∃ T x, v = .ref T ∧ H T = none ∧ H' = upd H T (.tup [.int (i : Nat), x]) ∧ ∀ xs, SqB K tp H a xs → xs[i]? = some x, fun i H => ∃ xs : List V, SqB K tp H a xs ∧ xs.length = i⟩
theorem turn_enumB {P : Program} {w : World} {K : PySem.W.Frag} {elts : List Expr} {kk : Nat} {tpos : Pos} (tp : Bool) (a e it : Addr) :
    Turn P w K (.Tuple elts kk tpos) (IteB K tp a) [e, it] e (fun i h => (∃ old, IsEnum h e it ((i : Nat) : Int) old) ∧ IsItB tp h it a i ∧ e ≠ it) where
  mem := by simp
  obj := fun i h st b hb => by
    obtain ⟨⟨old, he⟩, hi, _⟩ := st
    obtain ⟨o, ho, _, vs, hd⟩ := hi.obj
    have e' : b = e ∨ b = it := by simpa using hb
    rcases e' with z | z
    · rw [z]; exact ⟨_, he, fun v q => nomatch q⟩
    · rw [z]; exact ⟨o, ho, fun v q => by rw [hd] at q; cases q⟩
  keep := fun i h h' st k => let ⟨⟨old, he⟩, hi, hne⟩ := st; ⟨⟨old, k e (by simp) _ he⟩, hi.at fun o q => k it (by simp) o q, hne⟩
  item := by
    intro X hP hw hK hc i pins s σ H E I hf st hg
    subst hP hw hK
    obtain ⟨⟨old, he⟩, hit, hne⟩ := st
    obtain ⟨xs, x, hq, hx⟩ := hg
    obtain ⟨its, rv, p, hz⟩ := seqB tp I hq
    obtain ⟨u, hu, ru⟩ := rv.get hx
    have hel : e < s.heap.objs.size := Heap.lt_size he
    have hil : it < s.heap.objs.size := by obtain ⟨_, q, _⟩ := hit.obj; exact Heap.lt_size q
    have hia : a ≠ it := neB hit p
    have hea : e ≠ a := fun z => by
      obtain ⟨o, ho, n, hd⟩ := p.obj
      rw [← z, he] at ho
      cases ho
      cases hd
    have hlt : i < its.toArray.size := by
      obtain ⟨h1, _⟩ := List.getElem?_eq_some_iff.mp hu
      simpa using h1
    refine wpAny_pyNext_enum_itemC (drawsB (A := X.A.in1) (I.ok.hd hc) tp it a hia its.toArray) he ⟨hit, p⟩ hlt hne (by simp [hne, hea]) fun u' h' tk hP ho hit' hT hsz hk => ?_
    have eu : u' = u := by
      have q : its.toArray[i]? = some u := by simpa using hu
      rw [q] at hP
      exact (Option.some.inj hP).symm
    subst eu
    refine ⟨_, rfl, wpAny_letOwnedTupleGo_enum (s := { s with heap := h', toks := tk + 1 }) ho fun h'' he' sb => ?_⟩
    have hT2 : h''.get? s.heap.objs.size = some { cls := .type "tuple", data := .seq #[.int i tk, u'] } := (sb.2 _ (Nat.ne_of_gt hel)).trans hT
    have new : ObjOk X.prog X.w (upd H s.heap.objs.size (.tup [.int (i : Nat), x])) h'' s.heap.objs.size (.tup [.int (i : Nat), x]) :=
      ⟨by show 2 ≤ sizeLine; decide, [.int i tk, u'], .cons ⟨_, rfl⟩ (.cons ru .nil), ⟨_, hT2, rfl, _, rfl⟩⟩
    have I1 : Inv X pins σ (upd H s.heap.objs.size (.tup [.int (i : Nat), x])) { s with heap := h'', toks := tk + 1 } :=
      I.turnedNew (ch := [e, it]) (fun b ob hb q => (sb.2 b (fun z => hb (by simp [z]))).trans (hk b ob (fun z => hb (by simp [z])) (fun z => hb (by simp [z])) q)) hf (Nat.le_refl _) new
    refine ⟨.ref s.heap.objs.size, _, I1, rfl, ⟨_, x, rfl, I.hok.fresh (Nat.le_refl _), rfl, fun ys hy => by rw [seqB_inj I hy hq]; exact hx⟩, ⟨⟨u', ?_⟩, hit'.1.at fun o q => (sb.2 it (Ne.symm hne)).trans q, hne⟩, fun b hb => ?_⟩
    · have e1 : ((i + 1 : Nat) : Int) = (i : Int) + 1 := by omega
      rw [e1]; exact he'
    · have hb' : b < s.heap.objs.size := by
        have e' : b = e ∨ b = it := by simpa using hb
        rcases e' with z | z
        · rw [z]; exact hel
        · rw [z]; exact hil
      rw [upd_ne (Nat.ne_of_lt hb')]
      exact (hf b hb).1
  done := by
    intro X hP hw hK hc i pins s σ H E I hf st hg
    subst hP hw hK
    obtain ⟨⟨old, he⟩, hit, hne⟩ := st
    obtain ⟨xs, hq, hx⟩ := hg
    obtain ⟨its, rv, p, hz⟩ := seqB tp I hq
    obtain ⟨f0, f1, f2, f3, f4, f5⟩ := hf it (by simp)
    have hl := rv.length
    have ei : i = its.toArray.size := by simp; omega
    have hia : a ≠ it := neB hit p
    exact wpAny_pyNext_enum_endD (drawsB (A := X.A.in1) (I.ok.hd hc) tp it a hia its.toArray) he (by rw [← ei]; exact ⟨hit, p⟩) fun h' eb => ⟨rfl, I.turned (t' := s.toks) (fun b o hb q => eb b o hb q) f0 f1 f3 f4 f5⟩
  self := fun A i s Q E st h => let ⟨⟨_, he⟩, _⟩ := st; wpAny_pyIter_enum he h
set_option maxHeartbeats 2000000 in
theorem meets_enum1 {v : Value} {o : Obj} {H : Heap → Prop} (B : Begins v o H) :
    Meets (Builtin.«enumerate.__new__» ⟨[.type "enumerate", v], []⟩) (fun _ R s => H s.heap ∧
      R (.ok (.ret (.ref (s.heap.push o).objs.size))) { s with heap := (s.heap.push o).push { cls := .type "enumerate", data := .fields #[.none, .bool false, .ref s.heap.objs.size, rawInt 0, .none, .none] } }) :=
  .of_wp fun prog w A R s h => by
    obtain ⟨hp, g, d, tk, os⟩ := s; obtain ⟨h1, h⟩ := h
    have hsub := sub_enumerate
    have q1 : ∀ {A' : Around} {E : Value → Shared → Prop} {Q : Value → Shared → Prop}, Q (.ref hp.objs.size) ⟨hp.push o, g, d, tk, os⟩ → wpAny (model prog w) A' (pyIter v) Q E ⟨hp, g, d, tk, os⟩ :=
      fun q => B.iter prog w _ _ ⟨hp, g, d, tk, os⟩ _ h1 q
    wp_walk
    refine wpAny_stack_any fun st => wpAny_pure ?_
    split
    · rename_i c _ _ _ _ _
      cases (c == Value.type "enumerate")
      · wp_walk using q1
        exact ⟨_, rfl, h⟩
      · wp_walk using q1
        exact ⟨_, rfl, h⟩
    · wp_walk using q1
      exact ⟨_, rfl, h⟩
theorem enum1_begins {prog : Program} {w : World} {A : Around} {E : Value → Shared → Prop} {s : Shared} {v : Value} {o : Obj} {H : Heap → Prop} {Q : Value → Shared → Prop} (B : Begins v o H) (h1 : H s.heap)
    (h : ∀ h', IsEnum h' (s.heap.objs.size + 1) s.heap.objs.size 0 .none → h'.get? s.heap.objs.size = some o → h'.objs.size = s.heap.objs.size + 2 →
      (∀ b o, s.heap.get? b = some o → h'.get? b = some o) → Q (.ref (s.heap.objs.size + 1)) { s with heap := h' }) :
    wpAny (model prog w) A (call (.type "enumerate") [v]) Q E s := by
  refine callType_new F.called_enumerate (by decide) (F.typeCall_enumerate_1 _) (F.newCall_enumerate_1 _) (fun obj => F.args_object_init_2 obj _) F.entry_enumerate_new
    (meets_enum1 B) ⟨h1, ?_⟩
  have hz : (s.heap.push o).objs.size = s.heap.objs.size + 1 := Heap.size_push ..
  show _ ∧ _
  rw [hz]
  have he : IsEnum ((s.heap.push o).push { cls := .type "enumerate", data := .fields #[.none, .bool false, .ref s.heap.objs.size, rawInt 0, .none, .none] }) (s.heap.objs.size + 1) s.heap.objs.size 0 .none := by
    have := Heap.get?_push_size (s.heap.push o) (o := { cls := .type "enumerate", data := .fields #[.none, .bool false, .ref s.heap.objs.size, rawInt 0, .none, .none] }) rfl
    rw [hz] at this; exact this
  refine ⟨⟨_, he, rfl⟩, h _ he (Heap.get?_push_of_some _ (Heap.get?_push_size _ B.free)) (by rw [Heap.size_push, hz]) fun b o x => Heap.get?_push_of_some _ (Heap.get?_push_of_some _ x)⟩
/-- enumerate of a list (false) or a tuple (true) -/
def iEnumB (K : PySem.W.Frag) (tp : Bool) (ta : TA) : TI := fun σ H R => ta σ H fun vs H1 => ∃ a xs, vs = [.ref a] ∧ SqB K tp H1 a xs ∧ R (IteB K tp a) H1
theorem pi_enumB {X : Cx} (tp : Bool) {e : Expr} {ta : TA} {p pos tpos : Pos} {elts : List Expr} {kk : Nat} (hg : Gl X "enumerate") (hm : X.mg "enumerate" = none) (ha : PA X [e] ta) (hs : starEach [e] X.env = [(false, eval e X.env)] := by rfl) :
    PI X (.Tuple elts kk tpos) (.Call (.Name "enumerate" p) [e] [] pos) (iEnumB X.K tp ta) := by
  refine ⟨fun pins s σ H R I h => ?_⟩
  refine Call_ (ld_blt I hg hm boot_enumerate (PyProof.Rows.callWith_type1 (thn (ha.run pos pins s σ H _ I h) fun us s1 ⟨vs, H1, I1, r1, q1⟩ => ?_) hs rfl))
  obtain ⟨a, xs, ex, hq, q⟩ := q1
  subst ex
  cases r1 with
  | cons r rr =>
    cases rr
    cases r
    obtain ⟨its, rv, p', hz⟩ := seqB tp I1 hq
    refine enum1_begins (beginsB tp a its.toArray) p' fun h' he hit hsz hk => wpAny_pyIter_enum he ?_
    have I2 : Inv X pins σ H1 { s1 with heap := h' } := I1.kept (t' := s1.toks) hk
    refine ⟨s1.heap.objs.size + 1, [s1.heap.objs.size + 1, s1.heap.objs.size], _, _, H1, rfl, I2, turn_enumB tp a (s1.heap.objs.size + 1) s1.heap.objs.size, ⟨⟨.none, he⟩, itB_new hit, Nat.succ_ne_self _⟩, fun b hb => ?_, q⟩
    have e' : b = s1.heap.objs.size + 1 ∨ b = s1.heap.objs.size := by simpa using hb
    have hle : s1.heap.objs.size ≤ b := by
      rcases e' with z | z
      · rw [z]; exact Nat.le_add_right _ _
      · rw [z]; exact Nat.le_refl _
    exact I1.fpOk hle (I1.hok.fresh hle)
theorem pi_enumT {X : Cx} {e : Expr} {ta : TA} {p pos tpos : Pos} {elts : List Expr} {kk : Nat} (hg : Gl X "enumerate") (hm : X.mg "enumerate" = none) (ha : PA X [e] ta) (hs : starEach [e] X.env = [(false, eval e X.env)] := by rfl) :
    PI X (.Tuple elts kk tpos) (.Call (.Name "enumerate" p) [e] [] pos) (iEnumB X.K true ta) := pi_enumB true hg hm ha hs
theorem pi_enumL {X : Cx} {e : Expr} {ta : TA} {p pos tpos : Pos} {elts : List Expr} {kk : Nat} (hg : Gl X "enumerate") (hm : X.mg "enumerate" = none) (ha : PA X [e] ta) (hs : starEach [e] X.env = [(false, eval e X.env)] := by rfl) :
    PI X (.Tuple elts kk tpos) (.Call (.Name "enumerate" p) [e] [] pos) (iEnumB X.K false ta) := pi_enumB false hg hm ha hs
theorem walk_enumB {K : PySem.W.Frag} {tp : Bool} {a : Addr} {xs : List V} : Walk (IteB K tp a) xs.length (fun H => SqB K tp H a xs) (YPair (fun i => some (.int (i : Nat))) (fun i => xs[i]?)) := by
  refine ⟨fun i _ hi q => ⟨xs, xs[i], q, by simp [hi]⟩, fun _ q => ⟨xs, q, rfl⟩, fun i H v H' _ q y => ?_⟩
  obtain ⟨T, x, h1, h2, h3, h4⟩ := y
  exact ⟨T, .int (i : Nat), x, h1, h2, h3, rfl, h4 xs q⟩
/-! zip of two, each a list or a tuple -/
def ItzB (K : PySem.W.Frag) (ta tb : Bool) (a b : Addr) : It :=
  ⟨fun i H => ∃ (xs ys : List V) (x y : V), SqB K ta H a xs ∧ SqB K tb H b ys ∧ xs[i]? = some x ∧ ys[i]? = some y,
    fun i H v H' => ∃ T x y, v = .ref T ∧ H T = none ∧ H' = upd H T (.tup [x, y]) ∧ (∀ xs, SqB K ta H a xs → xs[i]? = some x) ∧ ∀ ys, SqB K tb H b ys → ys[i]? = some y,
    fun i H => ∃ xs ys : List V, SqB K ta H a xs ∧ SqB K tb H b ys ∧ i = min xs.length ys.length⟩
theorem turn_zipB {P : Program} {w : World} {K : PySem.W.Frag} {elts : List Expr} {kk : Nat} {tpos : Pos} (ka kb : Bool) {a b : Addr} {N : Nat} (la : a < N) (lb : b < N) :
    Turn P w K (.Tuple elts kk tpos) (ItzB K ka kb a b) [N + 4, N + 2, N + 3, N, N + 1] (N + 4) (fun i h => IsZip h (N + 4) (N + 2) (N + 3) .none ∧ IsTupOf2 h (N + 2) (.ref N) (.ref (N + 1)) ∧ (∃ x y, IsTupOf2 h (N + 3) x y) ∧ IsItB ka h N a i ∧ IsItB kb h (N + 1) b i) where
  mem := by simp
  obj := fun i h st c hc => by
    obtain ⟨hz, hTI, ⟨x, y, hTO⟩, h1, h2⟩ := st
    obtain ⟨o1, e1, _, v1, d1⟩ := h1.obj
    obtain ⟨o2, e2, _, v2, d2⟩ := h2.obj
    have e' : c = N + 4 ∨ c = N + 2 ∨ c = N + 3 ∨ c = N ∨ c = N + 1 := by simpa using hc
    rcases e' with q | q | q | q | q
    · rw [q]; exact ⟨_, hz, fun v q => nomatch q⟩
    · rw [q]; exact ⟨_, hTI, fun v q => nomatch q⟩
    · rw [q]; exact ⟨_, hTO, fun v q => nomatch q⟩
    · rw [q]; exact ⟨o1, e1, fun v q => by rw [d1] at q; cases q⟩
    · rw [q]; exact ⟨o2, e2, fun v q => by rw [d2] at q; cases q⟩
  keep := fun i h h' st k => by
    obtain ⟨hz, hTI, ⟨x, y, hTO⟩, h1, h2⟩ := st
    exact ⟨k _ (by simp) _ hz, k _ (by simp) _ hTI, ⟨x, y, k _ (by simp) _ hTO⟩, h1.at fun o q => k _ (by simp) o q, h2.at fun o q => k _ (by simp) o q⟩
  item := by
    intro X hP hw hK hc i pins s σ H E I hf st hg
    subst hP hw hK
    obtain ⟨hz, hTI, ⟨x0, y0, hTO⟩, h1, h2⟩ := st
    obtain ⟨xs, ys, x, y, hqx, hqy, hx, hy⟩ := hg
    obtain ⟨its, rv, p, _⟩ := seqB ka I hqx
    obtain ⟨its2, rv2, p2, _⟩ := seqB kb I hqy
    obtain ⟨u, hu, ru⟩ := rv.get hx
    obtain ⟨u2, hu2, ru2⟩ := rv2.get hy
    have hzl : N + 4 < s.heap.objs.size := Heap.lt_size hz
    have S : ZipSep2 (N + 4) (N + 2) (N + 3) N (N + 1) [N, a] [N + 1, b] := zip_sep2 (fp1 := [a]) (fp2 := [b]) (by simpa using la) (by simpa using lb)
    have D1 := drawsB (prog := X.prog) (w := X.w) (A := X.A.in1) (I.ok.hd hc) ka N a (Nat.ne_of_lt la) its.toArray
    have D2 := drawsB (prog := X.prog) (w := X.w) (A := X.A.in1) (I.ok.hd hc) kb (N + 1) b (Nat.ne_of_lt (Nat.lt_succ_of_lt lb)) its2.toArray
    have hlt : i < its.toArray.size := by
      obtain ⟨h1, _⟩ := List.getElem?_eq_some_iff.mp hu
      simpa using h1
    have hlt2 : i < its2.toArray.size := by
      obtain ⟨h1, _⟩ := List.getElem?_eq_some_iff.mp hu2
      simpa using h1
    refine wpAny_pyNext_zipD2_item S D1 D2 hz hTI hTO ⟨h1, p⟩ ⟨h2, p2⟩ hlt hlt2 fun u' u2' h' tk hP1 hP2 z' TO' h1' h2' hT hsz hk => ?_
    have eu : u' = u := by
      have q : its.toArray[i]? = some u := by simpa using hu
      rw [q] at hP1
      exact (Option.some.inj hP1).symm
    have eu2 : u2' = u2 := by
      have q : its2.toArray[i]? = some u2 := by simpa using hu2
      rw [q] at hP2
      exact (Option.some.inj hP2).symm
    subst eu eu2
    refine ⟨_, rfl, wpAny_letOwnedTupleGo_zip (s := { s with heap := h', toks := tk }) z' fun h'' z'' sb => ?_⟩
    have hT2 : h''.get? s.heap.objs.size = some { cls := .type "tuple", data := .seq #[u', u2'] } := (sb.2 _ (Nat.ne_of_gt hzl)).trans hT
    have new : ObjOk X.prog X.w (upd H s.heap.objs.size (.tup [x, y])) h'' s.heap.objs.size (.tup [x, y]) :=
      ⟨by show 2 ≤ sizeLine; decide, [u', u2'], .cons ru (.cons ru2 .nil), ⟨_, hT2, rfl, _, rfl⟩⟩
    have I1 : Inv X pins σ (upd H s.heap.objs.size (.tup [x, y])) { s with heap := h'', toks := tk } :=
      I.turnedNew (ch := [N + 4, N + 2, N + 3, N, N + 1]) (fun c o hb q => (sb.2 c (fun q' => hb (by simp [q']))).trans (hk c o (fun q' => hb (by simp [q'])) (fun q' => hb (by simp [q'])) (fun q' => hb (by simp [q'])) (fun q' => hb (by simp [q'])) q)) hf (Nat.le_refl _) new
    refine ⟨.ref s.heap.objs.size, _, I1, rfl, ⟨_, x, y, rfl, I.hok.fresh (Nat.le_refl _), rfl, fun l hl => by rw [seqB_inj I hl hqx]; exact hx, fun l hl => by rw [seqB_inj I hl hqy]; exact hy⟩, ⟨z'', ?_, ⟨u', u2', ?_⟩, ?_, ?_⟩, fun c hcm => ?_⟩
    · exact (sb.2 _ S.TIz).trans (hk _ _ S.TIz S.TITO S.TIi1 S.TIi2 hTI)
    · exact (sb.2 _ S.TOz).trans TO'
    · exact h1'.1.at fun o q => (sb.2 _ (Ne.symm S.zi1)).trans q
    · exact h2'.1.at fun o q => (sb.2 _ (Ne.symm S.zi2)).trans q
    · have hlt : c < s.heap.objs.size := by
        have e' : c = N + 4 ∨ c = N + 2 ∨ c = N + 3 ∨ c = N ∨ c = N + 1 := by simpa using hcm
        rcases e' with q | q | q | q | q
        · rw [q]; exact hzl
        · rw [q]; exact Heap.lt_size hTI
        · rw [q]; exact Heap.lt_size hTO
        · rw [q]; obtain ⟨_, e1, _⟩ := h1.obj; exact Heap.lt_size e1
        · rw [q]; obtain ⟨_, e2, _⟩ := h2.obj; exact Heap.lt_size e2
      rw [upd_ne (Nat.ne_of_lt hlt)]
      exact (hf c hcm).1
  done := by
    intro X hP hw hK hc i pins s σ H E I hf st hg
    subst hP hw hK
    obtain ⟨hz, hTI, ⟨x0, y0, hTO⟩, h1, h2⟩ := st
    obtain ⟨xs, ys, hqx, hqy, hend⟩ := hg
    obtain ⟨its, rv, p, _⟩ := seqB ka I hqx
    obtain ⟨its2, rv2, p2, _⟩ := seqB kb I hqy
    have l1 := rv.length
    have l2 := rv2.length
    have S : ZipSep2 (N + 4) (N + 2) (N + 3) N (N + 1) [N, a] [N + 1, b] := zip_sep2 (fp1 := [a]) (fp2 := [b]) (by simpa using la) (by simpa using lb)
    have D1 := drawsB (prog := X.prog) (w := X.w) (A := X.A.in1) (I.ok.hd hc) ka N a (Nat.ne_of_lt la) its.toArray
    have D2 := drawsB (prog := X.prog) (w := X.w) (A := X.A.in1) (I.ok.hd hc) kb (N + 1) b (Nat.ne_of_lt (Nat.lt_succ_of_lt lb)) its2.toArray
    exact wpAny_pyNext_zipD2_end S D1 D2 hz hTI hTO ⟨h1, p⟩ ⟨h2, p2⟩ (by simp; omega) (by simp; omega) (by simp; omega) fun h' tk hk => ⟨rfl, I.turnedL (t' := tk) (ch := [N + 4, N + 2, N + 3, N, N + 1]) (fun c o hb q =>
      hk c o (fun q' => hb (by simp [q'])) (fun q' => hb (by simp [q'])) (fun q' => hb (by simp [q'])) (fun q' => hb (by simp [q'])) q) hf⟩
  self := fun A i s Q E st h => wpAny_pyIter_zip st.1 h
def iZipB (K : PySem.W.Frag) (ka kb : Bool) (ta : TA) : TI := fun σ H R => ta σ H fun vs H1 => ∃ a b xs ys, vs = [.ref a, .ref b] ∧ SqB K ka H1 a xs ∧ SqB K kb H1 b ys ∧ R (ItzB K ka kb a b) H1
theorem pi_zipB {X : Cx} (ka kb : Bool) {e e2 : Expr} {ta : TA} {p pos tpos : Pos} {elts : List Expr} {kk : Nat} (hg : Gl X "zip") (hm : X.mg "zip" = none) (ha : PA X [e, e2] ta)
    (hs : starEach [e, e2] X.env = (false, eval e X.env) :: starEach [e2] X.env := by rfl) (hpl : (backTo pos (starEach [e2] X.env)).any (·.1) = false := by rfl) :
    PI X (.Tuple elts kk tpos) (.Call (.Name "zip" p) [e, e2] [] pos) (iZipB X.K ka kb ta) := by
  refine ⟨fun pins s σ H R I h => ?_⟩
  refine Call_ (ld_blt I hg hm PyProof.Rows.boot_zip (PyProof.Rows.callWith_type1 (thn (ha.run pos pins s σ H _ I h) fun us s1 ⟨vs, H1, I1, r1, q1⟩ => ?_) hs hpl))
  obtain ⟨a, b, xs, ys, ex, hqx, hqy, q⟩ := q1
  subst ex
  cases r1 with
  | cons r rr =>
    cases rr with
    | cons r' rr =>
      cases rr
      cases r
      cases r'
      obtain ⟨its, rv, p1, _⟩ := seqB ka I1 hqx
      obtain ⟨its2, rv2, p2, _⟩ := seqB kb I1 hqy
      have la : a < s1.heap.objs.size := by obtain ⟨_, e, _⟩ := p1.obj; exact Heap.lt_size e
      have lb : b < s1.heap.objs.size := by obtain ⟨_, e, _⟩ := p2.obj; exact Heap.lt_size e
      refine zip_begins2 (beginsB ka a its.toArray) (beginsB kb b its2.toArray) p1 p2 fun h' hz hTI hTO h1 h2 hsz hk => wpAny_pyIter_zip hz ?_
      have I2 : Inv X pins σ H1 { s1 with heap := h' } := I1.kept (t' := s1.toks) hk
      refine ⟨s1.heap.objs.size + 4, [s1.heap.objs.size + 4, s1.heap.objs.size + 2, s1.heap.objs.size + 3, s1.heap.objs.size, s1.heap.objs.size + 1], _, _, H1, rfl, I2, turn_zipB ka kb la lb, ⟨hz, hTI, ⟨_, _, hTO⟩, itB_new h1, itB_new h2⟩, fun c hcm => ?_, q⟩
      have e' : c = s1.heap.objs.size + 4 ∨ c = s1.heap.objs.size + 2 ∨ c = s1.heap.objs.size + 3 ∨ c = s1.heap.objs.size ∨ c = s1.heap.objs.size + 1 := by simpa using hcm
      have hle : s1.heap.objs.size ≤ c := by
        rcases e' with z | z | z | z | z
        · rw [z]; exact Nat.le_add_right _ _
        · rw [z]; exact Nat.le_add_right _ _
        · rw [z]; exact Nat.le_add_right _ _
        · rw [z]; exact Nat.le_refl _
        · rw [z]; exact Nat.le_add_right _ _
      exact I1.fpOk hle (I1.hok.fresh hle)
theorem walk_zipB {K : PySem.W.Frag} {ka kb : Bool} {a b : Addr} {xs ys : List V} {n : Nat} (hn : n = min xs.length ys.length) : Walk (ItzB K ka kb a b) n (fun H => SqB K ka H a xs ∧ SqB K kb H b ys) (YPair (fun i => xs[i]?) (fun i => ys[i]?)) := by
  subst hn
  refine ⟨fun i _ hi q => ?_, fun _ q => ⟨xs, ys, q.1, q.2, rfl⟩, fun i H v H' _ q y => ?_⟩
  · have h1 : i < xs.length := by omega
    have h2 : i < ys.length := by omega
    exact ⟨xs, ys, xs[i], ys[i], q.1, q.2, by simp [h1], by simp [h2]⟩
  · obtain ⟨T, x, z, h1, h2, h3, h4, h5⟩ := y
    exact ⟨T, x, z, h1, h2, h3, h4 xs q.1, h5 ys q.2⟩
end LF
/-! ### la_base: what every def's walk uses -/
namespace LF
open PySem PySem.Spec PyProof.Rows L2
/-- the built-ins' names are theirs -/
structure Bl (mg : Str → Option Value) : Prop where
  len : mg "len" = none
  sum : mg "sum" = none
  all : mg "all" = none
  any : mg "any" = none
  sorted : mg "sorted" = none
  tuple : mg "tuple" = none
  list : mg "list" = none
  int : mg "int" = none
  bool : mg "bool" = none
  str : mg "str" = none
  isinstance : mg "isinstance" = none
  max : mg "max" = none
  min : mg "min" = none
  range : mg "range" = none
  enumerate : mg "enumerate" = none
  zip : mg "zip" = none
/-- a def of the text at its place -/
structure FnAt (K : PySem.W.Frag) (mg : Str → Option Value) (gx x : Str) (st : Stmt) (ps : List Str) (f : Addr) (fd : FuncData) : Prop where
  F : Fun K x x st f fd
  b : Binds K fd ps []
  g : mg gx = some (.ref f)
abbrev vi (ns : List Int) : List V := ns.map V.int
theorem vi_snoc (zs : List Int) (z : Int) : vi (zs ++ [z]) = vi zs ++ [.int z] := List.map_append
theorem vi_app (xs ys : List Int) : vi (xs ++ ys) = vi xs ++ vi ys := List.map_append
theorem vi_len (ns : List Int) : (vi ns).length = ns.length := List.length_map _
/-- all but t as it was -/
def Smt (t : Addr) (H H' : Hp) : Prop := ∀ b o, H b = some o → b ≠ t → H' b = some o
theorem Smt.refl (t : Addr) (H : Hp) : Smt t H H := fun _ _ h _ => h
theorem Smt.trans {t : Addr} {H H1 H2 : Hp} (a : Smt t H H1) (b : Smt t H1 H2) : Smt t H H2 := fun c o h n => b c o (a c o h n) n
theorem Smt.of {t : Addr} {H H' : Hp} (a : Same H H') : Smt t H H' := fun b o h _ => a b o h
theorem Smt.upd {t : Addr} {H : Hp} {o : HO} : Smt t H (upd H t o) := fun b u h n => by rw [upd_ne n]; exact h
theorem _root_.L2.Same.new {H : Hp} {p : Addr} {o : HO} (h : H p = none) : Same H (upd H p o) := fun b u e => by
  rw [upd_ne (ne_of_none e h)]
  exact e
/-- a tracked object that H did not know may change -/
theorem _root_.L2.Same.mut {H H' : Hp} {p : Addr} {o : HO} (e : Same H H') (h : H p = none) : Same H (upd H' p o) := fun a u ha => by
  rw [upd_ne (ne_of_none ha h)]
  exact e a u ha
theorem _root_.L2.Same.sqt {K : PySem.W.Frag} {H H' : Hp} {a : Addr} {xs : List V} (e : Same H H') (h : SqT K H a xs) : SqT K H' a xs := by
  rcases h with (h | ⟨o, h⟩) | h
  · exact .inl (.inl (e _ _ h))
  · exact .inl (.inr ⟨o, e _ _ h⟩)
  · exact .inr h
theorem _root_.L2.Same.sqb {K : PySem.W.Frag} {H H' : Hp} {a : Addr} {xs : List V} {tp : Bool} (e : Same H H') (h : SqB K tp H a xs) : SqB K tp H' a xs := by
  cases tp with
  | false => exact e.seq h
  | true => exact e.sqt h
/-- the tape at t: the script's numbers in a list at a, how many cells are read, what is left of the last one -/
def TapeAt (H : Hp) (t a : Addr) : Prop := ∃ (ns : List Int) (i c : Int), H t = some (.lst [.ref a, .int i, .int c]) ∧ H a = some (.lst (vi ns)) ∧ 0 ≤ c
theorem TapeAt.ex {H : Hp} {t a : Addr} (h : TapeAt H t a) : ∃ xs, H t = some (.lst xs) := by
  obtain ⟨ns, i, c, h, _⟩ := h
  exact ⟨_, h⟩
theorem TapeAt.same {H H' : Hp} {t a : Addr} (e : Same H H') (h : TapeAt H t a) : TapeAt H' t a := by
  obtain ⟨ns, i, c, h1, h2, h3⟩ := h
  exact ⟨ns, i, c, e _ _ h1, e _ _ h2, h3⟩
theorem TapeAt.ne_none {H : Hp} {t a p : Addr} (h : TapeAt H t a) (n : H p = none) : t ≠ p := by
  obtain ⟨xs, e⟩ := h.ex
  exact ne_of_none e n
theorem TapeAt.ne_none2 {H : Hp} {t a p : Addr} (h : TapeAt H t a) (n : H p = none) : a ≠ p := by
  obtain ⟨ns, i, c, h1, h2, h3⟩ := h
  exact ne_of_none h2 n
theorem TapeAt.ta {H : Hp} {t a : Addr} (h : TapeAt H t a) : a ≠ t := fun z => by
  obtain ⟨ns, i, c, h1, h2, h3⟩ := h
  rw [z, h1] at h2
  have e := congrArg (fun o : Option HO => match o with | some (.lst (.ref _ :: _)) => true | _ => false) h2
  cases ns <;> cases e
/-- another object is written -/
theorem TapeAt.but {H H' : Hp} {t a p : Addr} (h : TapeAt H t a) (s : Smt p H H') (n1 : t ≠ p) (n2 : a ≠ p) : TapeAt H' t a := by
  obtain ⟨ns, i, c, h1, h2, h3⟩ := h
  exact ⟨ns, i, c, s _ _ h1 n1, s _ _ h2 n2, h3⟩
theorem TapeAt.upd {H : Hp} {t a p : Addr} {o : HO} (h : TapeAt H t a) (n : H p = none) : TapeAt (L2.upd H p o) t a := h.same (Same.new n)
theorem Smt.tup {t a b : Addr} {H H' : Hp} {xs : List V} (s : Smt t H H') (h : TapeAt H t b) (e : H a = some (.tup xs)) : H' a = some (.tup xs) := by
  refine s a _ e fun z => ?_
  obtain ⟨ys, e2⟩ := h.ex
  rw [z, e2] at e
  cases e
theorem Smt.sqt {K : PySem.W.Frag} {t a b : Addr} {H H' : Hp} {xs : List V} (s : Smt t H H') (h : TapeAt H t b) (e : SqT K H a xs) : SqT K H' a xs := by
  obtain ⟨ys, e2⟩ := h.ex
  rcases e with (e | ⟨o, e⟩) | e
  · exact .inl (.inl (s.tup h e))
  · refine .inl (.inr ⟨o, s a _ e fun z => ?_⟩)
    rw [z, e2] at e
    cases e
  · exact .inr e
theorem same_smt {H H' H2 : Hp} {o : Addr} (s : Same H H2) (t : Smt o H2 H') (n : H o = none) : Same H H' := fun a u ha => t a u (s a u ha) (ne_of_none ha n)
theorem Smt.lst {t a : Addr} {H H' : Hp} {o : HO} (s : Smt t H H') (n : a ≠ t) (e : H a = some o) : H' a = some o := s a o e n
/-- what is new is tracked besides -/
theorem Smt.new {t p : Addr} {H H' : Hp} {o : HO} (s : Smt t H H') (n : H p = none) : Smt t H (L2.upd H' p o) := fun b u h hb => by
  rw [upd_ne (ne_of_none h n)]
  exact s b u h hb
theorem Smt.free {t p : Addr} {H H' : Hp} (s : Smt t H H') (n : H' p = none) (hp : p ≠ t) : H p = none := by
  cases q : H p with
  | none => rfl
  | some o =>
    rw [s p o q hp] at n
    cases n
theorem atI_mod {ns : List Int} (h : 0 < ns.length) (i : Int) : ∃ z, atI (vi ns) (i % (((vi ns).length : Nat) : Int)) = some (.int z) := by
  rw [vi_len]
  have h1 : 0 ≤ i % (ns.length : Int) := Int.emod_nonneg i (by omega)
  have h2 : i % (ns.length : Int) < (ns.length : Int) := Int.emod_lt_of_pos i (by omega)
  have h3 : (((i % (ns.length : Int)).toNat : Nat) : Int) = i % (ns.length : Int) := Int.toNat_of_nonneg h1
  have h4 : (i % (ns.length : Int)).toNat < ns.length := by omega
  have h5 : atI (vi ns) (((i % (ns.length : Int)).toNat : Nat) : Int) = some (.int ns[(i % (ns.length : Int)).toNat]) := atI_nat (by
    rw [List.getElem?_map, List.getElem?_eq_getElem h4]
    rfl)
  exact ⟨ns[(i % (ns.length : Int)).toNat], (congrArg (atI (vi ns)) h3.symm).trans h5⟩
theorem vi_get {ns : List Int} {i : Nat} {x : V} (h : (vi ns)[i]? = some x) : ∃ z, ns[i]? = some z ∧ x = .int z := by
  rw [List.getElem?_map] at h
  cases e : ns[i]? with
  | none =>
    rw [e] at h
    cases h
  | some z =>
    rw [e] at h
    exact ⟨z, rfl, (Option.some.inj h).symm⟩
theorem vi_at {ns : List Int} {i : Nat} (h : i < ns.length) : (vi ns)[i]? = some (.int ns[i]) := by
  rw [List.getElem?_map, List.getElem?_eq_getElem h]
  rfl
theorem vi_flat : ∀ ns : List Int, (vi ns).all flatV = true
  | [] => rfl
  | _ :: r => by
    show (true && (vi r).all flatV) = true
    rw [vi_flat r]
    rfl
/-- an if whose test is known -/
theorem if_t {c : Bool} {A B : Prop} (hc : c = true) (h : A) : if c = true then A else B := by
  rw [if_pos hc]
  exact h
theorem if_f {c : Bool} {A B : Prop} (hc : c = false) (h : B) : if c = true then A else B := by
  rw [hc, if_neg Bool.false_ne_true]
  exact h
/-- both ways -/
theorem if_b {c : Bool} {A B : Prop} (h1 : c = true → A) (h2 : c = false → B) : if c = true then A else B := by
  cases c with
  | true => exact if_t rfl (h1 rfl)
  | false => exact if_f rfl (h2 rfl)
/-- a if t else b, both of them one value -/
theorem if_val {c : Bool} {ta tb : TE} {σ : L2.St} {H : Hp} {Q : VK} (v : V) (h1 : c = true → ∀ Q : VK, Q v H → ta σ H Q) (h2 : c = false → ∀ Q : VK, Q v H → tb σ H Q) (h : Q v H) : if c = true then ta σ H Q else tb σ H Q :=
  if_b (fun e => h1 e Q h) (fun e => h2 e Q h)
theorem sz3 {n : Nat} (h : n ≤ 1000) : n ≤ sizeLine := Nat.le_of_lt (small1000 h)
end LF
/-! ### la_comp: comprehensions by what they give -/
namespace LF
open PySem PySem.Spec PyProof.Rows L2
section
variable {J : It} {n : Nat} {G : Hp → Prop} {Y : Nat → Hp → V → Hp → Prop} {g : TG} {tt : TT} {te : TE} {vs : List Nat} {σ : L2.St} {H1 : Hp} {D : Addr} {Qd : Hp → Prop}
/-- no test -/
theorem lc_yes {σ2 : L2.St} {H : Hp} {ky : V → Hp → Prop} {kn : Hp → Prop} (h : te σ2 H ky) : tYes σ2 H fun b H3 => if b = true then te σ2 H3 ky else kn H3 := if_t (B := kn H) rfl h
/-- S: by the turn, the items so far, the heap -/
theorem lc_gen (w : Walk J n G Y) (S : Nat → List V → Hp → Prop) (h0 : S 0 [] (upd H1 D (.lst []))) (hG : ∀ i acc H, S i acc H → H D = some (.lst acc) → G H) (hlen : ∀ i acc H, S i acc H → acc.length < sizeLine)
    (hs : ∀ i x H H' acc (kn : Hp → Prop) (ky : V → Hp → Prop), i < n → S i acc H → H D = some (.lst acc) → Y i H x H' → (∀ H3, H3 D = some (.lst acc) → S (i + 1) acc H3 → kn H3) →
      (∀ y H4, H4 D = some (.lst acc) → S (i + 1) (acc ++ [y]) (upd H4 D (.lst (acc ++ [y]))) → ky y H4) →
      g x (wipe σ vs) H' fun σ2 H2 => wipe σ2 vs = wipe σ vs ∧ tt σ2 H2 fun b H3 => if b = true then te σ2 H3 ky else kn H3) (hd : ∀ acc H, S n acc H → H D = some (.lst acc) → Qd H) :
    ∃ W : Nat → Nat → Hp → Prop, (∃ m, W 0 m (upd H1 D (.lst []))) ∧ ∀ i m H, W i m H →
      (J.stop i H ∧ Qd H) ∨ (J.go i H ∧ ∃ Nx : Hp → Prop, (∀ H', Nx H' → ∃ m', m' < m ∧ W (i + 1) m' H') ∧ ∀ x H', J.yld i H x H' → g x (wipe σ vs) H' fun σ2 H2 => wipe σ2 vs = wipe σ vs ∧ tt σ2 H2 fun b H3 =>
        if b = true then te σ2 H3 fun y H4 => ∃ acc, H4 D = some (.lst acc) ∧ acc.length < sizeLine ∧ Nx (upd H4 D (.lst (acc ++ [y]))) else Nx H3) := by
  refine lc_it w (fun i H => ∃ acc, H D = some (.lst acc) ∧ S i acc H) ⟨[], upd_same, h0⟩ (fun i H _ ⟨acc, h1, h2⟩ => hG i acc H h2 h1) (fun i x H H' hi ⟨acc, h1, h2⟩ y => ?_) (fun H ⟨acc, h1, h2⟩ => hd acc H h2 h1)
  exact hs i x H H' acc _ _ hi h2 h1 y (fun H3 e s => ⟨acc, e, s⟩) fun y H4 e s => ⟨acc, e, hlen _ _ _ h2, _, upd_same, s⟩
theorem paired_app {α β : Type} {F : α → β → Prop} : ∀ {l1 : List α} {l2 : List β} {m1 : List α} {m2 : List β}, Paired F l1 l2 → Paired F m1 m2 → Paired F (l1 ++ m1) (l2 ++ m2)
  | _, _, _, _, .nil, s => s
  | _, _, _, _, .cons r t, s => .cons r (paired_app t s)
theorem paired_mono {α β : Type} {F F' : α → β → Prop} (h : ∀ a b, F a b → F' a b) : ∀ {l1 : List α} {l2 : List β}, Paired F l1 l2 → Paired F' l1 l2
  | _, _, .nil => .nil
  | _, _, .cons r t => .cons (h _ _ r) (paired_mono h t)
theorem paired_get {α β : Type} {F : α → β → Prop} : ∀ {l1 : List α} {l2 : List β} {i : Nat} {x : α}, Paired F l1 l2 → l1[i]? = some x → ∃ y, l2[i]? = some y ∧ F x y
  | _, _, i, x, .nil, e => by simp at e
  | _, _, 0, x, .cons r _, e => by
    cases Option.some.inj e
    exact ⟨_, rfl, r⟩
  | _, _, i + 1, x, .cons _ t, e => paired_get (i := i) t e
theorem paired_len {α β : Type} {F : α → β → Prop} : ∀ {l1 : List α} {l2 : List β}, Paired F l1 l2 → l1.length = l2.length
  | _, _, .nil => rfl
  | _, _, .cons _ t => congrArg (· + 1) (paired_len t)
theorem filterMap_succ {α : Type} (R : Nat → Option α) (i : Nat) : (List.range (i + 1)).filterMap R = (List.range i).filterMap R ++ (R i).toList := by
  rw [List.range_succ, List.filterMap_append]
  cases e : R i <;> simp [e]
theorem filterMap_le {α : Type} (R : Nat → Option α) (n : Nat) : ((List.range n).filterMap R).length ≤ n := by
  have h := List.length_filterMap_le R (List.range n)
  rw [List.length_range] at h
  exact h
/-- nothing but new objects is made on the way; the items by a relation that lasts while a list (the new one) changes -/
theorem lc_rel {α : Type} (w : Walk J n G Y) (hD : H1 D = none) (hn : n ≤ 1000) (ρ : Hp → V → α → Prop) (mono : ∀ (H H' : Hp) (D : Addr) (acc : List V) v a, H D = some (.lst acc) → Smt D H H' → ρ H v a → ρ H' v a) (R : Nat → Option α) (hG : ∀ H, Same H1 H → G H)
    (hs : ∀ i x H H' (kn : Hp → Prop) (ky : V → Hp → Prop), i < n → Same H1 H → Y i H x H' → (∀ H3, Same H H3 → R i = none → kn H3) → (∀ y a H4, Same H H4 → R i = some a → ρ H4 y a → ky y H4) →
      g x (wipe σ vs) H' fun σ2 H2 => wipe σ2 vs = wipe σ vs ∧ tt σ2 H2 fun b H3 => if b = true then te σ2 H3 ky else kn H3)
    (hd : ∀ ys H, Same H1 H → H D = some (.lst ys) → Paired (ρ H) ys ((List.range n).filterMap R) → Qd H) :
    ∃ W : Nat → Nat → Hp → Prop, (∃ m, W 0 m (upd H1 D (.lst []))) ∧ ∀ i m H, W i m H →
      (J.stop i H ∧ Qd H) ∨ (J.go i H ∧ ∃ Nx : Hp → Prop, (∀ H', Nx H' → ∃ m', m' < m ∧ W (i + 1) m' H') ∧ ∀ x H', J.yld i H x H' → g x (wipe σ vs) H' fun σ2 H2 => wipe σ2 vs = wipe σ vs ∧ tt σ2 H2 fun b H3 =>
        if b = true then te σ2 H3 fun y H4 => ∃ acc, H4 D = some (.lst acc) ∧ acc.length < sizeLine ∧ Nx (upd H4 D (.lst (acc ++ [y]))) else Nx H3) := by
  refine lc_gen w (fun i acc H => i ≤ n ∧ Same H1 H ∧ Paired (ρ H) acc ((List.range i).filterMap R)) ⟨Nat.zero_le _, Same.new hD, .nil⟩ (fun i acc H s _ => hG H s.2.1) (fun i acc H s => ?_) (fun i x H H' acc kn ky hi s hacc y h1 h2 => ?_) (fun acc H s e => ?_)
  · obtain ⟨hle, _, p⟩ := s
    rw [paired_len p]
    exact Nat.lt_of_le_of_lt (Nat.le_trans (filterMap_le R i) (Nat.le_trans hle hn)) (small1000 (Nat.le_refl _))
  · obtain ⟨_, sm, p⟩ := s
    refine hs i x H H' kn ky hi sm y (fun H3 s3 e => h1 H3 (s3 _ _ hacc) ⟨hi, sm.trans s3, ?_⟩) (fun v a H4 s4 e r => h2 v H4 (s4 _ _ hacc) ⟨hi, Same.mut (sm.trans s4) hD, ?_⟩)
    · rw [filterMap_succ, e]
      show Paired (ρ H3) acc (_ ++ [])
      rw [List.append_nil]
      exact paired_mono (fun v a r => mono _ _ _ _ _ _ hacc (Smt.of s3) r) p
    · have hD4 := s4 _ _ hacc
      rw [filterMap_succ, e]
      refine paired_app (paired_mono (fun v a r => mono _ _ _ _ _ _ hacc ((Smt.of s4).trans Smt.upd) r) p) ?_
      exact .cons (mono _ _ _ _ _ _ hD4 Smt.upd r) .nil
  · exact hd acc H s.2.1 e s.2.2
theorem paired_ints : ∀ {ys : List V} {zs : List Int}, Paired (fun v z => v = V.int z) ys zs → ys = vi zs
  | _, _, .nil => rfl
  | _, _, .cons r t => by rw [r, paired_ints t]; rfl
theorem paired_bls : ∀ {ys : List V} {zs : List Bool}, Paired (fun v z => v = V.bl z) ys zs → ys = zs.map V.bl
  | _, _, .nil => rfl
  | _, _, .cons r t => by rw [r, paired_bls t]; rfl
/-- items that are ints -/
theorem lc_ints (w : Walk J n G Y) (hD : H1 D = none) (hn : n ≤ 1000) (R : Nat → Option Int) (hG : ∀ H, Same H1 H → G H)
    (hs : ∀ i x H H' (kn : Hp → Prop) (ky : V → Hp → Prop), i < n → Same H1 H → Y i H x H' → (∀ H3, Same H H3 → R i = none → kn H3) → (∀ z H4, Same H H4 → R i = some z → ky (.int z) H4) →
      g x (wipe σ vs) H' fun σ2 H2 => wipe σ2 vs = wipe σ vs ∧ tt σ2 H2 fun b H3 => if b = true then te σ2 H3 ky else kn H3)
    (hd : ∀ H, Same H1 H → H D = some (.lst (vi ((List.range n).filterMap R))) → Qd H) :
    ∃ W : Nat → Nat → Hp → Prop, (∃ m, W 0 m (upd H1 D (.lst []))) ∧ ∀ i m H, W i m H →
      (J.stop i H ∧ Qd H) ∨ (J.go i H ∧ ∃ Nx : Hp → Prop, (∀ H', Nx H' → ∃ m', m' < m ∧ W (i + 1) m' H') ∧ ∀ x H', J.yld i H x H' → g x (wipe σ vs) H' fun σ2 H2 => wipe σ2 vs = wipe σ vs ∧ tt σ2 H2 fun b H3 =>
        if b = true then te σ2 H3 fun y H4 => ∃ acc, H4 D = some (.lst acc) ∧ acc.length < sizeLine ∧ Nx (upd H4 D (.lst (acc ++ [y]))) else Nx H3) :=
  lc_rel w hD hn (fun _ v z => v = V.int z) (fun _ _ _ _ _ _ _ _ r => r) R hG (fun i x H H' kn ky hi sm y h1 h2 => hs i x H H' kn ky hi sm y h1 fun z H4 s e => h2 _ z H4 s e rfl) (fun ys H sm e p => hd H sm (by rw [e, paired_ints p]))
theorem lc_bls (w : Walk J n G Y) (hD : H1 D = none) (hn : n ≤ 1000) (R : Nat → Option Bool) (hG : ∀ H, Same H1 H → G H)
    (hs : ∀ i x H H' (kn : Hp → Prop) (ky : V → Hp → Prop), i < n → Same H1 H → Y i H x H' → (∀ H3, Same H H3 → R i = none → kn H3) → (∀ z H4, Same H H4 → R i = some z → ky (.bl z) H4) →
      g x (wipe σ vs) H' fun σ2 H2 => wipe σ2 vs = wipe σ vs ∧ tt σ2 H2 fun b H3 => if b = true then te σ2 H3 ky else kn H3)
    (hd : ∀ H, Same H1 H → H D = some (.lst (((List.range n).filterMap R).map V.bl)) → Qd H) :
    ∃ W : Nat → Nat → Hp → Prop, (∃ m, W 0 m (upd H1 D (.lst []))) ∧ ∀ i m H, W i m H →
      (J.stop i H ∧ Qd H) ∨ (J.go i H ∧ ∃ Nx : Hp → Prop, (∀ H', Nx H' → ∃ m', m' < m ∧ W (i + 1) m' H') ∧ ∀ x H', J.yld i H x H' → g x (wipe σ vs) H' fun σ2 H2 => wipe σ2 vs = wipe σ vs ∧ tt σ2 H2 fun b H3 =>
        if b = true then te σ2 H3 fun y H4 => ∃ acc, H4 D = some (.lst acc) ∧ acc.length < sizeLine ∧ Nx (upd H4 D (.lst (acc ++ [y]))) else Nx H3) :=
  lc_rel w hD hn (fun _ v z => v = V.bl z) (fun _ _ _ _ _ _ _ _ r => r) R hG (fun i x H H' kn ky hi sm y h1 h2 => hs i x H H' kn ky hi sm y h1 fun z H4 s e => h2 _ z H4 s e rfl) (fun ys H sm e p => hd H sm (by rw [e, paired_bls p]))
/-- the tape t is read on the way; the items are ints, I tells of them -/
theorem lc_tape (w : Walk J n G Y) {t a : Addr} (ht : TapeAt H1 t a) (hD : H1 D = none) (hn : n ≤ 1000) (I : Nat → List Int → Prop) (h0 : I 0 []) (hl : ∀ i zs, I i zs → zs.length ≤ i) (hG : ∀ H, Smt t H1 H → G H)
    (hs : ∀ i x H H' zs (kn : Hp → Prop) (ky : V → Hp → Prop), i < n → Smt t H1 H → TapeAt H t a → I i zs → Y i H x H' → (∀ H3, Smt t H H3 → TapeAt H3 t a → I (i + 1) zs → kn H3) →
      (∀ z H4, Smt t H H4 → TapeAt H4 t a → I (i + 1) (zs ++ [z]) → ky (.int z) H4) →
      g x (wipe σ vs) H' fun σ2 H2 => wipe σ2 vs = wipe σ vs ∧ tt σ2 H2 fun b H3 => if b = true then te σ2 H3 ky else kn H3)
    (hd : ∀ zs H, Smt t H1 H → TapeAt H t a → H D = some (.lst (vi zs)) → I n zs → Qd H) :
    ∃ W : Nat → Nat → Hp → Prop, (∃ m, W 0 m (upd H1 D (.lst []))) ∧ ∀ i m H, W i m H →
      (J.stop i H ∧ Qd H) ∨ (J.go i H ∧ ∃ Nx : Hp → Prop, (∀ H', Nx H' → ∃ m', m' < m ∧ W (i + 1) m' H') ∧ ∀ x H', J.yld i H x H' → g x (wipe σ vs) H' fun σ2 H2 => wipe σ2 vs = wipe σ vs ∧ tt σ2 H2 fun b H3 =>
        if b = true then te σ2 H3 fun y H4 => ∃ acc, H4 D = some (.lst acc) ∧ acc.length < sizeLine ∧ Nx (upd H4 D (.lst (acc ++ [y]))) else Nx H3) := by
  have hDt : t ≠ D := ht.ne_none hD
  have hDa : a ≠ D := ht.ne_none2 hD
  refine lc_gen w (fun i acc H => i ≤ n ∧ Smt t H1 H ∧ TapeAt H t a ∧ ∃ zs, acc = vi zs ∧ I i zs) ⟨Nat.zero_le _, Smt.of (Same.new hD), ht.upd hD, [], rfl, h0⟩ (fun i acc H s _ => hG H s.2.1) (fun i acc H s => ?_) (fun i x H H' acc kn ky hi s hacc y h1 h2 => ?_) (fun acc H s e => ?_)
  · obtain ⟨hle, _, _, zs, rfl, hI⟩ := s
    rw [vi_len]
    exact Nat.lt_of_le_of_lt (Nat.le_trans (hl _ _ hI) (Nat.le_trans hle hn)) (small1000 (Nat.le_refl _))
  · obtain ⟨_, sm, hT, zs, rfl, hI⟩ := s
    refine hs i x H H' zs kn ky hi sm hT hI y (fun H3 s3 t3 e => h1 H3 (s3 _ _ hacc hDt.symm) ⟨hi, sm.trans s3, t3, zs, rfl, e⟩) (fun z H4 s4 t4 e => h2 (.int z) H4 (s4 _ _ hacc hDt.symm) ⟨hi, (sm.trans s4).new hD, t4.but Smt.upd hDt hDa, zs ++ [z], (vi_snoc zs z).symm, e⟩)
  · obtain ⟨_, sm, hT, zs, rfl, hI⟩ := s
    exact hd zs H sm hT e hI
end
end LF
/-! ### la_tup: sum and sorted of tuples of ints -/
namespace LF
open PySem PySem.Spec PyProof.Rows L2
section
variable {prog : Program} {w : World} {A : Around} {E : Value → Shared → Prop} {s : Shared}
theorem sum_tup {l : Addr} {its : List Value} {ns : List Int} {Q : Value → Shared → Prop} (hh : A.handled = none) (hl : s.heap.IsTuple l its.toArray) (hi : IntsAre its ns)
    (h : ∀ h' tk t', (∀ b o, s.heap.get? b = some o → h'.get? b = some o) → Q (.int ns.sum t') { s with heap := h', toks := tk }) : wpAny (model prog w) A (call (.builtin "sum") [.ref l]) Q E s := by
  obtain ⟨xs, e⟩ := hi.allInts.items
  have hn : numsOf (intItems xs).toList = ns := by rw [← e]; exact hi.numsOf
  rw [nums_intItems] at hn
  rw [e] at hl
  obtain ⟨o, ho, hc, n, hd⟩ := id hl
  have hlt : l < s.heap.objs.size := Heap.lt_size ho
  refine call_sum_walkG (wpAny_pyIter_tuple hl ⟨s.heap.objs.size, [s.heap.objs.size, l], [s.heap.objs.size], (intItems xs).size, _, _, numAt xs, rfl, Walks.tuple (A := A.in1) hh _ l (Nat.ne_of_lt hlt) (intItems xs), ?_, ?_, (fun _ _ => intItems_at), fun h' tk t' hk => ?_⟩)
  · exact ⟨⟨_, Heap.get?_push_size _ rfl, rfl, rfl⟩, o, Heap.get?_push_of_some _ ho, hc, n, hd⟩
  · intro b hb
    show b < (s.heap.push _).objs.size
    rw [Heap.size_push]
    have e' : b = s.heap.objs.size ∨ b = l := by simpa using hb
    rcases e' with z | z
    · rw [z]; exact Nat.lt_succ_self _
    · rw [z]; exact Nat.lt_succ_of_lt hlt
  · have q := h h' tk t' fun b o e => hk b o (fun m => Nat.ne_of_lt (Heap.lt_size e) (by simpa using m)) (Heap.get?_push_of_some _ e)
    rw [preSum_eq, List.take_of_length_le (by simp [intItems]), hn]
    exact q
theorem collect_tup {l : Addr} {vs : List Value} {Q : List Value → Shared → Prop} (hl : s.heap.IsTuple l vs.toArray)
    (h : Q vs { s with heap := (s.heap.push (seqObj "list" #[] 0)).update s.heap.objs.size (Obj.mapSeq (· ++ vs.toArray)) }) (hsz : vs.length ≤ sizeLine) :
    wpAny (model prog w) A (collect (.ref l)) Q E s := by
  obtain ⟨o, ho, hc, n, hd⟩ := hl
  have ho' : (s.heap.push (seqObj "list" #[] 0)).get? l = some o := Heap.get?_push_of_some _ ho
  have hN : (s.heap.push (seqObj "list" #[] 0)).get? s.heap.objs.size = some (seqObj "list" #[] 0) := Heap.get?_push_size _ rfl
  unfold collect
  refine wpAny_bind (wpAny_runValue (codeAny_builtin entry_proto_collect' ?_))
  show wpAny _ _ (do again (.builtin "list.__iadd__" ⟨[← newList [], .ref l], []⟩)) _ _ s
  refine wpAny_bind (wpAny_newList (wpAny_pure ⟨Code.quiet_builtin _ (by decide +kernel), codeAny_builtin entry_list_iadd' ?_⟩))
  show wpAny _ _ (Builtin.List.listExtendWith (.ref s.heap.objs.size) (.ref l) (.ref s.heap.objs.size)) _ _ { s with heap := s.heap.push (seqObj "list" #[] 0) }
  unfold Builtin.List.listExtendWith
  refine wpAny_bind (wpAny_typeOf (T := "tuple") ⟨o, ho', hc⟩ ?_)
  have ht : (Value.type "tuple" == Value.type "tuple") = true := by rfl
  rw [if_pos (by rw [ht, Bool.or_true])]
  refine wpAny_bind (listItems_at ho' hd (wpAny_bind (listItems_at (xs := #[]) (n := 0) hN rfl ?_)))
  rw [if_neg (by simp)]
  refine wpAny_bind (listUpdate_at (xs := #[]) (n := 0) hN rfl (wpAny_pure ?_) (Nat.zero_le _) (by show (#[] ++ vs.toArray).size ≤ sizeLine + 1; simp only [Array.size_append, List.size_toArray, List.length_nil]; omega))
  show wpAny (model prog w) A (do
      let o ← load s.heap.objs.size
      match o.data with
      | .seq xs _ => pure xs.toList
      | _ => unsupported "internal:collect") Q E { s with heap := (s.heap.push (seqObj "list" #[] 0)).update s.heap.objs.size (Obj.mapSeq (· ++ vs.toArray)) }
  refine wpAny_bind (wpAny_load (get?_update_seq hN _) ?_)
  show wpAny _ _ (pure ((#[] : Array Value) ++ vs.toArray).toList) Q E _
  have e0 : ((#[] : Array Value) ++ vs.toArray).toList = vs := by simp
  rw [e0]
  exact wpAny_pure h
theorem sorted_tup {l : Addr} {vs : List Value} {ltv : Value → Value → Bool} {Q : Value → Shared → Prop} (O : SrtO.Swo ltv) (hl : s.heap.IsTuple l vs.toArray) (hz : vs.length ≤ sizeLine)
    (hS : 2 ≤ vs.length → ∀ (h₁ : Heap) (a : Addr), h₁.get? a = some (seqObj "list" vs.toArray 0) → (∀ b o, s.heap.get? b = some o → b ≠ a ∧ h₁.get? b = some o) → SrtO.SortableO prog w A.in1.in1 { s with heap := h₁ } a vs ltv)
    (h : ∀ out : List Value, SrtO.Srtd ltv out → SrtO.Stb ltv out vs → Q (.ref (s.heap.objs.size + 1)) { s with heap := PyProof.Rows.sortedAll s.heap vs out.toArray }) :
    wpAny (model prog w) A (call (.builtin "sorted") [.ref l]) Q E s := by
  refine Calls.call_function_entry kind_sorted plain_sorted entry_sorted (args_sorted1 _) ?_
  unfold Builtin.«sorted»
  refine wpAny_bind (m := checkCount "sorted" 1 1 _) (wpAny_pure (wpAny_bind (collect_tup hl (wpAny_bind (wpAny_newList ?_ hz)) hz)))
  have hsz : ((s.heap.push (seqObj "list" #[] 0)).update s.heap.objs.size (Obj.mapSeq (· ++ vs.toArray))).objs.size = s.heap.objs.size + 1 := by
    rw [Heap.size_update, Heap.size_push]
  have hoL : (((s.heap.push (seqObj "list" #[] 0)).update s.heap.objs.size (Obj.mapSeq (· ++ vs.toArray))).push (seqObj "list" vs.toArray 0)).get? (s.heap.objs.size + 1) = some (seqObj "list" vs.toArray 0) := by
    rw [← hsz]; exact Heap.get?_push_size _ rfl
  have keep : ∀ b o, s.heap.get? b = some o → b ≠ s.heap.objs.size + 1 ∧ (((s.heap.push (seqObj "list" #[] 0)).update s.heap.objs.size (Obj.mapSeq (· ++ vs.toArray))).push (seqObj "list" vs.toArray 0)).get? b = some o := fun b o q => by
    have hlt : b < s.heap.objs.size := Heap.lt_size q
    exact ⟨Nat.ne_of_lt (Nat.lt_succ_of_lt hlt), Heap.get?_push_of_some _ (by rw [Heap.get?_update_ne _ _ _ _ (Nat.ne_of_lt hlt)]; exact Heap.get?_push_of_some _ q)⟩
  show wpAny _ _ _ _ _ { s with heap := ((s.heap.push (seqObj "list" #[] 0)).update s.heap.objs.size (Obj.mapSeq (· ++ vs.toArray))).push (seqObj "list" vs.toArray 0) }
  rw [hsz]
  exact wpAny_bind (wpAny_holding (wpAny_call_entry slot_list_sort ⟨_, hoL, rfl⟩ entry_list_sort (SrtO.list_sort_ord O hoL hz (fun h2 => hS h2 _ _ hoL keep) fun out hs hb => ⟨_, rfl, wpAny_pure ⟨_, rfl, h out hs hb⟩⟩) (args_list_sort _)))
end
section
variable {X : Cx}
def rSumB (K : PySem.W.Frag) (tp : Bool) : List V → Hp → VK → Prop := fun vs H Q => ∃ (a : Addr) (ns : List Int), vs = [V.ref a] ∧ SqB K tp H a (vi ns) ∧ Q (.int ns.sum) H
theorem cr_sumT (hc : X.calm = true) : CallR X (.builtin "sum") (rSumB X.K true) := by
  intro pins s σ H vs us Q I r h
  obtain ⟨a, ns, rfl, hs, q⟩ := h
  obtain ⟨its, rv, hl, _⟩ := I.tuple hs
  rw [Vals.ref1 r]
  exact sum_tup (I.ok.hd hc) hl rv.ints fun h' tk t' hk => ⟨.int _, H, I.kept hk, ⟨_, rfl⟩, q⟩
def rSortedB (K : PySem.W.Frag) (tp : Bool) : List V → Hp → VK → Prop := fun vs H Q => ∃ (a : Addr) (ns : List Int), vs = [V.ref a] ∧ SqB K tp H a (vi ns) ∧ ∀ (ns' : List Int) (p : Addr), ns'.Perm ns → ns'.Pairwise (· ≤ ·) → H p = none → Q (.ref p) (upd H p (.lst (vi ns')))
theorem cr_sortedT : CallR X (.builtin "sorted") (rSortedB X.K true) := by
  intro pins s σ H vs us Q I r h
  obtain ⟨a, ns, rfl, hs, q⟩ := h
  obtain ⟨its, rv, hl, hz⟩ := I.tuple hs
  rw [Vals.ref1 r]
  have hi := rv.ints
  refine sorted_tup SrtO.swo_int hl (by rw [← rv.length]; exact hz) (fun h2 h₁ a' _ _ => SrtO.ints_sortable hi h2) fun out h1 h2 => ?_
  obtain ⟨k1, k2, k3⟩ := SrtO.ints_out hi h1 h2
  obtain ⟨ep, he'⟩ := PyProof.Rows.sortedAll_at s.heap its out.toArray
  have hlen : (vi (out.map SrtO.iv)).length ≤ sizeLine := by
    rw [vi_len, k2.length_eq]
    rw [vi_len] at hz
    exact hz
  exact ⟨.ref _, upd H (s.heap.objs.size + 1) (.lst (vi (out.map SrtO.iv))), I.laid (t' := s.toks) (fun _ _ => PyProof.Rows.sortedAll_old) (Nat.le_succ _) ⟨hlen, out, ep, vals_of_ints k1, he'⟩, rfl, q _ _ k2 k3 (I.hok.fresh (Nat.le_succ _))⟩
end
end LF
/-! ### la_k: the rules over the written part as a letter -/
namespace LF
open PySem PySem.Spec PyProof.Rows L2
def rTupOf (K : PySem.W.Frag) : List V → Hp → VK → Prop := fun xs H Q => ∃ p ys, xs = [.ref p] ∧ ((SqL K H p ys ∧ ∀ l, H l = none → Q (.ref l) (upd H l (.tup ys))) ∨ (SqT K H p ys ∧ Q (.ref p) H))
def rListOf (K : PySem.W.Frag) : List V → Hp → VK → Prop := fun xs H Q => ∃ p ys, xs = [.ref p] ∧ (SqL K H p ys ∨ SqT K H p ys) ∧ ∀ l, H l = none → Q (.ref l) (upd H l (.lst ys))
def rLenOf (K : PySem.W.Frag) : List V → Hp → VK → Prop := fun xs H Q => ∃ p ys, xs = [.ref p] ∧ (SqL K H p ys ∨ SqT K H p ys) ∧ Q (.int ys.length) H
section
variable {X : Cx}
theorem lenK (K : PySem.W.Frag) (h : X.K = K := by rfl) : CallR X (.builtin "len") (rLenOf K) := by subst h; exact call_len_seq
theorem sumK (K : PySem.W.Frag) (h : X.K = K := by rfl) (hc : X.calm = true := by rfl) : CallR X (.builtin "sum") (rSum K) := by subst h; exact cr_sum hc
theorem sumTK (K : PySem.W.Frag) (h : X.K = K := by rfl) (hc : X.calm = true := by rfl) : CallR X (.builtin "sum") (rSumB K true) := by subst h; exact cr_sumT hc
theorem allK (K : PySem.W.Frag) (h : X.K = K := by rfl) (hc : X.calm = true := by rfl) : CallR X (.builtin "all") (rAll K) := by subst h; exact cr_all hc
theorem anyK (K : PySem.W.Frag) (h : X.K = K := by rfl) (hc : X.calm = true := by rfl) : CallR X (.builtin "any") (rAny K) := by subst h; exact cr_any hc
theorem maxK (K : PySem.W.Frag) (h : X.K = K := by rfl) (hc : X.calm = true := by rfl) : CallR X (.builtin "max") (rMax K) := by subst h; exact cr_max hc
theorem minK (K : PySem.W.Frag) (h : X.K = K := by rfl) (hc : X.calm = true := by rfl) : CallR X (.builtin "min") (rMin K) := by subst h; exact cr_min hc
theorem sortedK (K : PySem.W.Frag) (h : X.K = K := by rfl) : CallR X (.builtin "sorted") (rSortedI K) := by subst h; exact cr_sortedI
theorem sortedTK (K : PySem.W.Frag) (h : X.K = K := by rfl) : CallR X (.builtin "sorted") (rSortedB K true) := by subst h; exact cr_sortedT
theorem sortedPK (K : PySem.W.Frag) (h : X.K = K := by rfl) : CallR X (.builtin "sorted") (rSortedPO K) := by subst h; exact cr_sortedPO
theorem tupleK (K : PySem.W.Frag) (h : X.K = K := by rfl) : CallR X (.type "tuple") (rTupOf K) := by subst h; exact call_tuple_of
theorem listK (K : PySem.W.Frag) (h : X.K = K := by rfl) : CallR X (.type "list") (rListOf K) := by subst h; exact call_list_of
theorem isiK (K : PySem.W.Frag) (h : X.K = K := by rfl) : CallR X (.builtin "isinstance") (rIsi K) := by subst h; exact call_isi
theorem isiTK (K : PySem.W.Frag) (h : X.K = K := by rfl) : CallR X (.builtin "isinstance") (rIsiT K) := by subst h; exact call_isiT
theorem ixL (K : PySem.W.Frag) (h : X.K = K := by rfl) : IxR X (rIxL K) := by subst h; exact ix_list
theorem ixT (K : PySem.W.Frag) (h : X.K = K := by rfl) : IxR X (rIxT K) := by subst h; exact ix_tup
theorem ixA (K : PySem.W.Frag) (h : X.K = K := by rfl) : IxR X (rIx K) := by subst h; exact ix_seq
theorem slL (K : PySem.W.Frag) (h : X.K = K := by rfl) : SlR X (rSlL K) := by subst h; exact sl_list
theorem slT (K : PySem.W.Frag) (h : X.K = K := by rfl) : SlR X (rSlA K) := by subst h; exact sl_tupA
theorem catK (K : PySem.W.Frag) (h : X.K = K := by rfl) : OpR X (binaryOp .Add) (rCatA K) := by subst h; exact op_catA
theorem inK (K : PySem.W.Frag) (h : X.K = K := by rfl) : OpR X (compareOp .In) (rIn K false) := by subst h; exact op_in_seq
theorem notinK (K : PySem.W.Frag) (h : X.K = K := by rfl) : OpR X (compareOp .NotIn) (rIn K true) := by subst h; exact op_notIn_seq
theorem eqDK (K : PySem.W.Frag) (hu : X.A.units + 64 < cLine) (h : X.K = K := by rfl) : OpR X (compareOp .Eq) (rEqD K) := by subst h; exact op_eqD hu
theorem neDK (K : PySem.W.Frag) (hu : X.A.units + 64 < cLine) (h : X.K = K := by rfl) : OpR X (compareOp .NotEq) (rNeD K) := by subst h; exact op_neD hu
theorem pgT (K : PySem.W.Frag) (n : Nat) {es : List Expr} {k : Nat} {pos : Pos} {t : TGs} (hc : X.calm = true) (hg : PGs X es t) (h : X.K = K := by rfl) (hn : (assignEach es X.env).length = n := by rfl) (hst : (assignEach es X.env).findIdx? (·.1) = none := by rfl) : PG X (.Tuple es k pos) (gTup K n t) := by subst h; exact pg_tup hc hg hn hst
theorem piL (K : PySem.W.Frag) {tg l : Expr} {tl : TE} (hl : PE X l tl) (h : X.K = K := by rfl) : PI X tg l (iList K tl) := by subst h; exact pi_list hl
theorem piT (K : PySem.W.Frag) {tg l : Expr} {tl : TE} (hl : PE X l tl) (h : X.K = K := by rfl) : PI X tg l (iTup K tl) := by subst h; exact pi_tup hl
theorem enumK (K : PySem.W.Frag) (tp : Bool) {e : Expr} {ta : TA} {p pos tpos : Pos} {elts : List Expr} {kk : Nat} (hg : Gl X "enumerate") (hm : X.mg "enumerate" = none) (ha : PA X [e] ta) (h : X.K = K := by rfl) (hs : starEach [e] X.env = [(false, eval e X.env)] := by rfl) :
    PI X (.Tuple elts kk tpos) (.Call (.Name "enumerate" p) [e] [] pos) (iEnumB K tp ta) := by subst h; exact pi_enumB tp hg hm ha hs
theorem zipK (K : PySem.W.Frag) (ka kb : Bool) {e e2 : Expr} {ta : TA} {p pos tpos : Pos} {elts : List Expr} {kk : Nat} (hg : Gl X "zip") (hm : X.mg "zip" = none) (ha : PA X [e, e2] ta) (h : X.K = K := by rfl)
    (hs : starEach [e, e2] X.env = (false, eval e X.env) :: starEach [e2] X.env := by rfl) (hpl : (backTo pos (starEach [e2] X.env)).any (·.1) = false := by rfl) :
    PI X (.Tuple elts kk tpos) (.Call (.Name "zip" p) [e, e2] [] pos) (iZipB K ka kb ta) := by subst h; exact pi_zipB ka kb hg hm ha hs hpl
theorem pe_revK (K : PySem.W.Frag) {e : Expr} {te : TE} {k : Nat} {p1 p2 p3 pos : Pos} (he : PE X e te) (h : X.K = K := by rfl) : PE X (.Subscript e (.Slice none none (some (.UnaryOp .USub (.Constant (.int 1) k p1) p2)) p3) pos) (tRevL K te) := by subst h; exact pe_revL he
end
end LF
namespace LF
open PySem PySem.Spec PyProof.Rows L2
def ItB (K : PySem.W.Frag) : Bool → Addr → It
  | false => Itl K
  | true => Itt K
/-- a for over a list or a tuple -/
def iSeq (K : PySem.W.Frag) (tp : Bool) (tl : TE) : TI := fun σ H R => tl σ H fun x H1 => ∃ a, x = .ref a ∧ (∃ xs, SqB K tp H1 a xs) ∧ R (ItB K tp a) H1
theorem piB {X : Cx} (K : PySem.W.Frag) (tp : Bool) {tg l : Expr} {tl : TE} (hl : PE X l tl) (h : X.K = K := by rfl) : PI X tg l (iSeq K tp tl) := by
  subst h
  cases tp with
  | false => exact pi_list hl
  | true => exact pi_tup hl
theorem walk_B {K : PySem.W.Frag} {tp : Bool} {a : Addr} {xs : List V} : Walk (ItB K tp a) xs.length (fun H => SqB K tp H a xs) (YAt xs) := by
  cases tp with
  | false => exact walk_list
  | true => exact walk_tup
/-- a tracked tuple of ints -/
def VT (H : Hp) (v : V) (c : List Int) : Prop := ∃ t, v = V.ref t ∧ H t = some (.tup (vi c))
theorem VT.keep {H H' : Hp} {D : Addr} {acc : List V} {v : V} {c : List Int} (h : H D = some (.lst acc)) (s : Smt D H H') (r : VT H v c) : VT H' v c := by
  obtain ⟨t, e, ht⟩ := r
  refine ⟨t, e, s t _ ht fun z => ?_⟩
  rw [z, h] at ht
  cases ht
theorem VT.same {H H' : Hp} {v : V} {c : List Int} (s : Same H H') (r : VT H v c) : VT H' v c := by
  obtain ⟨t, e, ht⟩ := r
  exact ⟨t, e, s t _ ht⟩
end LF
/-! ### la_math: the two sums, in plain Lean -/
namespace LF
theorem fm_get {α β : Type} (g : α → Option β) : ∀ (l : List α), (List.range l.length).filterMap (fun i => l[i]?.bind g) = l.filterMap g
  | [] => rfl
  | x :: r => by
    have ih := fm_get g r
    rw [List.length_cons, List.range_succ_eq_map, List.filterMap_cons, List.filterMap_map]
    have e : (List.range r.length).filterMap ((fun i => (x :: r)[i]?.bind g) ∘ Nat.succ) = r.filterMap g := by
      rw [← ih]
      rfl
    rw [e]
    rw [List.filterMap_cons]
    show (match g x with | none => r.filterMap g | some b => b :: r.filterMap g) = _
    cases g x <;> rfl
theorem fm_map {α β : Type} (f : α → β) (l : List α) : l.filterMap (fun x => some (f x)) = l.map f := by
  induction l with
  | nil => rfl
  | cons x r ih => rw [List.filterMap_cons, List.map_cons, ih]
theorem fm_idx {α β : Type} : ∀ (l : List α) (g : Nat → α → β), (List.range l.length).filterMap (fun i => l[i]?.bind fun x => some (g i x)) = l.mapIdx g
  | [], _ => rfl
  | x :: r, g => by
    have ih := fm_idx r fun i => g (i + 1)
    rw [List.length_cons, List.range_succ_eq_map, List.filterMap_cons, List.filterMap_map, List.mapIdx_cons, ← ih]
    rfl
/-- items by place -/
theorem fm_at {α β : Type} (f : α → β) (l : List α) : (List.range l.length).filterMap (fun i => l[i]?.bind fun x => some (f x)) = l.map f := by rw [fm_get, fm_map]
theorem fm_range {β : Type} (f : Nat → β) (n : Nat) : (List.range n).filterMap (fun i => some (f i)) = (List.range n).map f := fm_map f _
def srt (ds : List Int) : List Int := ds.mergeSort (fun a b => decide (a ≤ b))
theorem srt_perm (ds : List Int) : (srt ds).Perm ds := List.mergeSort_perm ds _
theorem srt_up (ds : List Int) : (srt ds).Pairwise (· ≤ ·) := by
  have h := List.pairwise_mergeSort (le := fun a b : Int => decide (a ≤ b)) (fun a b c h1 h2 => by simp only [decide_eq_true_eq] at *; omega) (fun a b => by simp only [Bool.or_eq_true, decide_eq_true_eq]; omega) ds
  exact h.imp fun h => of_decide_eq_true h
theorem srt_is {ns ds : List Int} (h : ns.Perm ds) (u : ns.Pairwise (· ≤ ·)) : ns = srt ds :=
  List.Perm.eq_of_pairwise (fun _ _ _ _ h1 h2 => Int.le_antisymm h1 h2) u (srt_up ds) (h.trans (srt_perm ds).symm)
theorem srt_len (ds : List Int) : (srt ds).length = ds.length := (srt_perm ds).length_eq
theorem srt_of_perm {a b : List Int} (h : a.Perm b) : srt a = srt b := srt_is ((srt_perm a).trans h) (srt_up a)
/-- what candles have for k ticks -/
def cnt (cs : List Int) (k : Int) : Int := (cs.map fun w => if k < w then k else w).sum
/-- what draughts want for k ticks -/
def wnt (ds : List Int) (k : Nat) : Int := (((srt ds).drop (ds.length - k)).map fun d => d + 1).sum
def spr (cs ds : List Int) : List Int := (List.range ds.length).map fun (i : Nat) => cnt cs ((i : Int) + 1) - wnt ds (i + 1)
def can (cs ds : List Int) : Bool := (spr cs ds).all fun s => decide (0 ≤ s)
def fails (cs ds : List Int) : List Int := (List.range (spr cs ds).length).filterMap fun (i : Nat) => (spr cs ds)[i]?.bind fun s => if s < 0 then some ((i : Int) + 1) else none
theorem spr_len (cs ds : List Int) : (spr cs ds).length = ds.length := by
  unfold spr
  rw [List.length_map, List.length_range]
theorem cnt_eq (cs : List Int) (k : Int) : (cs.map fun w => if w < k then w else k).sum = cnt cs k := by
  unfold cnt
  congr 1
  refine List.map_congr_left fun w _ => ?_
  by_cases h : w < k
  · rw [if_pos h, if_neg (by omega)]
  · by_cases h2 : k < w
    · rw [if_neg h, if_pos h2]
    · rw [if_neg h, if_neg h2]
      omega
theorem sum_succ (l : List Int) : (l.map fun d => d + 1).sum = l.sum + l.length := by
  induction l with
  | nil => rfl
  | cons x r ih =>
    rw [List.map_cons, List.sum_cons, List.sum_cons, ih, List.length_cons]
    omega
theorem sum_rev (l : List Int) : l.reverse.sum = l.sum := by
  induction l with
  | nil => rfl
  | cons x r ih =>
    rw [List.reverse_cons, List.sum_append, ih, List.sum_cons]
    show r.sum + (x + 0) = x + r.sum
    omega
/-- the law's way: the strongest first -/
theorem wnt_eq (ds : List Int) (k : Nat) (h : k ≤ ds.length) : wnt ds k = ((srt ds).reverse.take k).sum + k := by
  unfold wnt
  rw [sum_succ, List.take_reverse, sum_rev, srt_len, List.length_drop, srt_len]
  have e : ds.length - (ds.length - k) = k := by omega
  rw [e]
theorem can_iff (cs ds : List Int) : can cs ds = true ↔ ∀ k, 1 ≤ k → k ≤ ds.length → wnt ds k ≤ cnt cs k := by
  unfold can spr
  rw [List.all_eq_true]
  constructor
  · intro h k h1 h2
    have q := h (cnt cs (((k - 1 : Nat) : Int) + 1) - wnt ds (k - 1 + 1)) (List.mem_map.mpr ⟨k - 1, List.mem_range.mpr (by omega), rfl⟩)
    have q := of_decide_eq_true q
    have e1 : k - 1 + 1 = k := by omega
    have e2 : ((k - 1 : Nat) : Int) + 1 = (k : Int) := by omega
    rw [e1, e2] at q
    omega
  · intro h s hs
    obtain ⟨i, hi, rfl⟩ := List.mem_map.mp hs
    have q := h (i + 1) (by omega) (by have := List.mem_range.mp hi; omega)
    have e2 : ((i + 1 : Nat) : Int) = (i : Int) + 1 := by omega
    rw [e2] at q
    exact decide_eq_true (by omega)
/-- the law's own word for it -/
theorem can_min {cs ds : List Int} {m : Int} (h1 : m ∈ 0 :: spr cs ds) (h2 : ∀ y, y ∈ 0 :: spr cs ds → m ≤ y) : decide (m = 0) = can cs ds := by
  unfold can
  have h0 := h2 0 List.mem_cons_self
  by_cases e : m = 0
  · rw [decide_eq_true e]
    refine (List.all_eq_true.mpr fun y hy => ?_).symm
    have := h2 y (List.mem_cons_of_mem _ hy)
    exact decide_eq_true (by omega)
  · rw [decide_eq_false e]
    rcases List.mem_cons.mp h1 with z | z
    · exact absurd z e
    · cases q : (spr cs ds).all fun s => decide (0 ≤ s) with
      | false => rfl
      | true =>
        have := of_decide_eq_true (List.all_eq_true.mp q m z)
        omega
end LF
/-! ### la_data: data as the library's == sees them -/
namespace LF
open PySem PySem.Spec PyProof.Rows L2
/-- data that == may be asked of, at most n deep -/
def Okd (n : Nat) (d : PyData) : Prop := d.canLay0 = true ∧ d.depth ≤ n
theorem Okd.mono {n m : Nat} {d : PyData} (h : Okd n d) (l : n ≤ m) : Okd m d := ⟨h.1, Nat.le_trans h.2 l⟩
theorem okd_int (n : Nat) (i : Int) : Okd n (.int i) := ⟨by simp only [PyData.canLay0], by simp only [PyData.depth]; exact Nat.zero_le _⟩
theorem okd_bool (n : Nat) (b : Bool) : Okd n (.bool b) := ⟨by simp only [PyData.canLay0], by simp only [PyData.depth]; exact Nat.zero_le _⟩
theorem okd_none (n : Nat) : Okd n .none := ⟨by simp only [PyData.canLay0], by simp only [PyData.depth]; exact Nat.zero_le _⟩
theorem okd_all {n : Nat} : ∀ {ds : List PyData}, (∀ d ∈ ds, Okd n d) → PyData.canLayAll0 ds = true ∧ PyData.depthAll ds ≤ n
  | [], _ => ⟨by simp only [PyData.canLayAll0], by simp only [PyData.depthAll]; exact Nat.zero_le _⟩
  | d :: r, h => by
    have h1 := h d List.mem_cons_self
    have h2 := okd_all fun x hx => h x (List.mem_cons_of_mem _ hx)
    simp only [PyData.canLayAll0, PyData.depthAll]
    exact ⟨by rw [h1.1, h2.1]; rfl, Nat.max_le.mpr ⟨h1.2, h2.2⟩⟩
theorem okd_list {n : Nat} {ds : List PyData} (h : ∀ d ∈ ds, Okd n d) : Okd (n + 1) (.list ds) := by
  have q := okd_all h
  exact ⟨by simp only [PyData.canLay0]; exact q.1, by simp only [PyData.depth]; exact Nat.succ_le_succ q.2⟩
theorem okd_tup {n : Nat} {ds : List PyData} (h : ∀ d ∈ ds, Okd n d) : Okd (n + 1) (.tuple ds) := by
  have q := okd_all h
  exact ⟨by simp only [PyData.canLay0]; exact q.1, by simp only [PyData.depth]; exact Nat.succ_le_succ q.2⟩
theorem Okd.shaped {n : Nat} {d : PyData} (h : Okd n d) (l : n ≤ 64) : SeqAt.shaped d = true := by
  unfold SeqAt.shaped
  rw [h.1, decide_eq_true (Nat.le_trans h.2 l)]
  rfl
abbrev di (ns : List Int) : List PyData := ns.map PyData.int
theorem okd_ints (n : Nat) (ns : List Int) : ∀ d ∈ di ns, Okd n d := fun d hd => by
  obtain ⟨i, _, rfl⟩ := List.mem_map.mp hd
  exact okd_int n i
theorem shaped_ints (ns : List Int) : SeqAt.shaped (.list (di ns)) = true := (okd_list (okd_ints 0 ns)).shaped (by decide)
theorem shaped_tints (ns : List Int) : SeqAt.shaped (.tuple (di ns)) = true := (okd_tup (okd_ints 0 ns)).shaped (by decide)
theorem dp_ints {K : PySem.W.Frag} {H : Hp} : ∀ ns : List Int, DpAll K H (vi ns) (di ns)
  | [] => .nil
  | n :: r => .cons (.int n) (dp_ints r)
theorem dp_list {K : PySem.W.Frag} {H : Hp} {p : Addr} {ns : List Int} (h : SqL K H p (vi ns)) : Dp K H (.ref p) (.list (di ns)) := .lst h (dp_ints ns)
theorem dp_tup {K : PySem.W.Frag} {H : Hp} {p : Addr} {ns : List Int} (h : SqT K H p (vi ns)) : Dp K H (.ref p) (.tuple (di ns)) := .tup h (dp_ints ns)
theorem eqvAll_ints : ∀ ns ms : List Int, PyData.eqvAll (di ns) (di ms) = decide (ns = ms)
  | [], [] => by simp only [List.map_nil, PyData.eqvAll]; rfl
  | [], _ :: _ => by simp [PyData.eqvAll]
  | _ :: _, [] => by simp [PyData.eqvAll]
  | n :: r, m :: r' => by
    have ih := eqvAll_ints r r'
    show PyData.eqvAll (PyData.int n :: di r) (PyData.int m :: di r') = _
    rw [PyData.eqvAll, ih, PyData.eqv]
    by_cases h : n = m
    · by_cases h2 : r = r'
      · simp [h, h2]
      · simp [h, h2]
    · simp [h]
theorem eqv_lists (ns ms : List Int) : PyData.eqv (.list (di ns)) (.list (di ms)) = decide (ns = ms) := by
  rw [PyData.eqv]
  exact eqvAll_ints ns ms
theorem eqv_tups (ns ms : List Int) : PyData.eqv (.tuple (di ns)) (.tuple (di ms)) = decide (ns = ms) := by
  rw [PyData.eqv]
  exact eqvAll_ints ns ms
end LF
namespace L2
open PySem
mutual
theorem Dp.same {K : PySem.W.Frag} {H H' : Hp} (e : Same H H') : ∀ {d : PyData} {v : V}, Dp K H v d → Dp K H' v d
  | _, _, .non => .non
  | _, _, .bl b => .bl b
  | _, _, .int i => .int i
  | _, _, .str x => .str x
  | _, _, .lst h a => .lst (e.seq h) (DpAll.same e a)
  | _, _, .tup h a => .tup (e.sqt h) (DpAll.same e a)
theorem DpAll.same {K : PySem.W.Frag} {H H' : Hp} (e : Same H H') : ∀ {ds : List PyData} {vs : List V}, DpAll K H vs ds → DpAll K H' vs ds
  | _, _, .nil => .nil
  | _, _, .cons h a => .cons (Dp.same e h) (DpAll.same e a)
end
end L2
namespace LF
open PySem PySem.Spec PyProof.Rows L2
theorem dpall_len {K : PySem.W.Frag} {H : Hp} : ∀ {vs : List V} {ds : List PyData}, DpAll K H vs ds → vs.length = ds.length
  | _, _, .nil => rfl
  | _, _, .cons _ t => congrArg (· + 1) (dpall_len t)
theorem dpall_get {K : PySem.W.Frag} {H : Hp} : ∀ {vs : List V} {ds : List PyData} {i : Nat} {d : PyData}, DpAll K H vs ds → ds[i]? = some d → ∃ v, vs[i]? = some v ∧ Dp K H v d
  | _, _, i, d, .nil, e => by simp at e
  | _, _, 0, d, .cons h _, e => by
    cases Option.some.inj e
    exact ⟨_, rfl, h⟩
  | _, _, i + 1, d, .cons _ t, e => dpall_get (i := i) t e
/-- the class of a datum -/
def dty : PyData → String
  | .none => "NoneType"
  | .bool _ => "bool"
  | .int _ => "int"
  | .str _ => "str"
  | .list _ => "list"
  | .tuple _ => "tuple"
  | .dict _ => "dict"
def isSeq : PyData → Bool
  | .list _ => true
  | .tuple _ => true
  | _ => false
theorem dp_ty {K : PySem.W.Frag} {H : Hp} {v : V} {d : PyData} (h : Dp K H v d) : TyX K H v (.type (dty d)) := by
  cases h with
  | non => exact .base .non
  | bl b => exact .base (.bl b)
  | int i => exact .base (.int i)
  | str x => exact .base (.str x)
  | lst h a =>
    rcases h with (h | ⟨o, h⟩) | ⟨o, its, n, hk, hc, _⟩
    · exact .base (.lst h)
    · exact .base (.frz h)
    · exact .kList hk hc
  | tup h a =>
    rcases h with (h | ⟨o, h⟩) | ⟨o, its, n, hk, hc, _⟩
    · exact .base (.tup h)
    · exact .fTuple h
    · exact .kTuple hk hc
/-- is it of the class T, by names -/
def isN (a T : String) : Bool := decide (a = T) || (decide (a = "bool") && decide (T = "int"))
def dis (T : String) (d : PyData) : Bool := isN (dty d) T
def tyNames : List String := ["NoneType", "bool", "int", "str", "list", "tuple", "dict"]
theorem kit_names : ∀ a ∈ tyNames, ∀ T ∈ ["int", "bool", "list", "tuple", "str"], kitB a T = some (isN a T) := by decide +kernel
theorem dty_mem (d : PyData) : dty d ∈ tyNames := by
  cases d <;> simp [dty, tyNames]
theorem kit_d {K : PySem.W.Frag} (d : PyData) {T : String} (hT : T ∈ ["int", "bool", "list", "tuple", "str"]) : PySem.W.kitOne K (.type (dty d)) (.type T) = some (dis T d) := kit_ty (kit_names _ (dty_mem d) T hT)
theorem seq_names : ∀ a ∈ tyNames, isN a "list" = true ∨ isN a "tuple" = true ↔ (a = "list" ∨ a = "tuple") := by decide +kernel
theorem isSeq_n (d : PyData) : isSeq d = (dis "list" d || dis "tuple" d) := by
  cases d <;> simp [isSeq, dis, isN, dty]
theorem kit_lt {K : PySem.W.Frag} (d : PyData) : PySem.W.kitAny K (.type (dty d)) [.type "list", .type "tuple"] = some (isSeq d) := by
  rw [isSeq_n]
  refine kitAny_cons (kit_d d (by simp)) (fun h => ?_) (fun h => by rw [h]; rfl)
  rw [h, Bool.false_or]
  refine kitAny_cons (kit_d d (by simp)) (fun h2 => by rw [h2]; exact kitAny_nil) (fun h2 => h2)
theorem kit_tl {K : PySem.W.Frag} (d : PyData) : PySem.W.kitAny K (.type (dty d)) [.type "tuple", .type "list"] = some (isSeq d) := by
  rw [isSeq_n, Bool.or_comm]
  refine kitAny_cons (kit_d d (by simp)) (fun h => ?_) (fun h => by rw [h]; rfl)
  rw [h, Bool.false_or]
  refine kitAny_cons (kit_d d (by simp)) (fun h2 => by rw [h2]; exact kitAny_nil) (fun h2 => h2)
/-- data at most n - 1 deep, no list of more than a thousand -/
def Fit : Nat → PyData → Prop
  | 0, _ => False
  | n + 1, .list ds => ds.length ≤ 1000 ∧ ∀ d ∈ ds, Fit n d
  | n + 1, .tuple ds => ds.length ≤ 1000 ∧ ∀ d ∈ ds, Fit n d
  | _ + 1, .dict _ => False
  | _ + 1, _ => True
theorem fit_ints {n : Nat} {ns : List Int} (h : ns.length ≤ 1000) : Fit (n + 2) (.list (di ns)) := ⟨by rw [List.length_map]; exact h, fun d hd => by
  obtain ⟨i, _, rfl⟩ := List.mem_map.mp hd
  exact True.intro⟩
theorem fit_tints {n : Nat} {ns : List Int} (h : ns.length ≤ 1000) : Fit (n + 2) (.tuple (di ns)) := ⟨by rw [List.length_map]; exact h, fun d hd => by
  obtain ⟨i, _, rfl⟩ := List.mem_map.mp hd
  exact True.intro⟩
theorem sqb_or {K : PySem.W.Frag} {H : Hp} {a : Addr} {xs : List V} {tp : Bool} (h : SqB K tp H a xs) : SqL K H a xs ∨ SqT K H a xs := by
  cases tp with
  | false => exact .inl h
  | true => exact .inr h
theorem ix_b {K : PySem.W.Frag} {H : Hp} {a : Addr} {xs : List V} {tp : Bool} {i : Int} {v : V} {Q : VK} (h : SqB K tp H a xs) (e : atI xs i = some v) (q : Q v H) : rIx K (.ref a) (.int i) H Q := by
  cases tp with
  | false => exact .inl ⟨a, xs, i, v, rfl, rfl, h, e, q⟩
  | true => exact .inr (.inl ⟨a, xs, i, v, rfl, rfl, h, e, q⟩)
end LF
namespace LF
open PySem PySem.Spec PyProof.Rows L2
abbrev dts (css : List (List Int)) : List PyData := css.map fun c => PyData.tuple (di c)
theorem dp_vts {K : PySem.W.Frag} {H : Hp} : ∀ {xs : List V} {css : List (List Int)}, Paired (VT H) xs css → DpAll K H xs (dts css)
  | _, _, .nil => .nil
  | _, _, .cons r t => by
    obtain ⟨a, e, ha⟩ := r
    subst e
    exact .cons (dp_tup (SqT.of ha)) (dp_vts t)
theorem fit_dts {n : Nat} {css : List (List Int)} (h : css.length ≤ 1000) (h2 : ∀ c ∈ css, c.length ≤ 1000) : Fit (n + 3) (.list (dts css)) := ⟨by rw [List.length_map]; exact h, fun d hd => by
  obtain ⟨c, hc, rfl⟩ := List.mem_map.mp hd
  exact fit_tints (h2 c hc)⟩
theorem shaped_dts (css : List (List Int)) : SeqAt.shaped (.list (dts css)) = true := (okd_list (n := 1) fun d hd => by
  obtain ⟨c, _, rfl⟩ := List.mem_map.mp hd
  exact okd_tup (okd_ints 0 c)).shaped (by decide)
theorem eqv_nil (ds : List PyData) : PyData.eqv (.list ds) (.list (di [])) = ds.isEmpty := by
  rw [PyData.eqv]
  cases ds with
  | nil => simp only [List.map_nil, PyData.eqvAll]; rfl
  | cons x r => simp only [List.map_nil, PyData.eqvAll]; rfl
theorem inV_ints (z : Int) (ns : List Int) : inV (.int z) (vi ns) = decide (z ∈ ns) := by
  induction ns with
  | nil => rfl
  | cons n r ih =>
    show (eqV (.int n) (.int z) || inV (.int z) (vi r)) = _
    rw [ih]
    show ((n == z) || decide (z ∈ r)) = decide (z ∈ n :: r)
    by_cases h : n = z
    · simp [h]
    · have h2 : ¬ z = n := fun e => h e.symm
      simp [h, h2]
end LF
/-! ### la_keep: whom the keeper lights, in plain Lean -/
namespace LF
/-- pairs in Python's order -/
def leP (p q : Int × Int) : Bool := decide (p.1 < q.1) || (decide (p.1 = q.1) && decide (p.2 ≤ q.2))
theorem leP_iff {p q : Int × Int} : leP p q = true ↔ p.1 < q.1 ∨ (p.1 = q.1 ∧ p.2 ≤ q.2) := by
  unfold leP
  simp only [Bool.or_eq_true, Bool.and_eq_true, decide_eq_true_eq]
def srtP (l : List (Int × Int)) : List (Int × Int) := l.mergeSort leP
theorem srtP_perm (l : List (Int × Int)) : (srtP l).Perm l := List.mergeSort_perm l _
theorem srtP_up (l : List (Int × Int)) : (srtP l).Pairwise (fun p q => leP p q = true) :=
  List.pairwise_mergeSort (le := leP) (fun a b c h1 h2 => by rw [leP_iff] at *; omega) (fun a b => by rw [Bool.or_eq_true, leP_iff, leP_iff]; omega) l
theorem srtP_is {m l : List (Int × Int)} (h : m.Perm l) (u : m.Pairwise (fun p q => leP p q = true)) : m = srtP l :=
  List.Perm.eq_of_pairwise (fun p q _ _ h1 h2 => by
    rw [leP_iff] at h1 h2
    exact Prod.ext (by omega) (by omega)) u (srtP_up l) (h.trans (srtP_perm l).symm)
/-- the candles that have wax: most first, of as much the lesser places -/
def rowsOf (cs : List Int) : List (Int × Int) := (List.range cs.length).filterMap fun (i : Nat) => cs[i]?.bind fun w => if 0 < w then some (-w, (i : Int)) else none
def lightsF (cs : List Int) (d : Int) : Option (List Int) := if ((rowsOf cs).length : Int) ≤ d then none else some (srt (((srtP (rowsOf cs)).take (d + 1).toNat).map Prod.snd))
/-- the candles behind a tick -/
def bit (lit out : List Int) (i : Int) : Int := if i ∈ lit ∧ i ∉ out then 1 else 0
def burntF (cs lit out : List Int) : List Int := cs.mapIdx fun i w => w - bit lit out i
theorem burntF_eq (cs lit out : List Int) : burntF cs lit out = cs.mapIdx fun i w => w - bit lit out i := rfl
theorem burntF_len (cs lit out : List Int) : (burntF cs lit out).length = cs.length := by
  rw [burntF_eq, List.length_mapIdx]
theorem burntF_get {cs lit out : List Int} {i : Nat} {w : Int} (h : cs[i]? = some w) : (burntF cs lit out)[i]? = some (w - bit lit out i) := by
  rw [burntF_eq, List.getElem?_mapIdx, h]
  rfl
theorem rowsOf_mem {cs : List Int} {p : Int × Int} : p ∈ rowsOf cs ↔ ∃ (i : Nat) (w : Int), cs[i]? = some w ∧ 0 < w ∧ p = (-w, (i : Int)) := by
  unfold rowsOf
  rw [List.mem_filterMap]
  constructor
  · rintro ⟨i, hi, e⟩
    cases h : cs[i]? with
    | none =>
      rw [h] at e
      cases e
    | some w =>
      rw [h] at e
      by_cases hw : 0 < w
      · have e : (if 0 < w then some (-w, (i : Int)) else none) = some p := e
        rw [if_pos hw] at e
        exact ⟨i, w, h, hw, (Option.some.inj e).symm⟩
      · have e : (if 0 < w then some (-w, (i : Int)) else none) = some p := e
        rw [if_neg hw] at e
        cases e
  · rintro ⟨i, w, h, hw, rfl⟩
    refine ⟨i, List.mem_range.mpr (List.getElem?_eq_some_iff.mp h).1, ?_⟩
    rw [h]
    exact if_pos hw
theorem rowsOf_nodup (cs : List Int) : ((rowsOf cs).map Prod.snd).Nodup := by
  have e0 : (rowsOf cs).map Prod.snd = (List.range cs.length).filterMap (fun (i : Nat) => (cs[i]?.bind fun w => if 0 < w then some (-w, (i : Int)) else none).map Prod.snd) := by
    unfold rowsOf
    exact List.map_filterMap
  rw [e0]
  have h : (List.range cs.length).Pairwise (fun a b => a < b) := List.pairwise_lt_range
  have h2 : ((List.range cs.length).filterMap (fun (i : Nat) => (cs[i]?.bind fun w => if 0 < w then some (-w, (i : Int)) else none).map Prod.snd)).Pairwise (fun a b : Int => a < b) := by
    refine List.Pairwise.filterMap (R := fun a b : Nat => a < b) _ (fun a a' haa b hb b' hb' => ?_) h
    have key : ∀ (a : Nat) (b : Int), (cs[a]?.bind fun w => if 0 < w then some (-w, (a : Int)) else none).map Prod.snd = some b → b = (a : Int) := fun a b e => by
      cases q : cs[a]? with
      | none =>
        rw [q] at e
        cases e
      | some w =>
        rw [q] at e
        have e : ((if 0 < w then some (-w, (a : Int)) else none)).map Prod.snd = some b := e
        by_cases hw : 0 < w
        · rw [if_pos hw] at e
          exact (Option.some.inj e).symm
        · rw [if_neg hw] at e
          cases e
    rw [key a b hb, key a' b' hb']
    omega
  exact h2.imp fun h => Int.ne_of_lt h
/-- what is known of those that are lit -/
structure Lit (cs : List Int) (d : Int) (lit : List Int) : Prop where
  len : (lit.length : Int) = d + 1
  up : lit.Pairwise (· < ·)
  wax : ∀ i ∈ lit, ∃ (k : Nat) (w : Int), i = (k : Int) ∧ cs[k]? = some w ∧ 0 < w
  top : ∀ i ∈ lit, ∀ (k j : Nat) (w v : Int), i = (k : Int) → cs[k]? = some w → cs[j]? = some v → (j : Int) ∉ lit → v ≤ w
theorem Lit.nd {cs : List Int} {d : Int} {lit : List Int} (h : Lit cs d lit) : lit.Nodup := h.up.imp fun h => Int.ne_of_lt h
theorem srt_lt {l : List Int} (h : l.Nodup) : (srt l).Pairwise (· < ·) := by
  have h1 := srt_up l
  have h2 : (srt l).Pairwise (· ≠ ·) := (srt_perm l).nodup_iff.mpr h
  exact h1.imp₂ (fun a b h1 h2 => by omega) h2
theorem lights_lit {cs lit : List Int} {d : Int} (h0 : 0 ≤ d) (h : lightsF cs d = some lit) : Lit cs d lit := by
  unfold lightsF at h
  by_cases hc : ((rowsOf cs).length : Int) ≤ d
  · rw [if_pos hc] at h
    cases h
  rw [if_neg hc] at h
  have e := (Option.some.inj h).symm
  subst e
  have hp := srtP_perm (rowsOf cs)
  have hsub : ((srtP (rowsOf cs)).take (d + 1).toNat).map Prod.snd |>.Sublist ((srtP (rowsOf cs)).map Prod.snd) := (List.take_sublist _ _).map _
  have hnd : (((srtP (rowsOf cs)).take (d + 1).toNat).map Prod.snd).Nodup := hsub.nodup ((hp.map Prod.snd).nodup_iff.mpr (rowsOf_nodup cs))
  have hlen : (srtP (rowsOf cs)).length = (rowsOf cs).length := hp.length_eq
  have mem : ∀ i, i ∈ srt (((srtP (rowsOf cs)).take (d + 1).toNat).map Prod.snd) ↔ ∃ p ∈ (srtP (rowsOf cs)).take (d + 1).toNat, p.2 = i := fun i => by
    rw [(srt_perm _).mem_iff, List.mem_map]
  refine ⟨?_, srt_lt hnd, fun i hi => ?_, fun i hi k j w v ek hk hj hn => ?_⟩
  · rw [srt_len, List.length_map, List.length_take, hlen]
    omega
  · obtain ⟨p, hpm, e⟩ := (mem i).mp hi
    obtain ⟨k, w, h1, h2, rfl⟩ := rowsOf_mem.mp (hp.mem_iff.mp ((List.take_sublist _ _).mem hpm))
    exact ⟨k, w, e.symm, h1, h2⟩
  · obtain ⟨p, hpm, e⟩ := (mem i).mp hi
    obtain ⟨k', w', h1, h2, rfl⟩ := rowsOf_mem.mp (hp.mem_iff.mp ((List.take_sublist _ _).mem hpm))
    have ekk : k' = k := by
      have : (k' : Int) = i := e
      omega
    subst ekk
    rw [hk] at h1
    cases h1
    by_cases hv : 0 < v
    · have hq : ((-v, (j : Int)) : Int × Int) ∈ srtP (rowsOf cs) := hp.mem_iff.mpr (rowsOf_mem.mpr ⟨j, v, hj, hv, rfl⟩)
      have hd : ((-v, (j : Int)) : Int × Int) ∈ (srtP (rowsOf cs)).drop (d + 1).toNat := by
        rw [← List.take_append_drop (d + 1).toNat (srtP (rowsOf cs))] at hq
        rcases List.mem_append.mp hq with q | q
        · exact absurd ((mem _).mpr ⟨_, q, rfl⟩) hn
        · exact q
      have hup := srtP_up (rowsOf cs)
      rw [← List.take_append_drop (d + 1).toNat (srtP (rowsOf cs))] at hup
      have q := (List.pairwise_append.mp hup).2.2 _ hpm _ hd
      rw [leP_iff] at q
      have q : -w < -v ∨ (-w = -v ∧ (k' : Int) ≤ (j : Int)) := q
      omega
    · omega
/-- ticks one behind the other: lit, then what is left -/
def lotsF (cs : List Int) : List Int → Option (List (List Int × List Int))
  | [] => some []
  | d :: r => match lightsF cs d with
    | none => none
    | some lit => (lotsF (burntF cs lit []) r).map fun l => (lit, burntF cs lit []) :: l
theorem lotsF_cons (cs : List Int) (d : Int) (r : List Int) : lotsF cs (d :: r) = (match lightsF cs d with
    | none => none
    | some lit => (lotsF (burntF cs lit []) r).map fun l => (lit, burntF cs lit []) :: l) := rfl
theorem lotsF_len {ds : List Int} : ∀ {cs : List Int} {l : List (List Int × List Int)}, lotsF cs ds = some l → l.length = ds.length := by
  induction ds with
  | nil =>
    intro cs l h
    cases Option.some.inj h
    rfl
  | cons d r ih =>
    intro cs l h
    unfold lotsF at h
    cases e : lightsF cs d with
    | none =>
      rw [e] at h
      cases h
    | some lit =>
      rw [e] at h
      obtain ⟨l', h1, h2⟩ := Option.map_eq_some_iff.mp h
      rw [← h2, List.length_cons, List.length_cons, ih h1]
theorem sum_bits : ∀ (lit : List Int) (cs : List Int) (s : Nat), lit.Nodup → (∀ i ∈ lit, (s : Int) ≤ i ∧ i < (s : Int) + cs.length) → (cs.mapIdx fun i w => w - bit lit [] ((i + s : Nat) : Int)).sum = cs.sum - lit.length := by
  intro lit cs
  induction cs generalizing lit with
  | nil =>
    intro s _ h
    cases lit with
    | nil => rfl
    | cons x r =>
      have := h x List.mem_cons_self
      simp at this
      omega
  | cons c r ih =>
    intro s hn h
    rw [List.mapIdx_cons, List.sum_cons, List.sum_cons]
    have hm : (r.mapIdx fun i w => w - bit lit [] ((i + 1 + s : Nat) : Int)) = r.mapIdx fun i w => w - bit (lit.filter fun x => decide (x ≠ (s : Int))) [] ((i + (s + 1) : Nat) : Int) := by
      congr 1
      funext i w
      have e : i + 1 + s = i + (s + 1) := by omega
      rw [e]
      unfold bit
      have e2 : (((i + (s + 1) : Nat) : Int) ∈ lit) ↔ (((i + (s + 1) : Nat) : Int) ∈ lit.filter fun x => decide (x ≠ (s : Int))) := by
        rw [List.mem_filter]
        constructor
        · intro q
          exact ⟨q, decide_eq_true (by omega)⟩
        · intro q
          exact q.1
      simp only [← e2]
    rw [hm, ih (lit.filter fun x => decide (x ≠ (s : Int))) (s + 1) (hn.filter _) (fun i hi => ?_)]
    · by_cases hs : (s : Int) ∈ lit
      · have e3 : bit lit [] ((0 + s : Nat) : Int) = 1 := by
          unfold bit
          rw [Nat.zero_add, if_pos ⟨hs, by simp⟩]
        have e4 : (lit.filter fun x => decide (x ≠ (s : Int))).length + 1 = lit.length := by
          have q := List.length_erase_of_mem hs
          have q2 : lit.erase (s : Int) = lit.filter fun x => decide (x ≠ (s : Int)) := by
            rw [hn.erase_eq_filter]
            congr 1
            funext x
            by_cases hx : x = (s : Int) <;> simp [hx]
          rw [← q2, q]
          have := List.length_pos_of_mem hs
          omega
        rw [e3]
        omega
      · have e3 : bit lit [] ((0 + s : Nat) : Int) = 0 := by
          unfold bit
          rw [Nat.zero_add, if_neg (fun q => hs q.1)]
        have e4 : (lit.filter fun x => decide (x ≠ (s : Int))) = lit := List.filter_eq_self.mpr fun x hx => decide_eq_true fun e => hs (e ▸ hx)
        rw [e3, e4]
        omega
    · obtain ⟨h1, h2⟩ := List.mem_filter.mp hi
      have := h i h1
      have h2 := of_decide_eq_true h2
      rw [List.length_cons] at this
      omega
theorem burnt_sum {cs lit : List Int} {d : Int} (h : Lit cs d lit) : (burntF cs lit []).sum = cs.sum - (d + 1) := by
  rw [burntF_eq, ← h.len]
  have q := sum_bits lit cs 0 h.nd (fun i hi => by
    obtain ⟨k, w, e, hk, _⟩ := h.wax i hi
    have := (List.getElem?_eq_some_iff.mp hk).1
    omega)
  exact q
end LF
namespace LF
theorem burnt_step {cs L out : List Int} {i : Int} {k : Nat} {w : Int} (hi : i ∉ L) (ho : i ∉ out) (e : i = (k : Int)) (hk : cs[k]? = some w) : (burntF cs L out).set k (w - 1) = burntF cs (L ++ [i]) out := by
  apply List.ext_getElem?
  intro j
  rw [List.getElem?_set, burntF_len]
  by_cases hj : k = j
  · subst hj
    have hlt := (List.getElem?_eq_some_iff.mp hk).1
    rw [if_pos rfl, if_pos hlt, burntF_get hk]
    unfold bit
    rw [if_pos ⟨List.mem_append_right _ (by rw [← e]; exact List.mem_singleton.mpr rfl), by rw [← e]; exact ho⟩]
  · rw [if_neg hj]
    cases q : cs[j]? with
    | none =>
      rw [List.getElem?_eq_none (by rw [burntF_len]; exact List.getElem?_eq_none_iff.mp q), List.getElem?_eq_none (by rw [burntF_len]; exact List.getElem?_eq_none_iff.mp q)]
    | some v =>
      rw [burntF_get q, burntF_get q]
      have e2 : bit (L ++ [i]) out (j : Int) = bit L out (j : Int) := by
        unfold bit
        have e3 : ((j : Int) ∈ L ++ [i]) ↔ (j : Int) ∈ L := by
          rw [List.mem_append, List.mem_singleton]
          constructor
          · rintro (z | z)
            · exact z
            · omega
          · exact Or.inl
        simp only [e3]
      rw [e2]
theorem burnt_same {cs L out : List Int} {i : Int} (ho : i ∈ out) : burntF cs (L ++ [i]) out = burntF cs L out := by
  unfold burntF
  congr 1
  funext j w
  have e2 : bit (L ++ [i]) out (j : Int) = bit L out (j : Int) := by
    unfold bit
    by_cases hj : (j : Int) ∈ out
    · rw [if_neg (fun q => q.2 hj), if_neg (fun q => q.2 hj)]
    · have e3 : ((j : Int) ∈ L ++ [i]) ↔ (j : Int) ∈ L := by
        rw [List.mem_append, List.mem_singleton]
        constructor
        · rintro (z | z)
          · exact z
          · rw [z] at hj
            exact absurd ho hj
        · exact Or.inl
      simp only [e3]
  rw [e2]
theorem burnt_none (cs out : List Int) : burntF cs [] out = cs := by
  apply List.ext_getElem?
  intro j
  cases q : cs[j]? with
  | none => rw [List.getElem?_eq_none (by rw [burntF_len]; exact List.getElem?_eq_none_iff.mp q)]
  | some v =>
    rw [burntF_get q]
    unfold bit
    rw [if_neg (fun q => nomatch q.1), Int.sub_zero]
/-- the next of the places -/
theorem take_next {α : Type} {l : List α} {i : Nat} {x : α} (h : l[i]? = some x) : l.take (i + 1) = l.take i ++ [x] := by
  rw [List.take_add_one, h]
  rfl
theorem drop_next {α : Type} {l : List α} {i : Nat} {x : α} (h : l[i]? = some x) : l.drop i = x :: l.drop (i + 1) := by
  obtain ⟨hi, e⟩ := List.getElem?_eq_some_iff.mp h
  rw [← e]
  exact List.drop_eq_getElem_cons hi
theorem nodup_next {l : List Int} {i : Nat} {x : Int} (h : l.Nodup) (e : l[i]? = some x) : x ∉ l.take i := by
  intro hm
  obtain ⟨j, hj⟩ := List.mem_iff_getElem?.mp hm
  have hlt : j < i := by
    have := (List.getElem?_eq_some_iff.mp hj).1
    rw [List.length_take] at this
    omega
  rw [List.getElem?_take_of_lt hlt] at hj
  obtain ⟨h1, e1⟩ := List.getElem?_eq_some_iff.mp hj
  obtain ⟨h2, e2⟩ := List.getElem?_eq_some_iff.mp e
  have := (List.getElem_inj (i := j) (j := i) h).mp (e1.trans e2.symm)
  omega
/-- all is burnt that is wanted -/
theorem lots_sum : ∀ (ds cs : List Int) (l : List (List Int × List Int)), (∀ d ∈ ds, 0 ≤ d) → lotsF cs ds = some l → ∀ p, l.getLast? = some p → p.2.sum = cs.sum - ds.sum - ds.length := by
  intro ds
  induction ds with
  | nil =>
    intro cs l _ h p hp
    cases Option.some.inj h
    cases hp
  | cons d r ih =>
    intro cs l h0 h p hp
    unfold lotsF at h
    cases e : lightsF cs d with
    | none =>
      rw [e] at h
      cases h
    | some lit =>
      rw [e] at h
      obtain ⟨l', h1, h2⟩ := Option.map_eq_some_iff.mp h
      have hb := burnt_sum (lights_lit (h0 d List.mem_cons_self) e)
      rw [List.sum_cons, List.length_cons]
      subst h2
      cases q : l'.getLast? with
      | none =>
        have e0 : l' = [] := List.getLast?_eq_none_iff.mp q
        have e1 := lotsF_len h1
        rw [e0] at e1 hp
        have e2 : r = [] := List.length_eq_zero_iff.mp e1.symm
        cases Option.some.inj hp
        show (burntF cs lit []).sum = _
        rw [hb, e2]
        show _ = cs.sum - (d + 0) - _
        simp
        omega
      | some p' =>
        have e1 : p' = p := by
          have := List.getLast?_cons (a := (lit, burntF cs lit [])) (l := l')
          rw [this, q] at hp
          exact Option.some.inj hp
        subst e1
        rw [ih (burntF cs lit []) l' (fun x hx => h0 x (List.mem_cons_of_mem _ hx)) h1 p' q, hb]
        omega
theorem lots_lens : ∀ (ds cs : List Int) (l : List (List Int × List Int)), lotsF cs ds = some l → ∀ p ∈ l, p.2.length = cs.length := by
  intro ds
  induction ds with
  | nil =>
    intro cs l h p hp
    cases Option.some.inj h
    cases hp
  | cons d r ih =>
    intro cs l h p hp
    unfold lotsF at h
    cases e : lightsF cs d with
    | none =>
      rw [e] at h
      cases h
    | some lit =>
      rw [e] at h
      obtain ⟨l', h1, h2⟩ := Option.map_eq_some_iff.mp h
      subst h2
      rcases List.mem_cons.mp hp with z | z
      · rw [z]
        exact burntF_len _ _ _
      · rw [ih _ _ h1 p z]
        exact burntF_len _ _ _
end LF
/-! ### la_rep: (x,) * k for every k -/
namespace LF
open PySem PySem.Spec PyProof.Rows L2
theorem tup_mul_one (l : Addr) (items : Array Value) (n : Nat) (dd : Option Addr) (sl : Array (Option Value)) (x : Int) (u : Tok) (c0 : (decide (x < -(2 ^ 63)) || decide (x ≥ 2 ^ 63)) = false) (c1 : (items.isEmpty || x == 1) = true) :
    Meets (Builtin.«tuple.__mul__» ⟨[.ref l, .int x u], []⟩) (fun _ R s => s.heap.get? l = some { cls := .type "tuple", dict := dd, data := .seq items n, slots := sl } ∧ R (.ok (.ret (Value.ref l))) s) :=
  .of_wp fun prog w A R s h => by
    obtain ⟨hp, g, d, tk, os⟩ := s
    obtain ⟨hl, h⟩ := h
    have f1 := AutoSeq1.idx_int
    wp_walk using wpAny_loadPart' hl
    repeat (first
      | (refine wpAny_ite_false (decide_eq_false (by rw [c0]; exact Bool.false_ne_true)) ?_; wp_walk using wpAny_loadPart' hl)
      | (refine wpAny_ite_true (decide_eq_true c1) ?_; wp_walk using wpAny_loadPart' hl))
    all_goals exact ⟨_, rfl, h⟩
theorem tup_mul_nought (l : Addr) (items : Array Value) (n : Nat) (dd : Option Addr) (sl : Array (Option Value)) (x : Int) (u : Tok) (c0 : (decide (x < -(2 ^ 63)) || decide (x ≥ 2 ^ 63)) = false) (c1 : (items.isEmpty || x == 1) = false) (c2 : (decide (x ≤ 0) || items.isEmpty) = true) :
    Meets (Builtin.«tuple.__mul__» ⟨[.ref l, .int x u], []⟩) (fun _ R s => s.heap.get? l = some { cls := .type "tuple", dict := dd, data := .seq items n, slots := sl } ∧
      R (.ok (.ret (Value.ref s.heap.objs.size))) { s with heap := s.heap.push { cls := Value.type "tuple", data := Data.seq #[] }, toks := s.toks }) :=
  .of_wp fun prog w A R s h => by
    obtain ⟨hp, g, d, tk, os⟩ := s
    obtain ⟨hl, h⟩ := h
    have f1 := AutoSeq1.idx_int
    wp_walk using wpAny_loadPart' hl
    repeat (first
      | (refine wpAny_ite_false (decide_eq_false (by rw [c0]; exact Bool.false_ne_true)) ?_; wp_walk using wpAny_loadPart' hl)
      | (refine wpAny_ite_false (decide_eq_false (by rw [c1]; exact Bool.false_ne_true)) ?_; wp_walk using wpAny_loadPart' hl)
      | (refine wpAny_ite_true (decide_eq_true c2) ?_; wp_walk using wpAny_loadPart' hl))
    all_goals exact ⟨_, rfl, h⟩
/-- of one thing: the thing so many times -/
def rRepA (K : PySem.W.Frag) : R2 := fun x y H Q => ∃ l k z, x = .ref l ∧ y = .int k ∧ SqT K H l [z] ∧ 0 ≤ k ∧ k ≤ 1000 ∧ (k = 1 → Q (.ref l) H) ∧ (k ≠ 1 → ∀ p, H p = none → Q (.ref p) (upd H p (.tup (List.replicate k.toNat z))))
section
variable {X : Cx}
theorem flat_one {α : Type} (z : α) : ∀ n : Nat, (List.replicate n [z]).flatten = List.replicate n z
  | 0 => rfl
  | n + 1 => by
    rw [List.replicate_succ, List.flatten_cons, flat_one z n]
    rfl
theorem op_repA : OpR X (binaryOp .Mult) (rRepA X.K) := by
  intro pins s σ H x y v u Q I rx ry h
  obtain ⟨l, k, z, rfl, rfl, hT, h1, h2, q1, q2⟩ := h
  by_cases k2 : 2 ≤ k
  · refine op_repT pins s σ H _ _ v u Q I rx ry ⟨l, k, [z], rfl, rfl, hT, (by simp), k2, h2, (by show 1 ≤ 1000; decide), fun p np => ?_⟩
    rw [flat_one]
    exact q2 (by omega) p np
  cases rx
  obtain ⟨t, rfl⟩ := ry
  obtain ⟨its, r, ⟨⟨cls, dd, data, sl⟩, ho, hc, n, hd⟩, hs⟩ := I.tuple hT
  simp only at hc hd
  subst hc hd
  have hle : its.length = 1 := r.length.symm
  have hi : its.toArray.isEmpty = false := by
    cases its with
    | nil => cases hle
    | cons a b => rfl
  have c0 : (decide (k < -(2 ^ 63)) || decide (k ≥ 2 ^ 63)) = false := by
    rw [decide_eq_false (by omega), decide_eq_false (by omega)] <;> rfl
  by_cases k1 : k = 1
  · have c1 : (its.toArray.isEmpty || k == 1) = true := by
      rw [k1, Bool.or_eq_true]
      exact .inr rfl
    exact wpAny_binaryOp_repeat_ref (T := "tuple") (U := "int") (by decide) ⟨_, ho, rfl⟩ (fun s' => typeIs_int s' k t) noFill_tuple_mul F.fills_int_mul F.slot_int_rmul repeat_tuple F.slot_int_index.lookup
      (call_meets F.slot_int_rmul (typeIs_int s k t) F.entry_int_rmul (F.args_int_rmul_2 _ _) (int_rmul_tuple k t l its.toArray n dd sl)
        ⟨ho, rfl, ⟨_, ho, rfl⟩, call_meets F.slot_tuple_mul ⟨_, ho, rfl⟩ F.entry_tuple_mul (F.args_tuple_mul_2 _ _) (tup_mul_one l its.toArray n dd sl k t c0 c1) ⟨ho, ⟨.ref l, H, I, rfl, q1 k1⟩⟩⟩)
  · have k0 : k = 0 := by omega
    have c1 : (its.toArray.isEmpty || k == 1) = false := by
      rw [hi, Bool.false_or]
      exact beq_eq_false_iff_ne.mpr k1
    have c2 : (decide (k ≤ 0) || its.toArray.isEmpty) = true := by
      rw [decide_eq_true (by omega), Bool.true_or]
    refine wpAny_binaryOp_repeat_ref (T := "tuple") (U := "int") (by decide) ⟨_, ho, rfl⟩ (fun s' => typeIs_int s' k t) noFill_tuple_mul F.fills_int_mul F.slot_int_rmul repeat_tuple F.slot_int_index.lookup
      (call_meets F.slot_int_rmul (typeIs_int s k t) F.entry_int_rmul (F.args_int_rmul_2 _ _) (int_rmul_tuple k t l its.toArray n dd sl)
        ⟨ho, rfl, ⟨_, ho, rfl⟩, call_meets F.slot_tuple_mul ⟨_, ho, rfl⟩ F.entry_tuple_mul (F.args_tuple_mul_2 _ _) (tup_mul_nought l its.toArray n dd sl k t c0 c1 c2) ⟨ho, ?_⟩⟩)
    have q := q2 k1 s.heap.objs.size (I.hok.fresh (Nat.le_refl _))
    rw [k0] at q
    refine ⟨.ref s.heap.objs.size, _, I.laid (t' := s.toks) (o := .tup []) (fun b ob e => Heap.get?_push_of_some _ e) (Nat.le_refl _) ?_, rfl, q⟩
    exact ⟨Nat.zero_le _, [], .nil, IsTup.new _ _⟩
theorem repK (K : PySem.W.Frag) (h : X.K = K := by rfl) : OpR X (binaryOp .Mult) (rRepA K) := by subst h; exact op_repA
end
end LF
/-! tuples put together, cut, repeated: whichever object it is -/
namespace LF
open PySem PySem.Spec PyProof.Rows L2
theorem cat_any {K : PySem.W.Frag} {H : Hp} {a b : Addr} {xs ys : List V} {Q : VK} (ha : SqT K H a xs) (hb : SqT K H b ys) (hl : xs.length + ys.length ≤ 1000) (h : ∀ H' p, Same H H' → SqT K H' p (xs ++ ys) → Q (.ref p) H') : rCatA K (.ref a) (.ref b) H Q := by
  refine ⟨a, b, xs, ys, rfl, rfl, ha, hb, sz3 hl, fun e => h H b (Same.refl _) ?_, fun _ e => h H a (Same.refl _) ?_, fun _ _ p np => h _ p (Same.new np) (SqT.of upd_same)⟩
  · rw [e]
    exact hb
  · rw [e, List.append_nil]
    exact ha
theorem sl_any {K : PySem.W.Frag} {H : Hp} {a : Addr} {xs : List V} {lo hi : Option Int} {Q : VK} (ha : SqT K H a xs) (h : ∀ H' p, Same H H' → SqT K H' p (cutV xs lo hi) → Q (.ref p) H') : rSlA K (.ref a) lo hi H Q := by
  refine ⟨a, xs, rfl, ha, fun e => h H a (Same.refl _) ?_, fun _ p np => h _ p (Same.new np) (SqT.of upd_same)⟩
  unfold cutV
  rw [e.1, e.2, List.drop_zero, Nat.sub_zero, List.take_length]
  exact ha
theorem noPart {σ : L2.St} {H : Hp} {Q : Option Int → Hp → Prop} (h : Q none H) : tNoPart σ H Q := h
theorem rep_any {K : PySem.W.Frag} {H : Hp} {a : Addr} {z : V} {k : Int} {Q : VK} (ha : SqT K H a [z]) (h0 : 0 ≤ k) (h1 : k ≤ 1000) (h : ∀ H' p, Same H H' → SqT K H' p (List.replicate k.toNat z) → Q (.ref p) H') : rRepA K (.ref a) (.int k) H Q := by
  refine ⟨a, k, z, rfl, rfl, ha, h0, h1, fun e => h H a (Same.refl _) ?_, fun _ p np => h _ p (Same.new np) (SqT.of upd_same)⟩
  rw [e]
  exact ha
theorem vi_rep (n : Nat) (z : Int) : List.replicate n (V.int z) = vi (List.replicate n z) := List.map_replicate.symm
theorem cut_take (ns : List Int) (k : Nat) (h : k ≤ ns.length) : cutV (vi ns) none (some (k : Int)) = vi (ns.take k) := by
  unfold cutV
  rw [HT.sIx_nat, HT.sIx_none, vi_len, Nat.min_eq_left h, Nat.sub_zero, List.drop_zero]
  exact List.map_take.symm
theorem cut_drop (ns : List Int) (k : Nat) (h : k ≤ ns.length) : cutV (vi ns) (some (k : Int)) none = vi (ns.drop k) := by
  unfold cutV
  rw [HT.sIx_nat, HT.sIx_none, vi_len, Nat.min_eq_left h, List.take_of_length_le (by rw [List.length_drop, vi_len]; exact Nat.le_refl _)]
  exact List.map_drop.symm
theorem set_cut (ds : List Int) (i : Nat) (d : Int) (h : i < ds.length) : ds.take i ++ [d] ++ ds.drop (i + 1) = ds.set i d := by
  rw [List.set_eq_take_append_cons_drop, if_pos h, List.append_assoc]
  rfl
end LF
/-! ### la_can: whether a flame can be kept, told by lots of draughts -/
namespace LF
theorem top_sub : ∀ (L S : List Int), L.Pairwise (· ≤ ·) → S.Sublist L → S.sum ≤ (L.drop (L.length - S.length)).sum := by
  intro L
  induction L with
  | nil =>
    intro S _ h
    rw [List.sublist_nil.mp h]
    exact Int.le_refl _
  | cons x r ih =>
    intro S hp h
    have hp2 := (List.pairwise_cons.mp hp)
    cases h with
    | cons _ h1 =>
      have q := ih S hp2.2 h1
      have hl := h1.length_le
      rw [List.length_cons, show r.length + 1 - S.length = (r.length - S.length) + 1 by omega, List.drop_succ_cons]
      exact q
    | cons_cons _ h1 =>
      rename_i S'
      have q := ih S' hp2.2 h1
      have hl := h1.length_le
      rw [List.length_cons, List.length_cons, Nat.add_sub_add_right, List.sum_cons]
      by_cases e : r.length - S'.length = 0
      · rw [e, List.drop_zero, List.sum_cons]
        rw [e, List.drop_zero] at q
        omega
      · obtain ⟨m, hm⟩ : ∃ m, r.length - S'.length = m + 1 := ⟨r.length - S'.length - 1, by omega⟩
        rw [hm, List.drop_succ_cons]
        rw [hm] at q
        have hml : m < r.length := by omega
        rw [List.drop_eq_getElem_cons hml, List.sum_cons]
        have := hp2.1 r[m] (List.getElem_mem _)
        omega
theorem wnt_sum (ds : List Int) (k : Nat) (h : k ≤ ds.length) : wnt ds k = ((srt ds).drop (ds.length - k)).sum + k := by
  unfold wnt
  rw [sum_succ, List.length_drop, srt_len]
  have e : ds.length - (ds.length - k) = k := by omega
  rw [e]
theorem perm_sum {a b : List Int} (h : a.Perm b) : a.sum = b.sum := by
  induction h with
  | nil => rfl
  | cons x _ ih => rw [List.sum_cons, List.sum_cons, ih]
  | swap x y l =>
    rw [List.sum_cons, List.sum_cons, List.sum_cons, List.sum_cons]
    omega
  | trans _ _ h1 h2 => exact h1.trans h2
/-- each lot of draughts has what it wants -/
theorem can_sub {cs ds : List Int} : can cs ds = true ↔ ∀ S : List Int, S.Sublist ds → S ≠ [] → S.sum + S.length ≤ cnt cs S.length := by
  rw [can_iff]
  constructor
  · intro h S hS hn
    obtain ⟨S', hp, hs⟩ := List.exists_perm_sublist hS (srt_perm ds).symm
    have hl := hS.length_le
    have hpos : 1 ≤ S.length := List.length_pos_iff.mpr hn
    have q := h S.length hpos hl
    rw [wnt_sum ds S.length hl] at q
    have t := top_sub (srt ds) S' (srt_up ds) hs
    rw [perm_sum hp, srt_len, hp.length_eq] at t
    omega
  · intro h k h1 h2
    rw [wnt_sum ds k h2]
    have hs : ((srt ds).drop (ds.length - k)).Sublist (srt ds) := List.drop_sublist _ _
    obtain ⟨S, hp, hS⟩ := List.exists_perm_sublist hs (srt_perm ds)
    have hl : S.length = k := by
      rw [hp.length_eq, List.length_drop, srt_len]
      omega
    have q := h S hS (fun e => by rw [e] at hl; simp at hl; omega)
    rw [hl] at q
    rw [← perm_sum hp]
    exact q
theorem can_perm_ds {cs ds es : List Int} (h : ds.Perm es) : can cs ds = can cs es := by
  have key : ∀ {a b : List Int}, a.Perm b → can cs a = true → can cs b = true := fun {a b} hp hc => by
    rw [can_iff] at *
    intro k h1 h2
    have q := hc k h1 (by rw [hp.length_eq]; exact h2)
    unfold wnt at *
    rw [srt_of_perm hp, hp.length_eq] at q
    exact q
  cases h1 : can cs ds with
  | true => exact (key h h1).symm
  | false =>
    cases h2 : can cs es with
    | false => rfl
    | true =>
      rw [key h.symm h2] at h1
      cases h1
theorem cnt_nil (k : Int) : cnt [] k = 0 := rfl
theorem cnt_cons (c : Int) (r : List Int) (k : Int) : cnt (c :: r) k = (if k < c then k else c) + cnt r k := by
  unfold cnt
  rw [List.map_cons, List.sum_cons]
theorem cnt_app (a b : List Int) (k : Int) : cnt (a ++ b) k = cnt a k + cnt b k := by
  unfold cnt
  rw [List.map_append, List.sum_append]
theorem cnt_perm {a b : List Int} (h : a.Perm b) (k : Int) : cnt a k = cnt b k := perm_sum (h.map _)
theorem cnt_le_sum {cs : List Int} (k : Int) : cnt cs k ≤ cs.sum := by
  induction cs with
  | nil => exact Int.le_refl _
  | cons c r ih =>
    rw [cnt_cons, List.sum_cons]
    by_cases h : k < c
    · rw [if_pos h]
      omega
    · rw [if_neg h]
      omega
theorem cnt_one_le {cs : List Int} : cnt cs 1 ≤ cs.length := by
  induction cs with
  | nil => exact Int.le_refl _
  | cons c r ih =>
    rw [cnt_cons, List.length_cons]
    by_cases h : 1 < c
    · rw [if_pos h]
      omega
    · rw [if_neg h]
      omega
theorem can_perm_cs {a b ds : List Int} (h : a.Perm b) : can a ds = can b ds := by
  unfold can spr
  congr 1
  refine List.map_congr_left fun i _ => ?_
  rw [cnt_perm h]
/-- the draught that is strongest is less than candles are many -/
theorem can_lt {cs ds : List Int} (h : can cs ds = true) {d : Int} (hd : d ∈ ds) : d + 1 ≤ cs.length := by
  have q := can_sub.mp h [d] (List.singleton_sublist.mpr hd) (by simp)
  have e : ([d] : List Int).sum = d := by
    rw [List.sum_cons]
    exact Int.add_zero d
  rw [e] at q
  have := cnt_one_le (cs := cs)
  have q : d + 1 ≤ cnt cs 1 := q
  omega
/-! many ticks of one draught -/
theorem sum_rep (n : Nat) (z : Int) : (List.replicate n z).sum = n * z := by
  induction n with
  | zero =>
    rw [List.replicate_zero]
    show (0 : Int) = ((0 : Nat) : Int) * z
    rw [Int.natCast_zero, Int.zero_mul]
  | succ n ih =>
    rw [List.replicate_succ, List.sum_cons, ih]
    have e : ((n + 1 : Nat) : Int) = (n : Int) + 1 := by omega
    rw [e, Int.add_mul, Int.one_mul, Int.add_comm]
theorem srt_rep (n : Nat) (d : Int) : srt (List.replicate n d) = List.replicate n d :=
  (srt_is (List.Perm.refl _) (List.pairwise_replicate.mpr (.inr (Int.le_refl d)))).symm
theorem wnt_rep (n k : Nat) (d : Int) (h : k ≤ n) : wnt (List.replicate n d) k = k * (d + 1) := by
  rw [wnt_sum _ _ (by rw [List.length_replicate]; exact h), srt_rep, List.length_replicate, List.drop_replicate, sum_rep]
  have e : n - (n - k) = k := by omega
  rw [e, Int.mul_add, Int.mul_one]
theorem can_rep {cs : List Int} {n : Nat} {d : Int} : can cs (List.replicate n d) = true ↔ ∀ k : Nat, 1 ≤ k → k ≤ n → (k : Int) * (d + 1) ≤ cnt cs k := by
  rw [can_iff, List.length_replicate]
  constructor
  · intro h k h1 h2
    have q := h k h1 h2
    rw [wnt_rep n k d h2] at q
    exact q
  · intro h k h1 h2
    rw [wnt_rep n k d h2]
    exact h k h1 h2
/-- for more ticks a candle has no more to each -/
theorem cnt_slope {cs : List Int} (h0 : ∀ c ∈ cs, 0 ≤ c) {k t : Int} (hk : 0 ≤ k) (hkt : k ≤ t) : k * cnt cs t ≤ t * cnt cs k := by
  induction cs with
  | nil =>
    rw [cnt_nil, cnt_nil, Int.mul_zero, Int.mul_zero]
    exact Int.le_refl _
  | cons c r ih =>
    have ih := ih fun x hx => h0 x (List.mem_cons_of_mem _ hx)
    have hc := h0 c List.mem_cons_self
    rw [cnt_cons, cnt_cons, Int.mul_add, Int.mul_add]
    have one : k * (if t < c then t else c) ≤ t * (if k < c then k else c) := by
      by_cases h1 : t < c
      · rw [if_pos h1, if_pos (by omega), Int.mul_comm]
        exact Int.le_refl _
      · rw [if_neg h1]
        by_cases h2 : k < c
        · rw [if_pos h2, Int.mul_comm t k]
          exact Int.mul_le_mul_of_nonneg_left (by omega) hk
        · rw [if_neg h2]
          exact Int.mul_le_mul_of_nonneg_right hkt hc
    omega
theorem can_rep2 {cs : List Int} (h0 : ∀ c ∈ cs, 0 ≤ c) {n : Nat} {d : Int} (hn : 1 ≤ n) : can cs (List.replicate n d) = true ↔ (n : Int) * (d + 1) ≤ cnt cs n := by
  rw [can_rep]
  constructor
  · intro h
    exact h n hn (Nat.le_refl _)
  · intro h k h1 h2
    have s := cnt_slope h0 (k := (k : Int)) (t := (n : Int)) (by omega) (by omega)
    have a : (k : Int) * ((n : Int) * (d + 1)) ≤ (k : Int) * cnt cs n := Int.mul_le_mul_of_nonneg_left h (by omega)
    have e : (k : Int) * ((n : Int) * (d + 1)) = (n : Int) * ((k : Int) * (d + 1)) := Int.mul_left_comm _ _ _
    rw [e] at a
    exact Int.le_of_mul_le_mul_left (Int.le_trans a s) (by omega)
theorem can_rep_mono {cs : List Int} {n m : Nat} {d : Int} (h : can cs (List.replicate n d) = true) (hm : m ≤ n) : can cs (List.replicate m d) = true := by
  rw [can_rep] at *
  exact fun k h1 h2 => h k h1 (Nat.le_trans h2 hm)
theorem can_rep_le {cs : List Int} {n : Nat} {d : Int} (hd : 0 ≤ d) (h : can cs (List.replicate n d) = true) : (n : Int) ≤ cs.sum ∨ n = 0 := by
  by_cases hn : n = 0
  · exact .inr hn
  · rw [can_rep] at h
    have q := h n (by omega) (Nat.le_refl _)
    have q2 := cnt_le_sum (cs := cs) (n : Int)
    have q3 : (n : Int) * 1 ≤ (n : Int) * (d + 1) := Int.mul_le_mul_of_nonneg_left (by omega) (by omega)
    rw [Int.mul_one] at q3
    exact .inl (by omega)
theorem can_nil (cs : List Int) : can cs [] = true := rfl
end LF
/-! ### la_min: the least of a list of (int, ints) -/
namespace LF
open PySem PySem.Spec PyProof.Rows L2
abbrev rowD (r : Int × List Int) : PyData := .tuple [.int r.1, .tuple (di r.2)]
theorem di_inj : ∀ {a b : List Int}, di a = di b → a = b
  | [], [], _ => rfl
  | [], _ :: _, h => by cases h
  | _ :: _, [], h => by cases h
  | x :: a, y :: b, h => by
    injection h with h1 h2
    injection h1 with h1
    rw [h1, di_inj h2]
theorem rowD_inj {r q : Int × List Int} (h : rowD r = rowD q) : r = q := by
  obtain ⟨k, c⟩ := r
  obtain ⟨k', c'⟩ := q
  injection h with h
  injection h with h1 h2
  injection h1 with h1
  injection h2 with h2 _
  injection h2 with h2
  have h1 : k = k' := h1
  have h2 : c = c' := di_inj h2
  rw [h1, h2]
/-- the least row, as data -/
def best : List (Int × List Int) → PyData
  | [] => .none
  | r :: rs => PySem.W.minD (rowD r) (rs.map rowD)
def VS (K : PySem.W.Frag) (H : Hp) (v : V) (c : List Int) : Prop := ∃ t, v = .ref t ∧ SqT K H t (vi c)
theorem sqt_keep {K : PySem.W.Frag} {H H' : Hp} {D a : Addr} {acc xs : List V} (h : H D = some (.lst acc)) (s : Smt D H H') (e : SqT K H a xs) : SqT K H' a xs := by
  rcases e with (e | ⟨o, e⟩) | e
  · refine .inl (.inl (s a _ e fun z => ?_))
    rw [z, h] at e
    cases e
  · refine .inl (.inr ⟨o, s a _ e fun z => ?_⟩)
    rw [z, h] at e
    cases e
  · exact .inr e
theorem VS.keep {K : PySem.W.Frag} {H H' : Hp} {D : Addr} {acc : List V} {v : V} {c : List Int} (h : H D = some (.lst acc)) (s : Smt D H H') (r : VS K H v c) : VS K H' v c := by
  obtain ⟨t, e, ht⟩ := r
  exact ⟨t, e, sqt_keep h s ht⟩
theorem VS.same {K : PySem.W.Frag} {H H' : Hp} {v : V} {c : List Int} (s : Same H H') (r : VS K H v c) : VS K H' v c := by
  obtain ⟨t, e, ht⟩ := r
  exact ⟨t, e, s.sqt ht⟩
/-- a row: its number and its lot -/
def RV (K : PySem.W.Frag) (H : Hp) (v : V) (r : Int × List Int) : Prop := ∃ t u, v = .ref t ∧ H t = some (.tup [.int r.1, .ref u]) ∧ SqT K H u (vi r.2)
theorem RV.keep {K : PySem.W.Frag} {H H' : Hp} {D : Addr} {acc : List V} {v : V} {r : Int × List Int} (h : H D = some (.lst acc)) (s : Smt D H H') (q : RV K H v r) : RV K H' v r := by
  obtain ⟨t, u, e, ht, hu⟩ := q
  refine ⟨t, u, e, s t _ ht fun z => ?_, sqt_keep h s hu⟩
  rw [z, h] at ht
  cases ht
theorem RV.same {K : PySem.W.Frag} {H H' : Hp} {v : V} {r : Int × List Int} (s : Same H H') (q : RV K H v r) : RV K H' v r := by
  obtain ⟨t, u, e, ht, hu⟩ := q
  exact ⟨t, u, e, s t _ ht, s.sqt hu⟩
theorem dp_row {K : PySem.W.Frag} {H : Hp} {v : V} {r : Int × List Int} (q : RV K H v r) : Dp K H v (rowD r) := by
  obtain ⟨t, u, e, ht, hu⟩ := q
  subst e
  exact .tup (SqT.of ht) (.cons (.int r.1) (.cons (dp_tup hu) .nil))
theorem dp_rows {K : PySem.W.Frag} {H : Hp} : ∀ {xs : List V} {rows : List (Int × List Int)}, Paired (RV K H) xs rows → DpAll K H xs (rows.map rowD)
  | _, _, .nil => .nil
  | _, _, .cons q t => .cons (dp_row q) (dp_rows t)
theorem alike_ints : ∀ a b : List Int, PySem.W.alikeAll (di a) (di b) = true
  | [], _ => by simp only [List.map_nil, PySem.W.alikeAll]
  | _ :: _, [] => by simp only [List.map_nil, List.map_cons, PySem.W.alikeAll]
  | x :: a, y :: b => by
    show PySem.W.alikeAll (.int x :: di a) (.int y :: di b) = true
    simp only [PySem.W.alikeAll, PySem.W.alike, alike_ints a b, Bool.true_and]
theorem alike_rows (rows : List (Int × List Int)) : PySem.W.AlikeAll (rows.map rowD) := by
  constructor
  · intro x hx y hy
    obtain ⟨r, _, rfl⟩ := List.mem_map.mp hx
    obtain ⟨q, _, rfl⟩ := List.mem_map.mp hy
    simp only [PySem.W.alikeAll, PySem.W.alike, alike_ints r.2 q.2, Bool.true_and]
  · intro x hx
    obtain ⟨r, _, rfl⟩ := List.mem_map.mp hx
    exact fun z => by cases z
theorem okd_row (r : Int × List Int) : Okd 2 (rowD r) := okd_tup fun d hd => by
  rcases List.mem_cons.mp hd with rfl | hd
  · exact okd_int 1 _
  · rcases List.mem_cons.mp hd with rfl | hd
    · exact okd_tup (okd_ints 0 _)
    · cases hd
theorem depth_rows (rows : List (Int × List Int)) : PyData.canLayAll0 (rows.map rowD) = true ∧ PyData.depthAll (rows.map rowD) ≤ 2 := okd_all fun d hd => by
  obtain ⟨r, _, rfl⟩ := List.mem_map.mp hd
  exact okd_row r
theorem paired_get2 {α β : Type} {F : α → β → Prop} : ∀ {xs : List α} {ys : List β} {i : Nat} {y : β}, Paired F xs ys → ys[i]? = some y → ∃ x, xs[i]? = some x ∧ F x y
  | _, _, i, _, .nil, e => by simp at e
  | _, _, 0, _, .cons h _, e => by
    cases Option.some.inj e
    exact ⟨_, rfl, h⟩
  | _, _, i + 1, _, .cons _ t, e => paired_get2 (i := i) t e
theorem readsAll_get {h : Heap} : ∀ {vs : List Value} {ds : List PyData} {as : List Addr} {i : Nat} {u : Value}, ReadsAll h vs ds as → vs[i]? = some u → ∃ d bs, ds[i]? = some d ∧ Reads h u d bs
  | _, _, _, i, _, .nil, e => by simp at e
  | _, _, _, 0, _, .cons r _, e => by
    cases Option.some.inj e
    exact ⟨_, _, rfl, r⟩
  | _, _, _, i + 1, _, .cons _ t, e => readsAll_get (i := i) t e
section
variable {X : Cx}
def rMinR (K : PySem.W.Frag) : List V → Hp → VK → Prop := fun vs H Q => ∃ (a : Addr) (xs : List V) (rows : List (Int × List Int)), vs = [V.ref a] ∧ SqL K H a xs ∧ Paired (RV K H) xs rows ∧ rows ≠ [] ∧ ∀ v r, RV K H v r → rowD r = best rows → r ∈ rows → Q v H
theorem cr_minR (hu : X.A.units + 64 < cLine) (hc : X.calm = true) : CallR X (.builtin "min") (rMinR X.K) := by
  intro pins s σ H vs us Q I rr h
  obtain ⟨a, xs, rows, rfl, hS, hp, hne, q⟩ := h
  obtain ⟨its, rv, hl, _⟩ := I.list hS
  rw [Vals.ref1 rr]
  cases rows with
  | nil => exact absurd rfl hne
  | cons r0 rs =>
    obtain ⟨as, ra⟩ := Dp.readsAll I ((r0 :: rs).map rowD) xs its (dp_rows hp) rv
    have hdep := depth_rows (r0 :: rs)
    refine PySem.W.min_list_data (I.ok.hd hc) hl.isList (x := rowD r0) (xs := rs.map rowD) ra (alike_rows (r0 :: rs)) (by have := hdep.2; show X.A.units + 1 + PyData.depthAll ((r0 :: rs).map rowD) < _; omega) fun i u h' tk bs hi hr hk => ?_
    have hi : its[i]? = some u := by
      rw [← hi]
      simp
    have hx : ∃ v, xs[i]? = some v := by
      have hlen := rv.length
      have hi2 := (List.getElem?_eq_some_iff.mp hi).1
      exact ⟨xs[i]'(by omega), List.getElem?_eq_getElem (by omega)⟩
    obtain ⟨v, hv⟩ := hx
    obtain ⟨r, hr1, hrv⟩ := paired_get hp hv
    obtain ⟨u', hu', hrel⟩ := rv.get hv
    rw [hi] at hu'
    cases Option.some.inj hu'
    obtain ⟨d, bs', hd, hrd⟩ := readsAll_get ra hi
    rw [List.getElem?_map, hr1] at hd
    cases Option.some.inj hd
    have e : rowD r = best (r0 :: rs) := SeqAt.Reads.unique _ _ _ _ _ (okd_row r).1 (Reads.keeps hk hrd) hr
    exact ⟨v, H, I.kept hk, hrel, q v r hrv e (List.mem_of_getElem? hr1)⟩
theorem minRK (K : PySem.W.Frag) (hu : X.A.units + 64 < cLine) (h : X.K = K := by rfl) (hc : X.calm = true := by rfl) : CallR X (.builtin "min") (rMinR K) := by subst h; exact cr_minR hu hc
end
theorem eqv_rows_nil (rows : List (Int × List Int)) : PyData.eqv (.list (rows.map rowD)) (.list (di [])) = rows.isEmpty := by
  rw [eqv_nil]
  cases rows <;> rfl
theorem shaped_rows (rows : List (Int × List Int)) : SeqAt.shaped (.list (rows.map rowD)) = true := (okd_list (n := 2) fun d hd => by
  obtain ⟨r, _, rfl⟩ := List.mem_map.mp hd
  exact okd_row r).shaped (by decide)
end LF
/-! ### la_add: what must be added, what can be spared -/
namespace LF
/-- the stubs that are lacking -/
def Stb (cs ds : List Int) (m : Int) : Prop := 0 ≤ m ∧ (∀ k, 1 ≤ k → k ≤ ds.length → wnt ds k ≤ cnt cs k + m) ∧ (0 < m → ∃ k, 1 ≤ k ∧ k ≤ ds.length ∧ wnt ds k = cnt cs k + m)
theorem stb_of {cs ds : List Int} {m : Int} (h1 : m ∈ 0 :: (spr cs ds).map fun s => -s) (h2 : ∀ y, y ∈ 0 :: (spr cs ds).map (fun s => -s) → y ≤ m) : Stb cs ds m := by
  have h0 := h2 0 List.mem_cons_self
  refine ⟨h0, fun k k1 k2 => ?_, fun hm => ?_⟩
  · have e1 : k - 1 + 1 = k := by omega
    have e2 : ((k - 1 : Nat) : Int) + 1 = (k : Int) := by omega
    have q := h2 (-(cnt cs (((k - 1 : Nat) : Int) + 1) - wnt ds (k - 1 + 1))) (List.mem_cons_of_mem _ (List.mem_map.mpr ⟨_, List.mem_map.mpr ⟨k - 1, List.mem_range.mpr (by omega), rfl⟩, rfl⟩))
    rw [e1, e2] at q
    omega
  · rcases List.mem_cons.mp h1 with z | z
    · omega
    · obtain ⟨s, hs, e⟩ := List.mem_map.mp z
      obtain ⟨i, hi, e2⟩ := List.mem_map.mp hs
      have hi := List.mem_range.mp hi
      have e3 : ((i + 1 : Nat) : Int) = (i : Int) + 1 := by omega
      refine ⟨i + 1, by omega, by omega, ?_⟩
      rw [e3]
      omega
theorem cnt_rep1 (n : Nat) (k : Int) (hk : 1 ≤ k) : cnt (List.replicate n 1) k = n := by
  unfold cnt
  rw [List.map_replicate, if_neg (by omega), sum_rep, Int.mul_one]
theorem cnt_one (w k : Int) : cnt [w] k = if k < w then k else w := by
  rw [cnt_cons, cnt_nil, Int.add_zero]
theorem stb_can {cs ds : List Int} {m : Int} (h : Stb cs ds m) : can (cs ++ List.replicate m.toNat 1) ds = true := by
  refine (can_iff _ _).mpr fun k k1 k2 => ?_
  rw [cnt_app, cnt_rep1 _ _ (by omega), Int.toNat_of_nonneg h.1]
  exact h.2.1 k k1 k2
theorem stb_not {cs ds : List Int} {m : Int} (h : Stb cs ds m) (hm : 0 < m) : can (cs ++ List.replicate (m - 1).toNat 1) ds = false := by
  cases c : can (cs ++ List.replicate (m - 1).toNat 1) ds with
  | false => rfl
  | true =>
    obtain ⟨k, k1, k2, e⟩ := h.2.2 hm
    have q := (can_iff _ _).mp c k k1 k2
    rw [cnt_app, cnt_rep1 _ _ (by omega), Int.toNat_of_nonneg (by omega)] at q
    omega
/-- if any candle more is enough, one of that wax is -/
theorem one_of {cs ds : List Int} {m w : Int} (h : Stb cs ds m) (c : can (cs ++ [w]) ds = true) : can (cs ++ [m]) ds = true := by
  refine (can_iff _ _).mpr fun k k1 k2 => ?_
  have q := (can_iff _ _).mp c k k1 k2
  have q2 := h.2.1 k k1 k2
  rw [cnt_app, cnt_one] at q ⊢
  by_cases a : (k : Int) < w
  · rw [if_pos a] at q
    by_cases b : (k : Int) < m
    · rw [if_pos b]
      exact q
    · rw [if_neg b]
      exact q2
  · rw [if_neg a] at q
    by_cases b : (k : Int) < m
    · rw [if_pos b]
      omega
    · rw [if_neg b]
      exact q2
theorem one_not {cs ds : List Int} {m : Int} (h : Stb cs ds m) (hm : 0 < m) : can (cs ++ [m - 1]) ds = false := by
  cases c : can (cs ++ [m - 1]) ds with
  | false => rfl
  | true =>
    obtain ⟨k, k1, k2, e⟩ := h.2.2 hm
    have q := (can_iff _ _).mp c k k1 k2
    rw [cnt_app, cnt_one] at q
    by_cases a : (k : Int) < m - 1
    · rw [if_pos a] at q
      omega
    · rw [if_neg a] at q
      omega
theorem sub_sum {S ds : List Int} (h : S.Sublist ds) (h0 : ∀ d ∈ ds, 0 ≤ d) : S.sum ≤ ds.sum := by
  induction h with
  | slnil => exact Int.le_refl _
  | cons a h ih =>
    rw [List.sum_cons]
    have := ih fun d hd => h0 d (List.mem_cons_of_mem _ hd)
    have := h0 a List.mem_cons_self
    omega
  | cons_cons a h ih =>
    rw [List.sum_cons, List.sum_cons]
    have := ih fun d hd => h0 d (List.mem_cons_of_mem _ hd)
    omega
theorem cnt_nonneg {cs : List Int} (h0 : ∀ c ∈ cs, 0 ≤ c) {k : Int} (hk : 0 ≤ k) : 0 ≤ cnt cs k := by
  induction cs with
  | nil => exact Int.le_refl _
  | cons c r ih =>
    have := ih fun x hx => h0 x (List.mem_cons_of_mem _ hx)
    have := h0 c List.mem_cons_self
    rw [cnt_cons]
    by_cases a : k < c
    · rw [if_pos a]
      omega
    · rw [if_neg a]
      omega
theorem cnt_sub {S cs : List Int} (h : S.Sublist cs) (h0 : ∀ c ∈ cs, 0 ≤ c) {k : Int} (hk : 0 ≤ k) : cnt S k ≤ cnt cs k := by
  unfold cnt
  refine sub_sum (h.map _) fun d hd => ?_
  obtain ⟨c, hc, rfl⟩ := List.mem_map.mp hd
  have := h0 c hc
  show 0 ≤ if k < c then k else c
  by_cases a : k < c
  · rw [if_pos a]
    exact hk
  · rw [if_neg a]
    exact this
theorem can_sub_cs {S cs ds : List Int} (h : S.Sublist cs) (h0 : ∀ c ∈ cs, 0 ≤ c) (c : can S ds = true) : can cs ds = true :=
  (can_iff _ _).mpr fun k k1 k2 => Int.le_trans ((can_iff _ _).mp c k k1 k2) (cnt_sub h h0 (by omega))
theorem stb_le {cs ds : List Int} {m b : Int} (h : Stb cs ds m) (h0 : ∀ c ∈ cs, 0 ≤ c) (hd : ∀ d ∈ ds, 0 ≤ d ∧ d ≤ b) (hb : 0 ≤ b) : m ≤ (b + 1) * ds.length := by
  have hpos : 0 ≤ (b + 1) * (ds.length : Int) := Int.mul_nonneg (by omega) (by omega)
  by_cases hm : 0 < m
  · obtain ⟨k, k1, k2, e⟩ := h.2.2 hm
    have hc := cnt_nonneg h0 (k := (k : Int)) (by omega)
    have hw : wnt ds k ≤ (b + 1) * ds.length := by
      rw [wnt_sum _ _ k2]
      have hs : ((srt ds).drop (ds.length - k)).sum ≤ (srt ds).sum := sub_sum (List.drop_sublist _ _) fun d hd' => (hd d ((srt_perm ds).mem_iff.mp hd')).1
      rw [perm_sum (srt_perm ds)] at hs
      have hsum : ∀ l : List Int, (∀ d ∈ l, d ≤ b) → l.sum ≤ b * l.length := by
        intro l
        induction l with
        | nil =>
          intro _
          show (0 : Int) ≤ b * ((0 : Nat) : Int)
          rw [Int.natCast_zero, Int.mul_zero]
          exact Int.le_refl _
        | cons x r ih =>
          intro hl
          have := ih fun d hd => hl d (List.mem_cons_of_mem _ hd)
          have := hl x List.mem_cons_self
          have e : ((r.length + 1 : Nat) : Int) = (r.length : Int) + 1 := by omega
          rw [List.sum_cons, List.length_cons, e, Int.mul_add, Int.mul_one]
          omega
      have := hsum ds fun d h => (hd d h).2
      rw [Int.add_mul, Int.one_mul]
      omega
    omega
  · omega
/-- the lots of some places, one by one -/
def lotsPF (ps : List Int) : List (List Int) := ps.foldl (fun found p => found ++ found.map (· ++ [p])) [[]]
theorem lotsPF_snoc (ps : List Int) (p : Int) : lotsPF (ps ++ [p]) = lotsPF ps ++ (lotsPF ps).map (· ++ [p]) := by
  unfold lotsPF
  rw [List.foldl_append]
  rfl
theorem lotsPF_len (ps : List Int) : (lotsPF ps).length = 2 ^ ps.length := by
  suffices h : ∀ (ps : List Int) (acc : List (List Int)), (ps.foldl (fun found p => found ++ found.map (· ++ [p])) acc).length = acc.length * 2 ^ ps.length by
    rw [lotsPF, h ps [[]]]
    show 1 * _ = _
    rw [Nat.one_mul]
  intro ps
  induction ps with
  | nil => intro acc; simp
  | cons p r ih =>
    intro acc
    rw [List.foldl_cons, ih, List.length_append, List.length_map, List.length_cons, Nat.pow_succ]
    have : acc.length + acc.length = acc.length * 2 := by omega
    rw [this, Nat.mul_assoc, Nat.mul_comm 2]
theorem lotsPF_nil_mem (ps : List Int) : [] ∈ lotsPF ps := by
  suffices h : ∀ (ps : List Int) (acc : List (List Int)), [] ∈ acc → [] ∈ ps.foldl (fun found p => found ++ found.map (· ++ [p])) acc from h ps [[]] List.mem_cons_self
  intro ps
  induction ps with
  | nil => intro acc h; exact h
  | cons p r ih =>
    intro acc h
    rw [List.foldl_cons]
    exact ih _ (List.mem_append_left _ h)
theorem lotsPF_lens (ps : List Int) : ∀ l ∈ lotsPF ps, l.length ≤ ps.length := by
  suffices h : ∀ (ps : List Int) (acc : List (List Int)) (n : Nat), (∀ l ∈ acc, l.length ≤ n) → ∀ l ∈ ps.foldl (fun found p => found ++ found.map (· ++ [p])) acc, l.length ≤ n + ps.length by
    intro l hl
    have := h ps [[]] 0 (fun l hl => by
      rcases List.mem_cons.mp hl with rfl | hl
      · exact Nat.le_refl _
      · cases hl) l hl
    omega
  intro ps
  induction ps with
  | nil => intro acc n h l hl; exact h l hl
  | cons p r ih =>
    intro acc n h l hl
    rw [List.foldl_cons] at hl
    have := ih _ (n + 1) (fun l hl => by
      rcases List.mem_append.mp hl with hl | hl
      · exact Nat.le_succ_of_le (h l hl)
      · obtain ⟨x, hx, rfl⟩ := List.mem_map.mp hl
        rw [List.length_append]
        exact Nat.succ_le_succ (h x hx)) l hl
    rw [List.length_cons]
    omega
/-- the candles without those at the places of a lot -/
def remF (cs lot : List Int) : List Int := (List.range cs.length).filterMap fun (i : Nat) => if (i : Int) ∈ lot then none else cs[i]?
theorem rem_sub_gen (cs : List Int) : ∀ p : Nat → Bool, ((List.range cs.length).filterMap fun i => if p i then none else cs[i]?).Sublist cs := by
  induction cs with
  | nil => intro p; exact List.Sublist.refl _
  | cons c r ih =>
    intro p
    rw [List.length_cons, List.range_succ_eq_map, List.filterMap_cons, List.filterMap_map]
    have q := ih fun i => p (i + 1)
    have e : (List.range r.length).filterMap ((fun i => if p i then none else (c :: r)[i]?) ∘ Nat.succ) = (List.range r.length).filterMap fun i => if p (i + 1) then none else r[i]? := rfl
    rw [e]
    by_cases h : p 0 = true
    · rw [if_pos h]
      exact q.cons c
    · rw [if_neg h]
      exact q.cons_cons c
theorem rem_sub (cs lot : List Int) : (remF cs lot).Sublist cs := by
  have q := rem_sub_gen cs fun i => decide ((i : Int) ∈ lot)
  simp only [decide_eq_true_eq] at q
  exact q
theorem rem_nil (cs : List Int) : remF cs [] = cs := by
  have e := fm_get (fun x : Int => some x) cs
  rw [List.filterMap_some] at e
  unfold remF
  refine Eq.trans ?_ e
  congr 1
  funext i
  rw [if_neg (fun h => nomatch h)]
  cases cs[i]? <;> rfl
def rowOf (cs ds lot : List Int) : Option (Int × List Int) := if can (remF cs lot) ds then some (-(lot.length : Int), lot) else none
/-- the lots that can be spared -/
def rowsP (cs ds : List Int) (lots : List (List Int)) : List (Int × List Int) := lots.filterMap (rowOf cs ds)
def placesF (cs : List Int) : List Int := (List.range cs.length).map fun (i : Nat) => (i : Int)
def sparedF (cs ds : List Int) : List (Int × List Int) := rowsP cs ds (lotsPF (placesF cs))
theorem spared_can {cs ds : List Int} (h : can cs ds = true) : sparedF cs ds ≠ [] := by
  intro e
  have q : ((-(([] : List Int).length : Int)), ([] : List Int)) ∈ sparedF cs ds := List.mem_filterMap.mpr ⟨[], lotsPF_nil_mem _, by rw [rowOf, rem_nil, h]; rfl⟩
  rw [e] at q
  cases q
theorem spared_not {cs ds : List Int} (h0 : ∀ c ∈ cs, 0 ≤ c) (h : can cs ds = false) : sparedF cs ds = [] := by
  refine List.filterMap_eq_nil_iff.mpr fun lot _ => ?_
  unfold rowOf
  cases c : can (remF cs lot) ds with
  | false => rfl
  | true =>
    rw [can_sub_cs (rem_sub cs lot) h0 c] at h
    cases h
theorem rowsP_snoc (cs ds : List Int) (l : List (List Int)) (lot : List Int) : rowsP cs ds (l ++ [lot]) = rowsP cs ds l ++ (rowOf cs ds lot).toList := by
  unfold rowsP
  rw [List.filterMap_append, List.filterMap_cons, List.filterMap_nil]
  cases rowOf cs ds lot <;> rfl
end LF
namespace LF
open PySem PySem.Spec PyProof.Rows L2
/-- all lots of some places, as a list of tuples -/
def LotsQ (K : PySem.W.Frag) (H : Hp) (Q : VK) (ps : List Int) : Prop := ∀ H' p xs, Same H H' → H p = none → H' p = some (.lst xs) → Paired (VS K H') xs (lotsPF ps) → Q (.ref p) H'
/-- how many lots -/
theorem lots_small {ps : List Int} (h : ps.length ≤ 8) : (lotsPF ps).length ≤ 256 := by
  rw [lotsPF_len]
  exact Nat.le_trans (Nat.pow_le_pow_right (by decide) h) (by decide)
end LF
namespace LF
open PySem PySem.Spec PyProof.Rows L2
def topS (i : Nat) : Stmt := PySem.Challenge.pw_lastflame_k09_whole_what_must_be_added_a.main.body.getD i (.Pass ⟨0, 0, 0, 0⟩)
section
variable {P : Program} {w : World} {K : PySem.W.Frag} {mg : Str → Option Value} {base : Heap}
/-! def counted -/
abbrev s_counted : Stmt := topS 1
theorem sc_counted : FnScope ["candles", "ticks", "wax"] ["candles", "ticks"] (defScope s_counted) := ⟨rfl, rfl, rfl, by decide +kernel, rfl, by decide +kernel, by decide +kernel⟩
def spCounted (K : PySem.W.Frag) : Sp := fun vs H Q _ => ∃ (a : Addr) (cs : List Int) (k : Int), vs = [.ref a, .int k] ∧ SqT K H a (vi cs) ∧ cs.length ≤ 1000 ∧ ∀ H', Same H H' → Q (.int (cnt cs k)) H'
theorem ok_counted {f : Addr} {fd : FuncData} (T : Bl mg) (F : Fun K "counted" "counted" s_counted f fd) : FnOk P w K mg base CX0 1 f fd ["candles", "ticks"] (spCounted K) := by
  refine F.ok sc_counted (fun vs H Q E h => ?_) (fun cdv A outer s H vs Q E hr h => ?_)
  · obtain ⟨a, cs, k, rfl, _⟩ := h
    rfl
  obtain ⟨a, cs, k, rfl, hS, hl, q⟩ := h
  refine ⟨_, (pss_one (ps_ret (pe_callB (sumK K) rfl T.sum (by decide +kernel) (pa_cons (pe_lc (own := [("wax", 2)]) rfl sc_counted.nd (piT K (pv 0)) (blkOk_by (N := ["candles", "ticks", "wax"]) (sc := defScope s_counted) (own := [("wax", 2)]) (by decide +kernel)) (fun _ _ _ _ _ => (pg_name (i := 2) sc_counted.nd rfl (.inl rfl))) (fun _ _ _ _ _ => pts_nil) (fun _ _ _ _ _ => (pe_callB (call_min2 rfl) rfl T.min (by decide +kernel) (pa_cons (pv 2) (pa_cons (pv 1) pa_nil))))) pa_nil)))), ?_⟩
  refine ⟨_, rfl, a, rfl, ⟨_, hS⟩, fun D hD => lc_ints (walk_tup (xs := vi cs)) hD (by rw [vi_len]; exact hl) (fun i => cs[i]?.bind fun w => some (if k < w then k else w)) (fun H' s => s.sqt hS) (fun i x H1 H' kn ky hi sm y h1 h2 => ?_) (fun H1 sm e => ?_)⟩
  · obtain ⟨rfl, hx⟩ := y
    obtain ⟨z, hz, rfl⟩ := vi_get hx
    exact ⟨rfl, lc_yes ⟨_, rfl, _, rfl, _, _, rfl, h2 _ _ (Same.refl _) (by rw [hz]; rfl)⟩⟩
  · rw [vi_len, fm_at] at e
    exact ⟨D, _, rfl, SqL.of e, q _ sm⟩
/-! def wanted -/
abbrev s_wanted : Stmt := topS 2
theorem sc_wanted : FnScope ["draughts", "ticks", "draught"] ["draughts", "ticks"] (defScope s_wanted) := ⟨rfl, rfl, rfl, by decide +kernel, rfl, by decide +kernel, by decide +kernel⟩
theorem cutV_from (xs : List V) (n k : Nat) (h : (n : Int) - (k : Int) = ((n - k : Nat) : Int)) : cutV xs (some ((n : Int) - (k : Int))) none = xs.drop (n - k) := by
  unfold cutV
  rw [h, HT.sIx_nat, HT.sIx_none]
  by_cases c : n - k ≤ xs.length
  · rw [show min (n - k) xs.length = n - k by omega]
    exact List.take_of_length_le (by rw [List.length_drop]; omega)
  · rw [show min (n - k) xs.length = xs.length by omega, Nat.sub_self, List.take_zero]
    exact (List.drop_of_length_le (by omega)).symm
def spWanted (K : PySem.W.Frag) : Sp := fun vs H Q _ => ∃ (a : Addr) (ds : List Int) (k : Nat), vs = [.ref a, .int (k : Int)] ∧ SqT K H a (vi ds) ∧ ds.length ≤ 1000 ∧ k ≤ ds.length ∧ ∀ H', Same H H' → Q (.int (wnt ds k)) H'
theorem ok_wanted {f : Addr} {fd : FuncData} (T : Bl mg) (F : Fun K "wanted" "wanted" s_wanted f fd) : FnOk P w K mg base CX0 1 f fd ["draughts", "ticks"] (spWanted K) := by
  refine F.ok sc_wanted (fun vs H Q E h => ?_) (fun cdv A outer s H vs Q E hr h => ?_)
  · obtain ⟨a, ds, k, rfl, _⟩ := h
    rfl
  obtain ⟨a, ds, k, rfl, hS, hl, hk, q⟩ := h
  refine ⟨_, (pss_one (ps_ret (pe_callB (sumK K) rfl T.sum (by decide +kernel) (pa_cons (pe_lc (own := [("draught", 2)]) rfl sc_wanted.nd (piL K (pe_slice (slL K) (pe_callB (sortedTK K) rfl T.sorted (by decide +kernel) (pa_cons (pv 0) pa_nil)) (po_some (pe_op op_sub (pe_callB (lenK K) rfl T.len (by decide +kernel) (pa_cons (pv 0) pa_nil)) (pv 1))) po_none)) (blkOk_by (N := ["draughts", "ticks", "draught"]) (sc := defScope s_wanted) (own := [("draught", 2)]) (by decide +kernel)) (fun _ _ _ _ _ => (pg_name (i := 2) sc_wanted.nd rfl (.inl rfl))) (fun _ _ _ _ _ => pts_nil) (fun _ _ _ _ _ => (pe_op op_add (pv 2) pe_int))) pa_nil)))), ?_⟩
  refine ⟨_, rfl, a, ds, rfl, hS, fun ns p hp hu np => ?_⟩
  have es := srt_is hp hu
  subst es
  have s1 : Same H (upd H p (.lst (vi (srt ds)))) := Same.new np
  refine ⟨_, rfl, a, vi ds, rfl, .inr (s1.sqt hS), _, rfl, _, _, rfl, rfl, _, rfl, p, _, rfl, SqL.of upd_same, fun c nc => ?_⟩
  have ec : cutV (vi (srt ds)) (some ((((vi ds).length : Nat) : Int) - (k : Int))) none = vi ((srt ds).drop (ds.length - k)) := by
    rw [vi_len, cutV_from _ _ _ (by omega)]
    exact List.map_drop.symm
  rw [ec]
  have s2 := s1.trans (Same.new (o := .lst (vi ((srt ds).drop (ds.length - k)))) nc)
  have hC : SqL K (upd (upd H p (.lst (vi (srt ds)))) c (.lst (vi ((srt ds).drop (ds.length - k))))) c (vi ((srt ds).drop (ds.length - k))) := SqL.of upd_same
  refine ⟨c, rfl, ⟨_, hC⟩, fun D hD => lc_ints (walk_list (xs := vi ((srt ds).drop (ds.length - k)))) hD ?_ (fun i => ((srt ds).drop (ds.length - k))[i]?.bind fun d => some (d + 1)) (fun H' s => s.seq hC) (fun i x H1 H' kn ky hi sm y h1 h2 => ?_) (fun H1 sm e => ?_)⟩
  · rw [vi_len, List.length_drop, srt_len]
    omega
  · obtain ⟨rfl, hx⟩ := y
    obtain ⟨z, hz, rfl⟩ := vi_get hx
    exact ⟨rfl, lc_yes ⟨_, rfl, _, _, rfl, rfl, h2 _ _ (Same.refl _) (by rw [hz]; rfl)⟩⟩
  · rw [vi_len, fm_at] at e
    exact ⟨D, _, rfl, SqL.of e, q _ (s2.trans sm)⟩
/-! def spares -/
abbrev s_spares : Stmt := topS 3
theorem sc_spares : FnScope ["candles", "draughts", "many"] ["candles", "draughts"] (defScope s_spares) := ⟨rfl, rfl, rfl, by decide +kernel, rfl, by decide +kernel, by decide +kernel⟩
def spSpares (K : PySem.W.Frag) : Sp := fun vs H Q _ => ∃ (a b : Addr) (cs ds : List Int), vs = [.ref a, .ref b] ∧ SqT K H a (vi cs) ∧ SqT K H b (vi ds) ∧ cs.length ≤ 1000 ∧ ds.length ≤ 1000 ∧ ∀ H' p, Same H H' → H p = none → H' p = some (.lst (vi (spr cs ds))) → Q (.ref p) H'
theorem ok_spares {f fC fW : Addr} {fd fdC fdW : FuncData} (T : Bl mg) (F : Fun K "spares" "spares" s_spares f fd) (D_counted : FnAt K mg "counted" "counted" s_counted ["candles", "ticks"] fC fdC) (D_wanted : FnAt K mg "wanted" "wanted" s_wanted ["draughts", "ticks"] fW fdW) : FnOk P w K mg base CX0 2 f fd ["candles", "draughts"] (spSpares K) := by
  have G_counted : FnOk P w K mg base CX0 1 fC fdC ["candles", "ticks"] (spCounted K) := ok_counted T D_counted.F
  have G_wanted : FnOk P w K mg base CX0 1 fW fdW ["draughts", "ticks"] (spWanted K) := ok_wanted T D_wanted.F
  refine F.ok sc_spares (fun vs H Q E h => ?_) (fun cdv A outer s H vs Q E hr h => ?_)
  · obtain ⟨a, b, cs, ds, rfl, _⟩ := h
    rfl
  obtain ⟨a, b, cs, ds, rfl, hS, hB, hl, hlb, q⟩ := h
  refine ⟨_, (pss_one (ps_ret (pe_lc (own := [("many", 2)]) rfl sc_spares.nd (pi_range2 rfl T.range (pa_cons pe_int (pa_cons (pe_op op_add (pe_callB (lenK K) rfl T.len (by decide +kernel) (pa_cons (pv 1) pa_nil)) pe_int) pa_nil))) (blkOk_by (N := ["candles", "draughts", "many"]) (sc := defScope s_spares) (own := [("many", 2)]) (by decide +kernel)) (fun _ _ _ _ _ => (pg_name (i := 2) sc_spares.nd rfl (.inl rfl))) (fun _ _ _ _ _ => pts_nil) (fun _ _ _ _ _ => (pe_op op_sub (pe_call G_counted hr rfl D_counted.g D_counted.F.kp D_counted.b .nil pass0 (pa_cons (pv 0) (pa_cons (pv 2) pa_nil))) (pe_call G_wanted hr rfl D_wanted.g D_wanted.F.kp D_wanted.b .nil pass0 (pa_cons (pv 1) (pa_cons (pv 2) pa_nil)))))))), ?_⟩
  refine ⟨_, rfl, b, vi ds, rfl, .inr hB, _, _, rfl, rfl, _, _, rfl, ⟨by omega, by omega, by rw [vi_len]; omega, by rw [vi_len]; omega⟩, fun D hD => ?_⟩
  have en : ((((vi ds).length : Nat) : Int) + 1 - 1).toNat = ds.length := by
    rw [vi_len]
    omega
  rw [en]
  refine lc_ints walk_range hD hlb (fun i => some (cnt cs ((i : Int) + 1) - wnt ds (i + 1))) (fun _ _ => trivial) (fun i x H1 H' kn ky hi sm y h1 h2 => ?_) (fun H1 sm e => ?_)
  · obtain ⟨rfl, rfl⟩ := y
    have e1 : (1 : Int) + (i : Int) = ((i + 1 : Nat) : Int) := by omega
    refine ⟨rfl, lc_yes ⟨_, rfl, _, rfl, a, cs, _, rfl, sm.sqt hS, hl, fun H2 s2 => ⟨_, rfl, _, rfl, b, ds, i + 1, congrArg (fun z => [V.ref b, V.int z]) e1, (sm.trans s2).sqt hB, hlb, hi, fun H3 s3 => ⟨_, _, rfl, rfl, h2 _ _ (s2.trans s3) ?_⟩⟩⟩⟩
    rw [Int.add_comm]
  · rw [fm_range] at e
    exact q _ D sm hD e
/-! def can_keep -/
abbrev s_can_keep : Stmt := topS 4
theorem sc_can_keep : FnScope ["candles", "draughts", "spare"] ["candles", "draughts"] (defScope s_can_keep) := ⟨rfl, rfl, rfl, by decide +kernel, rfl, by decide +kernel, by decide +kernel⟩
def spCan (K : PySem.W.Frag) : Sp := fun vs H Q _ => ∃ (a b : Addr) (cs ds : List Int), vs = [.ref a, .ref b] ∧ SqT K H a (vi cs) ∧ SqT K H b (vi ds) ∧ cs.length ≤ 1000 ∧ ds.length ≤ 1000 ∧ ∀ H', Same H H' → Q (.bl (can cs ds)) H'
theorem ok_can_keep {f fS fC fW : Addr} {fd fdS fdC fdW : FuncData} (T : Bl mg) (F : Fun K "can_keep" "can_keep" s_can_keep f fd) (D_spares : FnAt K mg "spares" "spares" s_spares ["candles", "draughts"] fS fdS) (D_counted : FnAt K mg "counted" "counted" s_counted ["candles", "ticks"] fC fdC) (D_wanted : FnAt K mg "wanted" "wanted" s_wanted ["draughts", "ticks"] fW fdW) : FnOk P w K mg base CX0 3 f fd ["candles", "draughts"] (spCan K) := by
  have G_spares : FnOk P w K mg base CX0 2 fS fdS ["candles", "draughts"] (spSpares K) := ok_spares T D_spares.F D_counted D_wanted
  refine F.ok sc_can_keep (fun vs H Q E h => ?_) (fun cdv A outer s H vs Q E hr h => ?_)
  · obtain ⟨a, b, cs, ds, rfl, _⟩ := h
    rfl
  obtain ⟨a, b, cs, ds, rfl, hS, hB, hl, hlb, q⟩ := h
  refine ⟨_, (pss_one (ps_ret (pe_callB (allK K) rfl T.all (by decide +kernel) (pa_cons (pe_lc (own := [("spare", 2)]) rfl sc_can_keep.nd (piL K (pe_call G_spares hr rfl D_spares.g D_spares.F.kp D_spares.b .nil pass0 (pa_cons (pv 0) (pa_cons (pv 1) pa_nil)))) (blkOk_by (N := ["candles", "draughts", "spare"]) (sc := defScope s_can_keep) (own := [("spare", 2)]) (by decide +kernel)) (fun _ _ _ _ _ => (pg_name (i := 2) sc_can_keep.nd rfl (.inl rfl))) (fun _ _ _ _ _ => pts_nil) (fun _ _ _ _ _ => (pe_cmpR op_ge (pv 2) pe_int (nomark _)))) pa_nil)))), ?_⟩
  refine ⟨_, rfl, _, rfl, a, b, cs, ds, rfl, hS, hB, hl, hlb, fun H1 p s1 np ep => ?_⟩
  have hC : SqL K H1 p (vi (spr cs ds)) := SqL.of ep
  refine ⟨p, rfl, ⟨_, hC⟩, fun D hD => lc_bls (walk_list (xs := vi (spr cs ds))) hD (by rw [vi_len, spr_len]; exact hlb) (fun i => (spr cs ds)[i]?.bind fun s => some (decide (0 ≤ s))) (fun H' s => s.seq hC) (fun i x H2 H' kn ky hi sm y h1 h2 => ?_) (fun H2 sm e => ?_)⟩
  · obtain ⟨rfl, hx⟩ := y
    obtain ⟨z, hz, rfl⟩ := vi_get hx
    exact ⟨rfl, lc_yes ⟨_, rfl, _, _, rfl, rfl, h2 _ _ (Same.refl _) (by rw [hz]; rfl)⟩⟩
  · rw [vi_len, fm_at] at e
    refine ⟨D, _, rfl, SqL.of e, ?_⟩
    have e2 : ((spr cs ds).map fun s => decide (0 ≤ s)).all id = can cs ds := by
      unfold can
      rw [List.all_map]
      rfl
    rw [e2]
    exact q _ (s1.trans sm)
/-! def stubs -/
abbrev s_stubs : Stmt := topS 6
theorem sc_stubs : FnScope ["candles", "draughts", "spare"] ["candles", "draughts"] (defScope s_stubs) := ⟨rfl, rfl, rfl, by decide +kernel, rfl, by decide +kernel, by decide +kernel⟩
def spStubs (K : PySem.W.Frag) : Sp := fun vs H Q _ => ∃ (a b : Addr) (cs ds : List Int), vs = [.ref a, .ref b] ∧ SqT K H a (vi cs) ∧ SqT K H b (vi ds) ∧ cs.length ≤ 900 ∧ ds.length ≤ 900 ∧ ∀ H' m, Same H H' → Stb cs ds m → Q (.int m) H'
theorem ok_stubs {f : Addr} {fd : FuncData} (T : Bl mg) (F : Fun K "stubs" "stubs" s_stubs f fd) {f_spares : Addr} {fd_spares : FuncData} (D_spares : FnAt K mg "spares" "spares" s_spares ["candles", "draughts"] f_spares fd_spares) {f_counted : Addr} {fd_counted : FuncData} (D_counted : FnAt K mg "counted" "counted" s_counted ["candles", "ticks"] f_counted fd_counted) {f_wanted : Addr} {fd_wanted : FuncData} (D_wanted : FnAt K mg "wanted" "wanted" s_wanted ["draughts", "ticks"] f_wanted fd_wanted) : FnOk P w K mg base CX0 3 f fd ["candles", "draughts"] (spStubs K) := by
  have G_spares : FnOk P w K mg base CX0 2 f_spares fd_spares _ (spSpares K) := ok_spares T D_spares.F D_counted D_wanted
  refine F.ok sc_stubs (fun vs H Q E h => ?_) (fun cdv A outer s H vs Q E hr h => ?_)
  · obtain ⟨a, b, cs, ds, rfl, _⟩ := h
    rfl
  obtain ⟨a, b, cs, ds, rfl, hS, hB, hl, hlb, q⟩ := h
  refine ⟨_, (pss_one (ps_ret (pe_callB (maxK K) rfl T.max (by decide +kernel) (pa_cons (pe_op op_cat (pe_lst (pa_cons pe_int pa_nil)) (pe_lc (own := [("spare", 2)]) rfl sc_stubs.nd (piL K (pe_call G_spares hr rfl D_spares.g D_spares.F.kp D_spares.b .nil pass0 (pa_cons (pv 0) (pa_cons (pv 1) pa_nil)))) (blkOk_by (N := ["candles", "draughts", "spare"]) (sc := defScope s_stubs) (own := [("spare", 2)]) (by decide +kernel)) (fun _ _ _ _ _ => (pg_name (i := 2) sc_stubs.nd rfl (.inl rfl))) (fun _ _ _ _ _ => pts_nil) (fun _ _ _ _ _ => (pe_un un_neg (pv 2))))) pa_nil)))), ?_⟩
  refine ⟨by show 1 ≤ sizeLine; decide, fun o no => ?_⟩
  have s0 : Same H (upd H o (.lst [.int 0])) := Same.new no
  refine ⟨_, rfl, _, rfl, a, b, cs, ds, rfl, s0.sqt hS, s0.sqt hB, by omega, by omega, fun H1 p s1 np ep => ?_⟩
  have hC : SqL K H1 p (vi (spr cs ds)) := SqL.of ep
  refine ⟨p, rfl, ⟨_, hC⟩, fun D hD => lc_ints (walk_list (xs := vi (spr cs ds))) hD (by rw [vi_len, spr_len]; omega) (fun i => (spr cs ds)[i]?.bind fun s => some (-s)) (fun H' s => s.seq hC) (fun i x H2 H' kn ky hi sm y h1 h2 => ?_) (fun H2 sm e => ?_)⟩
  · obtain ⟨rfl, hx⟩ := y
    obtain ⟨z, hz, rfl⟩ := vi_get hx
    exact ⟨rfl, lc_yes ⟨_, rfl, _, rfl, h2 _ _ (Same.refl _) (by rw [hz]; rfl)⟩⟩
  · rw [vi_len, fm_at] at e
    have s02 := (s0.trans s1).trans sm
    refine ⟨o, D, _, _, rfl, rfl, (s1.trans sm) _ _ upd_same, e, ?_, fun r nr => ?_⟩
    · rw [vi_len, List.length_map, spr_len]
      exact Nat.le_trans (show 1 + ds.length ≤ 1001 by omega) (by decide)
    · exact ⟨r, 0 :: (spr cs ds).map fun s => -s, rfl, SqL.of upd_same, Nat.succ_pos _, fun m h1 h2 => q _ m (s02.trans (Same.new nr)) (stb_of h1 h2)⟩
/-! def one_more -/
abbrev s_one_more : Stmt := topS 7
theorem sc_one_more : FnScope ["candles", "draughts", "more"] ["candles", "draughts"] (defScope s_one_more) := ⟨rfl, rfl, rfl, by decide +kernel, rfl, by decide +kernel, by decide +kernel⟩
def spOneMore (K : PySem.W.Frag) : Sp := fun vs H Q _ => ∃ (a b : Addr) (cs ds : List Int), vs = [.ref a, .ref b] ∧ SqT K H a (vi cs) ∧ SqT K H b (vi ds) ∧ cs.length ≤ 900 ∧ ds.length ≤ 900 ∧
  ∀ H' m, Same H H' → Stb cs ds m → (can (cs ++ [m]) ds = true → Q (.int m) H') ∧ (can (cs ++ [m]) ds = false → Q .non H')
theorem ok_one_more {f : Addr} {fd : FuncData} (T : Bl mg) (F : Fun K "one_more" "one_more" s_one_more f fd) {f_stubs : Addr} {fd_stubs : FuncData} (D_stubs : FnAt K mg "stubs" "stubs" s_stubs ["candles", "draughts"] f_stubs fd_stubs) {f_can_keep : Addr} {fd_can_keep : FuncData} (D_can_keep : FnAt K mg "can_keep" "can_keep" s_can_keep ["candles", "draughts"] f_can_keep fd_can_keep) {f_spares : Addr} {fd_spares : FuncData} (D_spares : FnAt K mg "spares" "spares" s_spares ["candles", "draughts"] f_spares fd_spares) {f_counted : Addr} {fd_counted : FuncData} (D_counted : FnAt K mg "counted" "counted" s_counted ["candles", "ticks"] f_counted fd_counted) {f_wanted : Addr} {fd_wanted : FuncData} (D_wanted : FnAt K mg "wanted" "wanted" s_wanted ["draughts", "ticks"] f_wanted fd_wanted) : FnOk P w K mg base CX0 4 f fd ["candles", "draughts"] (spOneMore K) := by
  have G_stubs : FnOk P w K mg base CX0 3 f_stubs fd_stubs _ (spStubs K) := ok_stubs T D_stubs.F D_spares D_counted D_wanted
  have G_can_keep : FnOk P w K mg base CX0 3 f_can_keep fd_can_keep _ (spCan K) := ok_can_keep T D_can_keep.F D_spares D_counted D_wanted
  refine F.ok sc_one_more (fun vs H Q E h => ?_) (fun cdv A outer s H vs Q E hr h => ?_)
  · obtain ⟨a, b, cs, ds, rfl, _⟩ := h
    rfl
  obtain ⟨a, b, cs, ds, rfl, hS, hB, hl, hlb, q⟩ := h
  refine ⟨_, (pss_cons (ps_set (i := 2) sc_one_more.nd rfl (.inl rfl) (pe_call G_stubs hr rfl D_stubs.g D_stubs.F.kp D_stubs.b .nil pass0 (pa_cons (pv 0) (pa_cons (pv 1) pa_nil))))
  (pss_one (ps_ret (pe_ifExp (pt_val (pe_call G_can_keep hr rfl D_can_keep.g D_can_keep.F.kp D_can_keep.b .nil pass0 (pa_cons (pe_op (catK K) (pv 0) (pe_tup (pa_cons (pv 2) pa_nil))) (pa_cons (pv 1) pa_nil)))) (pv 2) pe_non)))), ?_⟩
  refine ⟨_, rfl, _, rfl, a, b, cs, ds, rfl, hS, hB, hl, hlb, fun H1 m s1 hm => ?_⟩
  refine ⟨_, rfl, _, rfl, by show 1 ≤ sizeLine; decide, fun e ne => ?_⟩
  have s2 : Same H1 (upd H1 e (.tup [.int m])) := Same.new ne
  refine cat_any ((s1.trans s2).sqt hS) (SqT.of upd_same) (by rw [vi_len]; show _ + 1 ≤ 1000; omega) fun H3 g s3 hg => ?_
  have hg : SqT K H3 g (vi (cs ++ [m])) := by
    rw [vi_snoc]
    exact hg
  have s13 := (s1.trans s2).trans s3
  refine ⟨_, rfl, g, b, cs ++ [m], ds, rfl, hg, s13.sqt hB, by rw [List.length_append]; show _ + 1 ≤ 1000; omega, by omega, fun H4 s4 => ⟨_, rfl, if_b (fun c => ?_) (fun c => ?_)⟩⟩
  · exact ⟨_, rfl, (q H4 m (s13.trans s4) hm).1 c⟩
  · exact (q H4 m (s13.trans s4) hm).2 c
/-! def lots -/
abbrev s_lotsN : Stmt := topS 8
theorem sc_lotsN : FnScope ["many", "found", "place", "lot"] ["many"] (defScope s_lotsN) := ⟨rfl, rfl, rfl, by decide +kernel, rfl, by decide +kernel, by decide +kernel⟩
def spLotsN (K : PySem.W.Frag) : Sp := fun vs H Q _ => ∃ (n : Nat), vs = [.int (n : Int)] ∧ n ≤ 8 ∧ LotsQ K H Q ((List.range n).map fun (i : Nat) => (i : Int))
theorem range_take {n i : Nat} (h : i ≤ n) : ((List.range n).map fun (i : Nat) => (i : Int)).take i = (List.range i).map fun (i : Nat) => (i : Int) := by
  rw [← List.map_take, List.take_range, Nat.min_eq_left h]
theorem ok_lotsN {f : Addr} {fd : FuncData} (T : Bl mg) (F : Fun K "lots" "lots" s_lotsN f fd) : FnOk P w K mg base CX0 1 f fd ["many"] (spLotsN K) := by
  refine F.ok sc_lotsN (fun vs H Q E h => ?_) (fun cdv A outer s H vs Q E hr h => ?_)
  · obtain ⟨n, rfl, _⟩ := h
    rfl
  obtain ⟨n, rfl, hl, q⟩ := h
  refine ⟨_, (pss_cons (ps_set (i := 1) sc_lotsN.nd rfl (.inl rfl) (pe_lst (pa_cons (pe_tup pa_nil) pa_nil)))
  (pss_cons (ps_for PassesOwn.never rfl (pi_range1 rfl T.range (pa_cons (pv 0) pa_nil)) (pg_name (i := 2) sc_lotsN.nd rfl (.inr rfl)) (pss_one (ps_set (i := 1) sc_lotsN.nd rfl (.inl rfl) (pe_op op_cat (pv 1) (pe_lc (own := [("lot", 3)]) rfl sc_lotsN.nd (piL K (pv 1)) (blkOk_by (N := ["many", "found", "place", "lot"]) (sc := defScope s_lotsN) (own := [("lot", 3)]) (by decide +kernel)) (fun _ _ _ _ _ => (pg_name (i := 3) sc_lotsN.nd rfl (.inl rfl))) (fun _ _ _ _ _ => pts_nil) (fun _ _ _ _ _ => (pe_op (catK K) (pv 3) (pe_tup (pa_cons (pv 2) pa_nil)))))))))
  (pss_one (ps_ret (pv 1))))), ?_⟩
  refine ⟨by show 0 ≤ sizeLine; decide, fun t0 nt0 => ⟨by show 1 ≤ sizeLine; decide, fun o no => ?_⟩⟩
  have st : Same H (upd H t0 (.tup [])) := Same.new nt0
  have so : Same (upd H t0 (.tup [])) (upd (upd H t0 (.tup [])) o (.lst [.ref t0])) := Same.new no
  have s0 := st.trans so
  refine ⟨_, rfl, (n : Int), rfl, by omega, by omega, for_range (lo := 0) (n := n) (fun i σ H' => ∃ (r : Addr) (xs : List V) (y2 y3 : Option V), σ = [some (.int (n : Int)), some (.ref r), y2, y3] ∧ Same H H' ∧ H r = none ∧ H' r = some (.lst xs) ∧ Paired (VS K H') xs (lotsPF ((List.range i).map fun (i : Nat) => (i : Int)))) ⟨o, [.ref t0], none, none, rfl, s0, st.free no, upd_same, .cons ⟨t0, rfl, SqT.of (so _ _ upd_same)⟩ .nil⟩ (fun i σ H1 hi hW => ?_) (fun σ H1 hW => ?_)⟩
  · obtain ⟨r, xs, y2, y3, rfl, sm, nr, hr1, hp⟩ := hW
    have hsm := lots_small (ps := (List.range i).map fun (i : Nat) => (i : Int)) (by rw [List.length_map, List.length_range]; omega)
    refine ⟨_, rfl, _, rfl, r, rfl, ⟨_, SqL.of hr1⟩, fun D hD => lc_rel (walk_list (xs := xs)) hD (by rw [paired_len hp]; omega) (VS K) (fun H H' D acc v p h s r => r.keep h s) (fun j => (lotsPF ((List.range i).map fun (i : Nat) => (i : Int)))[j]?.bind fun l => some (l ++ [0 + (i : Int)])) (fun H' s => s.seq (SqL.of hr1)) (fun j x H2 H' kn ky hj sm2 y h1 h2 => ?_) (fun ys H2 sm2 e pr => ?_)⟩
    · obtain ⟨rfl, hx⟩ := y
      obtain ⟨l, hlj, t, rfl, ht⟩ := paired_get hp hx
      have hll := lotsPF_lens _ _ (List.mem_of_getElem? hlj)
      rw [List.length_map, List.length_range] at hll
      refine ⟨rfl, lc_yes ⟨_, rfl, _, rfl, by show 1 ≤ sizeLine; decide, fun e ne => ?_⟩⟩
      have s3 : Same H' (upd H' e (.tup [.int (0 + (i : Int))])) := Same.new ne
      refine cat_any ((sm2.trans s3).sqt ht) (SqT.of upd_same) (by rw [vi_len]; show _ + 1 ≤ 1000; omega) fun H4 g s4 hg => ?_
      refine h2 _ (l ++ [0 + (i : Int)]) _ (s3.trans s4) (by rw [hlj]; rfl) ⟨g, rfl, ?_⟩
      rw [vi_snoc]
      exact hg
    · rw [paired_len hp, fm_at] at pr
      refine ⟨r, D, _, _, rfl, rfl, sm2 _ _ hr1, e, ?_, fun r2 nr2 => ?_⟩
      · rw [paired_len hp, paired_len pr, List.length_map]
        exact Nat.le_trans (show _ ≤ 1000 by omega) (by decide)
      have s5 : Same H2 (upd H2 r2 (.lst (xs ++ ys))) := Same.new nr2
      refine ⟨r2, xs ++ ys, _, _, rfl, (sm.trans sm2).trans s5, (sm.trans sm2).free nr2, upd_same, ?_⟩
      rw [List.range_succ, List.map_append, List.map_cons, List.map_nil, lotsPF_snoc]
      rw [Int.zero_add] at pr
      exact paired_app (paired_mono (fun v x r => r.same (sm2.trans s5)) hp) (paired_mono (fun v x r => r.same s5) pr)
  · obtain ⟨r, xs, y2, y3, rfl, sm, nr, hr1, hp⟩ := hW
    exact ⟨_, rfl, q H1 r xs sm nr hr1 hp⟩
/-! def spared -/
abbrev s_spared : Stmt := topS 9
theorem sc_spared : FnScope ["candles", "draughts", "rows", "lot", "rest", "place", "wax"] ["candles", "draughts"] (defScope s_spared) := ⟨rfl, rfl, rfl, by decide +kernel, rfl, by decide +kernel, by decide +kernel⟩
def spSpared (K : PySem.W.Frag) : Sp := fun vs H Q _ => ∃ (a b : Addr) (cs ds : List Int), vs = [.ref a, .ref b] ∧ SqT K H a (vi cs) ∧ SqT K H b (vi ds) ∧ cs.length ≤ 8 ∧ ds.length ≤ 900 ∧ (can cs ds = false → ∀ H', Same H H' → Q .non H') ∧
  (can cs ds = true → ∀ H' p k c, Same H H' → SqT K H' p (vi c) → rowD (k, c) = best (sparedF cs ds) → Q (.ref p) H')
theorem ok_spared {f : Addr} {fd : FuncData} (T : Bl mg) (F : Fun K "spared" "spared" s_spared f fd) {f_lotsN : Addr} {fd_lotsN : FuncData} (D_lotsN : FnAt K mg "lots" "lots" s_lotsN ["many"] f_lotsN fd_lotsN) {f_can_keep : Addr} {fd_can_keep : FuncData} (D_can_keep : FnAt K mg "can_keep" "can_keep" s_can_keep ["candles", "draughts"] f_can_keep fd_can_keep) {f_spares : Addr} {fd_spares : FuncData} (D_spares : FnAt K mg "spares" "spares" s_spares ["candles", "draughts"] f_spares fd_spares) {f_counted : Addr} {fd_counted : FuncData} (D_counted : FnAt K mg "counted" "counted" s_counted ["candles", "ticks"] f_counted fd_counted) {f_wanted : Addr} {fd_wanted : FuncData} (D_wanted : FnAt K mg "wanted" "wanted" s_wanted ["draughts", "ticks"] f_wanted fd_wanted) : FnOk P w K mg base CX0 4 f fd ["candles", "draughts"] (spSpared K) := by
  have G_lotsN : FnOk P w K mg base CX0 3 f_lotsN fd_lotsN _ (spLotsN K) := (ok_lotsN T D_lotsN.F).mono (by decide)
  have G_can_keep : FnOk P w K mg base CX0 3 f_can_keep fd_can_keep _ (spCan K) := ok_can_keep T D_can_keep.F D_spares D_counted D_wanted
  refine F.ok sc_spared (fun vs H Q E h => ?_) (fun cdv A outer s H vs Q E hr h => ?_)
  · obtain ⟨a, b, cs, ds, rfl, _⟩ := h
    rfl
  obtain ⟨a, b, cs, ds, rfl, hS, hB, hl, hlb, qN, qS⟩ := h
  refine ⟨_, (pss_cons (ps_if (pt_not (pt_val (pe_call G_can_keep hr rfl D_can_keep.g D_can_keep.F.kp D_can_keep.b .nil pass0 (pa_cons (pv 0) (pa_cons (pv 1) pa_nil))))) (pss_one (ps_ret pe_non)) pss_nil)
  (pss_cons (ps_set (i := 2) sc_spared.nd rfl (.inl rfl) (pe_lst pa_nil))
  (pss_cons (ps_for PassesOwn.never rfl (piL K (pe_call G_lotsN hr rfl D_lotsN.g D_lotsN.F.kp D_lotsN.b .nil pass0 (pa_cons (pe_callB (lenK K) rfl T.len (by decide +kernel) (pa_cons (pv 0) pa_nil)) pa_nil))) (pg_name (i := 3) sc_spared.nd rfl (.inr rfl)) (pss_cons (ps_set (i := 4) sc_spared.nd rfl (.inl rfl) (pe_callTy (tupleK K) rfl T.tuple (by decide +kernel) (pa_cons (pe_lc (own := [("place", 5), ("wax", 6)]) rfl sc_spared.nd (enumK K true rfl T.enumerate (pa_cons (pv 0) pa_nil)) (blkOk_by (N := ["candles", "draughts", "rows", "lot", "rest", "place", "wax"]) (sc := defScope s_spared) (own := [("place", 5), ("wax", 6)]) (by decide +kernel)) (fun _ _ _ _ _ => (pgT K 2 rfl (pgs_cons (pg_name (i := 5) sc_spared.nd rfl (.inl rfl)) (pgs_cons (pg_name (i := 6) sc_spared.nd rfl (.inl rfl)) pgs_nil)))) (fun _ _ _ _ _ => (pts_one (pt_cmpR (notinK K) (pv 5) (pv 3) rfl))) (fun _ _ _ _ _ => (pv 6))) pa_nil)))
  (pss_one (ps_if (pt_val (pe_call G_can_keep hr rfl D_can_keep.g D_can_keep.F.kp D_can_keep.b .nil pass0 (pa_cons (pv 4) (pa_cons (pv 1) pa_nil)))) (pss_one (ps_expr (pe_bm PySem.F.plainAttrs_list PySem.F.slot_list_append PySem.F.type_list_append mt_append (pv 2) (pa_cons (pe_tup (pa_cons (pe_un un_neg (pe_callB (lenK K) rfl T.len (by decide +kernel) (pa_cons (pv 3) pa_nil))) (pa_cons (pv 3) pa_nil))) pa_nil)))) pss_nil))))
  (pss_one (ps_ret (pe_ix (ixT K) (pe_callB (minRK K hr.units) rfl T.min (by decide +kernel) (pa_cons (pv 2) pa_nil)) pe_int (fun _ _ => rfl))))))), ?_⟩
  refine ⟨_, rfl, _, rfl, a, b, cs, ds, rfl, hS, hB, by omega, by omega, fun H1 s1 => ⟨_, rfl, if_b (fun c => ?_) (fun c => ?_)⟩⟩
  · have c : (!can cs ds) = true := c
    exact qN (by cases h : can cs ds <;> simp_all) _ s1
  have hc : can cs ds = true := by
    have c : (!can cs ds) = false := c
    cases h : can cs ds <;> simp_all
  have qS := qS hc
  refine ⟨Nat.zero_le _, fun o no => ?_⟩
  have s2 : Same H1 (upd H1 o (.lst [])) := Same.new no
  have nHo : H o = none := s1.free no
  refine ⟨_, rfl, a, vi cs, rfl, .inr ((s1.trans s2).sqt hS), cs.length, (by rw [vi_len]; rfl), hl, fun H2 p xs s3 np hp pr => ?_⟩
  have hO2 : H2 o = some (.lst []) := s3 _ _ upd_same
  have pr : Paired (VS K H2) xs (lotsPF (placesF cs)) := pr
  have npo : p ≠ o := fun z => by
    rw [z, upd_same] at np
    cases np
  have s12 := (s1.trans s2).trans s3
  refine ⟨p, rfl, ⟨xs, SqL.of hp⟩, for_list (K := K) (a := p) (xs := xs) (fun i σ H' => ∃ (ys : List V) (y3 y4 y5 y6 : Option V), σ = [some (.ref a), some (.ref b), some (.ref o), y3, y4, y5, y6] ∧ Smt o H2 H' ∧ H' o = some (.lst ys) ∧ Paired (RV K H') ys (rowsP cs ds ((lotsPF (placesF cs)).take i))) ⟨[], none, none, none, none, rfl, Smt.of (Same.refl _), hO2, .nil⟩ (fun i σ H' _ ⟨_, _, _, _, _, _, sm, _⟩ => SqL.of (sm _ _ hp npo)) (fun i x σ H3 hx hW => ?_) (fun σ H3 hW => ?_)⟩
  · obtain ⟨ys, y3, y4, y5, y6, rfl, sm, hO, hpr⟩ := hW
    obtain ⟨lot, hlot, t, rfl, ht⟩ := paired_get pr hx
    have sH := same_smt s12 sm nHo
    have hS3 := sH.sqt hS
    have ht3 := sqt_keep hO2 sm ht
    have hll := lotsPF_lens _ _ (List.mem_of_getElem? hlot)
    -- rest = tuple([..])
    refine ⟨_, rfl, a, vi cs, rfl, hS3, fun D hD => lc_ints (walk_enumB (tp := true) (xs := vi cs)) hD (by rw [vi_len]; omega) (fun i => if (i : Int) ∈ lot then none else cs[i]?) (fun H' s => s.sqt hS3) (fun j x H4 H' kn ky hj sm4 y h1 h2 => ?_) (fun H4 sm4 e => ?_)⟩
    · obtain ⟨tt, x1, x2, rfl, nT, rfl, e1, e2⟩ := y
      cases Option.some.inj e1
      obtain ⟨z, hz, rfl⟩ := vi_get e2
      have sn : Same H4 (upd H4 tt (.tup [.int (j : Nat), .int z])) := Same.new nT
      refine ⟨tt, _, rfl, SqT.of upd_same, rfl, _, _, rfl, _, _, rfl, rfl, rfl, _, rfl, _, rfl, t, vi lot, rfl, .inr ((sm4.trans sn).sqt ht3), rfl, vi_flat _, _, rfl, if_b (fun c => ?_) (fun c => h1 _ sn ?_)⟩
      · have c : (!inV (.int (j : Nat)) (vi lot)) = true := c
        rw [inV_ints] at c
        refine ⟨_, rfl, h2 _ _ sn ?_⟩
        rw [if_neg (by simpa using c)]
        exact hz
      · have c : (!inV (.int (j : Nat)) (vi lot)) = false := c
        rw [inV_ints] at c
        rw [if_pos (by simpa using c)]
    · rw [vi_len] at e
      have e : H4 D = some (.lst (vi (remF cs lot))) := e
      refine ⟨D, _, rfl, .inl ⟨SqL.of e, fun g ng => ?_⟩⟩
      have s5 : Same H4 (upd H4 g (.tup (vi (remF cs lot)))) := Same.new ng
      have s35 := sm4.trans s5
      have hrl : (remF cs lot).length ≤ cs.length := (rem_sub cs lot).length_le
      refine ⟨_, rfl, _, rfl, g, b, remF cs lot, ds, rfl, SqT.of upd_same, (sH.trans s35).sqt hB, by omega, by omega, fun H6 s6 => ⟨_, rfl, if_b (fun c => ?_) (fun c => ?_)⟩⟩
      · -- rows.append((-len(lot), lot))
        have s36 := s35.trans s6
        have ht6 := s36.sqt ht3
        have hO6 := s36 _ _ hO
        refine ⟨_, rfl, .inl ⟨rfl, _, SqL.of hO6⟩, _, rfl, t, vi lot, rfl, .inr ht6, _, rfl, _, rfl, by show 2 ≤ sizeLine; decide, fun u nu => ?_⟩
        have s7 : Same H6 (upd H6 u (.tup [.int (-((vi lot).length : Int)), .ref t])) := Same.new nu
        have hO7 := s7 _ _ hO6
        have hlen : (rowsP cs ds ((lotsPF (placesF cs)).take i)).length ≤ 256 := by
          refine Nat.le_trans (List.length_filterMap_le _ _) (Nat.le_trans (List.length_take_le' _ _) (lots_small ?_))
          unfold placesF
          rw [List.length_map, List.length_range]
          exact hl
        refine ⟨o, _, _, rfl, rfl, hO7, ?_, ?_⟩
        · rw [paired_len hpr]
          exact small1000 (by omega)
        have su : Smt o (upd H6 u (.tup [.int (-((vi lot).length : Int)), .ref t])) (upd (upd H6 u (.tup [.int (-((vi lot).length : Int)), .ref t])) o (.lst (ys ++ [.ref u]))) := Smt.upd
        refine ⟨ys ++ [.ref u], _, _, _, _, rfl, (sm.trans (Smt.of (s36.trans s7))).trans su, upd_same, ?_⟩
        rw [take_next hlot, rowsP_snoc]
        have er : rowOf cs ds lot = some (-(lot.length : Int), lot) := if_pos c
        rw [er]
        refine paired_app (paired_mono (fun v x r => (r.same (s36.trans s7)).keep hO7 su) hpr) (.cons ⟨u, t, rfl, su _ _ ?_ ?_, sqt_keep hO7 su (s7.sqt ht6)⟩ .nil)
        · rw [upd_same, vi_len]
        · exact fun z => by
            rw [z, upd_same] at hO7
            cases hO7
      · have s36 := s35.trans s6
        refine ⟨ys, _, _, _, _, rfl, sm.trans (Smt.of s36), s36 _ _ hO, ?_⟩
        have er : rowOf cs ds lot = none := if_neg (by rw [c]; decide)
        rw [take_next hlot, rowsP_snoc, er]
        show Paired _ ys (rowsP cs ds ((lotsPF (placesF cs)).take i) ++ [])
        rw [List.append_nil]
        exact paired_mono (fun v x r => r.same s36) hpr
  · obtain ⟨ys, y3, y4, y5, y6, rfl, sm, hO, hpr⟩ := hW
    have hlen := paired_len pr
    rw [hlen] at hpr
    rw [List.take_length] at hpr
    refine ⟨_, rfl, o, ys, sparedF cs ds, rfl, SqL.of hO, hpr, spared_can hc, fun v r hv hb _ => ?_⟩
    obtain ⟨t, u, rfl, ht, hu⟩ := hv
    exact ⟨t, _, 1, _, rfl, rfl, SqT.of ht, rfl, qS H3 u r.1 r.2 (same_smt s12 sm nHo) hu hb⟩
/-! def _law_draw -/
abbrev s__law_draw : Stmt := topS 11
theorem sc__law_draw : FnScope ["tape", "many", "prime", "cell", "found"] ["tape", "many"] (defScope s__law_draw) := ⟨rfl, rfl, rfl, by decide +kernel, rfl, by decide +kernel, by decide +kernel⟩
theorem draw_nn (x : Int) : 0 ≤ x % 2305843009213693951 ∧ x % 2305843009213693951 < 2305843009213693951 := ⟨Int.emod_nonneg x (by decide), Int.emod_lt_of_pos x (by decide)⟩
def spDraw : Sp := fun vs H Q _ => ∃ (t a : Addr) (many : Int), vs = [.ref t, .int many] ∧ TapeAt H t a ∧ 0 < many ∧ many < 2 ^ 100 ∧
  ∀ (r : Int) (H' : Hp), 0 ≤ r → r < many → TapeAt H' t a → Smt t H H' → Q (.int r) H'
theorem ok__law_draw {f : Addr} {fd : FuncData} (T : Bl mg) (F : Fun K "_law_draw" "_law_draw" s__law_draw f fd) : FnOk P w K mg base CX0 1 f fd ["tape", "many"] spDraw := by
  refine F.ok sc__law_draw (fun vs H Q E h => ?_) (fun cdv A outer s H vs Q E hr h => ?_)
  · obtain ⟨t, a, many, rfl, _⟩ := h
    rfl
  obtain ⟨t, a, many, rfl, hT, hm, hm2, q⟩ := h
  refine ⟨_, (pss_cons (ps_set (i := 2) sc__law_draw.nd rfl (.inl rfl) pe_int)
  (C8.pss_cut (ps_if (pt_cmpR op_lt (pe_ix (ixL K) (pv 0) pe_int (fun _ _ => rfl)) (pv 1) (nomark _)) (pss_cons (ps_set (i := 3) sc__law_draw.nd rfl (.inl rfl) pe_int)
  (C8.pss_cut (ps_if (pt_cmpR op_gt (pe_callB (lenK K) rfl T.len (by decide +kernel) (pa_cons (pe_ix (ixL K) (pv 0) pe_int (fun _ _ => rfl)) pa_nil)) pe_int (nomark _)) (pss_one (ps_set (i := 3) sc__law_draw.nd rfl (.inl rfl) (pe_ix (ixL K) (pe_ix (ixL K) (pv 0) pe_int (fun _ _ => rfl)) (pe_op op_mod (pe_ix (ixL K) (pv 0) pe_int (fun _ _ => rfl)) (pe_callB (lenK K) rfl T.len (by decide +kernel) (pa_cons (pe_ix (ixL K) (pv 0) pe_int (fun _ _ => rfl)) pa_nil))) (fun _ _ => rfl)))) pss_nil)
  (C8.pss_cut (ps_if (PW.pt (pw_or (pt_cmpR op_ge (pe_ix (ixL K) (pv 0) pe_int (fun _ _ => rfl)) (pe_callB (lenK K) rfl T.len (by decide +kernel) (pa_cons (pe_ix (ixL K) (pv 0) pe_int (fun _ _ => rfl)) pa_nil)) (nomark _)) (pw_or1 (pt_cmpR op_lt (pv 3) (pe_op op_pow pe_int pe_int) (nomark _))))) (pss_cons (ps_set (i := 3) sc__law_draw.nd rfl (.inl rfl) (pe_op op_mod (pe_op op_add (pv 3) (pe_op op_mul pe_int (pe_ix (ixL K) (pv 0) pe_int (fun _ _ => rfl)))) (pv 2)))
  (pss_cons (ps_set (i := 3) sc__law_draw.nd rfl (.inl rfl) (pe_op op_mod (pe_op op_add (pe_op op_add (pe_op op_mul (pv 3) (pv 3)) (pe_op op_mul pe_int (pv 3))) pe_int) (pv 2)))
  (pss_one (ps_set (i := 3) sc__law_draw.nd rfl (.inl rfl) (pe_op op_mod (pe_op op_add (pe_op op_mul (pv 3) (pv 3)) pe_int) (pv 2)))))) pss_nil)
  (pss_cons (ps_asg (pe_op op_add (pe_ix (ixL K) (pv 0) pe_int (fun _ _ => rfl)) pe_int) (pg_sub (pv 0) pe_int set_list))
  (pss_one (ps_asg (pv 3) (pg_sub (pv 0) pe_int set_list))))))) pss_nil)
  (pss_cons (ps_set (i := 4) sc__law_draw.nd rfl (.inl rfl) (pe_op op_mod (pe_ix (ixL K) (pv 0) pe_int (fun _ _ => rfl)) (pv 1)))
  (pss_cons (ps_asg (pe_op op_fdivW (pe_ix (ixL K) (pv 0) pe_int (fun _ _ => rfl)) (pv 1)) (pg_sub (pv 0) pe_int set_list))
  (pss_one (ps_ret (pv 4))))))), ?_⟩
  have hta : a ≠ t := hT.ta
  obtain ⟨ns, i, c, ht, ha, hc⟩ := hT
  -- if tape[2] < many
  refine ⟨fun σ' H' => ∃ (i' c' : Int) (y : Option V), σ' = [some (.ref t), some (.int many), some (.int 2305843009213693951), y, none] ∧ H' t = some (.lst [.ref a, .int i', .int c']) ∧ H' a = some (.lst (vi ns)) ∧ 0 ≤ c' ∧ Smt t H H', ?_, ?_⟩
  · refine ⟨_, rfl, t, _, 2, _, rfl, rfl, SqL.of ht, rfl, _, rfl, _, _, rfl, rfl, _, rfl, if_b (fun _ => ?_) (fun _ => ?_)⟩
    · -- cell = 0; if len(tape[0]) > 0
      refine ⟨fun σ' H' => ∃ z : Int, σ' = [some (.ref t), some (.int many), some (.int 2305843009213693951), some (.int z), none] ∧ H' = H, ?_, ?_⟩
      · refine ⟨_, rfl, t, _, 0, _, rfl, rfl, SqL.of ht, rfl, a, vi ns, rfl, .inl (SqL.of ha), _, _, rfl, rfl, _, rfl, if_b (fun e => ?_) (fun _ => ?_)⟩
        · have e1 : (0 : Int) < (((vi ns).length : Nat) : Int) := of_decide_eq_true e
          have e2 : 0 < ns.length := by
            rw [vi_len] at e1
            omega
          obtain ⟨z, hz⟩ := atI_mod e2 i
          refine ⟨_, rfl, t, _, 0, _, rfl, rfl, SqL.of ht, rfl, _, rfl, t, _, 1, _, rfl, rfl, SqL.of ht, rfl, _, rfl, t, _, 0, _, rfl, rfl, SqL.of ht, rfl, a, vi ns, rfl, .inl (SqL.of ha), _, _, rfl, rfl, e1, a, _, _, _, rfl, rfl, SqL.of ha, hz, z, rfl, rfl⟩
        · exact ⟨0, rfl, rfl⟩
      rintro σ' H' ⟨z, rfl, rfl⟩
      -- if tape[1] >= len(tape[0]) or cell < 10 ** 18
      refine ⟨fun σ' H1 => ∃ z : Int, σ' = [some (.ref t), some (.int many), some (.int 2305843009213693951), some (.int z), none] ∧ H1 = H' ∧ 0 ≤ z, ?_, ?_⟩
      · have body : ∀ D : Ends, D.nx [some (.ref t), some (.int many), some (.int 2305843009213693951), some (.int (((((z + 1000003 * i) % 2305843009213693951) * ((z + 1000003 * i) % 2305843009213693951) + 1181783497276652981 * ((z + 1000003 * i) % 2305843009213693951) + 2049848353892358983) % 2305843009213693951 * (((((z + 1000003 * i) % 2305843009213693951) * ((z + 1000003 * i) % 2305843009213693951) + 1181783497276652981 * ((z + 1000003 * i) % 2305843009213693951) + 2049848353892358983) % 2305843009213693951)) + 1442695040888963407) % 2305843009213693951)), none] H' → _ := fun D hD => by
          have n1 := draw_nn (z + 1000003 * i)
          have n2 := draw_nn (((z + 1000003 * i) % 2305843009213693951) * ((z + 1000003 * i) % 2305843009213693951) + 1181783497276652981 * ((z + 1000003 * i) % 2305843009213693951) + 2049848353892358983)
          refine (?_ : tSeq (tAsg (tOp (rI (fun _ j => 0 < j) fun i j => .int (i % j)) (tOp (rI0 fun i j => .int (i + j)) (tVar 3) (tOp (rI CMul fun i j => .int (i * j)) (tC (.int 1000003)) (tOp (rIxL K) (tVar 0) (tC (.int 1))))) (tVar 2)) (gName 3))
            (tSeq (tAsg (tOp (rI (fun _ j => 0 < j) fun i j => .int (i % j)) (tOp (rI0 fun i j => .int (i + j)) (tOp (rI0 fun i j => .int (i + j)) (tOp (rI CMul fun i j => .int (i * j)) (tVar 3) (tVar 3)) (tOp (rI CMul fun i j => .int (i * j)) (tC (.int 1181783497276652981)) (tVar 3))) (tC (.int 2049848353892358983))) (tVar 2)) (gName 3))
            (tAsg (tOp (rI (fun _ j => 0 < j) fun i j => .int (i % j)) (tOp (rI0 fun i j => .int (i + j)) (tOp (rI CMul fun i j => .int (i * j)) (tVar 3) (tVar 3)) (tC (.int 1442695040888963407))) (tVar 2)) (gName 3))) D [some (.ref t), some (.int many), some (.int 2305843009213693951), some (.int z), none] H')
          refine ⟨_, rfl, _, rfl, t, _, 1, _, rfl, rfl, SqL.of ht, rfl, _, _, rfl, rfl, .inl ⟨by omega, by omega⟩, _, _, rfl, rfl, _, rfl, _, _, rfl, rfl, by omega, ?_⟩
          refine ⟨_, rfl, _, rfl, _, _, rfl, rfl, .inl (by omega), _, rfl, _, _, rfl, rfl, .inl ⟨by omega, by omega⟩, _, _, rfl, rfl, _, _, rfl, rfl, _, rfl, _, _, rfl, rfl, by omega, ?_⟩
          refine ⟨_, rfl, _, rfl, _, _, rfl, rfl, .inl (by omega), _, _, rfl, rfl, _, rfl, _, _, rfl, rfl, by omega, hD⟩
        refine ⟨_, rfl, t, _, 1, _, rfl, rfl, SqL.of ht, rfl, _, rfl, t, _, 0, _, rfl, rfl, SqL.of ht, rfl, a, vi ns, rfl, .inl (SqL.of ha), _, _, rfl, rfl, _, rfl, if_b (fun _ => ?_) (fun _ => ?_)⟩
        · refine if_t rfl (body _ ⟨_, rfl, rfl, (draw_nn _).1⟩)
        · refine ⟨_, rfl, _, _, rfl, rfl, ⟨by decide, by decide, by decide⟩, _, _, rfl, rfl, _, rfl, if_b (fun _ => body _ ⟨_, rfl, rfl, (draw_nn _).1⟩) (fun e => ?_)⟩
          refine ⟨z, rfl, rfl, ?_⟩
          have e1 : ¬ z < (10 : Int) ^ (18 : Int).toNat := of_decide_eq_false e
          have e2 : (0 : Int) ≤ (10 : Int) ^ (18 : Int).toNat := by decide
          omega
      rintro σ' H1 ⟨z, rfl, rfl, hz⟩
      -- tape[1] = tape[1] + 1; tape[2] = cell
      refine ⟨_, rfl, t, _, 1, _, rfl, rfl, SqL.of ht, rfl, _, _, rfl, rfl, _, rfl, t, _, 1, 1, rfl, rfl, ht, rfl, ?_⟩
      refine ⟨_, rfl, _, rfl, t, _, 2, 2, rfl, rfl, upd_same, rfl, ?_⟩
      refine ⟨i + 1, z, some (.int z), rfl, upd_same, ?_, hz, ?_⟩
      · rw [upd_ne hta, upd_ne hta]
        exact ha
      · exact Smt.upd.trans Smt.upd
    · exact ⟨i, c, none, rfl, ht, ha, hc, Smt.refl _ _⟩
  rintro σ' H' ⟨i', c', y, rfl, ht', ha', hc', sm⟩
  refine ⟨_, rfl, t, _, 2, _, rfl, rfl, SqL.of ht', rfl, _, rfl, _, _, rfl, rfl, hm, ?_⟩
  refine ⟨_, rfl, t, _, 2, _, rfl, rfl, SqL.of ht', rfl, _, rfl, _, _, rfl, rfl, wide_div (b := 100) hm (by omega) (by decide) (by decide), _, rfl, t, _, 2, 2, rfl, rfl, ht', rfl, ?_⟩
  refine ⟨_, rfl, q _ _ (Int.emod_nonneg _ (by omega)) (Int.emod_lt_of_pos _ hm) ⟨ns, i', c' / many, upd_same, ?_, ?_⟩ (sm.trans Smt.upd)⟩
  · rw [upd_ne hta]
    exact ha'
  · exact Int.ediv_nonneg hc' (by omega)
/-! def _law_whole -/
abbrev s__law_whole : Stmt := topS 12
theorem sc__law_whole : FnScope ["item"] ["item"] (defScope s__law_whole) := ⟨rfl, rfl, rfl, by decide +kernel, rfl, by decide +kernel, by decide +kernel⟩
def spWhole (K : PySem.W.Frag) : Sp := fun vs H Q _ => ∃ (v : V) (d : PyData), vs = [v] ∧ Dp K H v d ∧ Q (.bl (dis "int" d && !dis "bool" d)) H
theorem ok__law_whole {f : Addr} {fd : FuncData} (T : Bl mg) (F : Fun K "_law_whole" "_law_whole" s__law_whole f fd) : FnOk P w K mg base CX0 1 f fd ["item"] (spWhole K) := by
  refine F.ok sc__law_whole (fun vs H Q E h => ?_) (fun cdv A outer s H vs Q E hr h => ?_)
  · obtain ⟨v, d, rfl, _⟩ := h
    rfl
  obtain ⟨v, d, rfl, hv, q⟩ := h
  refine ⟨_, (pss_one (ps_ret (pe_and (pe_callB (isiK K) rfl T.isinstance (by decide +kernel) (pa_cons (pv 0) (pa_cons (pe_bltn (v := .ty "int") (u := .type "int") rfl T.int (by decide +kernel) rfl) pa_nil))) (pe_one (pe_not (pe_callB (isiK K) rfl T.isinstance (by decide +kernel) (pa_cons (pv 0) (pa_cons (pe_bltn (v := .ty "bool") (u := .type "bool") rfl T.bool (by decide +kernel) rfl) pa_nil)))))))), ?_⟩
  refine ⟨_, rfl, v, _, _, _, _, rfl, .ty _, dp_ty hv, kit_d d (by simp), _, rfl, if_b (fun c => ?_) (fun c => ?_)⟩
  · rw [c] at q
    exact ⟨_, rfl, v, _, _, _, _, rfl, .ty _, dp_ty hv, kit_d d (by simp), _, rfl, q⟩
  · rw [c] at q
    exact q
/-! def _law_like -/
abbrev s__law_like : Stmt := topS 13
theorem sc__law_like : FnScope ["one", "two", "k"] ["one", "two"] (defScope s__law_like) := ⟨rfl, rfl, rfl, by decide +kernel, rfl, by decide +kernel, by decide +kernel⟩
/-- the same data on both sides: the answer is True -/
def spLike (K : PySem.W.Frag) (n : Nat) : Sp := fun vs H Q _ => ∃ (x y : V) (d : PyData), vs = [x, y] ∧ Dp K H x d ∧ Dp K H y d ∧ Fit n d ∧ ∀ H', Same H H' → Q (.bl true) H'
theorem like_none {f : Addr} {fd : FuncData} : FnOk P w K mg base CX0 0 f fd ["one", "two"] (spLike K 0) := by
  have no : ∀ vs H Q E, ¬ spLike K 0 vs H Q E := fun vs H Q E h => by
    obtain ⟨x, y, d, _, _, _, h1, _⟩ := h
    exact h1.elim
  exact ⟨fun vs H Q E h => absurd h (no vs H Q E), fun A outer s H args us vs Q E _ _ _ _ h => absurd h (no vs H Q E)⟩
theorem cls2 {a b : String} : Paired ClsV [.ty a, .ty b] [.type a, .type b] := .cons (.ty a) (.cons (.ty b) .nil)
theorem like_step {n : Nat} {f : Addr} {fd : FuncData} (T : Bl mg) (D__law_like : FnAt K mg "_law_like" "_law_like" s__law_like ["one", "two"] f fd) (G__law_like : FnOk P w K mg base CX0 n f fd ["one", "two"] (spLike K n)) : FnOk P w K mg base CX0 (n + 1) f fd ["one", "two"] (spLike K (n + 1)) := by
  refine D__law_like.F.ok sc__law_like (fun vs H Q E h => ?_) (fun cdv A outer s H vs Q E hr h => ?_)
  · obtain ⟨x, y, d, rfl, _⟩ := h
    rfl
  obtain ⟨x, y, d, rfl, hx, hy, hfit, q⟩ := h
  refine ⟨_, (pss_cons (ps_if (pt_val (pe_callB (isiTK K) rfl T.isinstance (by decide +kernel) (pa_cons (pv 0) (pa_cons (pe_tup (pa_cons (pe_bltn (v := .ty "list") (u := .type "list") rfl T.list (by decide +kernel) rfl) (pa_cons (pe_bltn (v := .ty "tuple") (u := .type "tuple") rfl T.tuple (by decide +kernel) rfl) pa_nil))) pa_nil)))) (pss_cons (ps_if (PW.pt (pw_or (pt_cmpR op_ne (pe_callB (isiK K) rfl T.isinstance (by decide +kernel) (pa_cons (pv 0) (pa_cons (pe_bltn (v := .ty "list") (u := .type "list") rfl T.list (by decide +kernel) rfl) pa_nil))) (pe_callB (isiK K) rfl T.isinstance (by decide +kernel) (pa_cons (pv 1) (pa_cons (pe_bltn (v := .ty "list") (u := .type "list") rfl T.list (by decide +kernel) rfl) pa_nil))) (nomark _)) (pw_or1 (pt_cmpR op_ne (pe_callB (isiK K) rfl T.isinstance (by decide +kernel) (pa_cons (pv 0) (pa_cons (pe_bltn (v := .ty "tuple") (u := .type "tuple") rfl T.tuple (by decide +kernel) rfl) pa_nil))) (pe_callB (isiK K) rfl T.isinstance (by decide +kernel) (pa_cons (pv 1) (pa_cons (pe_bltn (v := .ty "tuple") (u := .type "tuple") rfl T.tuple (by decide +kernel) rfl) pa_nil))) (nomark _))))) (pss_one (ps_ret pe_bl)) pss_nil)
  (pss_cons (ps_if (pt_cmpR op_ne (pe_callB (lenK K) rfl T.len (by decide +kernel) (pa_cons (pv 0) pa_nil)) (pe_callB (lenK K) rfl T.len (by decide +kernel) (pa_cons (pv 1) pa_nil)) (nomark _)) (pss_one (ps_ret pe_bl)) pss_nil)
  (pss_one (ps_ret (pe_cmpR (eqDK K hr.units) (pe_lc (own := [("k", 2)]) rfl sc__law_like.nd (pi_range1 rfl T.range (pa_cons (pe_callB (lenK K) rfl T.len (by decide +kernel) (pa_cons (pv 0) pa_nil)) pa_nil)) (blkOk_by (N := ["one", "two", "k"]) (sc := defScope s__law_like) (own := [("k", 2)]) (by decide +kernel)) (fun _ _ _ _ _ => (pg_name (i := 2) sc__law_like.nd rfl (.inl rfl))) (fun _ _ _ _ _ => (pts_one (pt_not (pt_val (pe_call G__law_like hr rfl D__law_like.g D__law_like.F.kp D__law_like.b .nil pass0 (pa_cons (pe_ix (ixA K) (pv 0) (pv 2) (fun _ _ => rfl)) (pa_cons (pe_ix (ixA K) (pv 1) (pv 2) (fun _ _ => rfl)) pa_nil))))))) (fun _ _ _ _ _ => (pv 2))) (pe_lst pa_nil) (nomark _)))))) pss_nil)
  (pss_cons (ps_if (pt_val (pe_callB (isiTK K) rfl T.isinstance (by decide +kernel) (pa_cons (pv 1) (pa_cons (pe_tup (pa_cons (pe_bltn (v := .ty "list") (u := .type "list") rfl T.list (by decide +kernel) rfl) (pa_cons (pe_bltn (v := .ty "tuple") (u := .type "tuple") rfl T.tuple (by decide +kernel) rfl) pa_nil))) pa_nil)))) (pss_one (ps_ret pe_bl)) pss_nil)
  (pss_one (ps_ret (pe_and (pe_cmpR op_eq (pe_callB (isiK K) rfl T.isinstance (by decide +kernel) (pa_cons (pv 0) (pa_cons (pe_bltn (v := .ty "bool") (u := .type "bool") rfl T.bool (by decide +kernel) rfl) pa_nil))) (pe_callB (isiK K) rfl T.isinstance (by decide +kernel) (pa_cons (pv 1) (pa_cons (pe_bltn (v := .ty "bool") (u := .type "bool") rfl T.bool (by decide +kernel) rfl) pa_nil))) (nomark _)) (pe_one (pe_cmpR op_eq (pv 0) (pv 1) (nomark _)))))))), ?_⟩
  -- isinstance(one, (list, tuple))
  refine ⟨_, rfl, by show 2 ≤ sizeLine; decide, fun tp ntp => ?_⟩
  have s0 : Same H (upd H tp (.tup [.ty "list", .ty "tuple"])) := Same.new ntp
  refine ⟨x, tp, _, _, _, _, rfl, upd_same, cls2, dp_ty (hx.same s0), kit_lt d, _, rfl, if_b (fun hq => ?_) (fun hq => ?_)⟩
  · -- lists, tuples
    have hx0 := hx.same s0
    have hy0 := hy.same s0
    refine ⟨_, rfl, x, _, _, _, _, rfl, .ty _, dp_ty hx0, kit_d d (by simp), _, rfl, y, _, _, _, _, rfl, .ty _, dp_ty hy0, kit_d d (by simp), rfl, _, rfl, ?_⟩
    refine if_f (by rw [decide_eq_true rfl]; rfl) ?_
    refine ⟨_, rfl, x, _, _, _, _, rfl, .ty _, dp_ty hx0, kit_d d (by simp), _, rfl, y, _, _, _, _, rfl, .ty _, dp_ty hy0, kit_d d (by simp), rfl, _, rfl, ?_⟩
    refine if_f (by rw [decide_eq_true rfl]; rfl) ?_
    have both : ∃ (a b : Addr) (xs ys : List V) (ds : List PyData) (tp1 : Bool), x = .ref a ∧ y = .ref b ∧ SqB K tp1 (upd H tp (.tup [.ty "list", .ty "tuple"])) a xs ∧ SqB K tp1 (upd H tp (.tup [.ty "list", .ty "tuple"])) b ys ∧ DpAll K (upd H tp (.tup [.ty "list", .ty "tuple"])) xs ds ∧ DpAll K (upd H tp (.tup [.ty "list", .ty "tuple"])) ys ds ∧ ds.length ≤ 1000 ∧ ∀ d ∈ ds, Fit n d := by
      cases hx0 with
      | lst h1 a1 =>
        cases hy0 with
        | lst h2 a2 =>
          exact ⟨_, _, _, _, _, false, rfl, rfl, h1, h2, a1, a2, hfit.1, hfit.2⟩
      | tup h1 a1 =>
        cases hy0 with
        | tup h2 a2 =>
          exact ⟨_, _, _, _, _, true, rfl, rfl, h1, h2, a1, a2, hfit.1, hfit.2⟩
      | _ => cases hq
    obtain ⟨a, b, xs, ys, ds, tp1, rfl, rfl, hA, hB, dA, dB, hsz, hall⟩ := both
    have lA := dpall_len dA
    have lB := dpall_len dB
    -- len(one) != len(two)
    refine ⟨_, rfl, a, xs, rfl, sqb_or hA, _, rfl, b, ys, rfl, sqb_or hB, rfl, _, rfl, ?_⟩
    refine if_f (by rw [lA, lB, decide_eq_true rfl]; rfl) ?_
    refine ⟨_, rfl, a, xs, rfl, sqb_or hA, _, rfl, by omega, by omega, fun D hD => ?_⟩
    have en : ((xs.length : Nat) : Int).toNat = xs.length := Int.toNat_natCast _
    rw [en]
    refine lc_ints walk_range hD (by omega) (fun _ => none) (fun _ _ => trivial) (fun i v H1 H' kn ky hi sm y h1 h2 => ?_) (fun H1 sm e => ?_)
    · obtain ⟨rfl, rfl⟩ := y
      have e0 : (0 : Int) + (i : Int) = (i : Int) := Int.zero_add _
      have hid : ds[i]? = some ds[i] := List.getElem?_eq_getElem (by omega)
      obtain ⟨u, hu, du⟩ := dpall_get dA hid
      obtain ⟨v, hv, dv⟩ := dpall_get dB hid
      refine ⟨rfl, _, rfl, _, rfl, ix_b (sm.sqb hA) (at_of e0 hu) ⟨_, rfl, _, rfl, ix_b (sm.sqb hB) (at_of e0 hv) ⟨u, v, ds[i], rfl, du.same sm, dv.same sm, hall _ (List.getElem_mem _), fun H2 s2 => ⟨_, rfl, if_f rfl (h1 _ s2 rfl)⟩⟩⟩⟩
    · have e1 : (List.range xs.length).filterMap (fun _ => (none : Option Int)) = [] := by simp
      rw [e1] at e
      refine ⟨Nat.zero_le _, fun c nc => ?_⟩
      have s3 : Same H1 (upd H1 c (.lst [])) := Same.new nc
      refine ⟨.list (di []), .list (di []), dp_list (s3.seq (SqL.of e)), dp_list (SqL.of upd_same), shaped_ints _, shaped_ints _, ?_⟩
      rw [eqv_lists, decide_eq_true rfl]
      exact q _ ((s0.trans sm).trans s3)
  · -- none of these
    have hx0 := hx.same s0
    have hy0 := hy.same s0
    refine ⟨_, rfl, by show 2 ≤ sizeLine; decide, fun tp2 ntp2 => ?_⟩
    have s1 : Same (upd H tp (.tup [.ty "list", .ty "tuple"])) (upd (upd H tp (.tup [.ty "list", .ty "tuple"])) tp2 (.tup [.ty "list", .ty "tuple"])) := Same.new ntp2
    refine ⟨y, tp2, _, _, _, _, rfl, upd_same, cls2, dp_ty (hy0.same s1), kit_lt d, _, rfl, if_f hq ?_⟩
    refine ⟨_, rfl, x, _, _, _, _, rfl, .ty _, dp_ty (hx0.same s1), kit_d d (by simp), _, rfl, y, _, _, _, _, rfl, .ty _, dp_ty (hy0.same s1), kit_d d (by simp), rfl, _, rfl, ?_⟩
    refine if_t (decide_eq_true rfl) ⟨_, rfl, _, rfl, ?_⟩
    have e : x = y ∧ scal x y = true := by
      cases hx <;> cases hy <;> first | exact ⟨rfl, rfl⟩ | cases hq
    obtain ⟨rfl, hs⟩ := e
    refine ⟨hs, ?_⟩
    rw [decide_eq_true rfl]
    exact q _ (s0.trans s1)
theorem ok__law_like {f : Addr} {fd : FuncData} (T : Bl mg) (D : FnAt K mg "_law_like" "_law_like" s__law_like ["one", "two"] f fd) : ∀ n : Nat, FnOk P w K mg base CX0 n f fd ["one", "two"] (spLike K n)
  | 0 => like_none
  | n + 1 => like_step T D (ok__law_like T D n)
/-! def _law_candles -/
abbrev s__law_candles : Stmt := topS 14
theorem sc__law_candles : FnScope ["tape", "size", "wax", "top", "k"] ["tape", "size", "wax"] (defScope s__law_candles) := ⟨rfl, rfl, rfl, by decide +kernel, rfl, by decide +kernel, by decide +kernel⟩
def CandOk (size wax : Int) (cs : List Int) : Prop := 1 ≤ cs.length ∧ (cs.length : Int) ≤ size ∧ ∀ c ∈ cs, 0 ≤ c ∧ c ≤ wax
def spLCand : Sp := fun vs H Q _ => ∃ (t a : Addr) (size wax : Int), vs = [.ref t, .int size, .int wax] ∧ TapeAt H t a ∧ 0 < size ∧ size ≤ 100 ∧ 0 < wax ∧ wax ≤ 100 ∧
  ∀ (p : Addr) (cs : List Int) (H' : Hp), CandOk size wax cs → TapeAt H' t a → Smt t H H' → H p = none → H' p = some (.tup (vi cs)) → Q (.ref p) H'
theorem all_snoc {P : Int → Prop} {zs : List Int} {z : Int} (h : ∀ c ∈ zs, P c) (hz : P z) : ∀ c ∈ zs ++ [z], P c := fun c hc => by
  rcases List.mem_append.mp hc with q | q
  · exact h c q
  · rw [List.mem_singleton.mp q]
    exact hz
theorem ok__law_candles {f fD : Addr} {fd fdD : FuncData} (T : Bl mg) (F : Fun K "_law_candles" "_law_candles" s__law_candles f fd) (D__law_draw : FnAt K mg "_law_draw" "_law_draw" s__law_draw ["tape", "many"] fD fdD) : FnOk P w K mg base CX0 2 f fd ["tape", "size", "wax"] spLCand := by
  have G__law_draw : FnOk P w K mg base CX0 1 fD fdD ["tape", "many"] spDraw := ok__law_draw T D__law_draw.F
  refine F.ok sc__law_candles (fun vs H Q E h => ?_) (fun cdv A outer s H vs Q E hr h => ?_)
  · obtain ⟨t, a, size, wax, rfl, _⟩ := h
    rfl
  obtain ⟨t, a, size, wax, rfl, hT, hs0, hs1, hw0, hw1, q⟩ := h
  refine ⟨_, (pss_cons (ps_set (i := 3) sc__law_candles.nd rfl (.inr rfl) (pe_op op_add pe_int (pe_call G__law_draw hr rfl D__law_draw.g D__law_draw.F.kp D__law_draw.b .nil pass0 (pa_cons (pv 0) (pa_cons (pv 2) pa_nil)))))
  (pss_one (ps_ret (pe_callTy (tupleK K) rfl T.tuple (by decide +kernel) (pa_cons (pe_lc (own := [("k", 4)]) rfl sc__law_candles.nd (pi_range1 rfl T.range (pa_cons (pe_op op_add pe_int (pe_call G__law_draw hr rfl D__law_draw.g D__law_draw.F.kp D__law_draw.b .nil pass0 (pa_cons (pv 0) (pa_cons (pv 1) pa_nil)))) pa_nil)) (blkOk_by (N := ["tape", "size", "wax", "top", "k"]) (sc := defScope s__law_candles) (own := [("k", 4)]) (by decide +kernel)) (fun _ _ _ _ _ => (pg_name (i := 4) sc__law_candles.nd rfl (.inl rfl))) (fun _ _ _ _ _ => pts_nil) (fun _ _ _ _ _ => (pe_call G__law_draw hr rfl D__law_draw.g D__law_draw.F.kp D__law_draw.b .nil pass0 (pa_cons (pv 0) (pa_cons (pe_op op_add (pv 3) pe_int) pa_nil))))) pa_nil))))), ?_⟩
  refine ⟨_, rfl, _, rfl, t, a, wax, rfl, hT, hw0, by omega, fun r H1 r0 r1 hT1 s1 => ⟨_, _, rfl, rfl, ?_⟩⟩
  refine ⟨_, rfl, _, rfl, t, a, size, rfl, hT1, hs0, by omega, fun r' H2 q0 q1 hT2 s2 => ⟨_, _, rfl, rfl, _, rfl, by omega, by omega, fun D hD => ?_⟩⟩
  refine lc_tape walk_range hT2 hD (by omega) (fun i zs => zs.length = i ∧ ∀ c ∈ zs, 0 ≤ c ∧ c ≤ wax) ⟨rfl, fun c hc => nomatch hc⟩ (fun i zs h => Nat.le_of_eq h.1) (fun _ _ => trivial) (fun i x H3 H' zs kn ky hi sm hT3 hI y h1 h2 => ?_) (fun zs H3 sm hT3 e hI => ?_)
  · obtain ⟨rfl, rfl⟩ := y
    refine ⟨rfl, lc_yes ⟨_, rfl, _, rfl, _, _, rfl, rfl, t, a, 1 + r + 1, rfl, hT3, by omega, by omega, fun z H4 z0 z1 hT4 s4 => h2 z H4 s4 hT4 ⟨?_, all_snoc hI.2 ⟨z0, by omega⟩⟩⟩⟩
    rw [List.length_append, hI.1]
    rfl
  · refine ⟨D, _, rfl, .inl ⟨SqL.of e, fun l hl => ?_⟩⟩
    have hn : zs.length = (1 + r').toNat := hI.1
    have sm' := (s1.trans s2).trans sm
    have hlt : l ≠ t := fun z => hT3.ne_none hl z.symm
    exact q l zs _ ⟨by omega, by omega, hI.2⟩ (hT3.upd hl) (sm'.trans (Smt.of (Same.new hl))) (sm'.free hl hlt) upd_same
/-! def _law_draughts -/
abbrev s__law_draughts : Stmt := topS 15
theorem sc__law_draughts : FnScope ["tape", "size", "top", "wide", "k"] ["tape", "size", "top"] (defScope s__law_draughts) := ⟨rfl, rfl, rfl, by decide +kernel, rfl, by decide +kernel, by decide +kernel⟩
def DrOk (size top : Int) (ds : List Int) : Prop := (ds.length : Int) ≤ size ∧ ∀ c ∈ ds, 0 ≤ c ∧ c ≤ top
def spLDr : Sp := fun vs H Q _ => ∃ (t a : Addr) (size top : Int), vs = [.ref t, .int size, .int top] ∧ TapeAt H t a ∧ 0 ≤ size ∧ size ≤ 100 ∧ 0 ≤ top ∧ top ≤ 100 ∧
  ∀ (p : Addr) (ds : List Int) (H' : Hp), DrOk size top ds → TapeAt H' t a → Smt t H H' → H p = none → H' p = some (.tup (vi ds)) → Q (.ref p) H'
theorem ok__law_draughts {f fD : Addr} {fd fdD : FuncData} (T : Bl mg) (F : Fun K "_law_draughts" "_law_draughts" s__law_draughts f fd) (D__law_draw : FnAt K mg "_law_draw" "_law_draw" s__law_draw ["tape", "many"] fD fdD) : FnOk P w K mg base CX0 2 f fd ["tape", "size", "top"] spLDr := by
  have G__law_draw : FnOk P w K mg base CX0 1 fD fdD ["tape", "many"] spDraw := ok__law_draw T D__law_draw.F
  refine F.ok sc__law_draughts (fun vs H Q E h => ?_) (fun cdv A outer s H vs Q E hr h => ?_)
  · obtain ⟨t, a, size, top, rfl, _⟩ := h
    rfl
  obtain ⟨t, a, size, top, rfl, hT, hs0, hs1, hw0, hw1, q⟩ := h
  refine ⟨_, (pss_cons (ps_set (i := 3) sc__law_draughts.nd rfl (.inr rfl) (pe_call G__law_draw hr rfl D__law_draw.g D__law_draw.F.kp D__law_draw.b .nil pass0 (pa_cons (pv 0) (pa_cons (pe_op op_add (pv 2) pe_int) pa_nil))))
  (pss_one (ps_ret (pe_callTy (tupleK K) rfl T.tuple (by decide +kernel) (pa_cons (pe_lc (own := [("k", 4)]) rfl sc__law_draughts.nd (pi_range1 rfl T.range (pa_cons (pe_call G__law_draw hr rfl D__law_draw.g D__law_draw.F.kp D__law_draw.b .nil pass0 (pa_cons (pv 0) (pa_cons (pe_op op_add (pv 1) pe_int) pa_nil))) pa_nil)) (blkOk_by (N := ["tape", "size", "top", "wide", "k"]) (sc := defScope s__law_draughts) (own := [("k", 4)]) (by decide +kernel)) (fun _ _ _ _ _ => (pg_name (i := 4) sc__law_draughts.nd rfl (.inl rfl))) (fun _ _ _ _ _ => pts_nil) (fun _ _ _ _ _ => (pe_call G__law_draw hr rfl D__law_draw.g D__law_draw.F.kp D__law_draw.b .nil pass0 (pa_cons (pv 0) (pa_cons (pe_op op_add (pv 3) pe_int) pa_nil))))) pa_nil))))), ?_⟩
  refine ⟨_, rfl, _, rfl, _, _, rfl, rfl, t, a, top + 1, rfl, hT, by omega, by omega, fun r H1 r0 r1 hT1 s1 => ?_⟩
  refine ⟨_, rfl, _, rfl, _, _, rfl, rfl, t, a, size + 1, rfl, hT1, by omega, by omega, fun r' H2 q0 q1 hT2 s2 => ⟨_, rfl, by omega, by omega, fun D hD => ?_⟩⟩
  refine lc_tape walk_range hT2 hD (by omega) (fun i zs => zs.length = i ∧ ∀ c ∈ zs, 0 ≤ c ∧ c ≤ top) ⟨rfl, fun c hc => nomatch hc⟩ (fun i zs h => Nat.le_of_eq h.1) (fun _ _ => trivial) (fun i x H3 H' zs kn ky hi sm hT3 hI y h1 h2 => ?_) (fun zs H3 sm hT3 e hI => ?_)
  · obtain ⟨rfl, rfl⟩ := y
    refine ⟨rfl, lc_yes ⟨_, rfl, _, rfl, _, _, rfl, rfl, t, a, r + 1, rfl, hT3, by omega, by omega, fun z H4 z0 z1 hT4 s4 => h2 z H4 s4 hT4 ⟨?_, all_snoc hI.2 ⟨z0, by omega⟩⟩⟩⟩
    rw [List.length_append, hI.1]
    rfl
  · refine ⟨D, _, rfl, .inl ⟨SqL.of e, fun l hl => ?_⟩⟩
    have hn : zs.length = r'.toNat := hI.1
    have sm' := (s1.trans s2).trans sm
    have hlt : l ≠ t := fun z => hT3.ne_none hl z.symm
    exact q l zs _ ⟨by omega, hI.2⟩ (hT3.upd hl) (sm'.trans (Smt.of (Same.new hl))) (sm'.free hl hlt) upd_same
/-! def _law_near -/
abbrev s__law_near : Stmt := topS 16
theorem sc__law_near : FnScope ["tape", "candles", "size", "top", "found", "left", "k", "draught"] ["tape", "candles", "size", "top"] (defScope s__law_near) := ⟨rfl, rfl, rfl, by decide +kernel, rfl, by decide +kernel, by decide +kernel⟩
def spNear (K : PySem.W.Frag) : Sp := fun vs H Q _ => ∃ (t a c : Addr) (cs : List Int) (size top : Int), vs = [.ref t, .ref c, .int size, .int top] ∧ TapeAt H t a ∧ SqT K H c (vi cs) ∧ 0 ≤ size ∧ size ≤ 100 ∧ 0 ≤ top ∧ top ≤ 100 ∧
  ∀ (p : Addr) (ds : List Int) (H' : Hp), DrOk size top ds → TapeAt H' t a → Smt t H H' → H p = none → H' p = some (.tup (vi ds)) → Q (.ref p) H'
theorem ok__law_near {f fD : Addr} {fd fdD : FuncData} (T : Bl mg) (F : Fun K "_law_near" "_law_near" s__law_near f fd) (D__law_draw : FnAt K mg "_law_draw" "_law_draw" s__law_draw ["tape", "many"] fD fdD) : FnOk P w K mg base CX0 2 f fd ["tape", "candles", "size", "top"] (spNear K) := by
  have G__law_draw : FnOk P w K mg base CX0 1 fD fdD ["tape", "many"] spDraw := ok__law_draw T D__law_draw.F
  refine F.ok sc__law_near (fun vs H Q E h => ?_) (fun cdv A outer s H vs Q E hr h => ?_)
  · obtain ⟨t, a, c, cs, size, top, rfl, _⟩ := h
    rfl
  obtain ⟨t, a, c, cs, size, top, rfl, hT, hC, hs0, hs1, hw0, hw1, q⟩ := h
  refine ⟨_, (pss_cons (ps_par (i := 4) (j := 5) rfl sc__law_near.nd rfl rfl (by decide) rfl rfl (pa_cons (pe_lst pa_nil) (pa_cons (pe_op op_sub (pe_op op_add (pe_callB (sumTK K) rfl T.sum (by decide +kernel) (pa_cons (pv 1) pa_nil)) (pe_call G__law_draw hr rfl D__law_draw.g D__law_draw.F.kp D__law_draw.b .nil pass0 (pa_cons (pv 0) (pa_cons pe_int pa_nil)))) pe_int) pa_nil)) (by rfl))
  (pss_cons (ps_for PassesOwn.never rfl (pi_range1 rfl T.range (pa_cons (pv 2) pa_nil)) (pg_name (i := 6) sc__law_near.nd rfl (.inl rfl)) (pss_cons (ps_set (i := 7) sc__law_near.nd rfl (.inl rfl) (pe_callB (call_min2 rfl) rfl T.min (by decide +kernel) (pa_cons (pe_call G__law_draw hr rfl D__law_draw.g D__law_draw.F.kp D__law_draw.b .nil pass0 (pa_cons (pv 0) (pa_cons (pe_op op_add (pv 3) pe_int) pa_nil))) (pa_cons (pe_callB (call_max2 rfl) rfl T.max (by decide +kernel) (pa_cons pe_int (pa_cons (pe_op op_sub (pe_callB (lenK K) rfl T.len (by decide +kernel) (pa_cons (pv 1) pa_nil)) pe_int) pa_nil))) pa_nil))))
  (pss_one (ps_if (pt_cmpR op_le (pe_op op_add (pv 7) pe_int) (pv 5) (nomark _)) (pss_cons (ps_expr (pe_bm PySem.F.plainAttrs_list PySem.F.slot_list_append PySem.F.type_list_append mt_append (pv 4) (pa_cons (pv 7) pa_nil)))
  (pss_one (ps_set (i := 5) sc__law_near.nd rfl (.inl rfl) (pe_op op_sub (pe_op op_sub (pv 5) (pv 7)) pe_int)))) pss_nil))))
  (pss_one (ps_ret (pe_callTy (tupleK K) rfl T.tuple (by decide +kernel) (pa_cons (pv 4) pa_nil)))))), ?_⟩
  -- found, left = [], sum(candles) + draw - 1
  refine ⟨Nat.zero_le _, fun l hl => ?_⟩
  have s0 : Same H (upd H l (.lst [])) := Same.new hl
  have hT0 := hT.same s0
  have hlt : l ≠ t := fun z => hT.ne_none hl z.symm
  have hla : l ≠ a := fun z => hT.ne_none2 hl z.symm
  refine ⟨_, rfl, c, cs, rfl, s0.sqt hC, _, rfl, t, a, 4, rfl, hT0, by omega, by omega, fun r H1 r0 r1 hT1 s1 => ⟨_, _, rfl, rfl, _, _, rfl, rfl, _, _, rfl, ?_⟩⟩
  have hL1 : H1 l = some (.lst (vi [])) := s1 _ _ upd_same hlt
  have sm1 : Smt t H H1 := (Smt.of s0).trans s1
  -- the loop
  refine ⟨_, rfl, size, rfl, by omega, by omega, for_range (lo := 0) (n := size.toNat) (fun i σ H' => ∃ (zs : List Int) (left : Int) (y1 y2 : Option V), σ = [some (.ref t), some (.ref c), some (.int size), some (.int top), some (.ref l), some (.int left), y1, y2] ∧
    zs.length ≤ i ∧ (∀ z ∈ zs, 0 ≤ z ∧ z ≤ top) ∧ H' l = some (.lst (vi zs)) ∧ TapeAt H' t a ∧ Smt t H H') ⟨[], _, none, none, rfl, Nat.le_refl _, (fun z hz => nomatch hz), hL1, hT1, sm1⟩ (fun i σ H2 hi hW => ?_) (fun σ H2 hW => ?_)⟩
  · obtain ⟨zs, left, y1, y2, rfl, hzl, hz, hL, hT2, sm⟩ := hW
    have hC2 : SqT K H2 c (vi cs) := sm.sqt hT hC
    -- draught = min(draw(top + 1), max(0, len(candles) - 1))
    refine ⟨_, rfl, _, rfl, _, _, rfl, rfl, t, a, top + 1, rfl, hT2, by omega, by omega, fun r' H3 q0 q1 hT3 s3 => ⟨_, rfl, c, vi cs, rfl, .inr (s3.sqt hT2 hC2), _, _, rfl, rfl, _, _, rfl, _, _, rfl, ?_⟩⟩
    have hd : ∃ d : Int, (if (if (((vi cs).length : Nat) : Int) - 1 > 0 then (((vi cs).length : Nat) : Int) - 1 else 0) < r' then (if (((vi cs).length : Nat) : Int) - 1 > 0 then (((vi cs).length : Nat) : Int) - 1 else 0) else r') = d ∧ 0 ≤ d ∧ d ≤ top := by
      by_cases e1 : (((vi cs).length : Nat) : Int) - 1 > 0
      · rw [if_pos e1]
        by_cases e2 : (((vi cs).length : Nat) : Int) - 1 < r'
        · exact ⟨_, if_pos e2, by omega, by omega⟩
        · exact ⟨_, if_neg e2, by omega, by omega⟩
      · rw [if_neg e1]
        by_cases e2 : (0 : Int) < r'
        · exact ⟨_, if_pos e2, by omega, by omega⟩
        · exact ⟨_, if_neg e2, by omega, by omega⟩
    obtain ⟨d, ed, d0, d1⟩ := hd
    rw [ed]
    have hL3 : H3 l = some (.lst (vi zs)) := s3 _ _ hL hlt
    have sm3 : Smt t H H3 := sm.trans s3
    refine ⟨_, rfl, _, _, rfl, rfl, _, rfl, _, _, rfl, rfl, _, rfl, if_b (fun _ => ?_) (fun _ => ?_)⟩
    · refine ⟨_, rfl, .inl ⟨rfl, _, SqL.of hL3⟩, _, rfl, l, _, _, rfl, rfl, hL3, ?_, _, rfl, _, rfl, _, _, rfl, rfl, _, _, rfl, rfl, zs ++ [d], _, _, _, rfl, ?_, all_snoc hz ⟨d0, d1⟩, ?_, hT3.but Smt.upd hlt.symm hla.symm, sm3.new hl⟩
      · rw [vi_len]
        exact small1000 (by omega)
      · rw [List.length_append]
        exact Nat.succ_le_succ hzl
      · rw [vi_snoc]
        exact upd_same
    · exact ⟨zs, left, _, _, rfl, Nat.le_succ_of_le hzl, hz, hL3, hT3, sm3⟩
  · obtain ⟨zs, left, y1, y2, rfl, hzl, hz, hL, hT2, sm⟩ := hW
    refine ⟨_, rfl, l, _, rfl, .inl ⟨SqL.of hL, fun p hp => ?_⟩⟩
    have hpt : p ≠ t := fun z => hT2.ne_none hp z.symm
    exact q p zs _ ⟨by omega, hz⟩ (hT2.upd hp) (sm.trans (Smt.of (Same.new hp))) (sm.free hp hpt) upd_same
/-! def _law_night -/
abbrev s__law_night : Stmt := topS 17
theorem sc__law_night : FnScope ["tape", "size", "wax", "ticks", "top", "candles"] ["tape", "size", "wax", "ticks", "top"] (defScope s__law_night) := ⟨rfl, rfl, rfl, by decide +kernel, rfl, by decide +kernel, by decide +kernel⟩
def spNight : Sp := fun vs H Q _ => ∃ (t a : Addr) (size wax ticks top : Int), vs = [.ref t, .int size, .int wax, .int ticks, .int top] ∧ TapeAt H t a ∧ 0 < size ∧ size ≤ 100 ∧ 0 < wax ∧ wax ≤ 100 ∧ 0 ≤ ticks ∧ ticks ≤ 100 ∧ 0 ≤ top ∧ top ≤ 100 ∧
  ∀ (p b c : Addr) (cs ds : List Int) (H' : Hp), CandOk size wax cs → DrOk ticks top ds → TapeAt H' t a → Smt t H H' → H' p = some (.tup [.ref b, .ref c]) → H' b = some (.tup (vi cs)) → H' c = some (.tup (vi ds)) → Q (.ref p) H'
theorem ok__law_night {f fD fC fR fN : Addr} {fd fdD fdC fdR fdN : FuncData} (T : Bl mg) (F : Fun K "_law_night" "_law_night" s__law_night f fd) (D__law_draw : FnAt K mg "_law_draw" "_law_draw" s__law_draw ["tape", "many"] fD fdD)
    (D__law_candles : FnAt K mg "_law_candles" "_law_candles" s__law_candles ["tape", "size", "wax"] fC fdC) (D__law_draughts : FnAt K mg "_law_draughts" "_law_draughts" s__law_draughts ["tape", "size", "top"] fR fdR) (D__law_near : FnAt K mg "_law_near" "_law_near" s__law_near ["tape", "candles", "size", "top"] fN fdN) :
    FnOk P w K mg base CX0 3 f fd ["tape", "size", "wax", "ticks", "top"] spNight := by
  have G__law_draw : FnOk P w K mg base CX0 2 fD fdD ["tape", "many"] spDraw := (ok__law_draw T D__law_draw.F).mono (by decide)
  have G__law_candles : FnOk P w K mg base CX0 2 fC fdC ["tape", "size", "wax"] spLCand := ok__law_candles T D__law_candles.F D__law_draw
  have G__law_draughts : FnOk P w K mg base CX0 2 fR fdR ["tape", "size", "top"] spLDr := ok__law_draughts T D__law_draughts.F D__law_draw
  have G__law_near : FnOk P w K mg base CX0 2 fN fdN ["tape", "candles", "size", "top"] (spNear K) := ok__law_near T D__law_near.F D__law_draw
  refine F.ok sc__law_night (fun vs H Q E h => ?_) (fun cdv A outer s H vs Q E hr h => ?_)
  · obtain ⟨t, a, size, wax, ticks, top, rfl, _⟩ := h
    rfl
  obtain ⟨t, a, size, wax, ticks, top, rfl, hT, hs0, hs1, hw0, hw1, ht0, ht1, hp0, hp1, q⟩ := h
  refine ⟨_, (pss_cons (ps_set (i := 5) sc__law_night.nd rfl (.inl rfl) (pe_call G__law_candles hr rfl D__law_candles.g D__law_candles.F.kp D__law_candles.b .nil pass0 (pa_cons (pv 0) (pa_cons (pv 1) (pa_cons (pv 2) pa_nil)))))
  (pss_cons (ps_if (pt_cmpR op_eq (pe_call G__law_draw hr rfl D__law_draw.g D__law_draw.F.kp D__law_draw.b .nil pass0 (pa_cons (pv 0) (pa_cons pe_int pa_nil))) pe_int (nomark _)) (pss_one (ps_ret (pe_tup (pa_cons (pv 5) (pa_cons (pe_call G__law_draughts hr rfl D__law_draughts.g D__law_draughts.F.kp D__law_draughts.b .nil pass0 (pa_cons (pv 0) (pa_cons (pv 3) (pa_cons (pv 4) pa_nil)))) pa_nil))))) pss_nil)
  (pss_one (ps_ret (pe_tup (pa_cons (pv 5) (pa_cons (pe_call G__law_near hr rfl D__law_near.g D__law_near.F.kp D__law_near.b .nil pass0 (pa_cons (pv 0) (pa_cons (pv 5) (pa_cons (pv 3) (pa_cons (pv 4) pa_nil))))) pa_nil))))))), ?_⟩
  refine ⟨_, rfl, _, rfl, _, rfl, t, a, size, wax, rfl, hT, hs0, hs1, hw0, hw1, fun b cs H1 hcs hT1 s1 _ hb => ?_⟩
  refine ⟨_, rfl, t, a, 3, rfl, hT1, by omega, by omega, fun r H2 r0 r1 hT2 s2 => ⟨rfl, _, rfl, if_b (fun _ => ?_) (fun _ => ?_)⟩⟩
  · have hb2 := s2.tup hT1 hb
    refine ⟨_, rfl, _, rfl, _, rfl, _, rfl, t, a, ticks, top, rfl, hT2, ht0, ht1, hp0, hp1, fun c ds H3 hds hT3 s3 _ hc => ⟨by show 2 ≤ sizeLine; decide, fun p hp => ?_⟩⟩
    have hb3 := s3.tup hT2 hb2
    have sn : Same H3 (upd H3 p (.tup [.ref b, .ref c])) := Same.new hp
    exact q p b c cs ds _ hcs hds (hT3.same sn) (((s1.trans s2).trans s3).trans (Smt.of sn)) upd_same (sn _ _ hb3) (sn _ _ hc)
  · have hb2 := s2.tup hT1 hb
    refine ⟨_, rfl, _, rfl, _, rfl, _, rfl, _, rfl, t, a, b, cs, ticks, top, rfl, hT2, SqT.of hb2, ht0, ht1, hp0, hp1, fun c ds H3 hds hT3 s3 _ hc => ⟨by show 2 ≤ sizeLine; decide, fun p hp => ?_⟩⟩
    have hb3 := s3.tup hT2 hb2
    have sn : Same H3 (upd H3 p (.tup [.ref b, .ref c])) := Same.new hp
    exact q p b c cs ds _ hcs hds (hT3.same sn) (((s1.trans s2).trans s3).trans (Smt.of sn)) upd_same (sn _ _ hb3) (sn _ _ hc)
/-! def _law_spares -/
abbrev s__law_spares : Stmt := topS 18
theorem sc__law_spares : FnScope ["candles", "draughts", "found", "rows", "k", "have", "wax"] ["candles", "draughts"] (defScope s__law_spares) := ⟨rfl, rfl, rfl, by decide +kernel, rfl, by decide +kernel, by decide +kernel⟩
def spLSpares (K : PySem.W.Frag) : Sp := spSpares K
theorem cutV_to (ns : List Int) (k : Nat) (h : k ≤ ns.length) : cutV (vi ns) none (some (k : Int)) = vi (ns.take k) := by
  unfold cutV
  rw [HT.sIx_nat, HT.sIx_none, vi_len, Nat.min_eq_left h, Nat.sub_zero, List.drop_zero]
  exact List.map_take.symm
theorem spr_take (cs ds : List Int) (i : Nat) (h : i < ds.length) : (spr cs ds).take (i + 1) = (spr cs ds).take i ++ [cnt cs ((i : Int) + 1) - wnt ds (i + 1)] := by
  have e : (spr cs ds)[i]? = some (cnt cs ((i : Int) + 1) - wnt ds (i + 1)) := by
    unfold spr
    rw [List.getElem?_map, List.getElem?_range h]
    rfl
  rw [List.take_add_one, e]
  rfl
theorem ok__law_spares {f : Addr} {fd : FuncData} (T : Bl mg) (F : Fun K "_law_spares" "_law_spares" s__law_spares f fd) : FnOk P w K mg base CX0 1 f fd ["candles", "draughts"] (spSpares K) := by
  refine F.ok sc__law_spares (fun vs H Q E h => ?_) (fun cdv A outer s H vs Q E hr h => ?_)
  · obtain ⟨a, b, cs, ds, rfl, _⟩ := h
    rfl
  obtain ⟨a, b, cs, ds, rfl, hS, hB, hl, hlb, q⟩ := h
  refine ⟨_, (pss_cons (ps_par (i := 2) (j := 3) rfl sc__law_spares.nd rfl rfl (by decide) rfl rfl (pa_cons (pe_lst pa_nil) (pa_cons (pe_revK K (pe_callB (sortedTK K) rfl T.sorted (by decide +kernel) (pa_cons (pv 1) pa_nil))) pa_nil)) (by rfl))
  (pss_cons (ps_for PassesOwn.never rfl (pi_range2 rfl T.range (pa_cons pe_int (pa_cons (pe_op op_add (pe_callB (lenK K) rfl T.len (by decide +kernel) (pa_cons (pv 1) pa_nil)) pe_int) pa_nil))) (pg_name (i := 4) sc__law_spares.nd rfl (.inr rfl)) (pss_cons (ps_set (i := 5) sc__law_spares.nd rfl (.inl rfl) (pe_callB (sumK K) rfl T.sum (by decide +kernel) (pa_cons (pe_lc (own := [("wax", 6)]) rfl sc__law_spares.nd (piT K (pv 0)) (blkOk_by (N := ["candles", "draughts", "found", "rows", "k", "have", "wax"]) (sc := defScope s__law_spares) (own := [("wax", 6)]) (by decide +kernel)) (fun _ _ _ _ _ => (pg_name (i := 6) sc__law_spares.nd rfl (.inl rfl))) (fun _ _ _ _ _ => pts_nil) (fun _ _ _ _ _ => (pe_ifExp (pt_cmpR op_lt (pv 6) (pv 4) (nomark _)) (pv 6) (pv 4)))) pa_nil)))
  (pss_one (ps_expr (pe_bm PySem.F.plainAttrs_list PySem.F.slot_list_append PySem.F.type_list_append mt_append (pv 2) (pa_cons (pe_op op_sub (pe_op op_sub (pv 5) (pe_callB (sumK K) rfl T.sum (by decide +kernel) (pa_cons (pe_slice (slL K) (pv 3) po_none (po_some (pv 4))) pa_nil))) (pv 4)) pa_nil))))))
  (pss_one (ps_ret (pv 2))))), ?_⟩
  -- found, rows = [], sorted(draughts)[::-1]
  refine ⟨Nat.zero_le _, fun o no => ?_⟩
  have s0 : Same H (upd H o (.lst [])) := Same.new no
  refine ⟨_, rfl, b, ds, rfl, s0.sqt hB, fun ns p hp hu np => ?_⟩
  have es := srt_is hp hu
  subst es
  have s1 := s0.trans (Same.new (o := .lst (vi (srt ds))) np)
  have hop : o ≠ p := ne_of_none upd_same np
  refine ⟨p, _, rfl, SqL.of upd_same, fun r nr => ?_⟩
  have er : (vi (srt ds)).reverse = vi (srt ds).reverse := List.map_reverse.symm
  rw [er]
  have s2 := s1.trans (Same.new (o := .lst (vi (srt ds).reverse)) nr)
  have hor : o ≠ r := ne_of_none (show (upd (upd H o (.lst [])) p (.lst (vi (srt ds)))) o = some (.lst []) by rw [upd_ne hop, upd_same]) nr
  refine ⟨_, _, rfl, ?_⟩
  -- the loop
  refine ⟨_, rfl, b, vi ds, rfl, .inr (s2.sqt hB), _, _, rfl, rfl, _, _, rfl, ⟨by omega, by omega, by rw [vi_len]; omega, by rw [vi_len]; omega⟩, ?_⟩
  have en : ((((vi ds).length : Nat) : Int) + 1 - 1).toNat = ds.length := by
    rw [vi_len]
    omega
  rw [en]
  refine for_range (lo := 1) (n := ds.length) (fun i σ H' => ∃ (y1 y2 y3 : Option V), σ = [some (.ref a), some (.ref b), some (.ref o), some (.ref r), y1, y2, y3] ∧ Same H H' ∧ H' o = some (.lst (vi ((spr cs ds).take i))) ∧ H' r = some (.lst (vi (srt ds).reverse))) ⟨none, none, none, rfl, s2, ?_, upd_same⟩ (fun i σ H2 hi hW => ?_) (fun σ H2 hW => ?_)
  · rw [upd_ne hor, upd_ne hop]
    exact upd_same
  · obtain ⟨y1, y2, y3, rfl, sm, hO, hR⟩ := hW
    -- have = sum([..])
    have hk : (1 : Int) + (i : Int) = ((i + 1 : Nat) : Int) := by omega
    refine ⟨_, rfl, a, rfl, ⟨_, sm.sqt hS⟩, fun D hD => lc_ints (walk_tup (xs := vi cs)) hD (by rw [vi_len]; exact hl) (fun j => cs[j]?.bind fun w => some (if w < 1 + (i : Int) then w else 1 + (i : Int))) (fun H' s => s.sqt (sm.sqt hS)) (fun j x H3 H' kn ky hj s3 y h1 h2 => ?_) (fun H3 s3 e => ?_)⟩
    · obtain ⟨rfl, hx⟩ := y
      obtain ⟨z, hz, rfl⟩ := vi_get hx
      refine ⟨rfl, lc_yes ⟨_, rfl, _, rfl, _, _, rfl, rfl, _, rfl, if_b (fun c => ⟨_, rfl, h2 _ _ (Same.refl _) ?_⟩) (fun c => ⟨_, rfl, h2 _ _ (Same.refl _) ?_⟩)⟩⟩
      · rw [hz]
        exact congrArg some (if_pos (of_decide_eq_true c))
      · rw [hz]
        exact congrArg some (if_neg (of_decide_eq_false c))
    · rw [vi_len, fm_at] at e
      refine ⟨D, _, rfl, SqL.of e, ?_⟩
      rw [cnt_eq]
      have hO3 := s3 _ _ hO
      have hR3 := s3 _ _ hR
      -- found.append(have - sum(rows[:k]) - k)
      refine ⟨_, rfl, .inl ⟨rfl, _, SqL.of hO3⟩, _, rfl, _, rfl, _, rfl, _, rfl, r, _, rfl, SqL.of hR3, fun c nc => ?_⟩
      have ec : cutV (vi (srt ds).reverse) none (some (1 + (i : Int))) = vi ((srt ds).reverse.take (i + 1)) := by
        rw [hk]
        exact cutV_to _ _ (by rw [List.length_reverse, srt_len]; omega)
      rw [ec]
      have s4 : Same H3 (upd H3 c (.lst (vi ((srt ds).reverse.take (i + 1))))) := Same.new nc
      refine ⟨c, _, rfl, SqL.of upd_same, _, _, rfl, rfl, _, rfl, _, _, rfl, rfl, o, _, _, rfl, rfl, s4 _ _ hO3, ?_, ?_⟩
      · rw [vi_len, List.length_take, spr_len]
        exact small1000 (by omega)
      refine ⟨_, _, _, rfl, ((sm.trans s3).trans s4).mut no, ?_, ?_⟩
      · rw [spr_take cs ds i hi, vi_snoc, wnt_eq ds (i + 1) (by omega), upd_same]
        have e2 : cnt cs (1 + (i : Int)) - ((srt ds).reverse.take (i + 1)).sum - (1 + (i : Int)) = cnt cs ((i : Int) + 1) - (((srt ds).reverse.take (i + 1)).sum + ((i + 1 : Nat) : Int)) := by
          rw [hk, Int.add_comm (i : Int) 1, hk]
          omega
        exact congrArg (fun z => some (HO.lst (vi ((spr cs ds).take i) ++ [V.int z]))) e2
      · rw [upd_ne hor.symm]
        exact s4 _ _ hR3
  · obtain ⟨y1, y2, y3, rfl, sm, hO, hR⟩ := hW
    rw [List.take_of_length_le (by rw [spr_len]; exact Nat.le_refl _)] at hO
    exact ⟨_, rfl, q H2 o sm no hO⟩
/-! def _law_can -/
abbrev s__law_can : Stmt := topS 19
theorem sc__law_can : FnScope ["candles", "draughts"] ["candles", "draughts"] (defScope s__law_can) := ⟨rfl, rfl, rfl, by decide +kernel, rfl, by decide +kernel, by decide +kernel⟩
theorem ok__law_can {f fS : Addr} {fd fdS : FuncData} (T : Bl mg) (F : Fun K "_law_can" "_law_can" s__law_can f fd) (D__law_spares : FnAt K mg "_law_spares" "_law_spares" s__law_spares ["candles", "draughts"] fS fdS) : FnOk P w K mg base CX0 2 f fd ["candles", "draughts"] (spCan K) := by
  have G__law_spares : FnOk P w K mg base CX0 1 fS fdS ["candles", "draughts"] (spSpares K) := ok__law_spares T D__law_spares.F
  refine F.ok sc__law_can (fun vs H Q E h => ?_) (fun cdv A outer s H vs Q E hr h => ?_)
  · obtain ⟨a, b, cs, ds, rfl, _⟩ := h
    rfl
  obtain ⟨a, b, cs, ds, rfl, hS, hB, hl, hlb, q⟩ := h
  refine ⟨_, (pss_one (ps_ret (pe_cmpR op_eq (pe_callB (minK K) rfl T.min (by decide +kernel) (pa_cons (pe_op op_cat (pe_lst (pa_cons pe_int pa_nil)) (pe_call G__law_spares hr rfl D__law_spares.g D__law_spares.F.kp D__law_spares.b .nil pass0 (pa_cons (pv 0) (pa_cons (pv 1) pa_nil)))) pa_nil)) pe_int (nomark _)))), ?_⟩
  refine ⟨by show 1 ≤ sizeLine; decide, fun o no => ?_⟩
  have s0 : Same H (upd H o (.lst [.int 0])) := Same.new no
  refine ⟨_, rfl, _, rfl, a, b, cs, ds, rfl, s0.sqt hS, s0.sqt hB, hl, hlb, fun H1 p s1 np ep => ⟨o, p, _, _, rfl, rfl, s1 _ _ upd_same, ep, ?_, fun r nr => ?_⟩⟩
  · rw [vi_len, spr_len]
    exact Nat.le_trans (show 1 + ds.length ≤ 1001 by omega) (by decide)
  · refine ⟨r, 0 :: spr cs ds, rfl, SqL.of upd_same, Nat.succ_pos _, fun m h1 h2 => ⟨rfl, ?_⟩⟩
    have e : decide (V.int m = V.int 0) = can cs ds := by
      rw [← can_min h1 h2]
      by_cases c : m = 0
      · rw [c]
        rfl
      · rw [decide_eq_false c]
        exact decide_eq_false fun z => c (V.int.inj z)
    rw [e]
    exact q _ ((s0.trans s1).trans (Same.new nr))
/-! def _law_lots -/
abbrev s__law_lots : Stmt := topS 20
theorem sc__law_lots : FnScope ["some", "found", "place", "lot"] ["some"] (defScope s__law_lots) := ⟨rfl, rfl, rfl, by decide +kernel, rfl, by decide +kernel, by decide +kernel⟩
def spLLots (K : PySem.W.Frag) : Sp := fun vs H Q _ => ∃ (a : Addr) (ps : List Int), vs = [.ref a] ∧ SqL K H a (vi ps) ∧ ps.length ≤ 8 ∧ LotsQ K H Q ps
theorem ok__law_lots {f : Addr} {fd : FuncData} (T : Bl mg) (F : Fun K "_law_lots" "_law_lots" s__law_lots f fd) : FnOk P w K mg base CX0 1 f fd ["some"] (spLLots K) := by
  refine F.ok sc__law_lots (fun vs H Q E h => ?_) (fun cdv A outer s H vs Q E hr h => ?_)
  · obtain ⟨a, ps, rfl, _⟩ := h
    rfl
  obtain ⟨a, ps, rfl, hA, hl, q⟩ := h
  refine ⟨_, (pss_cons (ps_set (i := 1) sc__law_lots.nd rfl (.inl rfl) (pe_lst (pa_cons (pe_tup pa_nil) pa_nil)))
  (pss_cons (ps_for PassesOwn.never rfl (piL K (pv 0)) (pg_name (i := 2) sc__law_lots.nd rfl (.inr rfl)) (pss_one (ps_set (i := 1) sc__law_lots.nd rfl (.inl rfl) (pe_op op_cat (pv 1) (pe_lc (own := [("lot", 3)]) rfl sc__law_lots.nd (piL K (pv 1)) (blkOk_by (N := ["some", "found", "place", "lot"]) (sc := defScope s__law_lots) (own := [("lot", 3)]) (by decide +kernel)) (fun _ _ _ _ _ => (pg_name (i := 3) sc__law_lots.nd rfl (.inl rfl))) (fun _ _ _ _ _ => pts_nil) (fun _ _ _ _ _ => (pe_op (catK K) (pv 3) (pe_tup (pa_cons (pv 2) pa_nil)))))))))
  (pss_one (ps_ret (pv 1))))), ?_⟩
  refine ⟨by show 0 ≤ sizeLine; decide, fun t0 nt0 => ⟨by show 1 ≤ sizeLine; decide, fun o no => ?_⟩⟩
  have st : Same H (upd H t0 (.tup [])) := Same.new nt0
  have so : Same (upd H t0 (.tup [])) (upd (upd H t0 (.tup [])) o (.lst [.ref t0])) := Same.new no
  have s0 := st.trans so
  refine ⟨_, rfl, a, rfl, ⟨_, s0.seq hA⟩, for_list (K := K) (a := a) (xs := vi ps) (fun i σ H' => ∃ (r : Addr) (xs : List V) (y2 y3 : Option V), σ = [some (.ref a), some (.ref r), y2, y3] ∧ Same H H' ∧ H r = none ∧ H' r = some (.lst xs) ∧ Paired (VS K H') xs (lotsPF (ps.take i))) ⟨o, [.ref t0], none, none, rfl, s0, st.free no, upd_same, .cons ⟨t0, rfl, SqT.of (so _ _ upd_same)⟩ .nil⟩ (fun i σ H' _ ⟨_, _, _, _, _, sm, _⟩ => sm.seq hA) (fun i x σ H1 hx hW => ?_) (fun σ H1 hW => ?_)⟩
  · obtain ⟨r, xs, y2, y3, rfl, sm, nr, hr1, hp⟩ := hW
    obtain ⟨pl, hpl, rfl⟩ := vi_get hx
    have hi := (List.getElem?_eq_some_iff.mp hpl).1
    have htk : (ps.take i).length ≤ 8 := by
      rw [List.length_take]
      omega
    have hsm := lots_small htk
    refine ⟨_, rfl, _, rfl, r, rfl, ⟨_, SqL.of hr1⟩, fun D hD => lc_rel (walk_list (xs := xs)) hD (by rw [paired_len hp]; omega) (VS K) (fun H H' D acc v p h s r => r.keep h s) (fun j => (lotsPF (ps.take i))[j]?.bind fun l => some (l ++ [pl])) (fun H' s => s.seq (SqL.of hr1)) (fun j x H2 H' kn ky hj sm2 y h1 h2 => ?_) (fun ys H2 sm2 e pr => ?_)⟩
    · obtain ⟨rfl, hx⟩ := y
      obtain ⟨l, hlj, t, rfl, ht⟩ := paired_get hp hx
      have hll := lotsPF_lens _ _ (List.mem_of_getElem? hlj)
      refine ⟨rfl, lc_yes ⟨_, rfl, _, rfl, by show 1 ≤ sizeLine; decide, fun e ne => ?_⟩⟩
      have s3 : Same H' (upd H' e (.tup [.int pl])) := Same.new ne
      refine cat_any ((sm2.trans s3).sqt ht) (SqT.of upd_same) (by rw [vi_len]; show _ + 1 ≤ 1000; omega) fun H4 g s4 hg => ?_
      refine h2 _ (l ++ [pl]) _ (s3.trans s4) (by rw [hlj]; rfl) ⟨g, rfl, ?_⟩
      rw [vi_snoc]
      exact hg
    · rw [paired_len hp, fm_at] at pr
      have hD1 := sm.free hD
      refine ⟨r, D, _, _, rfl, rfl, sm2 _ _ hr1, e, ?_, fun r2 nr2 => ?_⟩
      · rw [paired_len hp, paired_len pr, List.length_map]
        exact Nat.le_trans (show _ ≤ 1000 by omega) (by decide)
      have s5 : Same H2 (upd H2 r2 (.lst (xs ++ ys))) := Same.new nr2
      refine ⟨r2, xs ++ ys, _, _, rfl, (sm.trans sm2).trans s5, (sm.trans sm2).free nr2, upd_same, ?_⟩
      rw [take_next hpl, lotsPF_snoc]
      exact paired_app (paired_mono (fun v x r => r.same (sm2.trans s5)) hp) (paired_mono (fun v x r => r.same s5) pr)
  · obtain ⟨r, xs, y2, y3, rfl, sm, nr, hr1, hp⟩ := hW
    rw [vi_len, List.take_length] at hp
    exact ⟨_, rfl, q H1 r xs sm nr hr1 hp⟩
abbrev s_law : Stmt := topS 21
theorem sc_law : FnScope ["script", "tape", "turn", "candles", "draughts", "more", "wax", "rows", "lot", "due", "at", "one"] ["script"] (defScope s_law) := ⟨rfl, rfl, rfl, by decide +kernel, rfl, by decide +kernel, by decide +kernel⟩

theorem stb_eq {cs ds : List Int} {m n : Int} (h : Stb cs ds m) (g : Stb cs ds n) : m = n := by
  rcases Int.lt_trichotomy m n with c | c | c
  · obtain ⟨k, k1, k2, e⟩ := g.2.2 (by have := h.1; omega)
    have := h.2.1 k k1 k2
    omega
  · exact c
  · obtain ⟨k, k1, k2, e⟩ := h.2.2 (by have := g.1; omega)
    have := g.2.1 k k1 k2
    omega
theorem s21 : srt [2, 1] = [1, 2] := (srt_is (by decide) (by decide)).symm
theorem s11 : srt [1, 1] = [1, 1] := (srt_is (by decide) (by decide)).symm
theorem two_cases {k : Nat} (h1 : 1 ≤ k) (h2 : k ≤ 2) : k = 1 ∨ k = 2 := by omega
theorem e_stubs {m : Int} (h : Stb [0] [2, 1] m) : m = 5 := by
  refine stb_eq h ⟨by decide, fun k k1 k2 => ?_, fun _ => ⟨2, by decide, by decide, ?_⟩⟩
  · rcases two_cases k1 k2 with rfl | rfl
    · unfold wnt
      rw [s21]
      decide
    · unfold wnt
      rw [s21]
      decide
  · unfold wnt
    rw [s21]
    decide
theorem e_one {m : Int} (h : Stb [2, 2] [1, 1] m) : m = 0 := by
  refine stb_eq h ⟨by decide, fun k k1 k2 => ?_, fun h => absurd h (by decide)⟩
  rcases two_cases k1 k2 with rfl | rfl
  · unfold wnt
    rw [s11]
    decide
  · unfold wnt
    rw [s11]
    decide
theorem e_one2 : can ([2, 2] ++ [0]) [1, 1] = true := by
  refine (can_iff _ _).mpr fun k k1 k2 => ?_
  rcases two_cases k1 k2 with rfl | rfl
  · unfold wnt
    rw [s11]
    decide
  · unfold wnt
    rw [s11]
    decide
theorem e_best : best (sparedF [1, 1] []) = rowD (-2, [0, 1]) := by
  have e : sparedF [1, 1] [] = [(0, []), (-1, [0]), (-1, [1]), (-2, [0, 1])] := rfl
  rw [e]
  have h1 : PySem.W.dataLt (rowD (-1, [0])) (rowD (0, [])) = true := by decide +kernel
  have h2 : PySem.W.dataLt (rowD (-1, [1])) (rowD (-1, [0])) = false := by decide +kernel
  have h3 : PySem.W.dataLt (rowD (-2, [0, 1])) (rowD (-1, [0])) = true := by decide +kernel
  show List.foldl (fun a y => if PySem.W.dataLt y a = true then y else a) (rowD (0, [])) [rowD (-1, [0]), rowD (-1, [1]), rowD (-2, [0, 1])] = _
  simp only [List.foldl_cons, List.foldl_nil]
  simp only [h1, h2, h3, ↓reduceIte, Bool.false_eq_true]
def spLaw (K : PySem.W.Frag) : Sp := fun vs H Q _ => ∃ (a : Addr) (ns : List Int), vs = [.ref a] ∧ SqL K H a (vi ns) ∧ ns.length ≤ 63 ∧ ∀ H', Q (.bl true) H'
theorem ok_law {f : Addr} {fd : FuncData} (T : Bl mg) (F : Fun K "law" "law" s_law f fd) {f_counted : Addr} {fd_counted : FuncData} (D_counted : FnAt K mg "counted" "counted" s_counted ["candles", "ticks"] f_counted fd_counted) {f_wanted : Addr} {fd_wanted : FuncData} (D_wanted : FnAt K mg "wanted" "wanted" s_wanted ["draughts", "ticks"] f_wanted fd_wanted) {f_spares : Addr} {fd_spares : FuncData} (D_spares : FnAt K mg "spares" "spares" s_spares ["candles", "draughts"] f_spares fd_spares) {f_can_keep : Addr} {fd_can_keep : FuncData} (D_can_keep : FnAt K mg "can_keep" "can_keep" s_can_keep ["candles", "draughts"] f_can_keep fd_can_keep) {f_stubs : Addr} {fd_stubs : FuncData} (D_stubs : FnAt K mg "stubs" "stubs" s_stubs ["candles", "draughts"] f_stubs fd_stubs) {f_one_more : Addr} {fd_one_more : FuncData} (D_one_more : FnAt K mg "one_more" "one_more" s_one_more ["candles", "draughts"] f_one_more fd_one_more) {f_lotsN : Addr} {fd_lotsN : FuncData} (D_lotsN : FnAt K mg "lots" "lots" s_lotsN ["many"] f_lotsN fd_lotsN) {f_spared : Addr} {fd_spared : FuncData} (D_spared : FnAt K mg "spared" "spared" s_spared ["candles", "draughts"] f_spared fd_spared) {f__law_draw : Addr} {fd__law_draw : FuncData} (D__law_draw : FnAt K mg "_law_draw" "_law_draw" s__law_draw ["tape", "many"] f__law_draw fd__law_draw) {f__law_whole : Addr} {fd__law_whole : FuncData} (D__law_whole : FnAt K mg "_law_whole" "_law_whole" s__law_whole ["item"] f__law_whole fd__law_whole) {f__law_like : Addr} {fd__law_like : FuncData} (D__law_like : FnAt K mg "_law_like" "_law_like" s__law_like ["one", "two"] f__law_like fd__law_like) {f__law_candles : Addr} {fd__law_candles : FuncData} (D__law_candles : FnAt K mg "_law_candles" "_law_candles" s__law_candles ["tape", "size", "wax"] f__law_candles fd__law_candles) {f__law_draughts : Addr} {fd__law_draughts : FuncData} (D__law_draughts : FnAt K mg "_law_draughts" "_law_draughts" s__law_draughts ["tape", "size", "top"] f__law_draughts fd__law_draughts) {f__law_near : Addr} {fd__law_near : FuncData} (D__law_near : FnAt K mg "_law_near" "_law_near" s__law_near ["tape", "candles", "size", "top"] f__law_near fd__law_near) {f__law_night : Addr} {fd__law_night : FuncData} (D__law_night : FnAt K mg "_law_night" "_law_night" s__law_night ["tape", "size", "wax", "ticks", "top"] f__law_night fd__law_night) {f__law_spares : Addr} {fd__law_spares : FuncData} (D__law_spares : FnAt K mg "_law_spares" "_law_spares" s__law_spares ["candles", "draughts"] f__law_spares fd__law_spares) {f__law_can : Addr} {fd__law_can : FuncData} (D__law_can : FnAt K mg "_law_can" "_law_can" s__law_can ["candles", "draughts"] f__law_can fd__law_can) {f__law_lots : Addr} {fd__law_lots : FuncData} (D__law_lots : FnAt K mg "_law_lots" "_law_lots" s__law_lots ["some"] f__law_lots fd__law_lots) : FnOk P w K mg base CX0 5 f fd ["script"] (spLaw K) := by
  have G__law_night : FnOk P w K mg base CX0 4 f__law_night fd__law_night _ spNight := (ok__law_night T D__law_night.F D__law_draw D__law_candles D__law_draughts D__law_near).mono (by decide)
  have G__law_like : FnOk P w K mg base CX0 4 f__law_like fd__law_like _ (spLike K 4) := ok__law_like T D__law_like 4
  have G__law_can : FnOk P w K mg base CX0 4 f__law_can fd__law_can _ (spCan K) := (ok__law_can T D__law_can.F D__law_spares).mono (by decide)
  have G__law_whole : FnOk P w K mg base CX0 4 f__law_whole fd__law_whole _ (spWhole K) := (ok__law_whole T D__law_whole.F).mono (by decide)
  have G__law_lots : FnOk P w K mg base CX0 4 f__law_lots fd__law_lots _ (spLLots K) := (ok__law_lots T D__law_lots.F).mono (by decide)
  have G_stubs : FnOk P w K mg base CX0 4 f_stubs fd_stubs _ (spStubs K) := (ok_stubs T D_stubs.F D_spares D_counted D_wanted).mono (by decide)
  have G_one_more : FnOk P w K mg base CX0 4 f_one_more fd_one_more _ (spOneMore K) := ok_one_more T D_one_more.F D_stubs D_can_keep D_spares D_counted D_wanted
  have G_spared : FnOk P w K mg base CX0 4 f_spared fd_spared _ (spSpared K) := ok_spared T D_spared.F D_lotsN D_can_keep D_spares D_counted D_wanted
  refine F.ok sc_law (fun vs H Q E h => ?_) (fun cdv A outer s H vs Q E hr h => ?_)
  · obtain ⟨a, ns, rfl, _⟩ := h
    rfl
  obtain ⟨a, ns, rfl, hS, hl, q⟩ := h
  refine ⟨_, (pss_cons (ps_set (i := 1) sc_law.nd rfl (.inl rfl) (pe_lst (pa_cons (pe_callTy (listK K) rfl T.list (by decide +kernel) (pa_cons (pv 0) pa_nil)) (pa_cons pe_int (pa_cons pe_int pa_nil)))))
  (pss_cons (ps_for PassesOwn.never rfl (pi_range1 rfl T.range (pa_cons pe_int pa_nil)) (pg_name (i := 2) sc_law.nd rfl (.inl rfl)) (pss_cons (ps_asg (pe_call G__law_night hr rfl D__law_night.g D__law_night.F.kp D__law_night.b .nil pass0 (pa_cons (pv 1) (pa_cons pe_int (pa_cons pe_int (pa_cons pe_int (pa_cons pe_int pa_nil)))))) (pgT K 2 rfl (pgs_cons (pg_name (i := 3) sc_law.nd rfl (.inl rfl)) (pgs_cons (pg_name (i := 4) sc_law.nd rfl (.inl rfl)) pgs_nil))))
  (pss_cons (ps_set (i := 5) sc_law.nd rfl (.inl rfl) (pe_call G_stubs hr rfl D_stubs.g D_stubs.F.kp D_stubs.b .nil pass0 (pa_cons (pv 3) (pa_cons (pv 4) pa_nil))))
  (pss_cons (ps_if (PW.pt (pw_or (pt_not (pt_val (pe_call G__law_whole hr rfl D__law_whole.g D__law_whole.F.kp D__law_whole.b .nil pass0 (pa_cons (pv 5) pa_nil)))) (pw_or (pt_cmpR op_lt (pv 5) pe_int (nomark _)) (pw_or1 (pt_not (pt_val (pe_call G__law_can hr rfl D__law_can.g D__law_can.F.kp D__law_can.b .nil pass0 (pa_cons (pe_op (catK K) (pv 3) (pe_op (repK K) (pe_tup (pa_cons pe_int pa_nil)) (pv 5))) (pa_cons (pv 4) pa_nil))))))))) (pss_one (ps_ret pe_bl)) pss_nil)
  (C8.pss_cut (ps_if (PW.pt (pw_and (pt_cmpR op_gt (pv 5) pe_int (nomark _)) (pw_and1 (pt_val (pe_call G__law_can hr rfl D__law_can.g D__law_can.F.kp D__law_can.b .nil pass0 (pa_cons (pe_op (catK K) (pv 3) (pe_op (repK K) (pe_tup (pa_cons pe_int pa_nil)) (pe_op op_sub (pv 5) pe_int))) (pa_cons (pv 4) pa_nil))))))) (pss_one (ps_ret pe_bl)) pss_nil)
  (C8.pss_cut (ps_set (i := 6) sc_law.nd rfl (.inl rfl) (pe_call G_one_more hr rfl D_one_more.g D_one_more.F.kp D_one_more.b .nil pass0 (pa_cons (pv 3) (pa_cons (pv 4) pa_nil))))
  (C8.pss_cut (ps_if (pt_cmpR op_isN (pv 6) pe_non (nomark _)) (pss_one (ps_if (pt_val (pe_call G__law_can hr rfl D__law_can.g D__law_can.F.kp D__law_can.b .nil pass0 (pa_cons (pe_op (catK K) (pv 3) (pe_tup (pa_cons (pe_op op_pow pe_int pe_int) pa_nil))) (pa_cons (pv 4) pa_nil)))) (pss_one (ps_ret pe_bl)) pss_nil)) (pss_one (ps_if (PW.pt (pw_or (pt_not (pt_val (pe_call G__law_whole hr rfl D__law_whole.g D__law_whole.F.kp D__law_whole.b .nil pass0 (pa_cons (pv 6) pa_nil)))) (pw_or (pt_cmpR op_lt (pv 6) pe_int (nomark _)) (pw_or1 (pt_not (pt_val (pe_call G__law_can hr rfl D__law_can.g D__law_can.F.kp D__law_can.b .nil pass0 (pa_cons (pe_op (catK K) (pv 3) (pe_tup (pa_cons (pv 6) pa_nil))) (pa_cons (pv 4) pa_nil))))))))) (pss_one (ps_ret pe_bl)) (pss_one (ps_if (PW.pt (pw_and (pt_cmpR op_gt (pv 6) pe_int (nomark _)) (pw_and1 (pt_val (pe_call G__law_can hr rfl D__law_can.g D__law_can.F.kp D__law_can.b .nil pass0 (pa_cons (pe_op (catK K) (pv 3) (pe_tup (pa_cons (pe_op op_sub (pv 6) pe_int) pa_nil))) (pa_cons (pv 4) pa_nil))))))) (pss_one (ps_ret pe_bl)) pss_nil)))))
  (pss_cons (ps_set (i := 7) sc_law.nd rfl (.inl rfl) (pe_lst pa_nil))
  (pss_cons (ps_for PassesOwn.never rfl (piL K (pe_call G__law_lots hr rfl D__law_lots.g D__law_lots.F.kp D__law_lots.b .nil pass0 (pa_cons (pe_listRg rfl rfl T.list (prg_1 rfl T.range (pe_callB (lenK K) rfl T.len (by decide +kernel) (pa_cons (pv 3) pa_nil)))) pa_nil))) (pg_name (i := 8) sc_law.nd rfl (.inr rfl)) (pss_one (ps_if (pt_val (pe_call G__law_can hr rfl D__law_can.g D__law_can.F.kp D__law_can.b .nil pass0 (pa_cons (pe_callTy (tupleK K) rfl T.tuple (by decide +kernel) (pa_cons (pe_lc (own := [("at", 10), ("one", 11)]) rfl sc_law.nd (enumK K true rfl T.enumerate (pa_cons (pv 3) pa_nil)) (blkOk_by (N := ["script", "tape", "turn", "candles", "draughts", "more", "wax", "rows", "lot", "due", "at", "one"]) (sc := defScope s_law) (own := [("at", 10), ("one", 11)]) (by decide +kernel)) (fun _ _ _ _ _ => (pgT K 2 rfl (pgs_cons (pg_name (i := 10) sc_law.nd rfl (.inl rfl)) (pgs_cons (pg_name (i := 11) sc_law.nd rfl (.inl rfl)) pgs_nil)))) (fun _ _ _ _ _ => (pts_one (pt_cmpR (notinK K) (pv 10) (pv 8) rfl))) (fun _ _ _ _ _ => (pv 11))) pa_nil)) (pa_cons (pv 4) pa_nil)))) (pss_one (ps_expr (pe_bm PySem.F.plainAttrs_list PySem.F.slot_list_append PySem.F.type_list_append mt_append (pv 7) (pa_cons (pe_tup (pa_cons (pe_un un_neg (pe_callB (lenK K) rfl T.len (by decide +kernel) (pa_cons (pv 8) pa_nil))) (pa_cons (pv 8) pa_nil))) pa_nil)))) pss_nil)))
  (pss_cons (ps_set (i := 9) sc_law.nd rfl (.inl rfl) (pe_ifExp (pt_cmpR (neDK K hr.units) (pv 7) (pe_lst pa_nil) (nomark _)) (pe_ix (ixT K) (pe_callB (minRK K hr.units) rfl T.min (by decide +kernel) (pa_cons (pv 7) pa_nil)) pe_int (fun _ _ => rfl)) pe_non))
  (pss_one (ps_if (pt_not (pt_val (pe_call G__law_like hr rfl D__law_like.g D__law_like.F.kp D__law_like.b .nil pass0 (pa_cons (pe_call G_spared hr rfl D_spared.g D_spared.F.kp D_spared.b .nil pass0 (pa_cons (pv 3) (pa_cons (pv 4) pa_nil))) (pa_cons (pv 9) pa_nil))))) (pss_one (ps_ret pe_bl)) pss_nil))))))))))))
  (pss_one (ps_ret (pe_and (pe_cmpR op_eq (pe_call G_stubs hr rfl D_stubs.g D_stubs.F.kp D_stubs.b .nil pass0 (pa_cons (pe_tup (pa_cons pe_int pa_nil)) (pa_cons (pe_tup (pa_cons pe_int (pa_cons pe_int pa_nil))) pa_nil))) pe_int (nomark _)) (pe_and (pe_cmpR (eqDK K hr.units) (pe_call G_spared hr rfl D_spared.g D_spared.F.kp D_spared.b .nil pass0 (pa_cons (pe_tup (pa_cons pe_int (pa_cons pe_int pa_nil))) (pa_cons (pe_tup pa_nil) pa_nil))) (pe_tup (pa_cons pe_int (pa_cons pe_int pa_nil))) (nomark _)) (pe_one (pe_cmpR op_eq (pe_call G_one_more hr rfl D_one_more.g D_one_more.F.kp D_one_more.b .nil pass0 (pa_cons (pe_tup (pa_cons pe_int (pa_cons pe_int pa_nil))) (pa_cons (pe_tup (pa_cons pe_int (pa_cons pe_int pa_nil))) pa_nil))) pe_int (nomark _))))))))), ?_⟩
  -- tape = [list(script), 0, 0]
  refine ⟨_, rfl, a, vi ns, rfl, .inl hS, fun l nl => ⟨by show 3 ≤ sizeLine; decide, fun t nt => ?_⟩⟩
  have hT0 : TapeAt (upd (upd H l (.lst (vi ns))) t (.lst [.ref l, .int 0, .int 0])) t l := by
    refine ⟨ns, 0, 0, upd_same, ?_, by decide⟩
    rw [upd_ne (ne_of_none upd_same nt)]
    exact upd_same
  refine ⟨4, rfl, by decide, by decide, for_range (lo := 0) (n := 4) (fun i σ H' => ∃ (y2 y3 y4 y5 y6 y7 y8 y9 y10 y11 : Option V), σ = [some (.ref a), some (.ref t), y2, y3, y4, y5, y6, y7, y8, y9, y10, y11] ∧ TapeAt H' t l) ⟨none, none, none, none, none, none, none, none, none, none, rfl, hT0⟩ (fun i σ H1 hi hW => ?_) (fun σ H1 hW => ?_)⟩
  · obtain ⟨y2, y3, y4, y5, y6, y7, y8, y9, y10, y11, rfl, hT⟩ := hW
    refine ⟨_, rfl, t, l, 7, 12, 8, 7, rfl, hT, by decide, by decide, by decide, by decide, by decide, by decide, by decide, by decide, fun p b c cs ds H2 hcs hds hT2 s2 hp hb hc => ⟨p, _, rfl, SqT.of hp, rfl, _, _, rfl, _, _, rfl, rfl, ?_⟩⟩
    have lc : cs.length ≤ 7 := by have := hcs.2.1; omega
    have ld : ds.length ≤ 8 := by have := hds.1; omega
    have c0 : ∀ x ∈ cs, 0 ≤ x := fun x hx => (hcs.2.2 x hx).1
    -- more = stubs(candles, draughts)
    refine ⟨_, rfl, _, rfl, b, c, cs, ds, rfl, SqT.of hb, SqT.of hc, by omega, by omega, fun H3 m s3 hm => ?_⟩
    have hm96 : m ≤ 64 := by
      have := stb_le hm c0 hds.2 (by decide)
      omega
    have hm0 : 0 ≤ m := hm.1
    -- if not _law_whole(more) or more < 0 or not _law_can(candles + (1,) * more, draughts)
    refine ⟨_, rfl, .int m, .int m, rfl, .int m, _, rfl, ?_⟩
    refine if_f rfl ?_
    refine ⟨_, rfl, _, _, rfl, rfl, _, rfl, ?_⟩
    refine if_f (decide_eq_false (by omega)) ?_
    refine ⟨_, rfl, by show 1 ≤ sizeLine; decide, fun p1 np1 => ?_⟩
    have s4 : Same H3 (upd H3 p1 (.tup [.int 1])) := Same.new np1
    refine ⟨_, rfl, rep_any (SqT.of upd_same) hm0 (by omega) fun H5 g1 s5 hg1 => ?_⟩
    rw [vi_rep] at hg1
    have s25 := (s3.trans s4).trans s5
    refine cat_any (SqT.of (s25 _ _ hb)) hg1 (by rw [vi_len, vi_len, List.length_replicate]; omega) fun H6 g2 s6 hg2 => ?_
    rw [← vi_app] at hg2
    have s26 := s25.trans s6
    refine ⟨_, rfl, g2, c, cs ++ List.replicate m.toNat 1, ds, rfl, hg2, SqT.of (s26 _ _ hc), by rw [List.length_append, List.length_replicate]; omega, by omega, fun H7 s7 => ⟨_, rfl, ?_⟩⟩
    rw [stb_can hm]
    refine if_f rfl ?_
    have s27 := s26.trans s7
    -- if more > 0 and _law_can(candles + (1,) * (more - 1), draughts)
    refine ⟨fun σ' H' => σ' = [some (.ref a), some (.ref t), some (.int (0 + (i : Int))), some (.ref b), some (.ref c), some (.int m), y6, y7, y8, y9, y10, y11] ∧ Same H2 H', ?_, ?_⟩
    · refine ⟨_, rfl, _, _, rfl, rfl, _, rfl, if_b (fun hpos => ?_) (fun _ => ?_)⟩
      · have hpos : 0 < m := of_decide_eq_true hpos
        refine ⟨_, rfl, by show 1 ≤ sizeLine; decide, fun p2 np2 => ?_⟩
        have s8 : Same H7 (upd H7 p2 (.tup [.int 1])) := Same.new np2
        refine ⟨_, rfl, _, _, rfl, rfl, rep_any (SqT.of upd_same) (by omega) (by omega) fun H9 g3 s9 hg3 => ?_⟩
        rw [vi_rep] at hg3
        have s29 := (s27.trans s8).trans s9
        refine cat_any (SqT.of (s29 _ _ hb)) hg3 (by rw [vi_len, vi_len, List.length_replicate]; omega) fun H10 g4 s10 hg4 => ?_
        rw [← vi_app] at hg4
        have s210 := s29.trans s10
        refine ⟨_, rfl, g4, c, cs ++ List.replicate (m - 1).toNat 1, ds, rfl, hg4, SqT.of (s210 _ _ hc), by rw [List.length_append, List.length_replicate]; omega, by omega, fun H11 s11 => ⟨_, rfl, ?_⟩⟩
        rw [stb_not hm hpos]
        exact if_f rfl ⟨rfl, s210.trans s11⟩
      · exact if_f rfl ⟨rfl, s27⟩
    rintro σ' H8 ⟨rfl, s28⟩
    -- wax = one_more(candles, draughts)
    refine ⟨fun σ' H' => ∃ w : V, σ' = [some (.ref a), some (.ref t), some (.int (0 + (i : Int))), some (.ref b), some (.ref c), some (.int m), some w, y7, y8, y9, y10, y11] ∧ Same H2 H' ∧ ((∃ m', w = .int m' ∧ Stb cs ds m' ∧ can (cs ++ [m']) ds = true) ∨ (w = .non ∧ ∃ m', Stb cs ds m' ∧ can (cs ++ [m']) ds = false)), ?_, ?_⟩
    · refine ⟨_, rfl, _, rfl, b, c, cs, ds, rfl, SqT.of (s28 _ _ hb), SqT.of (s28 _ _ hc), by omega, by omega, fun H9 m' s9 hm' => ⟨fun hcan => ?_, fun hcan => ?_⟩⟩
      · exact ⟨_, rfl, s28.trans s9, .inl ⟨m', rfl, hm', hcan⟩⟩
      · exact ⟨_, rfl, s28.trans s9, .inr ⟨rfl, m', hm', hcan⟩⟩
    rintro σ' H9 ⟨w, rfl, s29, hw⟩
    -- if wax is None
    refine ⟨fun σ' H' => ∃ y6 : Option V, σ' = [some (.ref a), some (.ref t), some (.int (0 + (i : Int))), some (.ref b), some (.ref c), some (.int m), y6, y7, y8, y9, y10, y11] ∧ Same H2 H', ?_, ?_⟩
    · rcases hw with ⟨m', rfl, hm', hcan⟩ | ⟨rfl, m', hm', hcan⟩
      · have hm1 : 0 ≤ m' := hm'.1
        refine ⟨_, rfl, rfl, _, rfl, if_f rfl ?_⟩
        refine ⟨_, rfl, .int m', .int m', rfl, .int m', _, rfl, ?_⟩
        refine if_f rfl ?_
        refine ⟨_, rfl, _, _, rfl, rfl, _, rfl, ?_⟩
        refine if_f (decide_eq_false (by omega)) ?_
        refine ⟨_, rfl, _, rfl, by show 1 ≤ sizeLine; decide, fun p1 np1 => ?_⟩
        have s4 : Same H9 (upd H9 p1 (.tup [.int m'])) := Same.new np1
        have s24 := s29.trans s4
        refine cat_any (SqT.of (s24 _ _ hb)) (SqT.of upd_same) (by rw [vi_len]; show _ + 1 ≤ 1000; omega) fun H5 g2 s5 hg2 => ?_
        have hg2 : SqT K H5 g2 (vi (cs ++ [m'])) := by
          rw [vi_snoc]
          exact hg2
        have s25 := s24.trans s5
        refine ⟨_, rfl, g2, c, cs ++ [m'], ds, rfl, hg2, SqT.of (s25 _ _ hc), by rw [List.length_append]; show _ + 1 ≤ 1000; omega, by omega, fun H6 s6 => ⟨_, rfl, ?_⟩⟩
        rw [hcan]
        refine if_f rfl ?_
        have s26 := s25.trans s6
        refine ⟨_, rfl, _, _, rfl, rfl, _, rfl, if_b (fun hpos => ?_) (fun _ => ?_)⟩
        · have hpos : 0 < m' := of_decide_eq_true hpos
          refine ⟨_, rfl, _, rfl, _, _, rfl, rfl, by show 1 ≤ sizeLine; decide, fun p2 np2 => ?_⟩
          have s7 : Same H6 (upd H6 p2 (.tup [.int (m' - 1)])) := Same.new np2
          have s27 := s26.trans s7
          refine cat_any (SqT.of (s27 _ _ hb)) (SqT.of upd_same) (by rw [vi_len]; show _ + 1 ≤ 1000; omega) fun H8 g3 s8 hg3 => ?_
          have hg3 : SqT K H8 g3 (vi (cs ++ [m' - 1])) := by
            rw [vi_snoc]
            exact hg3
          have s28 := s27.trans s8
          refine ⟨_, rfl, g3, c, cs ++ [m' - 1], ds, rfl, hg3, SqT.of (s28 _ _ hc), by rw [List.length_append]; show _ + 1 ≤ 1000; omega, by omega, fun H9 s9 => ⟨_, rfl, ?_⟩⟩
          rw [one_not hm' hpos]
          exact if_f rfl ⟨_, rfl, s28.trans s9⟩
        · exact if_f rfl ⟨_, rfl, s26⟩
      · refine ⟨_, rfl, rfl, _, rfl, if_t rfl ?_⟩
        refine ⟨_, rfl, _, _, rfl, rfl, ⟨by decide, by decide, by decide⟩, by show 1 ≤ sizeLine; decide, fun p1 np1 => ?_⟩
        have s4 : Same H9 (upd H9 p1 (.tup [.int ((10 : Int) ^ (6 : Int).toNat)])) := Same.new np1
        have s24 := s29.trans s4
        refine cat_any (SqT.of (s24 _ _ hb)) (SqT.of upd_same) (by rw [vi_len]; show _ + 1 ≤ 1000; omega) fun H5 g2 s5 hg2 => ?_
        have hg2 : SqT K H5 g2 (vi (cs ++ [(10 : Int) ^ (6 : Int).toNat])) := by
          rw [vi_snoc]
          exact hg2
        have s25 := s24.trans s5
        refine ⟨_, rfl, g2, c, cs ++ [(10 : Int) ^ (6 : Int).toNat], ds, rfl, hg2, SqT.of (s25 _ _ hc), by rw [List.length_append]; show _ + 1 ≤ 1000; omega, by omega, fun H6 s6 => ⟨_, rfl, ?_⟩⟩
        have hno : can (cs ++ [(10 : Int) ^ (6 : Int).toNat]) ds = false := by
          cases h : can (cs ++ [(10 : Int) ^ (6 : Int).toNat]) ds with
          | false => rfl
          | true =>
            rw [one_of hm' h] at hcan
            cases hcan
        rw [hno]
        exact if_f rfl ⟨_, rfl, s25.trans s6⟩
    rintro σ' H10 ⟨y6, rfl, s210⟩
    have hb0 := s210 _ _ hb
    have hc0 := s210 _ _ hc
    -- rows = []
    refine ⟨Nat.zero_le _, fun o no => ?_⟩
    have sO : Same H10 (upd H10 o (.lst [])) := Same.new no
    have nHo : H2 o = none := s210.free no
    -- for lot in _law_lots(list(range(len(candles))))
    refine ⟨_, rfl, b, vi cs, rfl, .inr (SqT.of (sO _ _ hb0)), _, rfl, RgOk.of_le (by decide) (by rw [vi_len]; omega) (by decide) (by omega), fun r nr => ?_⟩
    have sR : Same (upd H10 o (.lst [])) (upd (upd H10 o (.lst [])) r (.lst (rgV 0 ((vi cs).length : Nat)))) := Same.new nr
    have erg : rgV 0 ((vi cs).length : Nat) = vi (placesF cs) := by
      unfold rgV placesF vi
      rw [vi_len, List.map_map]
      have e : (((cs.length : Nat) : Int) - 0).toNat = cs.length := by omega
      rw [e]
      refine List.map_congr_left fun i _ => ?_
      show V.int (0 + (i : Int)) = V.int i
      rw [Int.zero_add]
    have plen : (placesF cs).length ≤ 8 := by
      unfold placesF
      rw [List.length_map, List.length_range]
      omega
    refine ⟨r, placesF cs, rfl, SqL.of (by rw [← erg]; exact upd_same), plen, fun H11 p2 xs s11 np2 hp2 pr => ?_⟩
    have hO11 : H11 o = some (.lst []) := s11 _ _ (sR _ _ upd_same)
    have npo : p2 ≠ o := fun z => by
      rw [z, sR _ _ upd_same] at np2
      cases np2
    have s211 := s210.trans ((sO.trans sR).trans s11)
    refine ⟨p2, rfl, ⟨xs, SqL.of hp2⟩, for_list (K := K) (a := p2) (xs := xs) (fun j σ H' => ∃ (ys : List V) (z8 z10 z11 : Option V), σ = [some (.ref a), some (.ref t), some (.int (0 + (i : Int))), some (.ref b), some (.ref c), some (.int m), y6, some (.ref o), z8, y9, z10, z11] ∧ Smt o H11 H' ∧ H' o = some (.lst ys) ∧ Paired (RV K H') ys (rowsP cs ds ((lotsPF (placesF cs)).take j))) ⟨[], y8, y10, y11, rfl, Smt.of (Same.refl _), hO11, .nil⟩ (fun j σ H' _ ⟨_, _, _, _, _, sm, _⟩ => SqL.of (sm _ _ hp2 npo)) (fun j x σ H12 hx hW => ?_) (fun σ H12 hW => ?_)⟩
    · obtain ⟨ys, z8, z10, z11, rfl, sm, hO, hpr⟩ := hW
      obtain ⟨lot, hlot, u, rfl, hu⟩ := paired_get pr hx
      have sH := same_smt s211 sm nHo
      have hb12 := sH _ _ hb
      have hc12 := sH _ _ hc
      have hu12 := sqt_keep hO11 sm hu
      refine ⟨_, rfl, b, vi cs, rfl, SqT.of hb12, fun D hD => lc_ints (walk_enumB (tp := true) (xs := vi cs)) hD (by rw [vi_len]; omega) (fun i => if (i : Int) ∈ lot then none else cs[i]?) (fun H' s => SqT.of (s _ _ hb12)) (fun j x H4 H' kn ky hj sm4 y h1 h2 => ?_) (fun H4 sm4 e => ?_)⟩
      · obtain ⟨tt, x1, x2, rfl, nT, rfl, e1, e2⟩ := y
        cases Option.some.inj e1
        obtain ⟨z, hz, rfl⟩ := vi_get e2
        have sn : Same H4 (upd H4 tt (.tup [.int (j : Nat), .int z])) := Same.new nT
        refine ⟨tt, _, rfl, SqT.of upd_same, rfl, _, _, rfl, _, _, rfl, rfl, rfl, _, rfl, _, rfl, u, vi lot, rfl, .inr ((sm4.trans sn).sqt hu12), rfl, vi_flat _, _, rfl, if_b (fun c => ?_) (fun c => h1 _ sn ?_)⟩
        · have c : (!inV (.int (j : Nat)) (vi lot)) = true := c
          rw [inV_ints] at c
          refine ⟨_, rfl, h2 _ _ sn ?_⟩
          rw [if_neg (by simpa using c)]
          exact hz
        · have c : (!inV (.int (j : Nat)) (vi lot)) = false := c
          rw [inV_ints] at c
          rw [if_pos (by simpa using c)]
      · rw [vi_len] at e
        have e : H4 D = some (.lst (vi (remF cs lot))) := e
        refine ⟨D, _, rfl, .inl ⟨SqL.of e, fun g ng => ?_⟩⟩
        have s5 : Same H4 (upd H4 g (.tup (vi (remF cs lot)))) := Same.new ng
        have s35 := sm4.trans s5
        have hrl : (remF cs lot).length ≤ cs.length := (rem_sub cs lot).length_le
        refine ⟨_, rfl, g, c, remF cs lot, ds, rfl, SqT.of upd_same, SqT.of (s35 _ _ hc12), by omega, by omega, fun H6 s6 => ⟨_, rfl, if_b (fun c1 => ?_) (fun c1 => ?_)⟩⟩
        · have s36 := s35.trans s6
          have hu6 := s36.sqt hu12
          have hO6 := s36 _ _ hO
          refine ⟨_, rfl, .inl ⟨rfl, _, SqL.of hO6⟩, _, rfl, u, vi lot, rfl, .inr hu6, _, rfl, _, rfl, by show 2 ≤ sizeLine; decide, fun v nv => ?_⟩
          have s7 : Same H6 (upd H6 v (.tup [.int (-((vi lot).length : Int)), .ref u])) := Same.new nv
          have hO7 := s7 _ _ hO6
          have hlen : (rowsP cs ds ((lotsPF (placesF cs)).take j)).length ≤ 256 := Nat.le_trans (List.length_filterMap_le _ _) (Nat.le_trans (List.length_take_le' _ _) (lots_small plen))
          refine ⟨o, _, _, rfl, rfl, hO7, ?_, ?_⟩
          · rw [paired_len hpr]
            exact small1000 (by omega)
          have su : Smt o (upd H6 v (.tup [.int (-((vi lot).length : Int)), .ref u])) (upd (upd H6 v (.tup [.int (-((vi lot).length : Int)), .ref u])) o (.lst (ys ++ [.ref v]))) := Smt.upd
          refine ⟨ys ++ [.ref v], _, _, _, rfl, (sm.trans (Smt.of (s36.trans s7))).trans su, upd_same, ?_⟩
          rw [take_next hlot, rowsP_snoc]
          have er : rowOf cs ds lot = some (-(lot.length : Int), lot) := if_pos c1
          rw [er]
          refine paired_app (paired_mono (fun v x r => (r.same (s36.trans s7)).keep hO7 su) hpr) (.cons ⟨v, u, rfl, su _ _ ?_ ?_, sqt_keep hO7 su (s7.sqt hu6)⟩ .nil)
          · rw [upd_same, vi_len]
          · exact fun z => by
              rw [z, upd_same] at hO7
              cases hO7
        · have s36 := s35.trans s6
          refine ⟨ys, _, _, _, rfl, sm.trans (Smt.of s36), s36 _ _ hO, ?_⟩
          have er : rowOf cs ds lot = none := if_neg (by rw [c1]; decide)
          rw [take_next hlot, rowsP_snoc, er]
          show Paired _ ys (rowsP cs ds ((lotsPF (placesF cs)).take j) ++ [])
          rw [List.append_nil]
          exact paired_mono (fun v x r => r.same s36) hpr
    · obtain ⟨ys, z8, z10, z11, rfl, sm, hO, hpr⟩ := hW
      have hlen := paired_len pr
      rw [hlen, List.take_length] at hpr
      have hpr : Paired (RV K H12) ys (sparedF cs ds) := hpr
      have sH := same_smt s211 sm nHo
      -- due
      refine ⟨_, rfl, Nat.zero_le _, fun e ne => ?_⟩
      have s13 : Same H12 (upd H12 e (.lst [])) := Same.new ne
      have hpr3 : Paired (RV K (upd H12 e (.lst []))) ys (sparedF cs ds) := paired_mono (fun v x r => r.same s13) hpr
      refine ⟨.list ((sparedF cs ds).map rowD), .list (di []), .lst (SqL.of (s13 _ _ hO)) (dp_rows hpr3), dp_list (SqL.of upd_same), shaped_rows _, shaped_ints _, ?_⟩
      rw [eqv_rows_nil]
      refine ⟨_, rfl, ?_⟩
      have sH13 := sH.trans s13
      have hb13 := sH13 _ _ hb
      have hc13 := sH13 _ _ hc
      have hT13 := hT2.same sH13
      cases hcan : can cs ds with
      | true =>
        have hne := spared_can hcan
        refine if_t (by cases h : sparedF cs ds with | nil => exact absurd h hne | cons _ _ => rfl) ?_
        refine ⟨_, rfl, o, ys, sparedF cs ds, rfl, SqL.of (s13 _ _ hO), hpr3, hne, fun v r hv hbest _ => ?_⟩
        obtain ⟨tv, uv, rfl, htv, huv⟩ := hv
        refine ⟨tv, _, 1, _, rfl, rfl, SqT.of htv, rfl, ?_⟩
        -- if not _law_like(spared(candles, draughts), due)
        refine ⟨_, rfl, _, rfl, b, c, cs, ds, rfl, SqT.of hb13, SqT.of hc13, by omega, by omega, (fun h => by rw [hcan] at h; cases h), fun _ H14 p14 k14 c14 s14 hp14 hbest2 => ?_⟩
        have ee : (k14, c14) = r := rowD_inj (hbest2.trans hbest.symm)
        have hc14 : SqT K H14 p14 (vi r.2) := by
          rw [← ee]
          exact hp14
        have hrl : r.2.length ≤ 1000 := by
          have hmem : r ∈ sparedF cs ds := by assumption
          obtain ⟨lot, hlot, e⟩ := List.mem_filterMap.mp hmem
          have hll := lotsPF_lens _ _ hlot
          unfold rowOf at e
          split at e
          · cases Option.some.inj e
            show lot.length ≤ 1000
            omega
          · cases e
        refine ⟨_, rfl, .ref p14, .ref uv, .tuple (di r.2), rfl, dp_tup hc14, dp_tup (s14.sqt huv), fit_tints hrl, fun H15 s15 => ⟨_, rfl, if_f rfl ?_⟩⟩
        exact ⟨_, _, _, _, _, _, _, _, _, _, rfl, hT13.same (s14.trans s15)⟩
      | false =>
        rw [spared_not c0 hcan]
        refine if_f rfl ?_
        refine ⟨_, rfl, _, rfl, b, c, cs, ds, rfl, SqT.of hb13, SqT.of hc13, by omega, by omega, (fun _ H14 s14 => ?_), fun h => by rw [hcan] at h; cases h⟩
        refine ⟨_, rfl, .non, .non, .none, rfl, .non, .non, True.intro, fun H15 s15 => ⟨_, rfl, if_f rfl ?_⟩⟩
        exact ⟨_, _, _, _, _, _, _, _, _, _, rfl, hT13.same (s14.trans s15)⟩
  · -- stubs((0,), (2, 1)) == 5
    refine ⟨by show 1 ≤ sizeLine; decide, fun b nb => ⟨by show 2 ≤ sizeLine; decide, fun c nc => ?_⟩⟩
    refine ⟨b, c, [0], [2, 1], rfl, SqT.of ((Same.new nc) _ _ upd_same), SqT.of upd_same, by decide, by decide, fun H2 m s2 hm => ?_⟩
    rw [e_stubs hm]
    refine ⟨rfl, _, rfl, if_t rfl ?_⟩
    -- spared((1, 1), ()) == (0, 1)
    refine ⟨by show 2 ≤ sizeLine; decide, fun b3 nb3 => ⟨by show 0 ≤ sizeLine; decide, fun c3 nc3 => ?_⟩⟩
    refine ⟨b3, c3, [1, 1], [], rfl, SqT.of ((Same.new nc3) _ _ upd_same), SqT.of upd_same, by decide, by decide, (fun h => by cases h), fun _ H4 p4 k4 d4 s4 hp4 hb4 => ?_⟩
    have ee : (k4, d4) = (-2, [0, 1]) := rowD_inj (hb4.trans e_best)
    have hp4 : SqT K H4 p4 (vi [0, 1]) := by
      have e2 : d4 = [0, 1] := congrArg Prod.snd ee
      rw [← e2]
      exact hp4
    refine ⟨by show 2 ≤ sizeLine; decide, fun g ng => ?_⟩
    refine ⟨.tuple (di [0, 1]), .tuple (di [0, 1]), dp_tup ((Same.new ng).sqt hp4), dp_tup (SqT.of upd_same), shaped_tints _, shaped_tints _, ?_⟩
    rw [eqv_tups, decide_eq_true rfl]
    refine ⟨_, rfl, if_t rfl ?_⟩
    -- one_more((2, 2), (1, 1)) == 0
    refine ⟨by show 2 ≤ sizeLine; decide, fun b5 nb5 => ⟨by show 2 ≤ sizeLine; decide, fun c5 nc5 => ?_⟩⟩
    refine ⟨b5, c5, [2, 2], [1, 1], rfl, SqT.of ((Same.new nc5) _ _ upd_same), SqT.of upd_same, by decide, by decide, fun H6 m6 s6 hm6 => ?_⟩
    rw [e_one hm6]
    exact ⟨fun _ => ⟨rfl, q _⟩, fun h => by rw [e_one2] at h; cases h⟩
end
theorem all_mk {l : PySem.W.OpenLaw} {w : World} {K : PySem.W.Frag} {h : Heap} {mg : Str → Option Value} {fa f_counted f_wanted f_spares f_can_keep f_stubs f_one_more f_lotsN f_spared f__law_draw f__law_whole f__law_like f__law_candles f__law_draughts f__law_near f__law_night f__law_spares f__law_can f__law_lots f_law : Addr} (X : K.In h) (G : h.Ns mainGlobals mg) (hfa : mg "law" = some (.ref fa))
    {od_counted an_counted od_wanted an_wanted od_spares an_spares od_can_keep an_can_keep od_stubs an_stubs od_one_more an_one_more od_lotsN an_lotsN od_spared an_spared od__law_draw an__law_draw od__law_whole an__law_whole od__law_like an__law_like od__law_candles an__law_candles od__law_draughts an__law_draughts od__law_near an__law_near od__law_night an__law_night od__law_spares an__law_spares od__law_can an__law_can od__law_lots an__law_lots od_law an_law : Option Addr} {sl_counted sl_wanted sl_spares sl_can_keep sl_stubs sl_one_more sl_lotsN sl_spared sl__law_draw sl__law_whole sl__law_like sl__law_candles sl__law_draughts sl__law_near sl__law_night sl__law_spares sl__law_can sl__law_lots sl_law : Array (Option Value)} {oc_counted kV_counted dc_counted pm_counted cd_counted ct_counted oc_wanted kV_wanted dc_wanted pm_wanted cd_wanted ct_wanted oc_spares kV_spares dc_spares pm_spares cd_spares ct_spares oc_can_keep kV_can_keep dc_can_keep pm_can_keep cd_can_keep ct_can_keep oc_stubs kV_stubs dc_stubs pm_stubs cd_stubs ct_stubs oc_one_more kV_one_more dc_one_more pm_one_more cd_one_more ct_one_more oc_lotsN kV_lotsN dc_lotsN pm_lotsN cd_lotsN ct_lotsN oc_spared kV_spared dc_spared pm_spared cd_spared ct_spared oc__law_draw kV__law_draw dc__law_draw pm__law_draw cd__law_draw ct__law_draw oc__law_whole kV__law_whole dc__law_whole pm__law_whole cd__law_whole ct__law_whole oc__law_like kV__law_like dc__law_like pm__law_like cd__law_like ct__law_like oc__law_candles kV__law_candles dc__law_candles pm__law_candles cd__law_candles ct__law_candles oc__law_draughts kV__law_draughts dc__law_draughts pm__law_draughts cd__law_draughts ct__law_draughts oc__law_near kV__law_near dc__law_near pm__law_near cd__law_near ct__law_near oc__law_night kV__law_night dc__law_night pm__law_night cd__law_night ct__law_night oc__law_spares kV__law_spares dc__law_spares pm__law_spares cd__law_spares ct__law_spares oc__law_can kV__law_can dc__law_can pm__law_can cd__law_can ct__law_can oc__law_lots kV__law_lots dc__law_lots pm__law_lots cd__law_lots ct__law_lots oc_law kV_law dc_law pm_law cd_law ct_law : Value}
    (a_counted : PySem.W.nsIn K mainGlobals "counted" = some (some (.ref f_counted))) (l_counted : K.lookup f_counted = some ⟨oc_counted, od_counted, .func (PySem.W.fnOf "counted" "counted" (defArgs s_counted) (defBody s_counted) (defScope s_counted) .none kV_counted dc_counted pm_counted an_counted cd_counted ct_counted), sl_counted⟩) (c_counted : PySem.W.codeIn K cd_counted "counted" = true) (k_counted : PySem.W.keepIn K (.ref f_counted) = true)
    (a_wanted : PySem.W.nsIn K mainGlobals "wanted" = some (some (.ref f_wanted))) (l_wanted : K.lookup f_wanted = some ⟨oc_wanted, od_wanted, .func (PySem.W.fnOf "wanted" "wanted" (defArgs s_wanted) (defBody s_wanted) (defScope s_wanted) .none kV_wanted dc_wanted pm_wanted an_wanted cd_wanted ct_wanted), sl_wanted⟩) (c_wanted : PySem.W.codeIn K cd_wanted "wanted" = true) (k_wanted : PySem.W.keepIn K (.ref f_wanted) = true)
    (a_spares : PySem.W.nsIn K mainGlobals "spares" = some (some (.ref f_spares))) (l_spares : K.lookup f_spares = some ⟨oc_spares, od_spares, .func (PySem.W.fnOf "spares" "spares" (defArgs s_spares) (defBody s_spares) (defScope s_spares) .none kV_spares dc_spares pm_spares an_spares cd_spares ct_spares), sl_spares⟩) (c_spares : PySem.W.codeIn K cd_spares "spares" = true) (k_spares : PySem.W.keepIn K (.ref f_spares) = true)
    (a_can_keep : PySem.W.nsIn K mainGlobals "can_keep" = some (some (.ref f_can_keep))) (l_can_keep : K.lookup f_can_keep = some ⟨oc_can_keep, od_can_keep, .func (PySem.W.fnOf "can_keep" "can_keep" (defArgs s_can_keep) (defBody s_can_keep) (defScope s_can_keep) .none kV_can_keep dc_can_keep pm_can_keep an_can_keep cd_can_keep ct_can_keep), sl_can_keep⟩) (c_can_keep : PySem.W.codeIn K cd_can_keep "can_keep" = true) (k_can_keep : PySem.W.keepIn K (.ref f_can_keep) = true)
    (a_stubs : PySem.W.nsIn K mainGlobals "stubs" = some (some (.ref f_stubs))) (l_stubs : K.lookup f_stubs = some ⟨oc_stubs, od_stubs, .func (PySem.W.fnOf "stubs" "stubs" (defArgs s_stubs) (defBody s_stubs) (defScope s_stubs) .none kV_stubs dc_stubs pm_stubs an_stubs cd_stubs ct_stubs), sl_stubs⟩) (c_stubs : PySem.W.codeIn K cd_stubs "stubs" = true) (k_stubs : PySem.W.keepIn K (.ref f_stubs) = true)
    (a_one_more : PySem.W.nsIn K mainGlobals "one_more" = some (some (.ref f_one_more))) (l_one_more : K.lookup f_one_more = some ⟨oc_one_more, od_one_more, .func (PySem.W.fnOf "one_more" "one_more" (defArgs s_one_more) (defBody s_one_more) (defScope s_one_more) .none kV_one_more dc_one_more pm_one_more an_one_more cd_one_more ct_one_more), sl_one_more⟩) (c_one_more : PySem.W.codeIn K cd_one_more "one_more" = true) (k_one_more : PySem.W.keepIn K (.ref f_one_more) = true)
    (a_lotsN : PySem.W.nsIn K mainGlobals "lots" = some (some (.ref f_lotsN))) (l_lotsN : K.lookup f_lotsN = some ⟨oc_lotsN, od_lotsN, .func (PySem.W.fnOf "lots" "lots" (defArgs s_lotsN) (defBody s_lotsN) (defScope s_lotsN) .none kV_lotsN dc_lotsN pm_lotsN an_lotsN cd_lotsN ct_lotsN), sl_lotsN⟩) (c_lotsN : PySem.W.codeIn K cd_lotsN "lots" = true) (k_lotsN : PySem.W.keepIn K (.ref f_lotsN) = true)
    (a_spared : PySem.W.nsIn K mainGlobals "spared" = some (some (.ref f_spared))) (l_spared : K.lookup f_spared = some ⟨oc_spared, od_spared, .func (PySem.W.fnOf "spared" "spared" (defArgs s_spared) (defBody s_spared) (defScope s_spared) .none kV_spared dc_spared pm_spared an_spared cd_spared ct_spared), sl_spared⟩) (c_spared : PySem.W.codeIn K cd_spared "spared" = true) (k_spared : PySem.W.keepIn K (.ref f_spared) = true)
    (a__law_draw : PySem.W.nsIn K mainGlobals "_law_draw" = some (some (.ref f__law_draw))) (l__law_draw : K.lookup f__law_draw = some ⟨oc__law_draw, od__law_draw, .func (PySem.W.fnOf "_law_draw" "_law_draw" (defArgs s__law_draw) (defBody s__law_draw) (defScope s__law_draw) .none kV__law_draw dc__law_draw pm__law_draw an__law_draw cd__law_draw ct__law_draw), sl__law_draw⟩) (c__law_draw : PySem.W.codeIn K cd__law_draw "_law_draw" = true) (k__law_draw : PySem.W.keepIn K (.ref f__law_draw) = true)
    (a__law_whole : PySem.W.nsIn K mainGlobals "_law_whole" = some (some (.ref f__law_whole))) (l__law_whole : K.lookup f__law_whole = some ⟨oc__law_whole, od__law_whole, .func (PySem.W.fnOf "_law_whole" "_law_whole" (defArgs s__law_whole) (defBody s__law_whole) (defScope s__law_whole) .none kV__law_whole dc__law_whole pm__law_whole an__law_whole cd__law_whole ct__law_whole), sl__law_whole⟩) (c__law_whole : PySem.W.codeIn K cd__law_whole "_law_whole" = true) (k__law_whole : PySem.W.keepIn K (.ref f__law_whole) = true)
    (a__law_like : PySem.W.nsIn K mainGlobals "_law_like" = some (some (.ref f__law_like))) (l__law_like : K.lookup f__law_like = some ⟨oc__law_like, od__law_like, .func (PySem.W.fnOf "_law_like" "_law_like" (defArgs s__law_like) (defBody s__law_like) (defScope s__law_like) .none kV__law_like dc__law_like pm__law_like an__law_like cd__law_like ct__law_like), sl__law_like⟩) (c__law_like : PySem.W.codeIn K cd__law_like "_law_like" = true) (k__law_like : PySem.W.keepIn K (.ref f__law_like) = true)
    (a__law_candles : PySem.W.nsIn K mainGlobals "_law_candles" = some (some (.ref f__law_candles))) (l__law_candles : K.lookup f__law_candles = some ⟨oc__law_candles, od__law_candles, .func (PySem.W.fnOf "_law_candles" "_law_candles" (defArgs s__law_candles) (defBody s__law_candles) (defScope s__law_candles) .none kV__law_candles dc__law_candles pm__law_candles an__law_candles cd__law_candles ct__law_candles), sl__law_candles⟩) (c__law_candles : PySem.W.codeIn K cd__law_candles "_law_candles" = true) (k__law_candles : PySem.W.keepIn K (.ref f__law_candles) = true)
    (a__law_draughts : PySem.W.nsIn K mainGlobals "_law_draughts" = some (some (.ref f__law_draughts))) (l__law_draughts : K.lookup f__law_draughts = some ⟨oc__law_draughts, od__law_draughts, .func (PySem.W.fnOf "_law_draughts" "_law_draughts" (defArgs s__law_draughts) (defBody s__law_draughts) (defScope s__law_draughts) .none kV__law_draughts dc__law_draughts pm__law_draughts an__law_draughts cd__law_draughts ct__law_draughts), sl__law_draughts⟩) (c__law_draughts : PySem.W.codeIn K cd__law_draughts "_law_draughts" = true) (k__law_draughts : PySem.W.keepIn K (.ref f__law_draughts) = true)
    (a__law_near : PySem.W.nsIn K mainGlobals "_law_near" = some (some (.ref f__law_near))) (l__law_near : K.lookup f__law_near = some ⟨oc__law_near, od__law_near, .func (PySem.W.fnOf "_law_near" "_law_near" (defArgs s__law_near) (defBody s__law_near) (defScope s__law_near) .none kV__law_near dc__law_near pm__law_near an__law_near cd__law_near ct__law_near), sl__law_near⟩) (c__law_near : PySem.W.codeIn K cd__law_near "_law_near" = true) (k__law_near : PySem.W.keepIn K (.ref f__law_near) = true)
    (a__law_night : PySem.W.nsIn K mainGlobals "_law_night" = some (some (.ref f__law_night))) (l__law_night : K.lookup f__law_night = some ⟨oc__law_night, od__law_night, .func (PySem.W.fnOf "_law_night" "_law_night" (defArgs s__law_night) (defBody s__law_night) (defScope s__law_night) .none kV__law_night dc__law_night pm__law_night an__law_night cd__law_night ct__law_night), sl__law_night⟩) (c__law_night : PySem.W.codeIn K cd__law_night "_law_night" = true) (k__law_night : PySem.W.keepIn K (.ref f__law_night) = true)
    (a__law_spares : PySem.W.nsIn K mainGlobals "_law_spares" = some (some (.ref f__law_spares))) (l__law_spares : K.lookup f__law_spares = some ⟨oc__law_spares, od__law_spares, .func (PySem.W.fnOf "_law_spares" "_law_spares" (defArgs s__law_spares) (defBody s__law_spares) (defScope s__law_spares) .none kV__law_spares dc__law_spares pm__law_spares an__law_spares cd__law_spares ct__law_spares), sl__law_spares⟩) (c__law_spares : PySem.W.codeIn K cd__law_spares "_law_spares" = true) (k__law_spares : PySem.W.keepIn K (.ref f__law_spares) = true)
    (a__law_can : PySem.W.nsIn K mainGlobals "_law_can" = some (some (.ref f__law_can))) (l__law_can : K.lookup f__law_can = some ⟨oc__law_can, od__law_can, .func (PySem.W.fnOf "_law_can" "_law_can" (defArgs s__law_can) (defBody s__law_can) (defScope s__law_can) .none kV__law_can dc__law_can pm__law_can an__law_can cd__law_can ct__law_can), sl__law_can⟩) (c__law_can : PySem.W.codeIn K cd__law_can "_law_can" = true) (k__law_can : PySem.W.keepIn K (.ref f__law_can) = true)
    (a__law_lots : PySem.W.nsIn K mainGlobals "_law_lots" = some (some (.ref f__law_lots))) (l__law_lots : K.lookup f__law_lots = some ⟨oc__law_lots, od__law_lots, .func (PySem.W.fnOf "_law_lots" "_law_lots" (defArgs s__law_lots) (defBody s__law_lots) (defScope s__law_lots) .none kV__law_lots dc__law_lots pm__law_lots an__law_lots cd__law_lots ct__law_lots), sl__law_lots⟩) (c__law_lots : PySem.W.codeIn K cd__law_lots "_law_lots" = true) (k__law_lots : PySem.W.keepIn K (.ref f__law_lots) = true)
    (a_law : PySem.W.nsIn K mainGlobals "law" = some (some (.ref f_law))) (l_law : K.lookup f_law = some ⟨oc_law, od_law, .func (PySem.W.fnOf "law" "law" (defArgs s_law) (defBody s_law) (defScope s_law) .none kV_law dc_law pm_law an_law cd_law ct_law), sl_law⟩) (c_law : PySem.W.codeIn K cd_law "law" = true) (k_law : PySem.W.keepIn K (.ref f_law) = true)
    (z_len : PySem.W.nsIn K mainGlobals "len" = some none)
    (z_sum : PySem.W.nsIn K mainGlobals "sum" = some none)
    (z_all : PySem.W.nsIn K mainGlobals "all" = some none)
    (z_any : PySem.W.nsIn K mainGlobals "any" = some none)
    (z_sorted : PySem.W.nsIn K mainGlobals "sorted" = some none)
    (z_tuple : PySem.W.nsIn K mainGlobals "tuple" = some none)
    (z_list : PySem.W.nsIn K mainGlobals "list" = some none)
    (z_int : PySem.W.nsIn K mainGlobals "int" = some none)
    (z_bool : PySem.W.nsIn K mainGlobals "bool" = some none)
    (z_str : PySem.W.nsIn K mainGlobals "str" = some none)
    (z_isinstance : PySem.W.nsIn K mainGlobals "isinstance" = some none)
    (z_max : PySem.W.nsIn K mainGlobals "max" = some none)
    (z_min : PySem.W.nsIn K mainGlobals "min" = some none)
    (z_range : PySem.W.nsIn K mainGlobals "range" = some none)
    (z_enumerate : PySem.W.nsIn K mainGlobals "enumerate" = some none)
    (z_zip : PySem.W.nsIn K mainGlobals "zip" = some none)
    : ∃ fd : FuncData, (∀ (s : Shared) (v : Value), BindsTo s fd ⟨[v], []⟩ [("script", v)]) ∧ ∀ base : Heap, K.In base → base.Ns mainGlobals mg → FnOk l.prog w K mg base CX0 5 fa fd ["script"] (spLaw K) := by
  have e := hfa.symm.trans (PySem.W.mg_of X G a_law)
  cases e
  have T : Bl mg := ⟨PySem.W.mg_none_of X G z_len, PySem.W.mg_none_of X G z_sum, PySem.W.mg_none_of X G z_all, PySem.W.mg_none_of X G z_any, PySem.W.mg_none_of X G z_sorted, PySem.W.mg_none_of X G z_tuple, PySem.W.mg_none_of X G z_list, PySem.W.mg_none_of X G z_int, PySem.W.mg_none_of X G z_bool, PySem.W.mg_none_of X G z_str, PySem.W.mg_none_of X G z_isinstance, PySem.W.mg_none_of X G z_max, PySem.W.mg_none_of X G z_min, PySem.W.mg_none_of X G z_range, PySem.W.mg_none_of X G z_enumerate, PySem.W.mg_none_of X G z_zip⟩
  have F_counted := fun_mk (st := s_counted) l_counted c_counted k_counted
  have D_counted : FnAt K mg "counted" "counted" s_counted ["candles", "ticks"] f_counted _ := ⟨F_counted, F_counted.binds (ps := ["candles", "ticks"]) (fun _ _ _ _ _ _ us hl => match us, hl with | [_, _], _ => rfl), PySem.W.mg_of X G a_counted⟩
  have F_wanted := fun_mk (st := s_wanted) l_wanted c_wanted k_wanted
  have D_wanted : FnAt K mg "wanted" "wanted" s_wanted ["draughts", "ticks"] f_wanted _ := ⟨F_wanted, F_wanted.binds (ps := ["draughts", "ticks"]) (fun _ _ _ _ _ _ us hl => match us, hl with | [_, _], _ => rfl), PySem.W.mg_of X G a_wanted⟩
  have F_spares := fun_mk (st := s_spares) l_spares c_spares k_spares
  have D_spares : FnAt K mg "spares" "spares" s_spares ["candles", "draughts"] f_spares _ := ⟨F_spares, F_spares.binds (ps := ["candles", "draughts"]) (fun _ _ _ _ _ _ us hl => match us, hl with | [_, _], _ => rfl), PySem.W.mg_of X G a_spares⟩
  have F_can_keep := fun_mk (st := s_can_keep) l_can_keep c_can_keep k_can_keep
  have D_can_keep : FnAt K mg "can_keep" "can_keep" s_can_keep ["candles", "draughts"] f_can_keep _ := ⟨F_can_keep, F_can_keep.binds (ps := ["candles", "draughts"]) (fun _ _ _ _ _ _ us hl => match us, hl with | [_, _], _ => rfl), PySem.W.mg_of X G a_can_keep⟩
  have F_stubs := fun_mk (st := s_stubs) l_stubs c_stubs k_stubs
  have D_stubs : FnAt K mg "stubs" "stubs" s_stubs ["candles", "draughts"] f_stubs _ := ⟨F_stubs, F_stubs.binds (ps := ["candles", "draughts"]) (fun _ _ _ _ _ _ us hl => match us, hl with | [_, _], _ => rfl), PySem.W.mg_of X G a_stubs⟩
  have F_one_more := fun_mk (st := s_one_more) l_one_more c_one_more k_one_more
  have D_one_more : FnAt K mg "one_more" "one_more" s_one_more ["candles", "draughts"] f_one_more _ := ⟨F_one_more, F_one_more.binds (ps := ["candles", "draughts"]) (fun _ _ _ _ _ _ us hl => match us, hl with | [_, _], _ => rfl), PySem.W.mg_of X G a_one_more⟩
  have F_lotsN := fun_mk (st := s_lotsN) l_lotsN c_lotsN k_lotsN
  have D_lotsN : FnAt K mg "lots" "lots" s_lotsN ["many"] f_lotsN _ := ⟨F_lotsN, F_lotsN.binds (ps := ["many"]) (fun _ _ _ _ _ _ us hl => match us, hl with | [_], _ => rfl), PySem.W.mg_of X G a_lotsN⟩
  have F_spared := fun_mk (st := s_spared) l_spared c_spared k_spared
  have D_spared : FnAt K mg "spared" "spared" s_spared ["candles", "draughts"] f_spared _ := ⟨F_spared, F_spared.binds (ps := ["candles", "draughts"]) (fun _ _ _ _ _ _ us hl => match us, hl with | [_, _], _ => rfl), PySem.W.mg_of X G a_spared⟩
  have F__law_draw := fun_mk (st := s__law_draw) l__law_draw c__law_draw k__law_draw
  have D__law_draw : FnAt K mg "_law_draw" "_law_draw" s__law_draw ["tape", "many"] f__law_draw _ := ⟨F__law_draw, F__law_draw.binds (ps := ["tape", "many"]) (fun _ _ _ _ _ _ us hl => match us, hl with | [_, _], _ => rfl), PySem.W.mg_of X G a__law_draw⟩
  have F__law_whole := fun_mk (st := s__law_whole) l__law_whole c__law_whole k__law_whole
  have D__law_whole : FnAt K mg "_law_whole" "_law_whole" s__law_whole ["item"] f__law_whole _ := ⟨F__law_whole, F__law_whole.binds (ps := ["item"]) (fun _ _ _ _ _ _ us hl => match us, hl with | [_], _ => rfl), PySem.W.mg_of X G a__law_whole⟩
  have F__law_like := fun_mk (st := s__law_like) l__law_like c__law_like k__law_like
  have D__law_like : FnAt K mg "_law_like" "_law_like" s__law_like ["one", "two"] f__law_like _ := ⟨F__law_like, F__law_like.binds (ps := ["one", "two"]) (fun _ _ _ _ _ _ us hl => match us, hl with | [_, _], _ => rfl), PySem.W.mg_of X G a__law_like⟩
  have F__law_candles := fun_mk (st := s__law_candles) l__law_candles c__law_candles k__law_candles
  have D__law_candles : FnAt K mg "_law_candles" "_law_candles" s__law_candles ["tape", "size", "wax"] f__law_candles _ := ⟨F__law_candles, F__law_candles.binds (ps := ["tape", "size", "wax"]) (fun _ _ _ _ _ _ us hl => match us, hl with | [_, _, _], _ => rfl), PySem.W.mg_of X G a__law_candles⟩
  have F__law_draughts := fun_mk (st := s__law_draughts) l__law_draughts c__law_draughts k__law_draughts
  have D__law_draughts : FnAt K mg "_law_draughts" "_law_draughts" s__law_draughts ["tape", "size", "top"] f__law_draughts _ := ⟨F__law_draughts, F__law_draughts.binds (ps := ["tape", "size", "top"]) (fun _ _ _ _ _ _ us hl => match us, hl with | [_, _, _], _ => rfl), PySem.W.mg_of X G a__law_draughts⟩
  have F__law_near := fun_mk (st := s__law_near) l__law_near c__law_near k__law_near
  have D__law_near : FnAt K mg "_law_near" "_law_near" s__law_near ["tape", "candles", "size", "top"] f__law_near _ := ⟨F__law_near, F__law_near.binds (ps := ["tape", "candles", "size", "top"]) (fun _ _ _ _ _ _ us hl => match us, hl with | [_, _, _, _], _ => rfl), PySem.W.mg_of X G a__law_near⟩
  have F__law_night := fun_mk (st := s__law_night) l__law_night c__law_night k__law_night
  have D__law_night : FnAt K mg "_law_night" "_law_night" s__law_night ["tape", "size", "wax", "ticks", "top"] f__law_night _ := ⟨F__law_night, F__law_night.binds (ps := ["tape", "size", "wax", "ticks", "top"]) (fun _ _ _ _ _ _ us hl => match us, hl with | [_, _, _, _, _], _ => rfl), PySem.W.mg_of X G a__law_night⟩
  have F__law_spares := fun_mk (st := s__law_spares) l__law_spares c__law_spares k__law_spares
  have D__law_spares : FnAt K mg "_law_spares" "_law_spares" s__law_spares ["candles", "draughts"] f__law_spares _ := ⟨F__law_spares, F__law_spares.binds (ps := ["candles", "draughts"]) (fun _ _ _ _ _ _ us hl => match us, hl with | [_, _], _ => rfl), PySem.W.mg_of X G a__law_spares⟩
  have F__law_can := fun_mk (st := s__law_can) l__law_can c__law_can k__law_can
  have D__law_can : FnAt K mg "_law_can" "_law_can" s__law_can ["candles", "draughts"] f__law_can _ := ⟨F__law_can, F__law_can.binds (ps := ["candles", "draughts"]) (fun _ _ _ _ _ _ us hl => match us, hl with | [_, _], _ => rfl), PySem.W.mg_of X G a__law_can⟩
  have F__law_lots := fun_mk (st := s__law_lots) l__law_lots c__law_lots k__law_lots
  have D__law_lots : FnAt K mg "_law_lots" "_law_lots" s__law_lots ["some"] f__law_lots _ := ⟨F__law_lots, F__law_lots.binds (ps := ["some"]) (fun _ _ _ _ _ _ us hl => match us, hl with | [_], _ => rfl), PySem.W.mg_of X G a__law_lots⟩
  have F_law := fun_mk (st := s_law) l_law c_law k_law
  exact ⟨PySem.W.fnOf "law" "law" (defArgs s_law) (defBody s_law) (defScope s_law) .none kV_law dc_law pm_law an_law cd_law ct_law, fun s v => .of_eq rfl, fun base _ _ => ok_law T F_law D_counted D_wanted D_spares D_can_keep D_stubs D_one_more D_lotsN D_spared D__law_draw D__law_whole D__law_like D__law_candles D__law_draughts D__law_near D__law_night D__law_spares D__law_can D__law_lots⟩
end LF
open PySem PySem.W PyProof.Rows
set_option maxHeartbeats 0 in
theorem PySem.Challenge.cw_lastflame_k09_whole_what_must_be_added_a_holds : PySem.Challenge.rw_lastflame_k09_whole_what_must_be_added_a.Holds := by
  w_on; o_law; k_head; (case hw => w_witness2)
  k_fill
  refine L2.walk_of (l := PySem.Challenge.rw_lastflame_k09_whole_what_must_be_added_a) (n := 63) (k := 5) (x := "script") (CX := fun _ => L2.CX0) (sp := fun w => LF.spLaw _) rfl (by decide) rfl ⟨rfl, by decide, by decide⟩ (fun w h Y => PySem.W.kIn_of Y) ?F (fun _ _ a ns hl _ hS => ⟨a, ns, rfl, hS, hl, fun _ => rfl⟩) (fun _ _ _ _ _ h => h)
  case F =>
    intro w mg fa h KX G hmg
    refine' LF.all_mk KX G hmg ?a_counted ?l_counted ?c_counted ?k_counted ?a_wanted ?l_wanted ?c_wanted ?k_wanted ?a_spares ?l_spares ?c_spares ?k_spares ?a_can_keep ?l_can_keep ?c_can_keep ?k_can_keep ?a_stubs ?l_stubs ?c_stubs ?k_stubs ?a_one_more ?l_one_more ?c_one_more ?k_one_more ?a_lotsN ?l_lotsN ?c_lotsN ?k_lotsN ?a_spared ?l_spared ?c_spared ?k_spared ?a__law_draw ?l__law_draw ?c__law_draw ?k__law_draw ?a__law_whole ?l__law_whole ?c__law_whole ?k__law_whole ?a__law_like ?l__law_like ?c__law_like ?k__law_like ?a__law_candles ?l__law_candles ?c__law_candles ?k__law_candles ?a__law_draughts ?l__law_draughts ?c__law_draughts ?k__law_draughts ?a__law_near ?l__law_near ?c__law_near ?k__law_near ?a__law_night ?l__law_night ?c__law_night ?k__law_night ?a__law_spares ?l__law_spares ?c__law_spares ?k__law_spares ?a__law_can ?l__law_can ?c__law_can ?k__law_can ?a__law_lots ?l__law_lots ?c__law_lots ?k__law_lots ?a_law ?l_law ?c_law ?k_law ?z_len ?z_sum ?z_all ?z_any ?z_sorted ?z_tuple ?z_list ?z_int ?z_bool ?z_str ?z_isinstance ?z_max ?z_min ?z_range ?z_enumerate ?z_zip
    (case a_counted => k_is)
    (case l_counted => k_is)
    (case c_counted => k_is)
    (case k_counted => k_is)
    (case a_wanted => k_is)
    (case l_wanted => k_is)
    (case c_wanted => k_is)
    (case k_wanted => k_is)
    (case a_spares => k_is)
    (case l_spares => k_is)
    (case c_spares => k_is)
    (case k_spares => k_is)
    (case a_can_keep => k_is)
    (case l_can_keep => k_is)
    (case c_can_keep => k_is)
    (case k_can_keep => k_is)
    (case a_stubs => k_is)
    (case l_stubs => k_is)
    (case c_stubs => k_is)
    (case k_stubs => k_is)
    (case a_one_more => k_is)
    (case l_one_more => k_is)
    (case c_one_more => k_is)
    (case k_one_more => k_is)
    (case a_lotsN => k_is)
    (case l_lotsN => k_is)
    (case c_lotsN => k_is)
    (case k_lotsN => k_is)
    (case a_spared => k_is)
    (case l_spared => k_is)
    (case c_spared => k_is)
    (case k_spared => k_is)
    (case a__law_draw => k_is)
    (case l__law_draw => k_is)
    (case c__law_draw => k_is)
    (case k__law_draw => k_is)
    (case a__law_whole => k_is)
    (case l__law_whole => k_is)
    (case c__law_whole => k_is)
    (case k__law_whole => k_is)
    (case a__law_like => k_is)
    (case l__law_like => k_is)
    (case c__law_like => k_is)
    (case k__law_like => k_is)
    (case a__law_candles => k_is)
    (case l__law_candles => k_is)
    (case c__law_candles => k_is)
    (case k__law_candles => k_is)
    (case a__law_draughts => k_is)
    (case l__law_draughts => k_is)
    (case c__law_draughts => k_is)
    (case k__law_draughts => k_is)
    (case a__law_near => k_is)
    (case l__law_near => k_is)
    (case c__law_near => k_is)
    (case k__law_near => k_is)
    (case a__law_night => k_is)
    (case l__law_night => k_is)
    (case c__law_night => k_is)
    (case k__law_night => k_is)
    (case a__law_spares => k_is)
    (case l__law_spares => k_is)
    (case c__law_spares => k_is)
    (case k__law_spares => k_is)
    (case a__law_can => k_is)
    (case l__law_can => k_is)
    (case c__law_can => k_is)
    (case k__law_can => k_is)
    (case a__law_lots => k_is)
    (case l__law_lots => k_is)
    (case c__law_lots => k_is)
    (case k__law_lots => k_is)
    (case a_law => k_is)
    (case l_law => k_is)
    (case c_law => k_is)
    (case k_law => k_is)
    (case z_len => k_is)
    (case z_sum => k_is)
    (case z_all => k_is)
    (case z_any => k_is)
    (case z_sorted => k_is)
    (case z_tuple => k_is)
    (case z_list => k_is)
    (case z_int => k_is)
    (case z_bool => k_is)
    (case z_str => k_is)
    (case z_isinstance => k_is)
    (case z_max => k_is)
    (case z_min => k_is)
    (case z_range => k_is)
    (case z_enumerate => k_is)
    (case z_zip => k_is)

import PyProof.Rows.All
import Wide.All
import OpenK.AllK
import Wide.FinOn
import KE.GoesEnum
import KE.DataMinMax
import HandS.ForMost
import HandS.IsInst
import HandS.TupAny
import HandS.TupMul
import HandS.Style
import HandS.SortInts
import HandS.SortRule
import HandS.Wide
import HandS.Walk
import HandS.More
import HandS.Codes
import HandS.Conv
import HandS.Defaults
import PySem.Challenge.RW_lastflame_k11_written_cases_and_names
set_option Elab.async false
set_option linter.all false
set_option maxRecDepth 100000
set_option maxHeartbeats 4000000
/-! ### la_walks: enumerate and zip over lists and tuples in any mix; sum, sorted of tuples -/
namespace LF
open PySem PySem.Spec PyProof.Rows L2

def SqB (K : PySem.W.Frag) : Bool → Hp → Addr → List V → Prop
  | false => SqL K
  | true => SqT K
def IsItB : Bool → Heap → Addr → Addr → Nat → Prop
  | false => fun h it a i => h.IsListIter it a i
  | true => fun h it a i => h.IsTupleIter it a i
def IsSeqB : Bool → Heap → Addr → Array Value → Prop
  | false => fun h a items => h.IsList a items
  | true => fun h a items => h.IsTuple a items
def itObj (tp : Bool) (a : Addr) : Obj := { cls := .type (if tp then "tuple_iterator" else "list_iterator"), data := .fields #[.ref a, .int 0 0] }
theorem drawsB {prog : Program} {w : World} {A : Around} (hh : A.handled = none) (tp : Bool) (it l : Addr) (hne : l ≠ it) (items : Array Value) :
    Draws prog w A it [it, l] items.size (fun i v => items[i]? = some v) (fun i h => IsItB tp h it l i ∧ IsSeqB tp h l items) := by
  cases tp with
  | false => exact Draws.list hh it l hne items
  | true => exact Draws.tuple hh it l hne items
theorem beginsB (tp : Bool) (l : Addr) (items : Array Value) : Begins (.ref l) (itObj tp l) fun h => IsSeqB tp h l items := by
  cases tp with
  | false => exact begins_list l items
  | true => exact begins_tuple l items
theorem IsItB.obj {tp : Bool} {h : Heap} {it a : Addr} {i : Nat} (x : IsItB tp h it a i) : ∃ o : Obj, h.get? it = some o ∧ o.cls = .type (if tp then "tuple_iterator" else "list_iterator") ∧ ∃ vs, o.data = .fields vs := by
  cases tp with
  | false => obtain ⟨o, e, c, d⟩ := x; exact ⟨o, e, c, _, d⟩
  | true => obtain ⟨o, e, c, d⟩ := x; exact ⟨o, e, c, _, d⟩
theorem IsItB.at {tp : Bool} {h h' : Heap} {it a : Addr} {i : Nat} (x : IsItB tp h it a i) (k : ∀ o, h.get? it = some o → h'.get? it = some o) : IsItB tp h' it a i := by
  cases tp with
  | false => obtain ⟨o, e, c⟩ := x; exact ⟨o, k o e, c⟩
  | true => obtain ⟨o, e, c⟩ := x; exact ⟨o, k o e, c⟩
theorem IsSeqB.obj {tp : Bool} {h : Heap} {a : Addr} {items : Array Value} (x : IsSeqB tp h a items) : ∃ o : Obj, h.get? a = some o ∧ ∃ n, o.data = .seq items n := by
  cases tp with
  | false => obtain ⟨o, e, _, n, d⟩ := x; exact ⟨o, e, n, d⟩
  | true => obtain ⟨o, e, _, n, d⟩ := x; exact ⟨o, e, n, d⟩
theorem neB {tp : Bool} {h : Heap} {it a : Addr} {i : Nat} {items : Array Value} (x : IsItB tp h it a i) (y : IsSeqB tp h a items) : a ≠ it := fun e => by
  obtain ⟨o, e1, _, vs, d1⟩ := x.obj
  obtain ⟨o2, e2, n, d2⟩ := y.obj
  rw [e, e1] at e2
  cases e2
  rw [d1] at d2
  cases d2
theorem itB_new {tp : Bool} {h : Heap} {it a : Addr} (e : h.get? it = some (itObj tp a)) : IsItB tp h it a 0 := by
  cases tp with
  | false => exact ⟨_, e, rfl, rfl⟩
  | true => exact ⟨_, e, rfl, rfl⟩
section
variable {X : Cx} {pins : List (Addr × Obj)} {σ : L2.St} {H : Hp} {s : Shared} {a : Addr} {xs ys : List V}
theorem seqB (tp : Bool) (I : Inv X pins σ H s) (h : SqB X.K tp H a xs) : ∃ its : List Value, Vals xs its ∧ IsSeqB tp s.heap a its.toArray ∧ xs.length ≤ sizeLine := by
  cases tp with
  | false => obtain ⟨its, rv, p, z⟩ := I.list h; exact ⟨its, rv, p.isList, z⟩
  | true => obtain ⟨its, rv, p, z⟩ := I.tuple h; exact ⟨its, rv, p, z⟩
theorem seqB_inj {tp : Bool} (I : Inv X pins σ H s) (h : SqB X.K tp H a xs) (h' : SqB X.K tp H a ys) : xs = ys := by
  cases tp with
  | false => exact I.list_inj h h'
  | true => exact I.tuple_inj h h'
end
/-! enumerate -/
def IteB (K : PySem.W.Frag) (tp : Bool) (a : Addr) : It :=
  ⟨fun i H => ∃ (xs : List V) (x : V), SqB K tp H a xs ∧ xs[i]? = some x, fun i H v H' => ∃ T x, v = .ref T ∧ H T = none ∧ H' = upd H T (.tup [.int (i : Nat), x]) ∧ ∀ xs, SqB K tp H a xs → xs[i]? = some x, fun i H => ∃ xs : List V, SqB K tp H a xs ∧ xs.length = i⟩
theorem turn_enumB {P : Program} {w : World} {K : PySem.W.Frag} {elts : List Expr} {kk : Nat} {tpos : Pos} (tp : Bool) (a e it : Addr) :
    Turn P w K (.Tuple elts kk tpos) (IteB K tp a) [e, it] e (fun i h => (∃ old, IsEnum h e it ((i : Nat) : Int) old) ∧ IsItB tp h it a i ∧ e ≠ it) where
  mem := by simp
  obj := fun i h st b hb => by
    obtain ⟨⟨old, he⟩, hi, _⟩ := st
    obtain ⟨o, ho, _, vs, hd⟩ := hi.obj
    have e' : b = e ∨ b = it := by simpa using hb
    rcases e' with z | z
    · rw [z]; exact ⟨_, he, fun v q => nomatch q⟩
    · rw [z]; exact ⟨o, ho, fun v q => by rw [hd] at q; cases q⟩
  keep := fun i h h' st k => let ⟨⟨old, he⟩, hi, hne⟩ := st; ⟨⟨old, k e (by simp) _ he⟩, hi.at fun o q => k it (by simp) o q, hne⟩
  item := by
    intro X hP hw hK hc i pins s σ H E I hf st hg
    subst hP hw hK
    obtain ⟨⟨old, he⟩, hit, hne⟩ := st
    obtain ⟨xs, x, hq, hx⟩ := hg
    obtain ⟨its, rv, p, hz⟩ := seqB tp I hq
    obtain ⟨u, hu, ru⟩ := rv.get hx
    have hel : e < s.heap.objs.size := Heap.lt_size he
    have hil : it < s.heap.objs.size := by obtain ⟨_, q, _⟩ := hit.obj; exact Heap.lt_size q
    have hia : a ≠ it := neB hit p
    have hea : e ≠ a := fun z => by
      obtain ⟨o, ho, n, hd⟩ := p.obj
      rw [← z, he] at ho
      cases ho
      cases hd
    have hlt : i < its.toArray.size := by
      obtain ⟨h1, _⟩ := List.getElem?_eq_some_iff.mp hu
      simpa using h1
    refine wpAny_pyNext_enum_itemC (drawsB (A := X.A.in1) (I.ok.hd hc) tp it a hia its.toArray) he ⟨hit, p⟩ hlt hne (by simp [hne, hea]) fun u' h' tk hP ho hit' hT hsz hk => ?_
    have eu : u' = u := by
      have q : its.toArray[i]? = some u := by simpa using hu
      rw [q] at hP
      exact (Option.some.inj hP).symm
    subst eu
    refine ⟨_, rfl, wpAny_letOwnedTupleGo_enum (s := { s with heap := h', toks := tk + 1 }) ho fun h'' he' sb => ?_⟩
    have hT2 : h''.get? s.heap.objs.size = some { cls := .type "tuple", data := .seq #[.int i tk, u'] } := (sb.2 _ (Nat.ne_of_gt hel)).trans hT
    have new : ObjOk X.prog X.w (upd H s.heap.objs.size (.tup [.int (i : Nat), x])) h'' s.heap.objs.size (.tup [.int (i : Nat), x]) :=
      ⟨by show 2 ≤ sizeLine; decide, [.int i tk, u'], .cons ⟨_, rfl⟩ (.cons ru .nil), ⟨_, hT2, rfl, _, rfl⟩⟩
    have I1 : Inv X pins σ (upd H s.heap.objs.size (.tup [.int (i : Nat), x])) { s with heap := h'', toks := tk + 1 } :=
      I.turnedNew (ch := [e, it]) (fun b ob hb q => (sb.2 b (fun z => hb (by simp [z]))).trans (hk b ob (fun z => hb (by simp [z])) (fun z => hb (by simp [z])) q)) hf (Nat.le_refl _) new
    refine ⟨.ref s.heap.objs.size, _, I1, rfl, ⟨_, x, rfl, I.hok.fresh (Nat.le_refl _), rfl, fun ys hy => by rw [seqB_inj I hy hq]; exact hx⟩, ⟨⟨u', ?_⟩, hit'.1.at fun o q => (sb.2 it (Ne.symm hne)).trans q, hne⟩, fun b hb => ?_⟩
    · have e1 : ((i + 1 : Nat) : Int) = (i : Int) + 1 := by omega
      rw [e1]; exact he'
    · have hb' : b < s.heap.objs.size := by
        have e' : b = e ∨ b = it := by simpa using hb
        rcases e' with z | z
        · rw [z]; exact hel
        · rw [z]; exact hil
      rw [upd_ne (Nat.ne_of_lt hb')]
      exact (hf b hb).1
  done := by
    intro X hP hw hK hc i pins s σ H E I hf st hg
    subst hP hw hK
    obtain ⟨⟨old, he⟩, hit, hne⟩ := st
    obtain ⟨xs, hq, hx⟩ := hg
    obtain ⟨its, rv, p, hz⟩ := seqB tp I hq
    obtain ⟨f0, f1, f2, f3, f4, f5⟩ := hf it (by simp)
    have hl := rv.length
    have ei : i = its.toArray.size := by simp; omega
    have hia : a ≠ it := neB hit p
    exact wpAny_pyNext_enum_endD (drawsB (A := X.A.in1) (I.ok.hd hc) tp it a hia its.toArray) he (by rw [← ei]; exact ⟨hit, p⟩) fun h' eb => ⟨rfl, I.turned (t' := s.toks) (fun b o hb q => eb b o hb q) f0 f1 f3 f4 f5⟩
  self := fun A i s Q E st h => let ⟨⟨_, he⟩, _⟩ := st; wpAny_pyIter_enum he h
set_option maxHeartbeats 2000000 in
theorem meets_enum1 {v : Value} {o : Obj} {H : Heap → Prop} (B : Begins v o H) :
    Meets (Builtin.«enumerate.__new__» ⟨[.type "enumerate", v], []⟩) (fun _ R s => H s.heap ∧
      R (.ok (.ret (.ref (s.heap.push o).objs.size))) { s with heap := (s.heap.push o).push { cls := .type "enumerate", data := .fields #[.none, .bool false, .ref s.heap.objs.size, rawInt 0, .none, .none] } }) :=
  .of_wp fun prog w A R s h => by
    obtain ⟨hp, g, d, tk, os⟩ := s; obtain ⟨h1, h⟩ := h
    have hsub := sub_enumerate
    have q1 : ∀ {A' : Around} {E : Value → Shared → Prop} {Q : Value → Shared → Prop}, Q (.ref hp.objs.size) ⟨hp.push o, g, d, tk, os⟩ → wpAny (model prog w) A' (pyIter v) Q E ⟨hp, g, d, tk, os⟩ :=
      fun q => B.iter prog w _ _ ⟨hp, g, d, tk, os⟩ _ h1 q
    wp_walk
    refine wpAny_stack_any fun st => wpAny_pure ?_
    split
    · rename_i c _ _ _ _ _
      cases (c == Value.type "enumerate")
      · wp_walk using q1
        exact ⟨_, rfl, h⟩
      · wp_walk using q1
        exact ⟨_, rfl, h⟩
    · wp_walk using q1
      exact ⟨_, rfl, h⟩
theorem enum1_begins {prog : Program} {w : World} {A : Around} {E : Value → Shared → Prop} {s : Shared} {v : Value} {o : Obj} {H : Heap → Prop} {Q : Value → Shared → Prop} (B : Begins v o H) (h1 : H s.heap)
    (h : ∀ h', IsEnum h' (s.heap.objs.size + 1) s.heap.objs.size 0 .none → h'.get? s.heap.objs.size = some o → h'.objs.size = s.heap.objs.size + 2 →
      (∀ b o, s.heap.get? b = some o → h'.get? b = some o) → Q (.ref (s.heap.objs.size + 1)) { s with heap := h' }) :
    wpAny (model prog w) A (call (.type "enumerate") [v]) Q E s := by
  refine callType_new F.called_enumerate (by decide) (F.typeCall_enumerate_1 _) (F.newCall_enumerate_1 _) (fun obj => F.args_object_init_2 obj _) F.entry_enumerate_new
    (meets_enum1 B) ⟨h1, ?_⟩
  have hz : (s.heap.push o).objs.size = s.heap.objs.size + 1 := Heap.size_push ..
  show _ ∧ _
  rw [hz]
  have he : IsEnum ((s.heap.push o).push { cls := .type "enumerate", data := .fields #[.none, .bool false, .ref s.heap.objs.size, rawInt 0, .none, .none] }) (s.heap.objs.size + 1) s.heap.objs.size 0 .none := by
    have := Heap.get?_push_size (s.heap.push o) (o := { cls := .type "enumerate", data := .fields #[.none, .bool false, .ref s.heap.objs.size, rawInt 0, .none, .none] }) rfl
    rw [hz] at this; exact this
  refine ⟨⟨_, he, rfl⟩, h _ he (Heap.get?_push_of_some _ (Heap.get?_push_size _ B.free)) (by rw [Heap.size_push, hz]) fun b o x => Heap.get?_push_of_some _ (Heap.get?_push_of_some _ x)⟩
/-- enumerate of a list (false) or a tuple (true) -/
def iEnumB (K : PySem.W.Frag) (tp : Bool) (ta : TA) : TI := fun σ H R => ta σ H fun vs H1 => ∃ a xs, vs = [.ref a] ∧ SqB K tp H1 a xs ∧ R (IteB K tp a) H1
theorem pi_enumB {X : Cx} (tp : Bool) {e : Expr} {ta : TA} {p pos tpos : Pos} {elts : List Expr} {kk : Nat} (hg : Gl X "enumerate") (hm : X.mg "enumerate" = none) (ha : PA X [e] ta) (hs : starEach [e] X.env = [(false, eval e X.env)] := by rfl) :
    PI X (.Tuple elts kk tpos) (.Call (.Name "enumerate" p) [e] [] pos) (iEnumB X.K tp ta) := by
  refine ⟨fun pins s σ H R I h => ?_⟩
  refine Call_ (ld_blt I hg hm boot_enumerate (PyProof.Rows.callWith_type1 (thn (ha.run pos pins s σ H _ I h) fun us s1 ⟨vs, H1, I1, r1, q1⟩ => ?_) hs rfl))
  obtain ⟨a, xs, ex, hq, q⟩ := q1
  subst ex
  cases r1 with
  | cons r rr =>
    cases rr
    cases r
    obtain ⟨its, rv, p', hz⟩ := seqB tp I1 hq
    refine enum1_begins (beginsB tp a its.toArray) p' fun h' he hit hsz hk => wpAny_pyIter_enum he ?_
    have I2 : Inv X pins σ H1 { s1 with heap := h' } := I1.kept (t' := s1.toks) hk
    refine ⟨s1.heap.objs.size + 1, [s1.heap.objs.size + 1, s1.heap.objs.size], _, _, H1, rfl, I2, turn_enumB tp a (s1.heap.objs.size + 1) s1.heap.objs.size, ⟨⟨.none, he⟩, itB_new hit, Nat.succ_ne_self _⟩, fun b hb => ?_, q⟩
    have e' : b = s1.heap.objs.size + 1 ∨ b = s1.heap.objs.size := by simpa using hb
    have hle : s1.heap.objs.size ≤ b := by
      rcases e' with z | z
      · rw [z]; exact Nat.le_add_right _ _
      · rw [z]; exact Nat.le_refl _
    exact I1.fpOk hle (I1.hok.fresh hle)
theorem pi_enumT {X : Cx} {e : Expr} {ta : TA} {p pos tpos : Pos} {elts : List Expr} {kk : Nat} (hg : Gl X "enumerate") (hm : X.mg "enumerate" = none) (ha : PA X [e] ta) (hs : starEach [e] X.env = [(false, eval e X.env)] := by rfl) :
    PI X (.Tuple elts kk tpos) (.Call (.Name "enumerate" p) [e] [] pos) (iEnumB X.K true ta) := pi_enumB true hg hm ha hs
theorem pi_enumL {X : Cx} {e : Expr} {ta : TA} {p pos tpos : Pos} {elts : List Expr} {kk : Nat} (hg : Gl X "enumerate") (hm : X.mg "enumerate" = none) (ha : PA X [e] ta) (hs : starEach [e] X.env = [(false, eval e X.env)] := by rfl) :
    PI X (.Tuple elts kk tpos) (.Call (.Name "enumerate" p) [e] [] pos) (iEnumB X.K false ta) := pi_enumB false hg hm ha hs
theorem walk_enumB {K : PySem.W.Frag} {tp : Bool} {a : Addr} {xs : List V} : Walk (IteB K tp a) xs.length (fun H => SqB K tp H a xs) (YPair (fun i => some (.int (i : Nat))) (fun i => xs[i]?)) := by
  refine ⟨fun i _ hi q => ⟨xs, xs[i], q, by simp [hi]⟩, fun _ q => ⟨xs, q, rfl⟩, fun i H v H' _ q y => ?_⟩
  obtain ⟨T, x, h1, h2, h3, h4⟩ := y
  exact ⟨T, .int (i : Nat), x, h1, h2, h3, rfl, h4 xs q⟩
/-! zip of two, each a list or a tuple -/
def ItzB (K : PySem.W.Frag) (ta tb : Bool) (a b : Addr) : It :=
  ⟨fun i H => ∃ (xs ys : List V) (x y : V), SqB K ta H a xs ∧ SqB K tb H b ys ∧ xs[i]? = some x ∧ ys[i]? = some y,
    fun i H v H' => ∃ T x y, v = .ref T ∧ H T = none ∧ H' = upd H T (.tup [x, y]) ∧ (∀ xs, SqB K ta H a xs → xs[i]? = some x) ∧ ∀ ys, SqB K tb H b ys → ys[i]? = some y,
    fun i H => ∃ xs ys : List V, SqB K ta H a xs ∧ SqB K tb H b ys ∧ i = min xs.length ys.length⟩
theorem turn_zipB {P : Program} {w : World} {K : PySem.W.Frag} {elts : List Expr} {kk : Nat} {tpos : Pos} (ka kb : Bool) {a b : Addr} {N : Nat} (la : a < N) (lb : b < N) :
    Turn P w K (.Tuple elts kk tpos) (ItzB K ka kb a b) [N + 4, N + 2, N + 3, N, N + 1] (N + 4) (fun i h => IsZip h (N + 4) (N + 2) (N + 3) .none ∧ IsTupOf2 h (N + 2) (.ref N) (.ref (N + 1)) ∧ (∃ x y, IsTupOf2 h (N + 3) x y) ∧ IsItB ka h N a i ∧ IsItB kb h (N + 1) b i) where
  mem := by simp
  obj := fun i h st c hc => by
    obtain ⟨hz, hTI, ⟨x, y, hTO⟩, h1, h2⟩ := st
    obtain ⟨o1, e1, _, v1, d1⟩ := h1.obj
    obtain ⟨o2, e2, _, v2, d2⟩ := h2.obj
    have e' : c = N + 4 ∨ c = N + 2 ∨ c = N + 3 ∨ c = N ∨ c = N + 1 := by simpa using hc
    rcases e' with q | q | q | q | q
    · rw [q]; exact ⟨_, hz, fun v q => nomatch q⟩
    · rw [q]; exact ⟨_, hTI, fun v q => nomatch q⟩
    · rw [q]; exact ⟨_, hTO, fun v q => nomatch q⟩
    · rw [q]; exact ⟨o1, e1, fun v q => by rw [d1] at q; cases q⟩
    · rw [q]; exact ⟨o2, e2, fun v q => by rw [d2] at q; cases q⟩
  keep := fun i h h' st k => by
    obtain ⟨hz, hTI, ⟨x, y, hTO⟩, h1, h2⟩ := st
    exact ⟨k _ (by simp) _ hz, k _ (by simp) _ hTI, ⟨x, y, k _ (by simp) _ hTO⟩, h1.at fun o q => k _ (by simp) o q, h2.at fun o q => k _ (by simp) o q⟩
  item := by
    intro X hP hw hK hc i pins s σ H E I hf st hg
    subst hP hw hK
    obtain ⟨hz, hTI, ⟨x0, y0, hTO⟩, h1, h2⟩ := st
    obtain ⟨xs, ys, x, y, hqx, hqy, hx, hy⟩ := hg
    obtain ⟨its, rv, p, _⟩ := seqB ka I hqx
    obtain ⟨its2, rv2, p2, _⟩ := seqB kb I hqy
    obtain ⟨u, hu, ru⟩ := rv.get hx
    obtain ⟨u2, hu2, ru2⟩ := rv2.get hy
    have hzl : N + 4 < s.heap.objs.size := Heap.lt_size hz
    have S : ZipSep2 (N + 4) (N + 2) (N + 3) N (N + 1) [N, a] [N + 1, b] := zip_sep2 (fp1 := [a]) (fp2 := [b]) (by simpa using la) (by simpa using lb)
    have D1 := drawsB (prog := X.prog) (w := X.w) (A := X.A.in1) (I.ok.hd hc) ka N a (Nat.ne_of_lt la) its.toArray
    have D2 := drawsB (prog := X.prog) (w := X.w) (A := X.A.in1) (I.ok.hd hc) kb (N + 1) b (Nat.ne_of_lt (Nat.lt_succ_of_lt lb)) its2.toArray
    have hlt : i < its.toArray.size := by
      obtain ⟨h1, _⟩ := List.getElem?_eq_some_iff.mp hu
      simpa using h1
    have hlt2 : i < its2.toArray.size := by
      obtain ⟨h1, _⟩ := List.getElem?_eq_some_iff.mp hu2
      simpa using h1
    refine wpAny_pyNext_zipD2_item S D1 D2 hz hTI hTO ⟨h1, p⟩ ⟨h2, p2⟩ hlt hlt2 fun u' u2' h' tk hP1 hP2 z' TO' h1' h2' hT hsz hk => ?_
    have eu : u' = u := by
      have q : its.toArray[i]? = some u := by simpa using hu
      rw [q] at hP1
      exact (Option.some.inj hP1).symm
    have eu2 : u2' = u2 := by
      have q : its2.toArray[i]? = some u2 := by simpa using hu2
      rw [q] at hP2
      exact (Option.some.inj hP2).symm
    subst eu eu2
    refine ⟨_, rfl, wpAny_letOwnedTupleGo_zip (s := { s with heap := h', toks := tk }) z' fun h'' z'' sb => ?_⟩
    have hT2 : h''.get? s.heap.objs.size = some { cls := .type "tuple", data := .seq #[u', u2'] } := (sb.2 _ (Nat.ne_of_gt hzl)).trans hT
    have new : ObjOk X.prog X.w (upd H s.heap.objs.size (.tup [x, y])) h'' s.heap.objs.size (.tup [x, y]) :=
      ⟨by show 2 ≤ sizeLine; decide, [u', u2'], .cons ru (.cons ru2 .nil), ⟨_, hT2, rfl, _, rfl⟩⟩
    have I1 : Inv X pins σ (upd H s.heap.objs.size (.tup [x, y])) { s with heap := h'', toks := tk } :=
      I.turnedNew (ch := [N + 4, N + 2, N + 3, N, N + 1]) (fun c o hb q => (sb.2 c (fun q' => hb (by simp [q']))).trans (hk c o (fun q' => hb (by simp [q'])) (fun q' => hb (by simp [q'])) (fun q' => hb (by simp [q'])) (fun q' => hb (by simp [q'])) q)) hf (Nat.le_refl _) new
    refine ⟨.ref s.heap.objs.size, _, I1, rfl, ⟨_, x, y, rfl, I.hok.fresh (Nat.le_refl _), rfl, fun l hl => by rw [seqB_inj I hl hqx]; exact hx, fun l hl => by rw [seqB_inj I hl hqy]; exact hy⟩, ⟨z'', ?_, ⟨u', u2', ?_⟩, ?_, ?_⟩, fun c hcm => ?_⟩
    · exact (sb.2 _ S.TIz).trans (hk _ _ S.TIz S.TITO S.TIi1 S.TIi2 hTI)
    · exact (sb.2 _ S.TOz).trans TO'
    · exact h1'.1.at fun o q => (sb.2 _ (Ne.symm S.zi1)).trans q
    · exact h2'.1.at fun o q => (sb.2 _ (Ne.symm S.zi2)).trans q
    · have hlt : c < s.heap.objs.size := by
        have e' : c = N + 4 ∨ c = N + 2 ∨ c = N + 3 ∨ c = N ∨ c = N + 1 := by simpa using hcm
        rcases e' with q | q | q | q | q
        · rw [q]; exact hzl
        · rw [q]; exact Heap.lt_size hTI
        · rw [q]; exact Heap.lt_size hTO
        · rw [q]; obtain ⟨_, e1, _⟩ := h1.obj; exact Heap.lt_size e1
        · rw [q]; obtain ⟨_, e2, _⟩ := h2.obj; exact Heap.lt_size e2
      rw [upd_ne (Nat.ne_of_lt hlt)]
      exact (hf c hcm).1
  done := by
    intro X hP hw hK hc i pins s σ H E I hf st hg
    subst hP hw hK
    obtain ⟨hz, hTI, ⟨x0, y0, hTO⟩, h1, h2⟩ := st
    obtain ⟨xs, ys, hqx, hqy, hend⟩ := hg
    obtain ⟨its, rv, p, _⟩ := seqB ka I hqx
    obtain ⟨its2, rv2, p2, _⟩ := seqB kb I hqy
    have l1 := rv.length
    have l2 := rv2.length
    have S : ZipSep2 (N + 4) (N + 2) (N + 3) N (N + 1) [N, a] [N + 1, b] := zip_sep2 (fp1 := [a]) (fp2 := [b]) (by simpa using la) (by simpa using lb)
    have D1 := drawsB (prog := X.prog) (w := X.w) (A := X.A.in1) (I.ok.hd hc) ka N a (Nat.ne_of_lt la) its.toArray
    have D2 := drawsB (prog := X.prog) (w := X.w) (A := X.A.in1) (I.ok.hd hc) kb (N + 1) b (Nat.ne_of_lt (Nat.lt_succ_of_lt lb)) its2.toArray
    exact wpAny_pyNext_zipD2_end S D1 D2 hz hTI hTO ⟨h1, p⟩ ⟨h2, p2⟩ (by simp; omega) (by simp; omega) (by simp; omega) fun h' tk hk => ⟨rfl, I.turnedL (t' := tk) (ch := [N + 4, N + 2, N + 3, N, N + 1]) (fun c o hb q =>
      hk c o (fun q' => hb (by simp [q'])) (fun q' => hb (by simp [q'])) (fun q' => hb (by simp [q'])) (fun q' => hb (by simp [q'])) q) hf⟩
  self := fun A i s Q E st h => wpAny_pyIter_zip st.1 h
def iZipB (K : PySem.W.Frag) (ka kb : Bool) (ta : TA) : TI := fun σ H R => ta σ H fun vs H1 => ∃ a b xs ys, vs = [.ref a, .ref b] ∧ SqB K ka H1 a xs ∧ SqB K kb H1 b ys ∧ R (ItzB K ka kb a b) H1
theorem pi_zipB {X : Cx} (ka kb : Bool) {e e2 : Expr} {ta : TA} {p pos tpos : Pos} {elts : List Expr} {kk : Nat} (hg : Gl X "zip") (hm : X.mg "zip" = none) (ha : PA X [e, e2] ta)
    (hs : starEach [e, e2] X.env = (false, eval e X.env) :: starEach [e2] X.env := by rfl) (hpl : (backTo pos (starEach [e2] X.env)).any (·.1) = false := by rfl) :
    PI X (.Tuple elts kk tpos) (.Call (.Name "zip" p) [e, e2] [] pos) (iZipB X.K ka kb ta) := by
  refine ⟨fun pins s σ H R I h => ?_⟩
  refine Call_ (ld_blt I hg hm PyProof.Rows.boot_zip (PyProof.Rows.callWith_type1 (thn (ha.run pos pins s σ H _ I h) fun us s1 ⟨vs, H1, I1, r1, q1⟩ => ?_) hs hpl))
  obtain ⟨a, b, xs, ys, ex, hqx, hqy, q⟩ := q1
  subst ex
  cases r1 with
  | cons r rr =>
    cases rr with
    | cons r' rr =>
      cases rr
      cases r
      cases r'
      obtain ⟨its, rv, p1, _⟩ := seqB ka I1 hqx
      obtain ⟨its2, rv2, p2, _⟩ := seqB kb I1 hqy
      have la : a < s1.heap.objs.size := by obtain ⟨_, e, _⟩ := p1.obj; exact Heap.lt_size e
      have lb : b < s1.heap.objs.size := by obtain ⟨_, e, _⟩ := p2.obj; exact Heap.lt_size e
      refine zip_begins2 (beginsB ka a its.toArray) (beginsB kb b its2.toArray) p1 p2 fun h' hz hTI hTO h1 h2 hsz hk => wpAny_pyIter_zip hz ?_
      have I2 : Inv X pins σ H1 { s1 with heap := h' } := I1.kept (t' := s1.toks) hk
      refine ⟨s1.heap.objs.size + 4, [s1.heap.objs.size + 4, s1.heap.objs.size + 2, s1.heap.objs.size + 3, s1.heap.objs.size, s1.heap.objs.size + 1], _, _, H1, rfl, I2, turn_zipB ka kb la lb, ⟨hz, hTI, ⟨_, _, hTO⟩, itB_new h1, itB_new h2⟩, fun c hcm => ?_, q⟩
      have e' : c = s1.heap.objs.size + 4 ∨ c = s1.heap.objs.size + 2 ∨ c = s1.heap.objs.size + 3 ∨ c = s1.heap.objs.size ∨ c = s1.heap.objs.size + 1 := by simpa using hcm
      have hle : s1.heap.objs.size ≤ c := by
        rcases e' with z | z | z | z | z
        · rw [z]; exact Nat.le_add_right _ _
        · rw [z]; exact Nat.le_add_right _ _
        · rw [z]; exact Nat.le_add_right _ _
        · rw [z]; exact Nat.le_refl _
        · rw [z]; exact Nat.le_add_right _ _
      exact I1.fpOk hle (I1.hok.fresh hle)
theorem walk_zipB {K : PySem.W.Frag} {ka kb : Bool} {a b : Addr} {xs ys : List V} {n : Nat} (hn : n = min xs.length ys.length) : Walk (ItzB K ka kb a b) n (fun H => SqB K ka H a xs ∧ SqB K kb H b ys) (YPair (fun i => xs[i]?) (fun i => ys[i]?)) := by
  subst hn
  refine ⟨fun i _ hi q => ?_, fun _ q => ⟨xs, ys, q.1, q.2, rfl⟩, fun i H v H' _ q y => ?_⟩
  · have h1 : i < xs.length := by omega
    have h2 : i < ys.length := by omega
    exact ⟨xs, ys, xs[i], ys[i], q.1, q.2, by simp [h1], by simp [h2]⟩
  · obtain ⟨T, x, z, h1, h2, h3, h4, h5⟩ := y
    exact ⟨T, x, z, h1, h2, h3, h4 xs q.1, h5 ys q.2⟩
end LF
/-! ### la_base: what every def's walk uses -/
namespace LF
open PySem PySem.Spec PyProof.Rows L2
/-- the built-ins' names are theirs -/
structure Bl (mg : Str → Option Value) : Prop where
  len : mg "len" = none
  sum : mg "sum" = none
  all : mg "all" = none
  any : mg "any" = none
  sorted : mg "sorted" = none
  tuple : mg "tuple" = none
  list : mg "list" = none
  int : mg "int" = none
  bool : mg "bool" = none
  str : mg "str" = none
  isinstance : mg "isinstance" = none
  max : mg "max" = none
  min : mg "min" = none
  range : mg "range" = none
  enumerate : mg "enumerate" = none
  zip : mg "zip" = none
/-- a def of the text at its place -/
structure FnAt (K : PySem.W.Frag) (mg : Str → Option Value) (gx x : Str) (st : Stmt) (ps : List Str) (f : Addr) (fd : FuncData) : Prop where
  F : Fun K x x st f fd
  b : Binds K fd ps []
  g : mg gx = some (.ref f)
abbrev vi (ns : List Int) : List V := ns.map V.int
theorem vi_snoc (zs : List Int) (z : Int) : vi (zs ++ [z]) = vi zs ++ [.int z] := List.map_append
theorem vi_app (xs ys : List Int) : vi (xs ++ ys) = vi xs ++ vi ys := List.map_append
theorem vi_len (ns : List Int) : (vi ns).length = ns.length := List.length_map _
/-- all but t as it was -/
def Smt (t : Addr) (H H' : Hp) : Prop := ∀ b o, H b = some o → b ≠ t → H' b = some o
theorem Smt.refl (t : Addr) (H : Hp) : Smt t H H := fun _ _ h _ => h
theorem Smt.trans {t : Addr} {H H1 H2 : Hp} (a : Smt t H H1) (b : Smt t H1 H2) : Smt t H H2 := fun c o h n => b c o (a c o h n) n
theorem Smt.of {t : Addr} {H H' : Hp} (a : Same H H') : Smt t H H' := fun b o h _ => a b o h
theorem Smt.upd {t : Addr} {H : Hp} {o : HO} : Smt t H (upd H t o) := fun b u h n => by rw [upd_ne n]; exact h
theorem _root_.L2.Same.new {H : Hp} {p : Addr} {o : HO} (h : H p = none) : Same H (upd H p o) := fun b u e => by
  rw [upd_ne (ne_of_none e h)]
  exact e
/-- a tracked object that H did not know may change -/
theorem _root_.L2.Same.mut {H H' : Hp} {p : Addr} {o : HO} (e : Same H H') (h : H p = none) : Same H (upd H' p o) := fun a u ha => by
  rw [upd_ne (ne_of_none ha h)]
  exact e a u ha
theorem _root_.L2.Same.sqt {K : PySem.W.Frag} {H H' : Hp} {a : Addr} {xs : List V} (e : Same H H') (h : SqT K H a xs) : SqT K H' a xs := by
  rcases h with (h | ⟨o, h⟩) | h
  · exact .inl (.inl (e _ _ h))
  · exact .inl (.inr ⟨o, e _ _ h⟩)
  · exact .inr h
theorem _root_.L2.Same.sqb {K : PySem.W.Frag} {H H' : Hp} {a : Addr} {xs : List V} {tp : Bool} (e : Same H H') (h : SqB K tp H a xs) : SqB K tp H' a xs := by
  cases tp with
  | false => exact e.seq h
  | true => exact e.sqt h
/-- the tape at t: the script's numbers in a list at a, how many cells are read, what is left of the last one -/
def TapeAt (H : Hp) (t a : Addr) : Prop := ∃ (ns : List Int) (i c : Int), H t = some (.lst [.ref a, .int i, .int c]) ∧ H a = some (.lst (vi ns)) ∧ 0 ≤ c
theorem TapeAt.ex {H : Hp} {t a : Addr} (h : TapeAt H t a) : ∃ xs, H t = some (.lst xs) := by
  obtain ⟨ns, i, c, h, _⟩ := h
  exact ⟨_, h⟩
theorem TapeAt.same {H H' : Hp} {t a : Addr} (e : Same H H') (h : TapeAt H t a) : TapeAt H' t a := by
  obtain ⟨ns, i, c, h1, h2, h3⟩ := h
  exact ⟨ns, i, c, e _ _ h1, e _ _ h2, h3⟩
theorem TapeAt.ne_none {H : Hp} {t a p : Addr} (h : TapeAt H t a) (n : H p = none) : t ≠ p := by
  obtain ⟨xs, e⟩ := h.ex
  exact ne_of_none e n
theorem TapeAt.ne_none2 {H : Hp} {t a p : Addr} (h : TapeAt H t a) (n : H p = none) : a ≠ p := by
  obtain ⟨ns, i, c, h1, h2, h3⟩ := h
  exact ne_of_none h2 n
theorem TapeAt.ta {H : Hp} {t a : Addr} (h : TapeAt H t a) : a ≠ t := fun z => by
  obtain ⟨ns, i, c, h1, h2, h3⟩ := h
  rw [z, h1] at h2
  have e := congrArg (fun o : Option HO => match o with | some (.lst (.ref _ :: _)) => true | _ => false) h2
  cases ns <;> cases e
/-- another object is written -/
theorem TapeAt.but {H H' : Hp} {t a p : Addr} (h : TapeAt H t a) (s : Smt p H H') (n1 : t ≠ p) (n2 : a ≠ p) : TapeAt H' t a := by
  obtain ⟨ns, i, c, h1, h2, h3⟩ := h
  exact ⟨ns, i, c, s _ _ h1 n1, s _ _ h2 n2, h3⟩
theorem TapeAt.upd {H : Hp} {t a p : Addr} {o : HO} (h : TapeAt H t a) (n : H p = none) : TapeAt (L2.upd H p o) t a := h.same (Same.new n)
theorem Smt.tup {t a b : Addr} {H H' : Hp} {xs : List V} (s : Smt t H H') (h : TapeAt H t b) (e : H a = some (.tup xs)) : H' a = some (.tup xs) := by
  refine s a _ e fun z => ?_
  obtain ⟨ys, e2⟩ := h.ex
  rw [z, e2] at e
  cases e
theorem Smt.sqt {K : PySem.W.Frag} {t a b : Addr} {H H' : Hp} {xs : List V} (s : Smt t H H') (h : TapeAt H t b) (e : SqT K H a xs) : SqT K H' a xs := by
  obtain ⟨ys, e2⟩ := h.ex
  rcases e with (e | ⟨o, e⟩) | e
  · exact .inl (.inl (s.tup h e))
  · refine .inl (.inr ⟨o, s a _ e fun z => ?_⟩)
    rw [z, e2] at e
    cases e
  · exact .inr e
theorem same_smt {H H' H2 : Hp} {o : Addr} (s : Same H H2) (t : Smt o H2 H') (n : H o = none) : Same H H' := fun a u ha => t a u (s a u ha) (ne_of_none ha n)
theorem Smt.lst {t a : Addr} {H H' : Hp} {o : HO} (s : Smt t H H') (n : a ≠ t) (e : H a = some o) : H' a = some o := s a o e n
/-- what is new is tracked besides -/
theorem Smt.new {t p : Addr} {H H' : Hp} {o : HO} (s : Smt t H H') (n : H p = none) : Smt t H (L2.upd H' p o) := fun b u h hb => by
  rw [upd_ne (ne_of_none h n)]
  exact s b u h hb
theorem Smt.free {t p : Addr} {H H' : Hp} (s : Smt t H H') (n : H' p = none) (hp : p ≠ t) : H p = none := by
  cases q : H p with
  | none => rfl
  | some o =>
    rw [s p o q hp] at n
    cases n
theorem atI_mod {ns : List Int} (h : 0 < ns.length) (i : Int) : ∃ z, atI (vi ns) (i % (((vi ns).length : Nat) : Int)) = some (.int z) := by
  rw [vi_len]
  have h1 : 0 ≤ i % (ns.length : Int) := Int.emod_nonneg i (by omega)
  have h2 : i % (ns.length : Int) < (ns.length : Int) := Int.emod_lt_of_pos i (by omega)
  have h3 : (((i % (ns.length : Int)).toNat : Nat) : Int) = i % (ns.length : Int) := Int.toNat_of_nonneg h1
  have h4 : (i % (ns.length : Int)).toNat < ns.length := by omega
  have h5 : atI (vi ns) (((i % (ns.length : Int)).toNat : Nat) : Int) = some (.int ns[(i % (ns.length : Int)).toNat]) := atI_nat (by
    rw [List.getElem?_map, List.getElem?_eq_getElem h4]
    rfl)
  exact ⟨ns[(i % (ns.length : Int)).toNat], (congrArg (atI (vi ns)) h3.symm).trans h5⟩
theorem vi_get {ns : List Int} {i : Nat} {x : V} (h : (vi ns)[i]? = some x) : ∃ z, ns[i]? = some z ∧ x = .int z := by
  rw [List.getElem?_map] at h
  cases e : ns[i]? with
  | none =>
    rw [e] at h
    cases h
  | some z =>
    rw [e] at h
    exact ⟨z, rfl, (Option.some.inj h).symm⟩
theorem vi_at {ns : List Int} {i : Nat} (h : i < ns.length) : (vi ns)[i]? = some (.int ns[i]) := by
  rw [List.getElem?_map, List.getElem?_eq_getElem h]
  rfl
theorem vi_flat : ∀ ns : List Int, (vi ns).all flatV = true
  | [] => rfl
  | _ :: r => by
    show (true && (vi r).all flatV) = true
    rw [vi_flat r]
    rfl
/-- an if whose test is known -/
theorem if_t {c : Bool} {A B : Prop} (hc : c = true) (h : A) : if c = true then A else B := by
  rw [if_pos hc]
  exact h
theorem if_f {c : Bool} {A B : Prop} (hc : c = false) (h : B) : if c = true then A else B := by
  rw [hc, if_neg Bool.false_ne_true]
  exact h
/-- both ways -/
theorem if_b {c : Bool} {A B : Prop} (h1 : c = true → A) (h2 : c = false → B) : if c = true then A else B := by
  cases c with
  | true => exact if_t rfl (h1 rfl)
  | false => exact if_f rfl (h2 rfl)
/-- a if t else b, both of them one value -/
theorem if_val {c : Bool} {ta tb : TE} {σ : L2.St} {H : Hp} {Q : VK} (v : V) (h1 : c = true → ∀ Q : VK, Q v H → ta σ H Q) (h2 : c = false → ∀ Q : VK, Q v H → tb σ H Q) (h : Q v H) : if c = true then ta σ H Q else tb σ H Q :=
  if_b (fun e => h1 e Q h) (fun e => h2 e Q h)
theorem sz3 {n : Nat} (h : n ≤ 1000) : n ≤ sizeLine := Nat.le_of_lt (small1000 h)
end LF
/-! ### la_comp: comprehensions by what they give -/
namespace LF
open PySem PySem.Spec PyProof.Rows L2
section
variable {J : It} {n : Nat} {G : Hp → Prop} {Y : Nat → Hp → V → Hp → Prop} {g : TG} {tt : TT} {te : TE} {vs : List Nat} {σ : L2.St} {H1 : Hp} {D : Addr} {Qd : Hp → Prop}
/-- no test -/
theorem lc_yes {σ2 : L2.St} {H : Hp} {ky : V → Hp → Prop} {kn : Hp → Prop} (h : te σ2 H ky) : tYes σ2 H fun b H3 => if b = true then te σ2 H3 ky else kn H3 := if_t (B := kn H) rfl h
/-- S: by the turn, the items so far, the heap -/
theorem lc_gen (w : Walk J n G Y) (S : Nat → List V → Hp → Prop) (h0 : S 0 [] (upd H1 D (.lst []))) (hG : ∀ i acc H, S i acc H → H D = some (.lst acc) → G H) (hlen : ∀ i acc H, S i acc H → acc.length < sizeLine)
    (hs : ∀ i x H H' acc (kn : Hp → Prop) (ky : V → Hp → Prop), i < n → S i acc H → H D = some (.lst acc) → Y i H x H' → (∀ H3, H3 D = some (.lst acc) → S (i + 1) acc H3 → kn H3) →
      (∀ y H4, H4 D = some (.lst acc) → S (i + 1) (acc ++ [y]) (upd H4 D (.lst (acc ++ [y]))) → ky y H4) →
      g x (wipe σ vs) H' fun σ2 H2 => wipe σ2 vs = wipe σ vs ∧ tt σ2 H2 fun b H3 => if b = true then te σ2 H3 ky else kn H3) (hd : ∀ acc H, S n acc H → H D = some (.lst acc) → Qd H) :
    ∃ W : Nat → Nat → Hp → Prop, (∃ m, W 0 m (upd H1 D (.lst []))) ∧ ∀ i m H, W i m H →
      (J.stop i H ∧ Qd H) ∨ (J.go i H ∧ ∃ Nx : Hp → Prop, (∀ H', Nx H' → ∃ m', m' < m ∧ W (i + 1) m' H') ∧ ∀ x H', J.yld i H x H' → g x (wipe σ vs) H' fun σ2 H2 => wipe σ2 vs = wipe σ vs ∧ tt σ2 H2 fun b H3 =>
        if b = true then te σ2 H3 fun y H4 => ∃ acc, H4 D = some (.lst acc) ∧ acc.length < sizeLine ∧ Nx (upd H4 D (.lst (acc ++ [y]))) else Nx H3) := by
  refine lc_it w (fun i H => ∃ acc, H D = some (.lst acc) ∧ S i acc H) ⟨[], upd_same, h0⟩ (fun i H _ ⟨acc, h1, h2⟩ => hG i acc H h2 h1) (fun i x H H' hi ⟨acc, h1, h2⟩ y => ?_) (fun H ⟨acc, h1, h2⟩ => hd acc H h2 h1)
  exact hs i x H H' acc _ _ hi h2 h1 y (fun H3 e s => ⟨acc, e, s⟩) fun y H4 e s => ⟨acc, e, hlen _ _ _ h2, _, upd_same, s⟩
theorem paired_app {α β : Type} {F : α → β → Prop} : ∀ {l1 : List α} {l2 : List β} {m1 : List α} {m2 : List β}, Paired F l1 l2 → Paired F m1 m2 → Paired F (l1 ++ m1) (l2 ++ m2)
  | _, _, _, _, .nil, s => s
  | _, _, _, _, .cons r t, s => .cons r (paired_app t s)
theorem paired_mono {α β : Type} {F F' : α → β → Prop} (h : ∀ a b, F a b → F' a b) : ∀ {l1 : List α} {l2 : List β}, Paired F l1 l2 → Paired F' l1 l2
  | _, _, .nil => .nil
  | _, _, .cons r t => .cons (h _ _ r) (paired_mono h t)
theorem paired_get {α β : Type} {F : α → β → Prop} : ∀ {l1 : List α} {l2 : List β} {i : Nat} {x : α}, Paired F l1 l2 → l1[i]? = some x → ∃ y, l2[i]? = some y ∧ F x y
  | _, _, i, x, .nil, e => by simp at e
  | _, _, 0, x, .cons r _, e => by
    cases Option.some.inj e
    exact ⟨_, rfl, r⟩
  | _, _, i + 1, x, .cons _ t, e => paired_get (i := i) t e
theorem all_snoc {α : Type} {P : α → Prop} {zs : List α} {z : α} (h : ∀ c ∈ zs, P c) (hz : P z) : ∀ c ∈ zs ++ [z], P c := fun c hc => by
  rcases List.mem_append.mp hc with q | q
  · exact h c q
  · rw [List.mem_singleton.mp q]
    exact hz
theorem paired_len {α β : Type} {F : α → β → Prop} : ∀ {l1 : List α} {l2 : List β}, Paired F l1 l2 → l1.length = l2.length
  | _, _, .nil => rfl
  | _, _, .cons _ t => congrArg (· + 1) (paired_len t)
theorem filterMap_succ {α : Type} (R : Nat → Option α) (i : Nat) : (List.range (i + 1)).filterMap R = (List.range i).filterMap R ++ (R i).toList := by
  rw [List.range_succ, List.filterMap_append]
  cases e : R i <;> simp [e]
theorem filterMap_le {α : Type} (R : Nat → Option α) (n : Nat) : ((List.range n).filterMap R).length ≤ n := by
  have h := List.length_filterMap_le R (List.range n)
  rw [List.length_range] at h
  exact h
/-- nothing but new objects is made on the way; the items by a relation that lasts while a list (the new one) changes -/
theorem lc_rel {α : Type} (w : Walk J n G Y) (hD : H1 D = none) (hn : n ≤ 1000) (ρ : Hp → V → α → Prop) (mono : ∀ (H H' : Hp) (D : Addr) (acc : List V) v a, H D = some (.lst acc) → Smt D H H' → ρ H v a → ρ H' v a) (R : Nat → Option α) (hG : ∀ H, Same H1 H → G H)
    (hs : ∀ i x H H' (kn : Hp → Prop) (ky : V → Hp → Prop), i < n → Same H1 H → Y i H x H' → (∀ H3, Same H H3 → R i = none → kn H3) → (∀ y a H4, Same H H4 → R i = some a → ρ H4 y a → ky y H4) →
      g x (wipe σ vs) H' fun σ2 H2 => wipe σ2 vs = wipe σ vs ∧ tt σ2 H2 fun b H3 => if b = true then te σ2 H3 ky else kn H3)
    (hd : ∀ ys H, Same H1 H → H D = some (.lst ys) → Paired (ρ H) ys ((List.range n).filterMap R) → Qd H) :
    ∃ W : Nat → Nat → Hp → Prop, (∃ m, W 0 m (upd H1 D (.lst []))) ∧ ∀ i m H, W i m H →
      (J.stop i H ∧ Qd H) ∨ (J.go i H ∧ ∃ Nx : Hp → Prop, (∀ H', Nx H' → ∃ m', m' < m ∧ W (i + 1) m' H') ∧ ∀ x H', J.yld i H x H' → g x (wipe σ vs) H' fun σ2 H2 => wipe σ2 vs = wipe σ vs ∧ tt σ2 H2 fun b H3 =>
        if b = true then te σ2 H3 fun y H4 => ∃ acc, H4 D = some (.lst acc) ∧ acc.length < sizeLine ∧ Nx (upd H4 D (.lst (acc ++ [y]))) else Nx H3) := by
  refine lc_gen w (fun i acc H => i ≤ n ∧ Same H1 H ∧ Paired (ρ H) acc ((List.range i).filterMap R)) ⟨Nat.zero_le _, Same.new hD, .nil⟩ (fun i acc H s _ => hG H s.2.1) (fun i acc H s => ?_) (fun i x H H' acc kn ky hi s hacc y h1 h2 => ?_) (fun acc H s e => ?_)
  · obtain ⟨hle, _, p⟩ := s
    rw [paired_len p]
    exact Nat.lt_of_le_of_lt (Nat.le_trans (filterMap_le R i) (Nat.le_trans hle hn)) (small1000 (Nat.le_refl _))
  · obtain ⟨_, sm, p⟩ := s
    refine hs i x H H' kn ky hi sm y (fun H3 s3 e => h1 H3 (s3 _ _ hacc) ⟨hi, sm.trans s3, ?_⟩) (fun v a H4 s4 e r => h2 v H4 (s4 _ _ hacc) ⟨hi, Same.mut (sm.trans s4) hD, ?_⟩)
    · rw [filterMap_succ, e]
      show Paired (ρ H3) acc (_ ++ [])
      rw [List.append_nil]
      exact paired_mono (fun v a r => mono _ _ _ _ _ _ hacc (Smt.of s3) r) p
    · have hD4 := s4 _ _ hacc
      rw [filterMap_succ, e]
      refine paired_app (paired_mono (fun v a r => mono _ _ _ _ _ _ hacc ((Smt.of s4).trans Smt.upd) r) p) ?_
      exact .cons (mono _ _ _ _ _ _ hD4 Smt.upd r) .nil
  · exact hd acc H s.2.1 e s.2.2
theorem paired_ints : ∀ {ys : List V} {zs : List Int}, Paired (fun v z => v = V.int z) ys zs → ys = vi zs
  | _, _, .nil => rfl
  | _, _, .cons r t => by rw [r, paired_ints t]; rfl
theorem paired_bls : ∀ {ys : List V} {zs : List Bool}, Paired (fun v z => v = V.bl z) ys zs → ys = zs.map V.bl
  | _, _, .nil => rfl
  | _, _, .cons r t => by rw [r, paired_bls t]; rfl
/-- items that are ints -/
theorem lc_ints (w : Walk J n G Y) (hD : H1 D = none) (hn : n ≤ 1000) (R : Nat → Option Int) (hG : ∀ H, Same H1 H → G H)
    (hs : ∀ i x H H' (kn : Hp → Prop) (ky : V → Hp → Prop), i < n → Same H1 H → Y i H x H' → (∀ H3, Same H H3 → R i = none → kn H3) → (∀ z H4, Same H H4 → R i = some z → ky (.int z) H4) →
      g x (wipe σ vs) H' fun σ2 H2 => wipe σ2 vs = wipe σ vs ∧ tt σ2 H2 fun b H3 => if b = true then te σ2 H3 ky else kn H3)
    (hd : ∀ H, Same H1 H → H D = some (.lst (vi ((List.range n).filterMap R))) → Qd H) :
    ∃ W : Nat → Nat → Hp → Prop, (∃ m, W 0 m (upd H1 D (.lst []))) ∧ ∀ i m H, W i m H →
      (J.stop i H ∧ Qd H) ∨ (J.go i H ∧ ∃ Nx : Hp → Prop, (∀ H', Nx H' → ∃ m', m' < m ∧ W (i + 1) m' H') ∧ ∀ x H', J.yld i H x H' → g x (wipe σ vs) H' fun σ2 H2 => wipe σ2 vs = wipe σ vs ∧ tt σ2 H2 fun b H3 =>
        if b = true then te σ2 H3 fun y H4 => ∃ acc, H4 D = some (.lst acc) ∧ acc.length < sizeLine ∧ Nx (upd H4 D (.lst (acc ++ [y]))) else Nx H3) :=
  lc_rel w hD hn (fun _ v z => v = V.int z) (fun _ _ _ _ _ _ _ _ r => r) R hG (fun i x H H' kn ky hi sm y h1 h2 => hs i x H H' kn ky hi sm y h1 fun z H4 s e => h2 _ z H4 s e rfl) (fun ys H sm e p => hd H sm (by rw [e, paired_ints p]))
theorem lc_bls (w : Walk J n G Y) (hD : H1 D = none) (hn : n ≤ 1000) (R : Nat → Option Bool) (hG : ∀ H, Same H1 H → G H)
    (hs : ∀ i x H H' (kn : Hp → Prop) (ky : V → Hp → Prop), i < n → Same H1 H → Y i H x H' → (∀ H3, Same H H3 → R i = none → kn H3) → (∀ z H4, Same H H4 → R i = some z → ky (.bl z) H4) →
      g x (wipe σ vs) H' fun σ2 H2 => wipe σ2 vs = wipe σ vs ∧ tt σ2 H2 fun b H3 => if b = true then te σ2 H3 ky else kn H3)
    (hd : ∀ H, Same H1 H → H D = some (.lst (((List.range n).filterMap R).map V.bl)) → Qd H) :
    ∃ W : Nat → Nat → Hp → Prop, (∃ m, W 0 m (upd H1 D (.lst []))) ∧ ∀ i m H, W i m H →
      (J.stop i H ∧ Qd H) ∨ (J.go i H ∧ ∃ Nx : Hp → Prop, (∀ H', Nx H' → ∃ m', m' < m ∧ W (i + 1) m' H') ∧ ∀ x H', J.yld i H x H' → g x (wipe σ vs) H' fun σ2 H2 => wipe σ2 vs = wipe σ vs ∧ tt σ2 H2 fun b H3 =>
        if b = true then te σ2 H3 fun y H4 => ∃ acc, H4 D = some (.lst acc) ∧ acc.length < sizeLine ∧ Nx (upd H4 D (.lst (acc ++ [y]))) else Nx H3) :=
  lc_rel w hD hn (fun _ v z => v = V.bl z) (fun _ _ _ _ _ _ _ _ r => r) R hG (fun i x H H' kn ky hi sm y h1 h2 => hs i x H H' kn ky hi sm y h1 fun z H4 s e => h2 _ z H4 s e rfl) (fun ys H sm e p => hd H sm (by rw [e, paired_bls p]))
/-- the tape t is read on the way; the items are ints, I tells of them -/
theorem lc_tape (w : Walk J n G Y) {t a : Addr} (ht : TapeAt H1 t a) (hD : H1 D = none) (hn : n ≤ 1000) (I : Nat → List Int → Prop) (h0 : I 0 []) (hl : ∀ i zs, I i zs → zs.length ≤ i) (hG : ∀ H, Smt t H1 H → G H)
    (hs : ∀ i x H H' zs (kn : Hp → Prop) (ky : V → Hp → Prop), i < n → Smt t H1 H → TapeAt H t a → I i zs → Y i H x H' → (∀ H3, Smt t H H3 → TapeAt H3 t a → I (i + 1) zs → kn H3) →
      (∀ z H4, Smt t H H4 → TapeAt H4 t a → I (i + 1) (zs ++ [z]) → ky (.int z) H4) →
      g x (wipe σ vs) H' fun σ2 H2 => wipe σ2 vs = wipe σ vs ∧ tt σ2 H2 fun b H3 => if b = true then te σ2 H3 ky else kn H3)
    (hd : ∀ zs H, Smt t H1 H → TapeAt H t a → H D = some (.lst (vi zs)) → I n zs → Qd H) :
    ∃ W : Nat → Nat → Hp → Prop, (∃ m, W 0 m (upd H1 D (.lst []))) ∧ ∀ i m H, W i m H →
      (J.stop i H ∧ Qd H) ∨ (J.go i H ∧ ∃ Nx : Hp → Prop, (∀ H', Nx H' → ∃ m', m' < m ∧ W (i + 1) m' H') ∧ ∀ x H', J.yld i H x H' → g x (wipe σ vs) H' fun σ2 H2 => wipe σ2 vs = wipe σ vs ∧ tt σ2 H2 fun b H3 =>
        if b = true then te σ2 H3 fun y H4 => ∃ acc, H4 D = some (.lst acc) ∧ acc.length < sizeLine ∧ Nx (upd H4 D (.lst (acc ++ [y]))) else Nx H3) := by
  have hDt : t ≠ D := ht.ne_none hD
  have hDa : a ≠ D := ht.ne_none2 hD
  refine lc_gen w (fun i acc H => i ≤ n ∧ Smt t H1 H ∧ TapeAt H t a ∧ ∃ zs, acc = vi zs ∧ I i zs) ⟨Nat.zero_le _, Smt.of (Same.new hD), ht.upd hD, [], rfl, h0⟩ (fun i acc H s _ => hG H s.2.1) (fun i acc H s => ?_) (fun i x H H' acc kn ky hi s hacc y h1 h2 => ?_) (fun acc H s e => ?_)
  · obtain ⟨hle, _, _, zs, rfl, hI⟩ := s
    rw [vi_len]
    exact Nat.lt_of_le_of_lt (Nat.le_trans (hl _ _ hI) (Nat.le_trans hle hn)) (small1000 (Nat.le_refl _))
  · obtain ⟨_, sm, hT, zs, rfl, hI⟩ := s
    refine hs i x H H' zs kn ky hi sm hT hI y (fun H3 s3 t3 e => h1 H3 (s3 _ _ hacc hDt.symm) ⟨hi, sm.trans s3, t3, zs, rfl, e⟩) (fun z H4 s4 t4 e => h2 (.int z) H4 (s4 _ _ hacc hDt.symm) ⟨hi, (sm.trans s4).new hD, t4.but Smt.upd hDt hDa, zs ++ [z], (vi_snoc zs z).symm, e⟩)
  · obtain ⟨_, sm, hT, zs, rfl, hI⟩ := s
    exact hd zs H sm hT e hI
end
end LF
/-! ### la_tup: sum and sorted of tuples of ints -/
namespace LF
open PySem PySem.Spec PyProof.Rows L2
section
variable {prog : Program} {w : World} {A : Around} {E : Value → Shared → Prop} {s : Shared}
theorem sum_tup {l : Addr} {its : List Value} {ns : List Int} {Q : Value → Shared → Prop} (hh : A.handled = none) (hl : s.heap.IsTuple l its.toArray) (hi : IntsAre its ns)
    (h : ∀ h' tk t', (∀ b o, s.heap.get? b = some o → h'.get? b = some o) → Q (.int ns.sum t') { s with heap := h', toks := tk }) : wpAny (model prog w) A (call (.builtin "sum") [.ref l]) Q E s := by
  obtain ⟨xs, e⟩ := hi.allInts.items
  have hn : numsOf (intItems xs).toList = ns := by rw [← e]; exact hi.numsOf
  rw [nums_intItems] at hn
  rw [e] at hl
  obtain ⟨o, ho, hc, n, hd⟩ := id hl
  have hlt : l < s.heap.objs.size := Heap.lt_size ho
  refine call_sum_walkG (wpAny_pyIter_tuple hl ⟨s.heap.objs.size, [s.heap.objs.size, l], [s.heap.objs.size], (intItems xs).size, _, _, numAt xs, rfl, Walks.tuple (A := A.in1) hh _ l (Nat.ne_of_lt hlt) (intItems xs), ?_, ?_, (fun _ _ => intItems_at), fun h' tk t' hk => ?_⟩)
  · exact ⟨⟨_, Heap.get?_push_size _ rfl, rfl, rfl⟩, o, Heap.get?_push_of_some _ ho, hc, n, hd⟩
  · intro b hb
    show b < (s.heap.push _).objs.size
    rw [Heap.size_push]
    have e' : b = s.heap.objs.size ∨ b = l := by simpa using hb
    rcases e' with z | z
    · rw [z]; exact Nat.lt_succ_self _
    · rw [z]; exact Nat.lt_succ_of_lt hlt
  · have q := h h' tk t' fun b o e => hk b o (fun m => Nat.ne_of_lt (Heap.lt_size e) (by simpa using m)) (Heap.get?_push_of_some _ e)
    rw [preSum_eq, List.take_of_length_le (by simp [intItems]), hn]
    exact q
theorem collect_tup {l : Addr} {vs : List Value} {Q : List Value → Shared → Prop} (hl : s.heap.IsTuple l vs.toArray)
    (h : Q vs { s with heap := (s.heap.push (seqObj "list" #[] 0)).update s.heap.objs.size (Obj.mapSeq (· ++ vs.toArray)) }) (hsz : vs.length ≤ sizeLine) :
    wpAny (model prog w) A (collect (.ref l)) Q E s := by
  obtain ⟨o, ho, hc, n, hd⟩ := hl
  have ho' : (s.heap.push (seqObj "list" #[] 0)).get? l = some o := Heap.get?_push_of_some _ ho
  have hN : (s.heap.push (seqObj "list" #[] 0)).get? s.heap.objs.size = some (seqObj "list" #[] 0) := Heap.get?_push_size _ rfl
  unfold collect
  refine wpAny_bind (wpAny_runValue (codeAny_builtin entry_proto_collect' ?_))
  show wpAny _ _ (do again (.builtin "list.__iadd__" ⟨[← newList [], .ref l], []⟩)) _ _ s
  refine wpAny_bind (wpAny_newList (wpAny_pure ⟨Code.quiet_builtin _ (by decide +kernel), codeAny_builtin entry_list_iadd' ?_⟩))
  show wpAny _ _ (Builtin.List.listExtendWith (.ref s.heap.objs.size) (.ref l) (.ref s.heap.objs.size)) _ _ { s with heap := s.heap.push (seqObj "list" #[] 0) }
  unfold Builtin.List.listExtendWith
  refine wpAny_bind (wpAny_typeOf (T := "tuple") ⟨o, ho', hc⟩ ?_)
  have ht : (Value.type "tuple" == Value.type "tuple") = true := by rfl
  rw [if_pos (by rw [ht, Bool.or_true])]
  refine wpAny_bind (listItems_at ho' hd (wpAny_bind (listItems_at (xs := #[]) (n := 0) hN rfl ?_)))
  rw [if_neg (by simp)]
  refine wpAny_bind (listUpdate_at (xs := #[]) (n := 0) hN rfl (wpAny_pure ?_) (Nat.zero_le _) (by show (#[] ++ vs.toArray).size ≤ sizeLine + 1; simp only [Array.size_append, List.size_toArray, List.length_nil]; omega))
  show wpAny (model prog w) A (do
      let o ← load s.heap.objs.size
      match o.data with
      | .seq xs _ => pure xs.toList
      | _ => unsupported "internal:collect") Q E { s with heap := (s.heap.push (seqObj "list" #[] 0)).update s.heap.objs.size (Obj.mapSeq (· ++ vs.toArray)) }
  refine wpAny_bind (wpAny_load (get?_update_seq hN _) ?_)
  show wpAny _ _ (pure ((#[] : Array Value) ++ vs.toArray).toList) Q E _
  have e0 : ((#[] : Array Value) ++ vs.toArray).toList = vs := by simp
  rw [e0]
  exact wpAny_pure h
theorem sorted_tup {l : Addr} {vs : List Value} {ltv : Value → Value → Bool} {Q : Value → Shared → Prop} (O : SrtO.Swo ltv) (hl : s.heap.IsTuple l vs.toArray) (hz : vs.length ≤ sizeLine)
    (hS : 2 ≤ vs.length → ∀ (h₁ : Heap) (a : Addr), h₁.get? a = some (seqObj "list" vs.toArray 0) → (∀ b o, s.heap.get? b = some o → b ≠ a ∧ h₁.get? b = some o) → SrtO.SortableO prog w A.in1.in1 { s with heap := h₁ } a vs ltv)
    (h : ∀ out : List Value, SrtO.Srtd ltv out → SrtO.Stb ltv out vs → Q (.ref (s.heap.objs.size + 1)) { s with heap := PyProof.Rows.sortedAll s.heap vs out.toArray }) :
    wpAny (model prog w) A (call (.builtin "sorted") [.ref l]) Q E s := by
  refine Calls.call_function_entry kind_sorted plain_sorted entry_sorted (args_sorted1 _) ?_
  unfold Builtin.«sorted»
  refine wpAny_bind (m := checkCount "sorted" 1 1 _) (wpAny_pure (wpAny_bind (collect_tup hl (wpAny_bind (wpAny_newList ?_ hz)) hz)))
  have hsz : ((s.heap.push (seqObj "list" #[] 0)).update s.heap.objs.size (Obj.mapSeq (· ++ vs.toArray))).objs.size = s.heap.objs.size + 1 := by
    rw [Heap.size_update, Heap.size_push]
  have hoL : (((s.heap.push (seqObj "list" #[] 0)).update s.heap.objs.size (Obj.mapSeq (· ++ vs.toArray))).push (seqObj "list" vs.toArray 0)).get? (s.heap.objs.size + 1) = some (seqObj "list" vs.toArray 0) := by
    rw [← hsz]; exact Heap.get?_push_size _ rfl
  have keep : ∀ b o, s.heap.get? b = some o → b ≠ s.heap.objs.size + 1 ∧ (((s.heap.push (seqObj "list" #[] 0)).update s.heap.objs.size (Obj.mapSeq (· ++ vs.toArray))).push (seqObj "list" vs.toArray 0)).get? b = some o := fun b o q => by
    have hlt : b < s.heap.objs.size := Heap.lt_size q
    exact ⟨Nat.ne_of_lt (Nat.lt_succ_of_lt hlt), Heap.get?_push_of_some _ (by rw [Heap.get?_update_ne _ _ _ _ (Nat.ne_of_lt hlt)]; exact Heap.get?_push_of_some _ q)⟩
  show wpAny _ _ _ _ _ { s with heap := ((s.heap.push (seqObj "list" #[] 0)).update s.heap.objs.size (Obj.mapSeq (· ++ vs.toArray))).push (seqObj "list" vs.toArray 0) }
  rw [hsz]
  exact wpAny_bind (wpAny_holding (wpAny_call_entry slot_list_sort ⟨_, hoL, rfl⟩ entry_list_sort (SrtO.list_sort_ord O hoL hz (fun h2 => hS h2 _ _ hoL keep) fun out hs hb => ⟨_, rfl, wpAny_pure ⟨_, rfl, h out hs hb⟩⟩) (args_list_sort _)))
end
section
variable {X : Cx}
def rSumB (K : PySem.W.Frag) (tp : Bool) : List V → Hp → VK → Prop := fun vs H Q => ∃ (a : Addr) (ns : List Int), vs = [V.ref a] ∧ SqB K tp H a (vi ns) ∧ Q (.int ns.sum) H
theorem cr_sumT (hc : X.calm = true) : CallR X (.builtin "sum") (rSumB X.K true) := by
  intro pins s σ H vs us Q I r h
  obtain ⟨a, ns, rfl, hs, q⟩ := h
  obtain ⟨its, rv, hl, _⟩ := I.tuple hs
  rw [Vals.ref1 r]
  exact sum_tup (I.ok.hd hc) hl rv.ints fun h' tk t' hk => ⟨.int _, H, I.kept hk, ⟨_, rfl⟩, q⟩
def rSortedB (K : PySem.W.Frag) (tp : Bool) : List V → Hp → VK → Prop := fun vs H Q => ∃ (a : Addr) (ns : List Int), vs = [V.ref a] ∧ SqB K tp H a (vi ns) ∧ ∀ (ns' : List Int) (p : Addr), ns'.Perm ns → ns'.Pairwise (· ≤ ·) → H p = none → Q (.ref p) (upd H p (.lst (vi ns')))
theorem cr_sortedT : CallR X (.builtin "sorted") (rSortedB X.K true) := by
  intro pins s σ H vs us Q I r h
  obtain ⟨a, ns, rfl, hs, q⟩ := h
  obtain ⟨its, rv, hl, hz⟩ := I.tuple hs
  rw [Vals.ref1 r]
  have hi := rv.ints
  refine sorted_tup SrtO.swo_int hl (by rw [← rv.length]; exact hz) (fun h2 h₁ a' _ _ => SrtO.ints_sortable hi h2) fun out h1 h2 => ?_
  obtain ⟨k1, k2, k3⟩ := SrtO.ints_out hi h1 h2
  obtain ⟨ep, he'⟩ := PyProof.Rows.sortedAll_at s.heap its out.toArray
  have hlen : (vi (out.map SrtO.iv)).length ≤ sizeLine := by
    rw [vi_len, k2.length_eq]
    rw [vi_len] at hz
    exact hz
  exact ⟨.ref _, upd H (s.heap.objs.size + 1) (.lst (vi (out.map SrtO.iv))), I.laid (t' := s.toks) (fun _ _ => PyProof.Rows.sortedAll_old) (Nat.le_succ _) ⟨hlen, out, ep, vals_of_ints k1, he'⟩, rfl, q _ _ k2 k3 (I.hok.fresh (Nat.le_succ _))⟩
end
end LF
/-! ### la_k: the rules over the written part as a letter -/
namespace LF
open PySem PySem.Spec PyProof.Rows L2
def rTupOf (K : PySem.W.Frag) : List V → Hp → VK → Prop := fun xs H Q => ∃ p ys, xs = [.ref p] ∧ ((SqL K H p ys ∧ ∀ l, H l = none → Q (.ref l) (upd H l (.tup ys))) ∨ (SqT K H p ys ∧ Q (.ref p) H))
def rListOf (K : PySem.W.Frag) : List V → Hp → VK → Prop := fun xs H Q => ∃ p ys, xs = [.ref p] ∧ (SqL K H p ys ∨ SqT K H p ys) ∧ ∀ l, H l = none → Q (.ref l) (upd H l (.lst ys))
def rLenOf (K : PySem.W.Frag) : List V → Hp → VK → Prop := fun xs H Q => ∃ p ys, xs = [.ref p] ∧ (SqL K H p ys ∨ SqT K H p ys) ∧ Q (.int ys.length) H
section
variable {X : Cx}
theorem pe_gint {x : Str} {v : Int} {pos : Pos} (hg : Gl X x) (hm : ∃ tk : Tok, X.mg x = some (.int v tk)) (hd : (x == ("__debug__" : Str)) = false := by decide) : PE X (.Name x pos) (tC (.int v)) := by
  obtain ⟨tk, h⟩ := hm
  exact pe_glob hg h ⟨_, rfl⟩ hd
theorem lenK (K : PySem.W.Frag) (h : X.K = K := by rfl) : CallR X (.builtin "len") (rLenOf K) := by subst h; exact call_len_seq
theorem sumK (K : PySem.W.Frag) (h : X.K = K := by rfl) (hc : X.calm = true := by rfl) : CallR X (.builtin "sum") (rSum K) := by subst h; exact cr_sum hc
theorem sumTK (K : PySem.W.Frag) (h : X.K = K := by rfl) (hc : X.calm = true := by rfl) : CallR X (.builtin "sum") (rSumB K true) := by subst h; exact cr_sumT hc
theorem allK (K : PySem.W.Frag) (h : X.K = K := by rfl) (hc : X.calm = true := by rfl) : CallR X (.builtin "all") (rAll K) := by subst h; exact cr_all hc
theorem anyK (K : PySem.W.Frag) (h : X.K = K := by rfl) (hc : X.calm = true := by rfl) : CallR X (.builtin "any") (rAny K) := by subst h; exact cr_any hc
theorem maxK (K : PySem.W.Frag) (h : X.K = K := by rfl) (hc : X.calm = true := by rfl) : CallR X (.builtin "max") (rMax K) := by subst h; exact cr_max hc
theorem minK (K : PySem.W.Frag) (h : X.K = K := by rfl) (hc : X.calm = true := by rfl) : CallR X (.builtin "min") (rMin K) := by subst h; exact cr_min hc
theorem sortedK (K : PySem.W.Frag) (h : X.K = K := by rfl) : CallR X (.builtin "sorted") (rSortedI K) := by subst h; exact cr_sortedI
theorem sortedTK (K : PySem.W.Frag) (h : X.K = K := by rfl) : CallR X (.builtin "sorted") (rSortedB K true) := by subst h; exact cr_sortedT
theorem sortedPK (K : PySem.W.Frag) (h : X.K = K := by rfl) : CallR X (.builtin "sorted") (rSortedPO K) := by subst h; exact cr_sortedPO
theorem tupleK (K : PySem.W.Frag) (h : X.K = K := by rfl) : CallR X (.type "tuple") (rTupOf K) := by subst h; exact call_tuple_of
theorem listK (K : PySem.W.Frag) (h : X.K = K := by rfl) : CallR X (.type "list") (rListOf K) := by subst h; exact call_list_of
theorem isiK (K : PySem.W.Frag) (h : X.K = K := by rfl) : CallR X (.builtin "isinstance") (rIsi K) := by subst h; exact call_isi
theorem isiTK (K : PySem.W.Frag) (h : X.K = K := by rfl) : CallR X (.builtin "isinstance") (rIsiT K) := by subst h; exact call_isiT
theorem ixL (K : PySem.W.Frag) (h : X.K = K := by rfl) : IxR X (rIxL K) := by subst h; exact ix_list
theorem ixT (K : PySem.W.Frag) (h : X.K = K := by rfl) : IxR X (rIxT K) := by subst h; exact ix_tup
theorem ixA (K : PySem.W.Frag) (h : X.K = K := by rfl) : IxR X (rIx K) := by subst h; exact ix_seq
theorem slL (K : PySem.W.Frag) (h : X.K = K := by rfl) : SlR X (rSlL K) := by subst h; exact sl_list
theorem slT (K : PySem.W.Frag) (h : X.K = K := by rfl) : SlR X (rSlA K) := by subst h; exact sl_tupA
theorem catK (K : PySem.W.Frag) (h : X.K = K := by rfl) : OpR X (binaryOp .Add) (rCatA K) := by subst h; exact op_catA
theorem inK (K : PySem.W.Frag) (h : X.K = K := by rfl) : OpR X (compareOp .In) (rIn K false) := by subst h; exact op_in_seq
theorem notinK (K : PySem.W.Frag) (h : X.K = K := by rfl) : OpR X (compareOp .NotIn) (rIn K true) := by subst h; exact op_notIn_seq
theorem eqDK (K : PySem.W.Frag) (hu : X.A.units + 64 < cLine) (h : X.K = K := by rfl) : OpR X (compareOp .Eq) (rEqD K) := by subst h; exact op_eqD hu
theorem neDK (K : PySem.W.Frag) (hu : X.A.units + 64 < cLine) (h : X.K = K := by rfl) : OpR X (compareOp .NotEq) (rNeD K) := by subst h; exact op_neD hu
theorem pgT (K : PySem.W.Frag) (n : Nat) {es : List Expr} {k : Nat} {pos : Pos} {t : TGs} (hc : X.calm = true) (hg : PGs X es t) (h : X.K = K := by rfl) (hn : (assignEach es X.env).length = n := by rfl) (hst : (assignEach es X.env).findIdx? (·.1) = none := by rfl) : PG X (.Tuple es k pos) (gTup K n t) := by subst h; exact pg_tup hc hg hn hst
theorem piL (K : PySem.W.Frag) {tg l : Expr} {tl : TE} (hl : PE X l tl) (h : X.K = K := by rfl) : PI X tg l (iList K tl) := by subst h; exact pi_list hl
theorem piT (K : PySem.W.Frag) {tg l : Expr} {tl : TE} (hl : PE X l tl) (h : X.K = K := by rfl) : PI X tg l (iTup K tl) := by subst h; exact pi_tup hl
theorem enumK (K : PySem.W.Frag) (tp : Bool) {e : Expr} {ta : TA} {p pos tpos : Pos} {elts : List Expr} {kk : Nat} (hg : Gl X "enumerate") (hm : X.mg "enumerate" = none) (ha : PA X [e] ta) (h : X.K = K := by rfl) (hs : starEach [e] X.env = [(false, eval e X.env)] := by rfl) :
    PI X (.Tuple elts kk tpos) (.Call (.Name "enumerate" p) [e] [] pos) (iEnumB K tp ta) := by subst h; exact pi_enumB tp hg hm ha hs
theorem zipK (K : PySem.W.Frag) (ka kb : Bool) {e e2 : Expr} {ta : TA} {p pos tpos : Pos} {elts : List Expr} {kk : Nat} (hg : Gl X "zip") (hm : X.mg "zip" = none) (ha : PA X [e, e2] ta) (h : X.K = K := by rfl)
    (hs : starEach [e, e2] X.env = (false, eval e X.env) :: starEach [e2] X.env := by rfl) (hpl : (backTo pos (starEach [e2] X.env)).any (·.1) = false := by rfl) :
    PI X (.Tuple elts kk tpos) (.Call (.Name "zip" p) [e, e2] [] pos) (iZipB K ka kb ta) := by subst h; exact pi_zipB ka kb hg hm ha hs hpl
theorem pe_revK (K : PySem.W.Frag) {e : Expr} {te : TE} {k : Nat} {p1 p2 p3 pos : Pos} (he : PE X e te) (h : X.K = K := by rfl) : PE X (.Subscript e (.Slice none none (some (.UnaryOp .USub (.Constant (.int 1) k p1) p2)) p3) pos) (tRevL K te) := by subst h; exact pe_revL he
end
end LF
namespace LF
open PySem PySem.Spec PyProof.Rows L2
def ItB (K : PySem.W.Frag) : Bool → Addr → It
  | false => Itl K
  | true => Itt K
/-- a for over a list or a tuple -/
def iSeq (K : PySem.W.Frag) (tp : Bool) (tl : TE) : TI := fun σ H R => tl σ H fun x H1 => ∃ a, x = .ref a ∧ (∃ xs, SqB K tp H1 a xs) ∧ R (ItB K tp a) H1
theorem piB {X : Cx} (K : PySem.W.Frag) (tp : Bool) {tg l : Expr} {tl : TE} (hl : PE X l tl) (h : X.K = K := by rfl) : PI X tg l (iSeq K tp tl) := by
  subst h
  cases tp with
  | false => exact pi_list hl
  | true => exact pi_tup hl
theorem walk_B {K : PySem.W.Frag} {tp : Bool} {a : Addr} {xs : List V} : Walk (ItB K tp a) xs.length (fun H => SqB K tp H a xs) (YAt xs) := by
  cases tp with
  | false => exact walk_list
  | true => exact walk_tup
/-- a tracked tuple of ints -/
def VT (H : Hp) (v : V) (c : List Int) : Prop := ∃ t, v = V.ref t ∧ H t = some (.tup (vi c))
theorem VT.keep {H H' : Hp} {D : Addr} {acc : List V} {v : V} {c : List Int} (h : H D = some (.lst acc)) (s : Smt D H H') (r : VT H v c) : VT H' v c := by
  obtain ⟨t, e, ht⟩ := r
  refine ⟨t, e, s t _ ht fun z => ?_⟩
  rw [z, h] at ht
  cases ht
theorem VT.same {H H' : Hp} {v : V} {c : List Int} (s : Same H H') (r : VT H v c) : VT H' v c := by
  obtain ⟨t, e, ht⟩ := r
  exact ⟨t, e, s t _ ht⟩
end LF
/-! ### la_math: the two sums, in plain Lean -/
namespace LF
theorem fm_get {α β : Type} (g : α → Option β) : ∀ (l : List α), (List.range l.length).filterMap (fun i => l[i]?.bind g) = l.filterMap g
  | [] => rfl
  | x :: r => by
    have ih := fm_get g r
    rw [List.length_cons, List.range_succ_eq_map, List.filterMap_cons, List.filterMap_map]
    have e : (List.range r.length).filterMap ((fun i => (x :: r)[i]?.bind g) ∘ Nat.succ) = r.filterMap g := by
      rw [← ih]
      rfl
    rw [e]
    rw [List.filterMap_cons]
    show (match g x with | none => r.filterMap g | some b => b :: r.filterMap g) = _
    cases g x <;> rfl
theorem fm_map {α β : Type} (f : α → β) (l : List α) : l.filterMap (fun x => some (f x)) = l.map f := by
  induction l with
  | nil => rfl
  | cons x r ih => rw [List.filterMap_cons, List.map_cons, ih]
theorem fm_idx {α β : Type} : ∀ (l : List α) (g : Nat → α → β), (List.range l.length).filterMap (fun i => l[i]?.bind fun x => some (g i x)) = l.mapIdx g
  | [], _ => rfl
  | x :: r, g => by
    have ih := fm_idx r fun i => g (i + 1)
    rw [List.length_cons, List.range_succ_eq_map, List.filterMap_cons, List.filterMap_map, List.mapIdx_cons, ← ih]
    rfl
/-- items by place -/
theorem fm_at {α β : Type} (f : α → β) (l : List α) : (List.range l.length).filterMap (fun i => l[i]?.bind fun x => some (f x)) = l.map f := by rw [fm_get, fm_map]
theorem fm_range {β : Type} (f : Nat → β) (n : Nat) : (List.range n).filterMap (fun i => some (f i)) = (List.range n).map f := fm_map f _
def srt (ds : List Int) : List Int := ds.mergeSort (fun a b => decide (a ≤ b))
theorem srt_perm (ds : List Int) : (srt ds).Perm ds := List.mergeSort_perm ds _
theorem srt_up (ds : List Int) : (srt ds).Pairwise (· ≤ ·) := by
  have h := List.pairwise_mergeSort (le := fun a b : Int => decide (a ≤ b)) (fun a b c h1 h2 => by simp only [decide_eq_true_eq] at *; omega) (fun a b => by simp only [Bool.or_eq_true, decide_eq_true_eq]; omega) ds
  exact h.imp fun h => of_decide_eq_true h
theorem srt_is {ns ds : List Int} (h : ns.Perm ds) (u : ns.Pairwise (· ≤ ·)) : ns = srt ds :=
  List.Perm.eq_of_pairwise (fun _ _ _ _ h1 h2 => Int.le_antisymm h1 h2) u (srt_up ds) (h.trans (srt_perm ds).symm)
theorem srt_len (ds : List Int) : (srt ds).length = ds.length := (srt_perm ds).length_eq
theorem srt_of_perm {a b : List Int} (h : a.Perm b) : srt a = srt b := srt_is ((srt_perm a).trans h) (srt_up a)
/-- what candles have for k ticks -/
def cnt (cs : List Int) (k : Int) : Int := (cs.map fun w => if k < w then k else w).sum
/-- what draughts want for k ticks -/
def wnt (ds : List Int) (k : Nat) : Int := (((srt ds).drop (ds.length - k)).map fun d => d + 1).sum
def spr (cs ds : List Int) : List Int := (List.range ds.length).map fun (i : Nat) => cnt cs ((i : Int) + 1) - wnt ds (i + 1)
def can (cs ds : List Int) : Bool := (spr cs ds).all fun s => decide (0 ≤ s)
def fails (cs ds : List Int) : List Int := (List.range (spr cs ds).length).filterMap fun (i : Nat) => (spr cs ds)[i]?.bind fun s => if s < 0 then some ((i : Int) + 1) else none
theorem spr_len (cs ds : List Int) : (spr cs ds).length = ds.length := by
  unfold spr
  rw [List.length_map, List.length_range]
theorem cnt_eq (cs : List Int) (k : Int) : (cs.map fun w => if w < k then w else k).sum = cnt cs k := by
  unfold cnt
  congr 1
  refine List.map_congr_left fun w _ => ?_
  by_cases h : w < k
  · rw [if_pos h, if_neg (by omega)]
  · by_cases h2 : k < w
    · rw [if_neg h, if_pos h2]
    · rw [if_neg h, if_neg h2]
      omega
theorem sum_succ (l : List Int) : (l.map fun d => d + 1).sum = l.sum + l.length := by
  induction l with
  | nil => rfl
  | cons x r ih =>
    rw [List.map_cons, List.sum_cons, List.sum_cons, ih, List.length_cons]
    omega
theorem sum_rev (l : List Int) : l.reverse.sum = l.sum := by
  induction l with
  | nil => rfl
  | cons x r ih =>
    rw [List.reverse_cons, List.sum_append, ih, List.sum_cons]
    show r.sum + (x + 0) = x + r.sum
    omega
/-- the law's way: the strongest first -/
theorem wnt_eq (ds : List Int) (k : Nat) (h : k ≤ ds.length) : wnt ds k = ((srt ds).reverse.take k).sum + k := by
  unfold wnt
  rw [sum_succ, List.take_reverse, sum_rev, srt_len, List.length_drop, srt_len]
  have e : ds.length - (ds.length - k) = k := by omega
  rw [e]
theorem can_iff (cs ds : List Int) : can cs ds = true ↔ ∀ k, 1 ≤ k → k ≤ ds.length → wnt ds k ≤ cnt cs k := by
  unfold can spr
  rw [List.all_eq_true]
  constructor
  · intro h k h1 h2
    have q := h (cnt cs (((k - 1 : Nat) : Int) + 1) - wnt ds (k - 1 + 1)) (List.mem_map.mpr ⟨k - 1, List.mem_range.mpr (by omega), rfl⟩)
    have q := of_decide_eq_true q
    have e1 : k - 1 + 1 = k := by omega
    have e2 : ((k - 1 : Nat) : Int) + 1 = (k : Int) := by omega
    rw [e1, e2] at q
    omega
  · intro h s hs
    obtain ⟨i, hi, rfl⟩ := List.mem_map.mp hs
    have q := h (i + 1) (by omega) (by have := List.mem_range.mp hi; omega)
    have e2 : ((i + 1 : Nat) : Int) = (i : Int) + 1 := by omega
    rw [e2] at q
    exact decide_eq_true (by omega)
/-- the law's own word for it -/
theorem can_min {cs ds : List Int} {m : Int} (h1 : m ∈ 0 :: spr cs ds) (h2 : ∀ y, y ∈ 0 :: spr cs ds → m ≤ y) : decide (m = 0) = can cs ds := by
  unfold can
  have h0 := h2 0 List.mem_cons_self
  by_cases e : m = 0
  · rw [decide_eq_true e]
    refine (List.all_eq_true.mpr fun y hy => ?_).symm
    have := h2 y (List.mem_cons_of_mem _ hy)
    exact decide_eq_true (by omega)
  · rw [decide_eq_false e]
    rcases List.mem_cons.mp h1 with z | z
    · exact absurd z e
    · cases q : (spr cs ds).all fun s => decide (0 ≤ s) with
      | false => rfl
      | true =>
        have := of_decide_eq_true (List.all_eq_true.mp q m z)
        omega
end LF
/-! ### la_data: data as the library's == sees them -/
namespace LF
open PySem PySem.Spec PyProof.Rows L2
/-- data that == may be asked of, at most n deep -/
def Okd (n : Nat) (d : PyData) : Prop := d.canLay0 = true ∧ d.depth ≤ n
theorem Okd.mono {n m : Nat} {d : PyData} (h : Okd n d) (l : n ≤ m) : Okd m d := ⟨h.1, Nat.le_trans h.2 l⟩
theorem okd_int (n : Nat) (i : Int) : Okd n (.int i) := ⟨by simp only [PyData.canLay0], by simp only [PyData.depth]; exact Nat.zero_le _⟩
theorem okd_bool (n : Nat) (b : Bool) : Okd n (.bool b) := ⟨by simp only [PyData.canLay0], by simp only [PyData.depth]; exact Nat.zero_le _⟩
theorem okd_none (n : Nat) : Okd n .none := ⟨by simp only [PyData.canLay0], by simp only [PyData.depth]; exact Nat.zero_le _⟩
theorem okd_all {n : Nat} : ∀ {ds : List PyData}, (∀ d ∈ ds, Okd n d) → PyData.canLayAll0 ds = true ∧ PyData.depthAll ds ≤ n
  | [], _ => ⟨by simp only [PyData.canLayAll0], by simp only [PyData.depthAll]; exact Nat.zero_le _⟩
  | d :: r, h => by
    have h1 := h d List.mem_cons_self
    have h2 := okd_all fun x hx => h x (List.mem_cons_of_mem _ hx)
    simp only [PyData.canLayAll0, PyData.depthAll]
    exact ⟨by rw [h1.1, h2.1]; rfl, Nat.max_le.mpr ⟨h1.2, h2.2⟩⟩
theorem okd_list {n : Nat} {ds : List PyData} (h : ∀ d ∈ ds, Okd n d) : Okd (n + 1) (.list ds) := by
  have q := okd_all h
  exact ⟨by simp only [PyData.canLay0]; exact q.1, by simp only [PyData.depth]; exact Nat.succ_le_succ q.2⟩
theorem okd_tup {n : Nat} {ds : List PyData} (h : ∀ d ∈ ds, Okd n d) : Okd (n + 1) (.tuple ds) := by
  have q := okd_all h
  exact ⟨by simp only [PyData.canLay0]; exact q.1, by simp only [PyData.depth]; exact Nat.succ_le_succ q.2⟩
theorem Okd.shaped {n : Nat} {d : PyData} (h : Okd n d) (l : n ≤ 64) : SeqAt.shaped d = true := by
  unfold SeqAt.shaped
  rw [h.1, decide_eq_true (Nat.le_trans h.2 l)]
  rfl
abbrev di (ns : List Int) : List PyData := ns.map PyData.int
theorem okd_ints (n : Nat) (ns : List Int) : ∀ d ∈ di ns, Okd n d := fun d hd => by
  obtain ⟨i, _, rfl⟩ := List.mem_map.mp hd
  exact okd_int n i
theorem shaped_ints (ns : List Int) : SeqAt.shaped (.list (di ns)) = true := (okd_list (okd_ints 0 ns)).shaped (by decide)
theorem shaped_tints (ns : List Int) : SeqAt.shaped (.tuple (di ns)) = true := (okd_tup (okd_ints 0 ns)).shaped (by decide)
theorem dp_ints {K : PySem.W.Frag} {H : Hp} : ∀ ns : List Int, DpAll K H (vi ns) (di ns)
  | [] => .nil
  | n :: r => .cons (.int n) (dp_ints r)
theorem dp_list {K : PySem.W.Frag} {H : Hp} {p : Addr} {ns : List Int} (h : SqL K H p (vi ns)) : Dp K H (.ref p) (.list (di ns)) := .lst h (dp_ints ns)
theorem dp_tup {K : PySem.W.Frag} {H : Hp} {p : Addr} {ns : List Int} (h : SqT K H p (vi ns)) : Dp K H (.ref p) (.tuple (di ns)) := .tup h (dp_ints ns)
theorem eqvAll_ints : ∀ ns ms : List Int, PyData.eqvAll (di ns) (di ms) = decide (ns = ms)
  | [], [] => by simp only [List.map_nil, PyData.eqvAll]; rfl
  | [], _ :: _ => by simp [PyData.eqvAll]
  | _ :: _, [] => by simp [PyData.eqvAll]
  | n :: r, m :: r' => by
    have ih := eqvAll_ints r r'
    show PyData.eqvAll (PyData.int n :: di r) (PyData.int m :: di r') = _
    rw [PyData.eqvAll, ih, PyData.eqv]
    by_cases h : n = m
    · by_cases h2 : r = r'
      · simp [h, h2]
      · simp [h, h2]
    · simp [h]
theorem eqv_lists (ns ms : List Int) : PyData.eqv (.list (di ns)) (.list (di ms)) = decide (ns = ms) := by
  rw [PyData.eqv]
  exact eqvAll_ints ns ms
theorem eqv_tups (ns ms : List Int) : PyData.eqv (.tuple (di ns)) (.tuple (di ms)) = decide (ns = ms) := by
  rw [PyData.eqv]
  exact eqvAll_ints ns ms
end LF
namespace L2
open PySem
mutual
theorem Dp.same {K : PySem.W.Frag} {H H' : Hp} (e : Same H H') : ∀ {d : PyData} {v : V}, Dp K H v d → Dp K H' v d
  | _, _, .non => .non
  | _, _, .bl b => .bl b
  | _, _, .int i => .int i
  | _, _, .str x => .str x
  | _, _, .lst h a => .lst (e.seq h) (DpAll.same e a)
  | _, _, .tup h a => .tup (e.sqt h) (DpAll.same e a)
theorem DpAll.same {K : PySem.W.Frag} {H H' : Hp} (e : Same H H') : ∀ {ds : List PyData} {vs : List V}, DpAll K H vs ds → DpAll K H' vs ds
  | _, _, .nil => .nil
  | _, _, .cons h a => .cons (Dp.same e h) (DpAll.same e a)
end
end L2
namespace LF
open PySem PySem.Spec PyProof.Rows L2
theorem dpall_len {K : PySem.W.Frag} {H : Hp} : ∀ {vs : List V} {ds : List PyData}, DpAll K H vs ds → vs.length = ds.length
  | _, _, .nil => rfl
  | _, _, .cons _ t => congrArg (· + 1) (dpall_len t)
theorem dpall_get {K : PySem.W.Frag} {H : Hp} : ∀ {vs : List V} {ds : List PyData} {i : Nat} {d : PyData}, DpAll K H vs ds → ds[i]? = some d → ∃ v, vs[i]? = some v ∧ Dp K H v d
  | _, _, i, d, .nil, e => by simp at e
  | _, _, 0, d, .cons h _, e => by
    cases Option.some.inj e
    exact ⟨_, rfl, h⟩
  | _, _, i + 1, d, .cons _ t, e => dpall_get (i := i) t e
/-- the class of a datum -/
def dty : PyData → String
  | .none => "NoneType"
  | .bool _ => "bool"
  | .int _ => "int"
  | .str _ => "str"
  | .list _ => "list"
  | .tuple _ => "tuple"
  | .dict _ => "dict"
def isSeq : PyData → Bool
  | .list _ => true
  | .tuple _ => true
  | _ => false
theorem dp_ty {K : PySem.W.Frag} {H : Hp} {v : V} {d : PyData} (h : Dp K H v d) : TyX K H v (.type (dty d)) := by
  cases h with
  | non => exact .base .non
  | bl b => exact .base (.bl b)
  | int i => exact .base (.int i)
  | str x => exact .base (.str x)
  | lst h a =>
    rcases h with (h | ⟨o, h⟩) | ⟨o, its, n, hk, hc, _⟩
    · exact .base (.lst h)
    · exact .base (.frz h)
    · exact .kList hk hc
  | tup h a =>
    rcases h with (h | ⟨o, h⟩) | ⟨o, its, n, hk, hc, _⟩
    · exact .base (.tup h)
    · exact .fTuple h
    · exact .kTuple hk hc
/-- is it of the class T, by names -/
def isN (a T : String) : Bool := decide (a = T) || (decide (a = "bool") && decide (T = "int"))
def dis (T : String) (d : PyData) : Bool := isN (dty d) T
def tyNames : List String := ["NoneType", "bool", "int", "str", "list", "tuple", "dict"]
theorem kit_names : ∀ a ∈ tyNames, ∀ T ∈ ["int", "bool", "list", "tuple", "str"], kitB a T = some (isN a T) := by decide +kernel
theorem dty_mem (d : PyData) : dty d ∈ tyNames := by
  cases d <;> simp [dty, tyNames]
theorem kit_d {K : PySem.W.Frag} (d : PyData) {T : String} (hT : T ∈ ["int", "bool", "list", "tuple", "str"]) : PySem.W.kitOne K (.type (dty d)) (.type T) = some (dis T d) := kit_ty (kit_names _ (dty_mem d) T hT)
theorem seq_names : ∀ a ∈ tyNames, isN a "list" = true ∨ isN a "tuple" = true ↔ (a = "list" ∨ a = "tuple") := by decide +kernel
theorem isSeq_n (d : PyData) : isSeq d = (dis "list" d || dis "tuple" d) := by
  cases d <;> simp [isSeq, dis, isN, dty]
theorem kit_lt {K : PySem.W.Frag} (d : PyData) : PySem.W.kitAny K (.type (dty d)) [.type "list", .type "tuple"] = some (isSeq d) := by
  rw [isSeq_n]
  refine kitAny_cons (kit_d d (by simp)) (fun h => ?_) (fun h => by rw [h]; rfl)
  rw [h, Bool.false_or]
  refine kitAny_cons (kit_d d (by simp)) (fun h2 => by rw [h2]; exact kitAny_nil) (fun h2 => h2)
theorem kit_tl {K : PySem.W.Frag} (d : PyData) : PySem.W.kitAny K (.type (dty d)) [.type "tuple", .type "list"] = some (isSeq d) := by
  rw [isSeq_n, Bool.or_comm]
  refine kitAny_cons (kit_d d (by simp)) (fun h => ?_) (fun h => by rw [h]; rfl)
  rw [h, Bool.false_or]
  refine kitAny_cons (kit_d d (by simp)) (fun h2 => by rw [h2]; exact kitAny_nil) (fun h2 => h2)
/-- data at most n - 1 deep, no list of more than a thousand -/
def Fit : Nat → PyData → Prop
  | 0, _ => False
  | n + 1, .list ds => ds.length ≤ 1000 ∧ ∀ d ∈ ds, Fit n d
  | n + 1, .tuple ds => ds.length ≤ 1000 ∧ ∀ d ∈ ds, Fit n d
  | _ + 1, .dict _ => False
  | _ + 1, _ => True
theorem fit_ints {n : Nat} {ns : List Int} (h : ns.length ≤ 1000) : Fit (n + 2) (.list (di ns)) := ⟨by rw [List.length_map]; exact h, fun d hd => by
  obtain ⟨i, _, rfl⟩ := List.mem_map.mp hd
  exact True.intro⟩
theorem fit_tints {n : Nat} {ns : List Int} (h : ns.length ≤ 1000) : Fit (n + 2) (.tuple (di ns)) := ⟨by rw [List.length_map]; exact h, fun d hd => by
  obtain ⟨i, _, rfl⟩ := List.mem_map.mp hd
  exact True.intro⟩
theorem sqb_or {K : PySem.W.Frag} {H : Hp} {a : Addr} {xs : List V} {tp : Bool} (h : SqB K tp H a xs) : SqL K H a xs ∨ SqT K H a xs := by
  cases tp with
  | false => exact .inl h
  | true => exact .inr h
theorem ix_b {K : PySem.W.Frag} {H : Hp} {a : Addr} {xs : List V} {tp : Bool} {i : Int} {v : V} {Q : VK} (h : SqB K tp H a xs) (e : atI xs i = some v) (q : Q v H) : rIx K (.ref a) (.int i) H Q := by
  cases tp with
  | false => exact .inl ⟨a, xs, i, v, rfl, rfl, h, e, q⟩
  | true => exact .inr (.inl ⟨a, xs, i, v, rfl, rfl, h, e, q⟩)
end LF
namespace LF
open PySem PySem.Spec PyProof.Rows L2
abbrev dts (css : List (List Int)) : List PyData := css.map fun c => PyData.tuple (di c)
theorem dp_vts {K : PySem.W.Frag} {H : Hp} : ∀ {xs : List V} {css : List (List Int)}, Paired (VT H) xs css → DpAll K H xs (dts css)
  | _, _, .nil => .nil
  | _, _, .cons r t => by
    obtain ⟨a, e, ha⟩ := r
    subst e
    exact .cons (dp_tup (SqT.of ha)) (dp_vts t)
theorem fit_dts {n : Nat} {css : List (List Int)} (h : css.length ≤ 1000) (h2 : ∀ c ∈ css, c.length ≤ 1000) : Fit (n + 3) (.list (dts css)) := ⟨by rw [List.length_map]; exact h, fun d hd => by
  obtain ⟨c, hc, rfl⟩ := List.mem_map.mp hd
  exact fit_tints (h2 c hc)⟩
theorem shaped_dts (css : List (List Int)) : SeqAt.shaped (.list (dts css)) = true := (okd_list (n := 1) fun d hd => by
  obtain ⟨c, _, rfl⟩ := List.mem_map.mp hd
  exact okd_tup (okd_ints 0 c)).shaped (by decide)
theorem eqv_nil (ds : List PyData) : PyData.eqv (.list ds) (.list (di [])) = ds.isEmpty := by
  rw [PyData.eqv]
  cases ds with
  | nil => simp only [List.map_nil, PyData.eqvAll]; rfl
  | cons x r => simp only [List.map_nil, PyData.eqvAll]; rfl
theorem inV_ints (z : Int) (ns : List Int) : inV (.int z) (vi ns) = decide (z ∈ ns) := by
  induction ns with
  | nil => rfl
  | cons n r ih =>
    show (eqV (.int n) (.int z) || inV (.int z) (vi r)) = _
    rw [ih]
    show ((n == z) || decide (z ∈ r)) = decide (z ∈ n :: r)
    by_cases h : n = z
    · simp [h]
    · have h2 : ¬ z = n := fun e => h e.symm
      simp [h, h2]
def spSpares (K : PySem.W.Frag) : Sp := fun vs H Q _ => ∃ (a b : Addr) (cs ds : List Int), vs = [.ref a, .ref b] ∧ SqT K H a (vi cs) ∧ SqT K H b (vi ds) ∧ cs.length ≤ 1000 ∧ ds.length ≤ 1000 ∧ ∀ H' p, Same H H' → H p = none → H' p = some (.lst (vi (spr cs ds))) → Q (.ref p) H'
def spCan (K : PySem.W.Frag) : Sp := fun vs H Q _ => ∃ (a b : Addr) (cs ds : List Int), vs = [.ref a, .ref b] ∧ SqT K H a (vi cs) ∧ SqT K H b (vi ds) ∧ cs.length ≤ 1000 ∧ ds.length ≤ 1000 ∧ ∀ H', Same H H' → Q (.bl (can cs ds)) H'
end LF
/-! ### la_keep: whom the keeper lights, in plain Lean -/
namespace LF
/-- pairs in Python's order -/
def leP (p q : Int × Int) : Bool := decide (p.1 < q.1) || (decide (p.1 = q.1) && decide (p.2 ≤ q.2))
theorem leP_iff {p q : Int × Int} : leP p q = true ↔ p.1 < q.1 ∨ (p.1 = q.1 ∧ p.2 ≤ q.2) := by
  unfold leP
  simp only [Bool.or_eq_true, Bool.and_eq_true, decide_eq_true_eq]
def srtP (l : List (Int × Int)) : List (Int × Int) := l.mergeSort leP
theorem srtP_perm (l : List (Int × Int)) : (srtP l).Perm l := List.mergeSort_perm l _
theorem srtP_up (l : List (Int × Int)) : (srtP l).Pairwise (fun p q => leP p q = true) :=
  List.pairwise_mergeSort (le := leP) (fun a b c h1 h2 => by rw [leP_iff] at *; omega) (fun a b => by rw [Bool.or_eq_true, leP_iff, leP_iff]; omega) l
theorem srtP_is {m l : List (Int × Int)} (h : m.Perm l) (u : m.Pairwise (fun p q => leP p q = true)) : m = srtP l :=
  List.Perm.eq_of_pairwise (fun p q _ _ h1 h2 => by
    rw [leP_iff] at h1 h2
    exact Prod.ext (by omega) (by omega)) u (srtP_up l) (h.trans (srtP_perm l).symm)
/-- the candles that have wax: most first, of as much the lesser places -/
def rowsOf (cs : List Int) : List (Int × Int) := (List.range cs.length).filterMap fun (i : Nat) => cs[i]?.bind fun w => if 0 < w then some (-w, (i : Int)) else none
def lightsF (cs : List Int) (d : Int) : Option (List Int) := if ((rowsOf cs).length : Int) ≤ d then none else some (srt (((srtP (rowsOf cs)).take (d + 1).toNat).map Prod.snd))
/-- the candles behind a tick -/
def bit (lit out : List Int) (i : Int) : Int := if i ∈ lit ∧ i ∉ out then 1 else 0
def burntF (cs lit out : List Int) : List Int := cs.mapIdx fun i w => w - bit lit out i
theorem burntF_eq (cs lit out : List Int) : burntF cs lit out = cs.mapIdx fun i w => w - bit lit out i := rfl
theorem burntF_len (cs lit out : List Int) : (burntF cs lit out).length = cs.length := by
  rw [burntF_eq, List.length_mapIdx]
theorem burntF_get {cs lit out : List Int} {i : Nat} {w : Int} (h : cs[i]? = some w) : (burntF cs lit out)[i]? = some (w - bit lit out i) := by
  rw [burntF_eq, List.getElem?_mapIdx, h]
  rfl
theorem rowsOf_mem {cs : List Int} {p : Int × Int} : p ∈ rowsOf cs ↔ ∃ (i : Nat) (w : Int), cs[i]? = some w ∧ 0 < w ∧ p = (-w, (i : Int)) := by
  unfold rowsOf
  rw [List.mem_filterMap]
  constructor
  · rintro ⟨i, hi, e⟩
    cases h : cs[i]? with
    | none =>
      rw [h] at e
      cases e
    | some w =>
      rw [h] at e
      by_cases hw : 0 < w
      · have e : (if 0 < w then some (-w, (i : Int)) else none) = some p := e
        rw [if_pos hw] at e
        exact ⟨i, w, h, hw, (Option.some.inj e).symm⟩
      · have e : (if 0 < w then some (-w, (i : Int)) else none) = some p := e
        rw [if_neg hw] at e
        cases e
  · rintro ⟨i, w, h, hw, rfl⟩
    refine ⟨i, List.mem_range.mpr (List.getElem?_eq_some_iff.mp h).1, ?_⟩
    rw [h]
    exact if_pos hw
theorem rowsOf_nodup (cs : List Int) : ((rowsOf cs).map Prod.snd).Nodup := by
  have e0 : (rowsOf cs).map Prod.snd = (List.range cs.length).filterMap (fun (i : Nat) => (cs[i]?.bind fun w => if 0 < w then some (-w, (i : Int)) else none).map Prod.snd) := by
    unfold rowsOf
    exact List.map_filterMap
  rw [e0]
  have h : (List.range cs.length).Pairwise (fun a b => a < b) := List.pairwise_lt_range
  have h2 : ((List.range cs.length).filterMap (fun (i : Nat) => (cs[i]?.bind fun w => if 0 < w then some (-w, (i : Int)) else none).map Prod.snd)).Pairwise (fun a b : Int => a < b) := by
    refine List.Pairwise.filterMap (R := fun a b : Nat => a < b) _ (fun a a' haa b hb b' hb' => ?_) h
    have key : ∀ (a : Nat) (b : Int), (cs[a]?.bind fun w => if 0 < w then some (-w, (a : Int)) else none).map Prod.snd = some b → b = (a : Int) := fun a b e => by
      cases q : cs[a]? with
      | none =>
        rw [q] at e
        cases e
      | some w =>
        rw [q] at e
        have e : ((if 0 < w then some (-w, (a : Int)) else none)).map Prod.snd = some b := e
        by_cases hw : 0 < w
        · rw [if_pos hw] at e
          exact (Option.some.inj e).symm
        · rw [if_neg hw] at e
          cases e
    rw [key a b hb, key a' b' hb']
    omega
  exact h2.imp fun h => Int.ne_of_lt h
/-- what is known of those that are lit -/
structure Lit (cs : List Int) (d : Int) (lit : List Int) : Prop where
  len : (lit.length : Int) = d + 1
  up : lit.Pairwise (· < ·)
  wax : ∀ i ∈ lit, ∃ (k : Nat) (w : Int), i = (k : Int) ∧ cs[k]? = some w ∧ 0 < w
  top : ∀ i ∈ lit, ∀ (k j : Nat) (w v : Int), i = (k : Int) → cs[k]? = some w → cs[j]? = some v → (j : Int) ∉ lit → v ≤ w
theorem Lit.nd {cs : List Int} {d : Int} {lit : List Int} (h : Lit cs d lit) : lit.Nodup := h.up.imp fun h => Int.ne_of_lt h
theorem srt_lt {l : List Int} (h : l.Nodup) : (srt l).Pairwise (· < ·) := by
  have h1 := srt_up l
  have h2 : (srt l).Pairwise (· ≠ ·) := (srt_perm l).nodup_iff.mpr h
  exact h1.imp₂ (fun a b h1 h2 => by omega) h2
theorem lights_lit {cs lit : List Int} {d : Int} (h0 : 0 ≤ d) (h : lightsF cs d = some lit) : Lit cs d lit := by
  unfold lightsF at h
  by_cases hc : ((rowsOf cs).length : Int) ≤ d
  · rw [if_pos hc] at h
    cases h
  rw [if_neg hc] at h
  have e := (Option.some.inj h).symm
  subst e
  have hp := srtP_perm (rowsOf cs)
  have hsub : ((srtP (rowsOf cs)).take (d + 1).toNat).map Prod.snd |>.Sublist ((srtP (rowsOf cs)).map Prod.snd) := (List.take_sublist _ _).map _
  have hnd : (((srtP (rowsOf cs)).take (d + 1).toNat).map Prod.snd).Nodup := hsub.nodup ((hp.map Prod.snd).nodup_iff.mpr (rowsOf_nodup cs))
  have hlen : (srtP (rowsOf cs)).length = (rowsOf cs).length := hp.length_eq
  have mem : ∀ i, i ∈ srt (((srtP (rowsOf cs)).take (d + 1).toNat).map Prod.snd) ↔ ∃ p ∈ (srtP (rowsOf cs)).take (d + 1).toNat, p.2 = i := fun i => by
    rw [(srt_perm _).mem_iff, List.mem_map]
  refine ⟨?_, srt_lt hnd, fun i hi => ?_, fun i hi k j w v ek hk hj hn => ?_⟩
  · rw [srt_len, List.length_map, List.length_take, hlen]
    omega
  · obtain ⟨p, hpm, e⟩ := (mem i).mp hi
    obtain ⟨k, w, h1, h2, rfl⟩ := rowsOf_mem.mp (hp.mem_iff.mp ((List.take_sublist _ _).mem hpm))
    exact ⟨k, w, e.symm, h1, h2⟩
  · obtain ⟨p, hpm, e⟩ := (mem i).mp hi
    obtain ⟨k', w', h1, h2, rfl⟩ := rowsOf_mem.mp (hp.mem_iff.mp ((List.take_sublist _ _).mem hpm))
    have ekk : k' = k := by
      have : (k' : Int) = i := e
      omega
    subst ekk
    rw [hk] at h1
    cases h1
    by_cases hv : 0 < v
    · have hq : ((-v, (j : Int)) : Int × Int) ∈ srtP (rowsOf cs) := hp.mem_iff.mpr (rowsOf_mem.mpr ⟨j, v, hj, hv, rfl⟩)
      have hd : ((-v, (j : Int)) : Int × Int) ∈ (srtP (rowsOf cs)).drop (d + 1).toNat := by
        rw [← List.take_append_drop (d + 1).toNat (srtP (rowsOf cs))] at hq
        rcases List.mem_append.mp hq with q | q
        · exact absurd ((mem _).mpr ⟨_, q, rfl⟩) hn
        · exact q
      have hup := srtP_up (rowsOf cs)
      rw [← List.take_append_drop (d + 1).toNat (srtP (rowsOf cs))] at hup
      have q := (List.pairwise_append.mp hup).2.2 _ hpm _ hd
      rw [leP_iff] at q
      have q : -w < -v ∨ (-w = -v ∧ (k' : Int) ≤ (j : Int)) := q
      omega
    · omega
/-- ticks one behind the other: lit, then what is left -/
def lotsF (cs : List Int) : List Int → Option (List (List Int × List Int))
  | [] => some []
  | d :: r => match lightsF cs d with
    | none => none
    | some lit => (lotsF (burntF cs lit []) r).map fun l => (lit, burntF cs lit []) :: l
theorem lotsF_cons (cs : List Int) (d : Int) (r : List Int) : lotsF cs (d :: r) = (match lightsF cs d with
    | none => none
    | some lit => (lotsF (burntF cs lit []) r).map fun l => (lit, burntF cs lit []) :: l) := rfl
theorem lotsF_len {ds : List Int} : ∀ {cs : List Int} {l : List (List Int × List Int)}, lotsF cs ds = some l → l.length = ds.length := by
  induction ds with
  | nil =>
    intro cs l h
    cases Option.some.inj h
    rfl
  | cons d r ih =>
    intro cs l h
    unfold lotsF at h
    cases e : lightsF cs d with
    | none =>
      rw [e] at h
      cases h
    | some lit =>
      rw [e] at h
      obtain ⟨l', h1, h2⟩ := Option.map_eq_some_iff.mp h
      rw [← h2, List.length_cons, List.length_cons, ih h1]
theorem sum_bits : ∀ (lit : List Int) (cs : List Int) (s : Nat), lit.Nodup → (∀ i ∈ lit, (s : Int) ≤ i ∧ i < (s : Int) + cs.length) → (cs.mapIdx fun i w => w - bit lit [] ((i + s : Nat) : Int)).sum = cs.sum - lit.length := by
  intro lit cs
  induction cs generalizing lit with
  | nil =>
    intro s _ h
    cases lit with
    | nil => rfl
    | cons x r =>
      have := h x List.mem_cons_self
      simp at this
      omega
  | cons c r ih =>
    intro s hn h
    rw [List.mapIdx_cons, List.sum_cons, List.sum_cons]
    have hm : (r.mapIdx fun i w => w - bit lit [] ((i + 1 + s : Nat) : Int)) = r.mapIdx fun i w => w - bit (lit.filter fun x => decide (x ≠ (s : Int))) [] ((i + (s + 1) : Nat) : Int) := by
      congr 1
      funext i w
      have e : i + 1 + s = i + (s + 1) := by omega
      rw [e]
      unfold bit
      have e2 : (((i + (s + 1) : Nat) : Int) ∈ lit) ↔ (((i + (s + 1) : Nat) : Int) ∈ lit.filter fun x => decide (x ≠ (s : Int))) := by
        rw [List.mem_filter]
        constructor
        · intro q
          exact ⟨q, decide_eq_true (by omega)⟩
        · intro q
          exact q.1
      simp only [← e2]
    rw [hm, ih (lit.filter fun x => decide (x ≠ (s : Int))) (s + 1) (hn.filter _) (fun i hi => ?_)]
    · by_cases hs : (s : Int) ∈ lit
      · have e3 : bit lit [] ((0 + s : Nat) : Int) = 1 := by
          unfold bit
          rw [Nat.zero_add, if_pos ⟨hs, by simp⟩]
        have e4 : (lit.filter fun x => decide (x ≠ (s : Int))).length + 1 = lit.length := by
          have q := List.length_erase_of_mem hs
          have q2 : lit.erase (s : Int) = lit.filter fun x => decide (x ≠ (s : Int)) := by
            rw [hn.erase_eq_filter]
            congr 1
            funext x
            by_cases hx : x = (s : Int) <;> simp [hx]
          rw [← q2, q]
          have := List.length_pos_of_mem hs
          omega
        rw [e3]
        omega
      · have e3 : bit lit [] ((0 + s : Nat) : Int) = 0 := by
          unfold bit
          rw [Nat.zero_add, if_neg (fun q => hs q.1)]
        have e4 : (lit.filter fun x => decide (x ≠ (s : Int))) = lit := List.filter_eq_self.mpr fun x hx => decide_eq_true fun e => hs (e ▸ hx)
        rw [e3, e4]
        omega
    · obtain ⟨h1, h2⟩ := List.mem_filter.mp hi
      have := h i h1
      have h2 := of_decide_eq_true h2
      rw [List.length_cons] at this
      omega
theorem burnt_sum {cs lit : List Int} {d : Int} (h : Lit cs d lit) : (burntF cs lit []).sum = cs.sum - (d + 1) := by
  rw [burntF_eq, ← h.len]
  have q := sum_bits lit cs 0 h.nd (fun i hi => by
    obtain ⟨k, w, e, hk, _⟩ := h.wax i hi
    have := (List.getElem?_eq_some_iff.mp hk).1
    omega)
  exact q
end LF
namespace LF
theorem burnt_step {cs L out : List Int} {i : Int} {k : Nat} {w : Int} (hi : i ∉ L) (ho : i ∉ out) (e : i = (k : Int)) (hk : cs[k]? = some w) : (burntF cs L out).set k (w - 1) = burntF cs (L ++ [i]) out := by
  apply List.ext_getElem?
  intro j
  rw [List.getElem?_set, burntF_len]
  by_cases hj : k = j
  · subst hj
    have hlt := (List.getElem?_eq_some_iff.mp hk).1
    rw [if_pos rfl, if_pos hlt, burntF_get hk]
    unfold bit
    rw [if_pos ⟨List.mem_append_right _ (by rw [← e]; exact List.mem_singleton.mpr rfl), by rw [← e]; exact ho⟩]
  · rw [if_neg hj]
    cases q : cs[j]? with
    | none =>
      rw [List.getElem?_eq_none (by rw [burntF_len]; exact List.getElem?_eq_none_iff.mp q), List.getElem?_eq_none (by rw [burntF_len]; exact List.getElem?_eq_none_iff.mp q)]
    | some v =>
      rw [burntF_get q, burntF_get q]
      have e2 : bit (L ++ [i]) out (j : Int) = bit L out (j : Int) := by
        unfold bit
        have e3 : ((j : Int) ∈ L ++ [i]) ↔ (j : Int) ∈ L := by
          rw [List.mem_append, List.mem_singleton]
          constructor
          · rintro (z | z)
            · exact z
            · omega
          · exact Or.inl
        simp only [e3]
      rw [e2]
theorem burnt_same {cs L out : List Int} {i : Int} (ho : i ∈ out) : burntF cs (L ++ [i]) out = burntF cs L out := by
  unfold burntF
  congr 1
  funext j w
  have e2 : bit (L ++ [i]) out (j : Int) = bit L out (j : Int) := by
    unfold bit
    by_cases hj : (j : Int) ∈ out
    · rw [if_neg (fun q => q.2 hj), if_neg (fun q => q.2 hj)]
    · have e3 : ((j : Int) ∈ L ++ [i]) ↔ (j : Int) ∈ L := by
        rw [List.mem_append, List.mem_singleton]
        constructor
        · rintro (z | z)
          · exact z
          · rw [z] at hj
            exact absurd ho hj
        · exact Or.inl
      simp only [e3]
  rw [e2]
theorem burnt_none (cs out : List Int) : burntF cs [] out = cs := by
  apply List.ext_getElem?
  intro j
  cases q : cs[j]? with
  | none => rw [List.getElem?_eq_none (by rw [burntF_len]; exact List.getElem?_eq_none_iff.mp q)]
  | some v =>
    rw [burntF_get q]
    unfold bit
    rw [if_neg (fun q => nomatch q.1), Int.sub_zero]
/-- the next of the places -/
theorem take_next {α : Type} {l : List α} {i : Nat} {x : α} (h : l[i]? = some x) : l.take (i + 1) = l.take i ++ [x] := by
  rw [List.take_add_one, h]
  rfl
theorem drop_next {α : Type} {l : List α} {i : Nat} {x : α} (h : l[i]? = some x) : l.drop i = x :: l.drop (i + 1) := by
  obtain ⟨hi, e⟩ := List.getElem?_eq_some_iff.mp h
  rw [← e]
  exact List.drop_eq_getElem_cons hi
theorem nodup_next {l : List Int} {i : Nat} {x : Int} (h : l.Nodup) (e : l[i]? = some x) : x ∉ l.take i := by
  intro hm
  obtain ⟨j, hj⟩ := List.mem_iff_getElem?.mp hm
  have hlt : j < i := by
    have := (List.getElem?_eq_some_iff.mp hj).1
    rw [List.length_take] at this
    omega
  rw [List.getElem?_take_of_lt hlt] at hj
  obtain ⟨h1, e1⟩ := List.getElem?_eq_some_iff.mp hj
  obtain ⟨h2, e2⟩ := List.getElem?_eq_some_iff.mp e
  have := (List.getElem_inj (i := j) (j := i) h).mp (e1.trans e2.symm)
  omega
/-- all is burnt that is wanted -/
theorem lots_sum : ∀ (ds cs : List Int) (l : List (List Int × List Int)), (∀ d ∈ ds, 0 ≤ d) → lotsF cs ds = some l → ∀ p, l.getLast? = some p → p.2.sum = cs.sum - ds.sum - ds.length := by
  intro ds
  induction ds with
  | nil =>
    intro cs l _ h p hp
    cases Option.some.inj h
    cases hp
  | cons d r ih =>
    intro cs l h0 h p hp
    unfold lotsF at h
    cases e : lightsF cs d with
    | none =>
      rw [e] at h
      cases h
    | some lit =>
      rw [e] at h
      obtain ⟨l', h1, h2⟩ := Option.map_eq_some_iff.mp h
      have hb := burnt_sum (lights_lit (h0 d List.mem_cons_self) e)
      rw [List.sum_cons, List.length_cons]
      subst h2
      cases q : l'.getLast? with
      | none =>
        have e0 : l' = [] := List.getLast?_eq_none_iff.mp q
        have e1 := lotsF_len h1
        rw [e0] at e1 hp
        have e2 : r = [] := List.length_eq_zero_iff.mp e1.symm
        cases Option.some.inj hp
        show (burntF cs lit []).sum = _
        rw [hb, e2]
        show _ = cs.sum - (d + 0) - _
        simp
        omega
      | some p' =>
        have e1 : p' = p := by
          have := List.getLast?_cons (a := (lit, burntF cs lit [])) (l := l')
          rw [this, q] at hp
          exact Option.some.inj hp
        subst e1
        rw [ih (burntF cs lit []) l' (fun x hx => h0 x (List.mem_cons_of_mem _ hx)) h1 p' q, hb]
        omega
theorem lots_lens : ∀ (ds cs : List Int) (l : List (List Int × List Int)), lotsF cs ds = some l → ∀ p ∈ l, p.2.length = cs.length := by
  intro ds
  induction ds with
  | nil =>
    intro cs l h p hp
    cases Option.some.inj h
    cases hp
  | cons d r ih =>
    intro cs l h p hp
    unfold lotsF at h
    cases e : lightsF cs d with
    | none =>
      rw [e] at h
      cases h
    | some lit =>
      rw [e] at h
      obtain ⟨l', h1, h2⟩ := Option.map_eq_some_iff.mp h
      subst h2
      rcases List.mem_cons.mp hp with z | z
      · rw [z]
        exact burntF_len _ _ _
      · rw [ih _ _ h1 p z]
        exact burntF_len _ _ _
end LF
/-! ### la_rep: (x,) * k for every k -/
namespace LF
open PySem PySem.Spec PyProof.Rows L2
theorem tup_mul_one (l : Addr) (items : Array Value) (n : Nat) (dd : Option Addr) (sl : Array (Option Value)) (x : Int) (u : Tok) (c0 : (decide (x < -(2 ^ 63)) || decide (x ≥ 2 ^ 63)) = false) (c1 : (items.isEmpty || x == 1) = true) :
    Meets (Builtin.«tuple.__mul__» ⟨[.ref l, .int x u], []⟩) (fun _ R s => s.heap.get? l = some { cls := .type "tuple", dict := dd, data := .seq items n, slots := sl } ∧ R (.ok (.ret (Value.ref l))) s) :=
  .of_wp fun prog w A R s h => by
    obtain ⟨hp, g, d, tk, os⟩ := s
    obtain ⟨hl, h⟩ := h
    have f1 := AutoSeq1.idx_int
    wp_walk using wpAny_loadPart' hl
    repeat (first
      | (refine wpAny_ite_false (decide_eq_false (by rw [c0]; exact Bool.false_ne_true)) ?_; wp_walk using wpAny_loadPart' hl)
      | (refine wpAny_ite_true (decide_eq_true c1) ?_; wp_walk using wpAny_loadPart' hl))
    all_goals exact ⟨_, rfl, h⟩
theorem tup_mul_nought (l : Addr) (items : Array Value) (n : Nat) (dd : Option Addr) (sl : Array (Option Value)) (x : Int) (u : Tok) (c0 : (decide (x < -(2 ^ 63)) || decide (x ≥ 2 ^ 63)) = false) (c1 : (items.isEmpty || x == 1) = false) (c2 : (decide (x ≤ 0) || items.isEmpty) = true) :
    Meets (Builtin.«tuple.__mul__» ⟨[.ref l, .int x u], []⟩) (fun _ R s => s.heap.get? l = some { cls := .type "tuple", dict := dd, data := .seq items n, slots := sl } ∧
      R (.ok (.ret (Value.ref s.heap.objs.size))) { s with heap := s.heap.push { cls := Value.type "tuple", data := Data.seq #[] }, toks := s.toks }) :=
  .of_wp fun prog w A R s h => by
    obtain ⟨hp, g, d, tk, os⟩ := s
    obtain ⟨hl, h⟩ := h
    have f1 := AutoSeq1.idx_int
    wp_walk using wpAny_loadPart' hl
    repeat (first
      | (refine wpAny_ite_false (decide_eq_false (by rw [c0]; exact Bool.false_ne_true)) ?_; wp_walk using wpAny_loadPart' hl)
      | (refine wpAny_ite_false (decide_eq_false (by rw [c1]; exact Bool.false_ne_true)) ?_; wp_walk using wpAny_loadPart' hl)
      | (refine wpAny_ite_true (decide_eq_true c2) ?_; wp_walk using wpAny_loadPart' hl))
    all_goals exact ⟨_, rfl, h⟩
/-- of one thing: the thing so many times -/
def rRepA (K : PySem.W.Frag) : R2 := fun x y H Q => ∃ l k z, x = .ref l ∧ y = .int k ∧ SqT K H l [z] ∧ 0 ≤ k ∧ k ≤ 1000 ∧ (k = 1 → Q (.ref l) H) ∧ (k ≠ 1 → ∀ p, H p = none → Q (.ref p) (upd H p (.tup (List.replicate k.toNat z))))
section
variable {X : Cx}
theorem flat_one {α : Type} (z : α) : ∀ n : Nat, (List.replicate n [z]).flatten = List.replicate n z
  | 0 => rfl
  | n + 1 => by
    rw [List.replicate_succ, List.flatten_cons, flat_one z n]
    rfl
theorem op_repA : OpR X (binaryOp .Mult) (rRepA X.K) := by
  intro pins s σ H x y v u Q I rx ry h
  obtain ⟨l, k, z, rfl, rfl, hT, h1, h2, q1, q2⟩ := h
  by_cases k2 : 2 ≤ k
  · refine op_repT pins s σ H _ _ v u Q I rx ry ⟨l, k, [z], rfl, rfl, hT, (by simp), k2, h2, (by show 1 ≤ 1000; decide), fun p np => ?_⟩
    rw [flat_one]
    exact q2 (by omega) p np
  cases rx
  obtain ⟨t, rfl⟩ := ry
  obtain ⟨its, r, ⟨⟨cls, dd, data, sl⟩, ho, hc, n, hd⟩, hs⟩ := I.tuple hT
  simp only at hc hd
  subst hc hd
  have hle : its.length = 1 := r.length.symm
  have hi : its.toArray.isEmpty = false := by
    cases its with
    | nil => cases hle
    | cons a b => rfl
  have c0 : (decide (k < -(2 ^ 63)) || decide (k ≥ 2 ^ 63)) = false := by
    rw [decide_eq_false (by omega), decide_eq_false (by omega)] <;> rfl
  by_cases k1 : k = 1
  · have c1 : (its.toArray.isEmpty || k == 1) = true := by
      rw [k1, Bool.or_eq_true]
      exact .inr rfl
    exact wpAny_binaryOp_repeat_ref (T := "tuple") (U := "int") (by decide) ⟨_, ho, rfl⟩ (fun s' => typeIs_int s' k t) noFill_tuple_mul F.fills_int_mul F.slot_int_rmul repeat_tuple F.slot_int_index.lookup
      (call_meets F.slot_int_rmul (typeIs_int s k t) F.entry_int_rmul (F.args_int_rmul_2 _ _) (int_rmul_tuple k t l its.toArray n dd sl)
        ⟨ho, rfl, ⟨_, ho, rfl⟩, call_meets F.slot_tuple_mul ⟨_, ho, rfl⟩ F.entry_tuple_mul (F.args_tuple_mul_2 _ _) (tup_mul_one l its.toArray n dd sl k t c0 c1) ⟨ho, ⟨.ref l, H, I, rfl, q1 k1⟩⟩⟩)
  · have k0 : k = 0 := by omega
    have c1 : (its.toArray.isEmpty || k == 1) = false := by
      rw [hi, Bool.false_or]
      exact beq_eq_false_iff_ne.mpr k1
    have c2 : (decide (k ≤ 0) || its.toArray.isEmpty) = true := by
      rw [decide_eq_true (by omega), Bool.true_or]
    refine wpAny_binaryOp_repeat_ref (T := "tuple") (U := "int") (by decide) ⟨_, ho, rfl⟩ (fun s' => typeIs_int s' k t) noFill_tuple_mul F.fills_int_mul F.slot_int_rmul repeat_tuple F.slot_int_index.lookup
      (call_meets F.slot_int_rmul (typeIs_int s k t) F.entry_int_rmul (F.args_int_rmul_2 _ _) (int_rmul_tuple k t l its.toArray n dd sl)
        ⟨ho, rfl, ⟨_, ho, rfl⟩, call_meets F.slot_tuple_mul ⟨_, ho, rfl⟩ F.entry_tuple_mul (F.args_tuple_mul_2 _ _) (tup_mul_nought l its.toArray n dd sl k t c0 c1 c2) ⟨ho, ?_⟩⟩)
    have q := q2 k1 s.heap.objs.size (I.hok.fresh (Nat.le_refl _))
    rw [k0] at q
    refine ⟨.ref s.heap.objs.size, _, I.laid (t' := s.toks) (o := .tup []) (fun b ob e => Heap.get?_push_of_some _ e) (Nat.le_refl _) ?_, rfl, q⟩
    exact ⟨Nat.zero_le _, [], .nil, IsTup.new _ _⟩
theorem repK (K : PySem.W.Frag) (h : X.K = K := by rfl) : OpR X (binaryOp .Mult) (rRepA K) := by subst h; exact op_repA
end
end LF
/-! tuples put together, cut, repeated: whichever object it is -/
namespace LF
open PySem PySem.Spec PyProof.Rows L2
theorem cat_any {K : PySem.W.Frag} {H : Hp} {a b : Addr} {xs ys : List V} {Q : VK} (ha : SqT K H a xs) (hb : SqT K H b ys) (hl : xs.length + ys.length ≤ 1000) (h : ∀ H' p, Same H H' → SqT K H' p (xs ++ ys) → Q (.ref p) H') : rCatA K (.ref a) (.ref b) H Q := by
  refine ⟨a, b, xs, ys, rfl, rfl, ha, hb, sz3 hl, fun e => h H b (Same.refl _) ?_, fun _ e => h H a (Same.refl _) ?_, fun _ _ p np => h _ p (Same.new np) (SqT.of upd_same)⟩
  · rw [e]
    exact hb
  · rw [e, List.append_nil]
    exact ha
theorem sl_any {K : PySem.W.Frag} {H : Hp} {a : Addr} {xs : List V} {lo hi : Option Int} {Q : VK} (ha : SqT K H a xs) (h : ∀ H' p, Same H H' → SqT K H' p (cutV xs lo hi) → Q (.ref p) H') : rSlA K (.ref a) lo hi H Q := by
  refine ⟨a, xs, rfl, ha, fun e => h H a (Same.refl _) ?_, fun _ p np => h _ p (Same.new np) (SqT.of upd_same)⟩
  unfold cutV
  rw [e.1, e.2, List.drop_zero, Nat.sub_zero, List.take_length]
  exact ha
theorem noPart {σ : L2.St} {H : Hp} {Q : Option Int → Hp → Prop} (h : Q none H) : tNoPart σ H Q := h
theorem rep_any {K : PySem.W.Frag} {H : Hp} {a : Addr} {z : V} {k : Int} {Q : VK} (ha : SqT K H a [z]) (h0 : 0 ≤ k) (h1 : k ≤ 1000) (h : ∀ H' p, Same H H' → SqT K H' p (List.replicate k.toNat z) → Q (.ref p) H') : rRepA K (.ref a) (.int k) H Q := by
  refine ⟨a, k, z, rfl, rfl, ha, h0, h1, fun e => h H a (Same.refl _) ?_, fun _ p np => h _ p (Same.new np) (SqT.of upd_same)⟩
  rw [e]
  exact ha
theorem vi_rep (n : Nat) (z : Int) : List.replicate n (V.int z) = vi (List.replicate n z) := List.map_replicate.symm
theorem cut_take (ns : List Int) (k : Nat) (h : k ≤ ns.length) : cutV (vi ns) none (some (k : Int)) = vi (ns.take k) := by
  unfold cutV
  rw [HT.sIx_nat, HT.sIx_none, vi_len, Nat.min_eq_left h, Nat.sub_zero, List.drop_zero]
  exact List.map_take.symm
theorem cut_drop (ns : List Int) (k : Nat) (h : k ≤ ns.length) : cutV (vi ns) (some (k : Int)) none = vi (ns.drop k) := by
  unfold cutV
  rw [HT.sIx_nat, HT.sIx_none, vi_len, Nat.min_eq_left h, List.take_of_length_le (by rw [List.length_drop, vi_len]; exact Nat.le_refl _)]
  exact List.map_drop.symm
theorem set_cut (ds : List Int) (i : Nat) (d : Int) (h : i < ds.length) : ds.take i ++ [d] ++ ds.drop (i + 1) = ds.set i d := by
  rw [List.set_eq_take_append_cons_drop, if_pos h, List.append_assoc]
  rfl
end LF
/-! ### la_can: whether a flame can be kept, told by lots of draughts -/
namespace LF
theorem top_sub : ∀ (L S : List Int), L.Pairwise (· ≤ ·) → S.Sublist L → S.sum ≤ (L.drop (L.length - S.length)).sum := by
  intro L
  induction L with
  | nil =>
    intro S _ h
    rw [List.sublist_nil.mp h]
    exact Int.le_refl _
  | cons x r ih =>
    intro S hp h
    have hp2 := (List.pairwise_cons.mp hp)
    cases h with
    | cons _ h1 =>
      have q := ih S hp2.2 h1
      have hl := h1.length_le
      rw [List.length_cons, show r.length + 1 - S.length = (r.length - S.length) + 1 by omega, List.drop_succ_cons]
      exact q
    | cons_cons _ h1 =>
      rename_i S'
      have q := ih S' hp2.2 h1
      have hl := h1.length_le
      rw [List.length_cons, List.length_cons, Nat.add_sub_add_right, List.sum_cons]
      by_cases e : r.length - S'.length = 0
      · rw [e, List.drop_zero, List.sum_cons]
        rw [e, List.drop_zero] at q
        omega
      · obtain ⟨m, hm⟩ : ∃ m, r.length - S'.length = m + 1 := ⟨r.length - S'.length - 1, by omega⟩
        rw [hm, List.drop_succ_cons]
        rw [hm] at q
        have hml : m < r.length := by omega
        rw [List.drop_eq_getElem_cons hml, List.sum_cons]
        have := hp2.1 r[m] (List.getElem_mem _)
        omega
theorem wnt_sum (ds : List Int) (k : Nat) (h : k ≤ ds.length) : wnt ds k = ((srt ds).drop (ds.length - k)).sum + k := by
  unfold wnt
  rw [sum_succ, List.length_drop, srt_len]
  have e : ds.length - (ds.length - k) = k := by omega
  rw [e]
theorem perm_sum {a b : List Int} (h : a.Perm b) : a.sum = b.sum := by
  induction h with
  | nil => rfl
  | cons x _ ih => rw [List.sum_cons, List.sum_cons, ih]
  | swap x y l =>
    rw [List.sum_cons, List.sum_cons, List.sum_cons, List.sum_cons]
    omega
  | trans _ _ h1 h2 => exact h1.trans h2
/-- each lot of draughts has what it wants -/
theorem can_sub {cs ds : List Int} : can cs ds = true ↔ ∀ S : List Int, S.Sublist ds → S ≠ [] → S.sum + S.length ≤ cnt cs S.length := by
  rw [can_iff]
  constructor
  · intro h S hS hn
    obtain ⟨S', hp, hs⟩ := List.exists_perm_sublist hS (srt_perm ds).symm
    have hl := hS.length_le
    have hpos : 1 ≤ S.length := List.length_pos_iff.mpr hn
    have q := h S.length hpos hl
    rw [wnt_sum ds S.length hl] at q
    have t := top_sub (srt ds) S' (srt_up ds) hs
    rw [perm_sum hp, srt_len, hp.length_eq] at t
    omega
  · intro h k h1 h2
    rw [wnt_sum ds k h2]
    have hs : ((srt ds).drop (ds.length - k)).Sublist (srt ds) := List.drop_sublist _ _
    obtain ⟨S, hp, hS⟩ := List.exists_perm_sublist hs (srt_perm ds)
    have hl : S.length = k := by
      rw [hp.length_eq, List.length_drop, srt_len]
      omega
    have q := h S hS (fun e => by rw [e] at hl; simp at hl; omega)
    rw [hl] at q
    rw [← perm_sum hp]
    exact q
theorem can_perm_ds {cs ds es : List Int} (h : ds.Perm es) : can cs ds = can cs es := by
  have key : ∀ {a b : List Int}, a.Perm b → can cs a = true → can cs b = true := fun {a b} hp hc => by
    rw [can_iff] at *
    intro k h1 h2
    have q := hc k h1 (by rw [hp.length_eq]; exact h2)
    unfold wnt at *
    rw [srt_of_perm hp, hp.length_eq] at q
    exact q
  cases h1 : can cs ds with
  | true => exact (key h h1).symm
  | false =>
    cases h2 : can cs es with
    | false => rfl
    | true =>
      rw [key h.symm h2] at h1
      cases h1
theorem cnt_nil (k : Int) : cnt [] k = 0 := rfl
theorem cnt_cons (c : Int) (r : List Int) (k : Int) : cnt (c :: r) k = (if k < c then k else c) + cnt r k := by
  unfold cnt
  rw [List.map_cons, List.sum_cons]
theorem cnt_app (a b : List Int) (k : Int) : cnt (a ++ b) k = cnt a k + cnt b k := by
  unfold cnt
  rw [List.map_append, List.sum_append]
theorem cnt_perm {a b : List Int} (h : a.Perm b) (k : Int) : cnt a k = cnt b k := perm_sum (h.map _)
theorem cnt_le_sum {cs : List Int} (k : Int) : cnt cs k ≤ cs.sum := by
  induction cs with
  | nil => exact Int.le_refl _
  | cons c r ih =>
    rw [cnt_cons, List.sum_cons]
    by_cases h : k < c
    · rw [if_pos h]
      omega
    · rw [if_neg h]
      omega
theorem cnt_one_le {cs : List Int} : cnt cs 1 ≤ cs.length := by
  induction cs with
  | nil => exact Int.le_refl _
  | cons c r ih =>
    rw [cnt_cons, List.length_cons]
    by_cases h : 1 < c
    · rw [if_pos h]
      omega
    · rw [if_neg h]
      omega
theorem can_perm_cs {a b ds : List Int} (h : a.Perm b) : can a ds = can b ds := by
  unfold can spr
  congr 1
  refine List.map_congr_left fun i _ => ?_
  rw [cnt_perm h]
/-- the draught that is strongest is less than candles are many -/
theorem can_lt {cs ds : List Int} (h : can cs ds = true) {d : Int} (hd : d ∈ ds) : d + 1 ≤ cs.length := by
  have q := can_sub.mp h [d] (List.singleton_sublist.mpr hd) (by simp)
  have e : ([d] : List Int).sum = d := by
    rw [List.sum_cons]
    exact Int.add_zero d
  rw [e] at q
  have := cnt_one_le (cs := cs)
  have q : d + 1 ≤ cnt cs 1 := q
  omega
/-! many ticks of one draught -/
theorem sum_rep (n : Nat) (z : Int) : (List.replicate n z).sum = n * z := by
  induction n with
  | zero =>
    rw [List.replicate_zero]
    show (0 : Int) = ((0 : Nat) : Int) * z
    rw [Int.natCast_zero, Int.zero_mul]
  | succ n ih =>
    rw [List.replicate_succ, List.sum_cons, ih]
    have e : ((n + 1 : Nat) : Int) = (n : Int) + 1 := by omega
    rw [e, Int.add_mul, Int.one_mul, Int.add_comm]
theorem srt_rep (n : Nat) (d : Int) : srt (List.replicate n d) = List.replicate n d :=
  (srt_is (List.Perm.refl _) (List.pairwise_replicate.mpr (.inr (Int.le_refl d)))).symm
theorem wnt_rep (n k : Nat) (d : Int) (h : k ≤ n) : wnt (List.replicate n d) k = k * (d + 1) := by
  rw [wnt_sum _ _ (by rw [List.length_replicate]; exact h), srt_rep, List.length_replicate, List.drop_replicate, sum_rep]
  have e : n - (n - k) = k := by omega
  rw [e, Int.mul_add, Int.mul_one]
theorem can_rep {cs : List Int} {n : Nat} {d : Int} : can cs (List.replicate n d) = true ↔ ∀ k : Nat, 1 ≤ k → k ≤ n → (k : Int) * (d + 1) ≤ cnt cs k := by
  rw [can_iff, List.length_replicate]
  constructor
  · intro h k h1 h2
    have q := h k h1 h2
    rw [wnt_rep n k d h2] at q
    exact q
  · intro h k h1 h2
    rw [wnt_rep n k d h2]
    exact h k h1 h2
/-- for more ticks a candle has no more to each -/
theorem cnt_slope {cs : List Int} (h0 : ∀ c ∈ cs, 0 ≤ c) {k t : Int} (hk : 0 ≤ k) (hkt : k ≤ t) : k * cnt cs t ≤ t * cnt cs k := by
  induction cs with
  | nil =>
    rw [cnt_nil, cnt_nil, Int.mul_zero, Int.mul_zero]
    exact Int.le_refl _
  | cons c r ih =>
    have ih := ih fun x hx => h0 x (List.mem_cons_of_mem _ hx)
    have hc := h0 c List.mem_cons_self
    rw [cnt_cons, cnt_cons, Int.mul_add, Int.mul_add]
    have one : k * (if t < c then t else c) ≤ t * (if k < c then k else c) := by
      by_cases h1 : t < c
      · rw [if_pos h1, if_pos (by omega), Int.mul_comm]
        exact Int.le_refl _
      · rw [if_neg h1]
        by_cases h2 : k < c
        · rw [if_pos h2, Int.mul_comm t k]
          exact Int.mul_le_mul_of_nonneg_left (by omega) hk
        · rw [if_neg h2]
          exact Int.mul_le_mul_of_nonneg_right hkt hc
    omega
theorem can_rep2 {cs : List Int} (h0 : ∀ c ∈ cs, 0 ≤ c) {n : Nat} {d : Int} (hn : 1 ≤ n) : can cs (List.replicate n d) = true ↔ (n : Int) * (d + 1) ≤ cnt cs n := by
  rw [can_rep]
  constructor
  · intro h
    exact h n hn (Nat.le_refl _)
  · intro h k h1 h2
    have s := cnt_slope h0 (k := (k : Int)) (t := (n : Int)) (by omega) (by omega)
    have a : (k : Int) * ((n : Int) * (d + 1)) ≤ (k : Int) * cnt cs n := Int.mul_le_mul_of_nonneg_left h (by omega)
    have e : (k : Int) * ((n : Int) * (d + 1)) = (n : Int) * ((k : Int) * (d + 1)) := Int.mul_left_comm _ _ _
    rw [e] at a
    exact Int.le_of_mul_le_mul_left (Int.le_trans a s) (by omega)
theorem can_rep_mono {cs : List Int} {n m : Nat} {d : Int} (h : can cs (List.replicate n d) = true) (hm : m ≤ n) : can cs (List.replicate m d) = true := by
  rw [can_rep] at *
  exact fun k h1 h2 => h k h1 (Nat.le_trans h2 hm)
theorem can_rep_le {cs : List Int} {n : Nat} {d : Int} (hd : 0 ≤ d) (h : can cs (List.replicate n d) = true) : (n : Int) ≤ cs.sum ∨ n = 0 := by
  by_cases hn : n = 0
  · exact .inr hn
  · rw [can_rep] at h
    have q := h n (by omega) (Nat.le_refl _)
    have q2 := cnt_le_sum (cs := cs) (n : Int)
    have q3 : (n : Int) * 1 ≤ (n : Int) * (d + 1) := Int.mul_le_mul_of_nonneg_left (by omega) (by omega)
    rw [Int.mul_one] at q3
    exact .inl (by omega)
theorem can_nil (cs : List Int) : can cs [] = true := rfl
end LF
/-! ### la_min: the least of a list of (int, ints) -/
namespace LF
open PySem PySem.Spec PyProof.Rows L2
abbrev rowD (r : Int × List Int) : PyData := .tuple [.int r.1, .tuple (di r.2)]
theorem di_inj : ∀ {a b : List Int}, di a = di b → a = b
  | [], [], _ => rfl
  | [], _ :: _, h => by cases h
  | _ :: _, [], h => by cases h
  | x :: a, y :: b, h => by
    injection h with h1 h2
    injection h1 with h1
    rw [h1, di_inj h2]
theorem rowD_inj {r q : Int × List Int} (h : rowD r = rowD q) : r = q := by
  obtain ⟨k, c⟩ := r
  obtain ⟨k', c'⟩ := q
  injection h with h
  injection h with h1 h2
  injection h1 with h1
  injection h2 with h2 _
  injection h2 with h2
  have h1 : k = k' := h1
  have h2 : c = c' := di_inj h2
  rw [h1, h2]
/-- the least row, as data -/
def best : List (Int × List Int) → PyData
  | [] => .none
  | r :: rs => PySem.W.minD (rowD r) (rs.map rowD)
def VS (K : PySem.W.Frag) (H : Hp) (v : V) (c : List Int) : Prop := ∃ t, v = .ref t ∧ SqT K H t (vi c)
theorem sqt_keep {K : PySem.W.Frag} {H H' : Hp} {D a : Addr} {acc xs : List V} (h : H D = some (.lst acc)) (s : Smt D H H') (e : SqT K H a xs) : SqT K H' a xs := by
  rcases e with (e | ⟨o, e⟩) | e
  · refine .inl (.inl (s a _ e fun z => ?_))
    rw [z, h] at e
    cases e
  · refine .inl (.inr ⟨o, s a _ e fun z => ?_⟩)
    rw [z, h] at e
    cases e
  · exact .inr e
theorem VS.keep {K : PySem.W.Frag} {H H' : Hp} {D : Addr} {acc : List V} {v : V} {c : List Int} (h : H D = some (.lst acc)) (s : Smt D H H') (r : VS K H v c) : VS K H' v c := by
  obtain ⟨t, e, ht⟩ := r
  exact ⟨t, e, sqt_keep h s ht⟩
theorem VS.same {K : PySem.W.Frag} {H H' : Hp} {v : V} {c : List Int} (s : Same H H') (r : VS K H v c) : VS K H' v c := by
  obtain ⟨t, e, ht⟩ := r
  exact ⟨t, e, s.sqt ht⟩
/-- a row: its number and its lot -/
def RV (K : PySem.W.Frag) (H : Hp) (v : V) (r : Int × List Int) : Prop := ∃ t u, v = .ref t ∧ H t = some (.tup [.int r.1, .ref u]) ∧ SqT K H u (vi r.2)
theorem RV.keep {K : PySem.W.Frag} {H H' : Hp} {D : Addr} {acc : List V} {v : V} {r : Int × List Int} (h : H D = some (.lst acc)) (s : Smt D H H') (q : RV K H v r) : RV K H' v r := by
  obtain ⟨t, u, e, ht, hu⟩ := q
  refine ⟨t, u, e, s t _ ht fun z => ?_, sqt_keep h s hu⟩
  rw [z, h] at ht
  cases ht
theorem RV.same {K : PySem.W.Frag} {H H' : Hp} {v : V} {r : Int × List Int} (s : Same H H') (q : RV K H v r) : RV K H' v r := by
  obtain ⟨t, u, e, ht, hu⟩ := q
  exact ⟨t, u, e, s t _ ht, s.sqt hu⟩
theorem dp_row {K : PySem.W.Frag} {H : Hp} {v : V} {r : Int × List Int} (q : RV K H v r) : Dp K H v (rowD r) := by
  obtain ⟨t, u, e, ht, hu⟩ := q
  subst e
  exact .tup (SqT.of ht) (.cons (.int r.1) (.cons (dp_tup hu) .nil))
theorem dp_rows {K : PySem.W.Frag} {H : Hp} : ∀ {xs : List V} {rows : List (Int × List Int)}, Paired (RV K H) xs rows → DpAll K H xs (rows.map rowD)
  | _, _, .nil => .nil
  | _, _, .cons q t => .cons (dp_row q) (dp_rows t)
theorem alike_ints : ∀ a b : List Int, PySem.W.alikeAll (di a) (di b) = true
  | [], _ => by simp only [List.map_nil, PySem.W.alikeAll]
  | _ :: _, [] => by simp only [List.map_nil, List.map_cons, PySem.W.alikeAll]
  | x :: a, y :: b => by
    show PySem.W.alikeAll (.int x :: di a) (.int y :: di b) = true
    simp only [PySem.W.alikeAll, PySem.W.alike, alike_ints a b, Bool.true_and]
theorem alike_rows (rows : List (Int × List Int)) : PySem.W.AlikeAll (rows.map rowD) := by
  constructor
  · intro x hx y hy
    obtain ⟨r, _, rfl⟩ := List.mem_map.mp hx
    obtain ⟨q, _, rfl⟩ := List.mem_map.mp hy
    simp only [PySem.W.alikeAll, PySem.W.alike, alike_ints r.2 q.2, Bool.true_and]
  · intro x hx
    obtain ⟨r, _, rfl⟩ := List.mem_map.mp hx
    exact fun z => by cases z
theorem okd_row (r : Int × List Int) : Okd 2 (rowD r) := okd_tup fun d hd => by
  rcases List.mem_cons.mp hd with rfl | hd
  · exact okd_int 1 _
  · rcases List.mem_cons.mp hd with rfl | hd
    · exact okd_tup (okd_ints 0 _)
    · cases hd
theorem depth_rows (rows : List (Int × List Int)) : PyData.canLayAll0 (rows.map rowD) = true ∧ PyData.depthAll (rows.map rowD) ≤ 2 := okd_all fun d hd => by
  obtain ⟨r, _, rfl⟩ := List.mem_map.mp hd
  exact okd_row r
theorem paired_get2 {α β : Type} {F : α → β → Prop} : ∀ {xs : List α} {ys : List β} {i : Nat} {y : β}, Paired F xs ys → ys[i]? = some y → ∃ x, xs[i]? = some x ∧ F x y
  | _, _, i, _, .nil, e => by simp at e
  | _, _, 0, _, .cons h _, e => by
    cases Option.some.inj e
    exact ⟨_, rfl, h⟩
  | _, _, i + 1, _, .cons _ t, e => paired_get2 (i := i) t e
theorem readsAll_get {h : Heap} : ∀ {vs : List Value} {ds : List PyData} {as : List Addr} {i : Nat} {u : Value}, ReadsAll h vs ds as → vs[i]? = some u → ∃ d bs, ds[i]? = some d ∧ Reads h u d bs
  | _, _, _, i, _, .nil, e => by simp at e
  | _, _, _, 0, _, .cons r _, e => by
    cases Option.some.inj e
    exact ⟨_, _, rfl, r⟩
  | _, _, _, i + 1, _, .cons _ t, e => readsAll_get (i := i) t e
section
variable {X : Cx}
def rMinR (K : PySem.W.Frag) : List V → Hp → VK → Prop := fun vs H Q => ∃ (a : Addr) (xs : List V) (rows : List (Int × List Int)), vs = [V.ref a] ∧ SqL K H a xs ∧ Paired (RV K H) xs rows ∧ rows ≠ [] ∧ ∀ v r, RV K H v r → rowD r = best rows → r ∈ rows → Q v H
theorem cr_minR (hu : X.A.units + 64 < cLine) (hc : X.calm = true) : CallR X (.builtin "min") (rMinR X.K) := by
  intro pins s σ H vs us Q I rr h
  obtain ⟨a, xs, rows, rfl, hS, hp, hne, q⟩ := h
  obtain ⟨its, rv, hl, _⟩ := I.list hS
  rw [Vals.ref1 rr]
  cases rows with
  | nil => exact absurd rfl hne
  | cons r0 rs =>
    obtain ⟨as, ra⟩ := Dp.readsAll I ((r0 :: rs).map rowD) xs its (dp_rows hp) rv
    have hdep := depth_rows (r0 :: rs)
    refine PySem.W.min_list_data (I.ok.hd hc) hl.isList (x := rowD r0) (xs := rs.map rowD) ra (alike_rows (r0 :: rs)) (by have := hdep.2; show X.A.units + 1 + PyData.depthAll ((r0 :: rs).map rowD) < _; omega) fun i u h' tk bs hi hr hk => ?_
    have hi : its[i]? = some u := by
      rw [← hi]
      simp
    have hx : ∃ v, xs[i]? = some v := by
      have hlen := rv.length
      have hi2 := (List.getElem?_eq_some_iff.mp hi).1
      exact ⟨xs[i]'(by omega), List.getElem?_eq_getElem (by omega)⟩
    obtain ⟨v, hv⟩ := hx
    obtain ⟨r, hr1, hrv⟩ := paired_get hp hv
    obtain ⟨u', hu', hrel⟩ := rv.get hv
    rw [hi] at hu'
    cases Option.some.inj hu'
    obtain ⟨d, bs', hd, hrd⟩ := readsAll_get ra hi
    rw [List.getElem?_map, hr1] at hd
    cases Option.some.inj hd
    have e : rowD r = best (r0 :: rs) := SeqAt.Reads.unique _ _ _ _ _ (okd_row r).1 (Reads.keeps hk hrd) hr
    exact ⟨v, H, I.kept hk, hrel, q v r hrv e (List.mem_of_getElem? hr1)⟩
theorem minRK (K : PySem.W.Frag) (hu : X.A.units + 64 < cLine) (h : X.K = K := by rfl) (hc : X.calm = true := by rfl) : CallR X (.builtin "min") (rMinR K) := by subst h; exact cr_minR hu hc
end
theorem eqv_rows_nil (rows : List (Int × List Int)) : PyData.eqv (.list (rows.map rowD)) (.list (di [])) = rows.isEmpty := by
  rw [eqv_nil]
  cases rows <;> rfl
theorem shaped_rows (rows : List (Int × List Int)) : SeqAt.shaped (.list (rows.map rowD)) = true := (okd_list (n := 2) fun d hd => by
  obtain ⟨r, _, rfl⟩ := List.mem_map.mp hd
  exact okd_row r).shaped (by decide)
end LF
/-! ### la_add: what must be added, what can be spared -/
namespace LF
/-- the stubs that are lacking -/
def Stb (cs ds : List Int) (m : Int) : Prop := 0 ≤ m ∧ (∀ k, 1 ≤ k → k ≤ ds.length → wnt ds k ≤ cnt cs k + m) ∧ (0 < m → ∃ k, 1 ≤ k ∧ k ≤ ds.length ∧ wnt ds k = cnt cs k + m)
theorem stb_of {cs ds : List Int} {m : Int} (h1 : m ∈ 0 :: (spr cs ds).map fun s => -s) (h2 : ∀ y, y ∈ 0 :: (spr cs ds).map (fun s => -s) → y ≤ m) : Stb cs ds m := by
  have h0 := h2 0 List.mem_cons_self
  refine ⟨h0, fun k k1 k2 => ?_, fun hm => ?_⟩
  · have e1 : k - 1 + 1 = k := by omega
    have e2 : ((k - 1 : Nat) : Int) + 1 = (k : Int) := by omega
    have q := h2 (-(cnt cs (((k - 1 : Nat) : Int) + 1) - wnt ds (k - 1 + 1))) (List.mem_cons_of_mem _ (List.mem_map.mpr ⟨_, List.mem_map.mpr ⟨k - 1, List.mem_range.mpr (by omega), rfl⟩, rfl⟩))
    rw [e1, e2] at q
    omega
  · rcases List.mem_cons.mp h1 with z | z
    · omega
    · obtain ⟨s, hs, e⟩ := List.mem_map.mp z
      obtain ⟨i, hi, e2⟩ := List.mem_map.mp hs
      have hi := List.mem_range.mp hi
      have e3 : ((i + 1 : Nat) : Int) = (i : Int) + 1 := by omega
      refine ⟨i + 1, by omega, by omega, ?_⟩
      rw [e3]
      omega
theorem cnt_rep1 (n : Nat) (k : Int) (hk : 1 ≤ k) : cnt (List.replicate n 1) k = n := by
  unfold cnt
  rw [List.map_replicate, if_neg (by omega), sum_rep, Int.mul_one]
theorem cnt_one (w k : Int) : cnt [w] k = if k < w then k else w := by
  rw [cnt_cons, cnt_nil, Int.add_zero]
theorem stb_can {cs ds : List Int} {m : Int} (h : Stb cs ds m) : can (cs ++ List.replicate m.toNat 1) ds = true := by
  refine (can_iff _ _).mpr fun k k1 k2 => ?_
  rw [cnt_app, cnt_rep1 _ _ (by omega), Int.toNat_of_nonneg h.1]
  exact h.2.1 k k1 k2
theorem stb_not {cs ds : List Int} {m : Int} (h : Stb cs ds m) (hm : 0 < m) : can (cs ++ List.replicate (m - 1).toNat 1) ds = false := by
  cases c : can (cs ++ List.replicate (m - 1).toNat 1) ds with
  | false => rfl
  | true =>
    obtain ⟨k, k1, k2, e⟩ := h.2.2 hm
    have q := (can_iff _ _).mp c k k1 k2
    rw [cnt_app, cnt_rep1 _ _ (by omega), Int.toNat_of_nonneg (by omega)] at q
    omega
/-- if any candle more is enough, one of that wax is -/
theorem one_of {cs ds : List Int} {m w : Int} (h : Stb cs ds m) (c : can (cs ++ [w]) ds = true) : can (cs ++ [m]) ds = true := by
  refine (can_iff _ _).mpr fun k k1 k2 => ?_
  have q := (can_iff _ _).mp c k k1 k2
  have q2 := h.2.1 k k1 k2
  rw [cnt_app, cnt_one] at q ⊢
  by_cases a : (k : Int) < w
  · rw [if_pos a] at q
    by_cases b : (k : Int) < m
    · rw [if_pos b]
      exact q
    · rw [if_neg b]
      exact q2
  · rw [if_neg a] at q
    by_cases b : (k : Int) < m
    · rw [if_pos b]
      omega
    · rw [if_neg b]
      exact q2
theorem one_not {cs ds : List Int} {m : Int} (h : Stb cs ds m) (hm : 0 < m) : can (cs ++ [m - 1]) ds = false := by
  cases c : can (cs ++ [m - 1]) ds with
  | false => rfl
  | true =>
    obtain ⟨k, k1, k2, e⟩ := h.2.2 hm
    have q := (can_iff _ _).mp c k k1 k2
    rw [cnt_app, cnt_one] at q
    by_cases a : (k : Int) < m - 1
    · rw [if_pos a] at q
      omega
    · rw [if_neg a] at q
      omega
theorem sub_sum {S ds : List Int} (h : S.Sublist ds) (h0 : ∀ d ∈ ds, 0 ≤ d) : S.sum ≤ ds.sum := by
  induction h with
  | slnil => exact Int.le_refl _
  | cons a h ih =>
    rw [List.sum_cons]
    have := ih fun d hd => h0 d (List.mem_cons_of_mem _ hd)
    have := h0 a List.mem_cons_self
    omega
  | cons_cons a h ih =>
    rw [List.sum_cons, List.sum_cons]
    have := ih fun d hd => h0 d (List.mem_cons_of_mem _ hd)
    omega
theorem cnt_nonneg {cs : List Int} (h0 : ∀ c ∈ cs, 0 ≤ c) {k : Int} (hk : 0 ≤ k) : 0 ≤ cnt cs k := by
  induction cs with
  | nil => exact Int.le_refl _
  | cons c r ih =>
    have := ih fun x hx => h0 x (List.mem_cons_of_mem _ hx)
    have := h0 c List.mem_cons_self
    rw [cnt_cons]
    by_cases a : k < c
    · rw [if_pos a]
      omega
    · rw [if_neg a]
      omega
theorem cnt_sub {S cs : List Int} (h : S.Sublist cs) (h0 : ∀ c ∈ cs, 0 ≤ c) {k : Int} (hk : 0 ≤ k) : cnt S k ≤ cnt cs k := by
  unfold cnt
  refine sub_sum (h.map _) fun d hd => ?_
  obtain ⟨c, hc, rfl⟩ := List.mem_map.mp hd
  have := h0 c hc
  show 0 ≤ if k < c then k else c
  by_cases a : k < c
  · rw [if_pos a]
    exact hk
  · rw [if_neg a]
    exact this
theorem can_sub_cs {S cs ds : List Int} (h : S.Sublist cs) (h0 : ∀ c ∈ cs, 0 ≤ c) (c : can S ds = true) : can cs ds = true :=
  (can_iff _ _).mpr fun k k1 k2 => Int.le_trans ((can_iff _ _).mp c k k1 k2) (cnt_sub h h0 (by omega))
theorem stb_le {cs ds : List Int} {m b : Int} (h : Stb cs ds m) (h0 : ∀ c ∈ cs, 0 ≤ c) (hd : ∀ d ∈ ds, 0 ≤ d ∧ d ≤ b) (hb : 0 ≤ b) : m ≤ (b + 1) * ds.length := by
  have hpos : 0 ≤ (b + 1) * (ds.length : Int) := Int.mul_nonneg (by omega) (by omega)
  by_cases hm : 0 < m
  · obtain ⟨k, k1, k2, e⟩ := h.2.2 hm
    have hc := cnt_nonneg h0 (k := (k : Int)) (by omega)
    have hw : wnt ds k ≤ (b + 1) * ds.length := by
      rw [wnt_sum _ _ k2]
      have hs : ((srt ds).drop (ds.length - k)).sum ≤ (srt ds).sum := sub_sum (List.drop_sublist _ _) fun d hd' => (hd d ((srt_perm ds).mem_iff.mp hd')).1
      rw [perm_sum (srt_perm ds)] at hs
      have hsum : ∀ l : List Int, (∀ d ∈ l, d ≤ b) → l.sum ≤ b * l.length := by
        intro l
        induction l with
        | nil =>
          intro _
          show (0 : Int) ≤ b * ((0 : Nat) : Int)
          rw [Int.natCast_zero, Int.mul_zero]
          exact Int.le_refl _
        | cons x r ih =>
          intro hl
          have := ih fun d hd => hl d (List.mem_cons_of_mem _ hd)
          have := hl x List.mem_cons_self
          have e : ((r.length + 1 : Nat) : Int) = (r.length : Int) + 1 := by omega
          rw [List.sum_cons, List.length_cons, e, Int.mul_add, Int.mul_one]
          omega
      have := hsum ds fun d h => (hd d h).2
      rw [Int.add_mul, Int.one_mul]
      omega
    omega
  · omega
/-- the lots of some places, one by one -/
def lotsPF (ps : List Int) : List (List Int) := ps.foldl (fun found p => found ++ found.map (· ++ [p])) [[]]
theorem lotsPF_snoc (ps : List Int) (p : Int) : lotsPF (ps ++ [p]) = lotsPF ps ++ (lotsPF ps).map (· ++ [p]) := by
  unfold lotsPF
  rw [List.foldl_append]
  rfl
theorem lotsPF_len (ps : List Int) : (lotsPF ps).length = 2 ^ ps.length := by
  suffices h : ∀ (ps : List Int) (acc : List (List Int)), (ps.foldl (fun found p => found ++ found.map (· ++ [p])) acc).length = acc.length * 2 ^ ps.length by
    rw [lotsPF, h ps [[]]]
    show 1 * _ = _
    rw [Nat.one_mul]
  intro ps
  induction ps with
  | nil => intro acc; simp
  | cons p r ih =>
    intro acc
    rw [List.foldl_cons, ih, List.length_append, List.length_map, List.length_cons, Nat.pow_succ]
    have : acc.length + acc.length = acc.length * 2 := by omega
    rw [this, Nat.mul_assoc, Nat.mul_comm 2]
theorem lotsPF_nil_mem (ps : List Int) : [] ∈ lotsPF ps := by
  suffices h : ∀ (ps : List Int) (acc : List (List Int)), [] ∈ acc → [] ∈ ps.foldl (fun found p => found ++ found.map (· ++ [p])) acc from h ps [[]] List.mem_cons_self
  intro ps
  induction ps with
  | nil => intro acc h; exact h
  | cons p r ih =>
    intro acc h
    rw [List.foldl_cons]
    exact ih _ (List.mem_append_left _ h)
theorem lotsPF_lens (ps : List Int) : ∀ l ∈ lotsPF ps, l.length ≤ ps.length := by
  suffices h : ∀ (ps : List Int) (acc : List (List Int)) (n : Nat), (∀ l ∈ acc, l.length ≤ n) → ∀ l ∈ ps.foldl (fun found p => found ++ found.map (· ++ [p])) acc, l.length ≤ n + ps.length by
    intro l hl
    have := h ps [[]] 0 (fun l hl => by
      rcases List.mem_cons.mp hl with rfl | hl
      · exact Nat.le_refl _
      · cases hl) l hl
    omega
  intro ps
  induction ps with
  | nil => intro acc n h l hl; exact h l hl
  | cons p r ih =>
    intro acc n h l hl
    rw [List.foldl_cons] at hl
    have := ih _ (n + 1) (fun l hl => by
      rcases List.mem_append.mp hl with hl | hl
      · exact Nat.le_succ_of_le (h l hl)
      · obtain ⟨x, hx, rfl⟩ := List.mem_map.mp hl
        rw [List.length_append]
        exact Nat.succ_le_succ (h x hx)) l hl
    rw [List.length_cons]
    omega
/-- the candles without those at the places of a lot -/
def remF (cs lot : List Int) : List Int := (List.range cs.length).filterMap fun (i : Nat) => if (i : Int) ∈ lot then none else cs[i]?
theorem rem_sub_gen (cs : List Int) : ∀ p : Nat → Bool, ((List.range cs.length).filterMap fun i => if p i then none else cs[i]?).Sublist cs := by
  induction cs with
  | nil => intro p; exact List.Sublist.refl _
  | cons c r ih =>
    intro p
    rw [List.length_cons, List.range_succ_eq_map, List.filterMap_cons, List.filterMap_map]
    have q := ih fun i => p (i + 1)
    have e : (List.range r.length).filterMap ((fun i => if p i then none else (c :: r)[i]?) ∘ Nat.succ) = (List.range r.length).filterMap fun i => if p (i + 1) then none else r[i]? := rfl
    rw [e]
    by_cases h : p 0 = true
    · rw [if_pos h]
      exact q.cons c
    · rw [if_neg h]
      exact q.cons_cons c
theorem rem_sub (cs lot : List Int) : (remF cs lot).Sublist cs := by
  have q := rem_sub_gen cs fun i => decide ((i : Int) ∈ lot)
  simp only [decide_eq_true_eq] at q
  exact q
theorem rem_nil (cs : List Int) : remF cs [] = cs := by
  have e := fm_get (fun x : Int => some x) cs
  rw [List.filterMap_some] at e
  unfold remF
  refine Eq.trans ?_ e
  congr 1
  funext i
  rw [if_neg (fun h => nomatch h)]
  cases cs[i]? <;> rfl
def rowOf (cs ds lot : List Int) : Option (Int × List Int) := if can (remF cs lot) ds then some (-(lot.length : Int), lot) else none
/-- the lots that can be spared -/
def rowsP (cs ds : List Int) (lots : List (List Int)) : List (Int × List Int) := lots.filterMap (rowOf cs ds)
def placesF (cs : List Int) : List Int := (List.range cs.length).map fun (i : Nat) => (i : Int)
def sparedF (cs ds : List Int) : List (Int × List Int) := rowsP cs ds (lotsPF (placesF cs))
theorem spared_can {cs ds : List Int} (h : can cs ds = true) : sparedF cs ds ≠ [] := by
  intro e
  have q : ((-(([] : List Int).length : Int)), ([] : List Int)) ∈ sparedF cs ds := List.mem_filterMap.mpr ⟨[], lotsPF_nil_mem _, by rw [rowOf, rem_nil, h]; rfl⟩
  rw [e] at q
  cases q
theorem spared_not {cs ds : List Int} (h0 : ∀ c ∈ cs, 0 ≤ c) (h : can cs ds = false) : sparedF cs ds = [] := by
  refine List.filterMap_eq_nil_iff.mpr fun lot _ => ?_
  unfold rowOf
  cases c : can (remF cs lot) ds with
  | false => rfl
  | true =>
    rw [can_sub_cs (rem_sub cs lot) h0 c] at h
    cases h
theorem rowsP_snoc (cs ds : List Int) (l : List (List Int)) (lot : List Int) : rowsP cs ds (l ++ [lot]) = rowsP cs ds l ++ (rowOf cs ds lot).toList := by
  unfold rowsP
  rw [List.filterMap_append, List.filterMap_cons, List.filterMap_nil]
  cases rowOf cs ds lot <;> rfl
end LF
namespace LF
open PySem PySem.Spec PyProof.Rows L2
/-- all lots of some places, as a list of tuples -/
def LotsQ (K : PySem.W.Frag) (H : Hp) (Q : VK) (ps : List Int) : Prop := ∀ H' p xs, Same H H' → H p = none → H' p = some (.lst xs) → Paired (VS K H') xs (lotsPF ps) → Q (.ref p) H'
/-- how many lots -/
theorem lots_small {ps : List Int} (h : ps.length ≤ 8) : (lotsPF ps).length ≤ 256 := by
  rw [lotsPF_len]
  exact Nat.le_trans (Nat.pow_le_pow_right (by decide) h) (by decide)
end LF
/-! ### la_main: the keeper keeps the flame just where no spare is below nought -/
namespace LF
def mn (k w : Int) : Int := if k < w then k else w
theorem mn_le (k w : Int) : mn k w ≤ k ∧ mn k w ≤ w ∧ (mn k w = k ∨ mn k w = w) := by
  unfold mn
  by_cases h : k < w
  · rw [if_pos h]
    exact ⟨Int.le_refl _, by omega, .inl rfl⟩
  · rw [if_neg h]
    exact ⟨by omega, Int.le_refl _, .inr rfl⟩
theorem mn_lo {k w x : Int} (h1 : x ≤ k) (h2 : x ≤ w) : x ≤ mn k w := by
  rcases (mn_le k w).2.2 with e | e <;> omega
theorem mapIdx_le : ∀ (cs : List Int) (f g : Nat → Int → Int), (∀ i w, cs[i]? = some w → f i w ≤ g i w) → (cs.mapIdx f).sum ≤ (cs.mapIdx g).sum
  | [], _, _, _ => Int.le_refl _
  | c :: r, f, g, h => by
    rw [List.mapIdx_cons, List.mapIdx_cons, List.sum_cons, List.sum_cons]
    have h0 := h 0 c rfl
    have h1 := mapIdx_le r (fun i => f (i + 1)) (fun i => g (i + 1)) fun i w e => h (i + 1) w e
    omega
theorem map_mapIdx (cs : List Int) (f : Int → Int) (g : Nat → Int → Int) : (cs.mapIdx g).map f = cs.mapIdx fun i w => f (g i w) := by
  apply List.ext_getElem?
  intro j
  rw [List.getElem?_map, List.getElem?_mapIdx, List.getElem?_mapIdx, Option.map_map]
  rfl
theorem mapIdx_map' (cs : List Int) (f : Int → Int) (g : Nat → Int → Int) : (cs.map f).mapIdx g = cs.mapIdx fun i w => g i (f w) := by
  apply List.ext_getElem?
  intro j
  rw [List.getElem?_mapIdx, List.getElem?_mapIdx, List.getElem?_map, Option.map_map]
  rfl
theorem mapIdx_id (cs : List Int) (f : Int → Int) : (cs.mapIdx fun _ w => f w) = cs.map f := by
  apply List.ext_getElem?
  intro j
  rw [List.getElem?_mapIdx, List.getElem?_map]
theorem cnt_mn (cs : List Int) (k : Int) : cnt cs k = (cs.mapIdx fun _ w => mn k w).sum := by
  rw [mapIdx_id]
  rfl
theorem cnt_burnt (cs lit out : List Int) (k : Int) : cnt (burntF cs lit out) k = (cs.mapIdx fun i w => mn k (w - bit lit out i)).sum := by
  rw [burntF_eq]
  show ((cs.mapIdx fun (i : Nat) w => w - bit lit out (i : Int)).map fun w => mn k w).sum = _
  rw [map_mapIdx]
theorem bit01 (lit out : List Int) (i : Int) : bit lit out i = 0 ∨ bit lit out i = 1 := by
  unfold bit
  by_cases h : i ∈ lit ∧ i ∉ out
  · rw [if_pos h]
    exact .inr rfl
  · rw [if_neg h]
    exact .inl rfl
theorem bit_in {lit : List Int} {i : Int} (h : i ∈ lit) : bit lit [] i = 1 := if_pos ⟨h, fun z => nomatch z⟩
theorem bit_no {lit out : List Int} {i : Int} (h : i ∉ lit) : bit lit out i = 0 := if_neg fun z => h z.1
theorem sub_bits {cs lit : List Int} {d : Int} (h : Lit cs d lit) (f : Int → Int) : (cs.mapIdx fun i w => f w - bit lit [] (i : Int)).sum = (cs.map f).sum - (d + 1) := by
  have q := sum_bits lit (cs.map f) 0 h.nd fun i hi => by
    obtain ⟨k, w, e, hk, _⟩ := h.wax i hi
    have := (List.getElem?_eq_some_iff.mp hk).1
    rw [List.length_map]
    omega
  rw [mapIdx_map', h.len] at q
  exact q
/-- what the candles have behind a tick -/
theorem burnt_cnt {cs lit : List Int} {d k : Int} (h : Lit cs d lit) : cnt cs k ≤ cnt (burntF cs lit []) k ∨ cnt cs (k + 1) - (d + 1) ≤ cnt (burntF cs lit []) k := by
  by_cases hB : ∃ (j : Nat) (v : Int), cs[j]? = some v ∧ (j : Int) ∉ lit ∧ k + 1 ≤ v
  · obtain ⟨j, v, hj, hn, hv⟩ := hB
    refine .inl ?_
    rw [cnt_mn, cnt_burnt]
    refine mapIdx_le cs _ _ fun i w hi => ?_
    by_cases hl : (i : Int) ∈ lit
    · have := h.top _ hl i j w v rfl hi hj hn
      rw [bit_in hl]
      have := mn_le k w
      exact mn_lo (by omega) (by omega)
    · rw [bit_no hl, Int.sub_zero]
      exact Int.le_refl _
  · refine .inr ?_
    have e := sub_bits h (fun w => mn (k + 1) w)
    have e2 : cnt cs (k + 1) = (cs.map fun w => mn (k + 1) w).sum := rfl
    rw [e2, ← e, cnt_burnt]
    refine mapIdx_le cs _ _ fun i w hi => ?_
    have := mn_le (k + 1) w
    by_cases hl : (i : Int) ∈ lit
    · rw [bit_in hl]
      exact mn_lo (by omega) (by omega)
    · rw [bit_no hl]
      have : ¬ k + 1 ≤ w := fun z => hB ⟨i, w, hi, hl, z⟩
      exact mn_lo (by omega) (by omega)
/-- behind a tick the rest can be kept -/
theorem can_step {cs lit r : List Int} {d : Int} (h : Lit cs d lit) (c : can cs (d :: r) = true) : can (burntF cs lit []) r = true := by
  refine can_sub.mpr fun S hS hne => ?_
  have c := can_sub.mp c
  have h1 := c S (hS.cons d) hne
  have h2 := c (d :: S) (hS.cons_cons d) (fun e => nomatch e)
  rw [List.sum_cons, List.length_cons] at h2
  have e : ((S.length + 1 : Nat) : Int) = (S.length : Int) + 1 := by omega
  rw [e] at h2
  rcases burnt_cnt (k := (S.length : Int)) h with q | q <;> omega
theorem cnt_mono {a b : List Int} (hl : a.length = b.length) (h : ∀ (i : Nat) (v w : Int), a[i]? = some v → b[i]? = some w → v ≤ w) (k : Int) : cnt a k ≤ cnt b k := by
  induction a generalizing b with
  | nil =>
    cases b with
    | nil => exact Int.le_refl _
    | cons x r => cases hl
  | cons x r ih =>
    cases b with
    | nil => cases hl
    | cons y r' =>
      have q := ih (by simpa using hl) fun i v w h1 h2 => h (i + 1) v w h1 h2
      have q0 := h 0 x y rfl rfl
      rw [cnt_cons, cnt_cons]
      have := mn_le k x
      have : mn k x ≤ mn k y := mn_lo (by omega) (by omega)
      unfold mn at this
      omega
theorem can_mono_cs {a b ds : List Int} (hl : a.length = b.length) (h : ∀ (i : Nat) (v w : Int), a[i]? = some v → b[i]? = some w → v ≤ w) (c : can a ds = true) : can b ds = true :=
  (can_iff _ _).mpr fun k k1 k2 => Int.le_trans ((can_iff _ _).mp c k k1 k2) (cnt_mono hl h k)
/-- what is put out burns less -/
theorem can_step_out {cs lit out r : List Int} {d : Int} (h : Lit cs d lit) (c : can cs (d :: r) = true) : can (burntF cs lit out) r = true := by
  refine can_mono_cs (by rw [burntF_len, burntF_len]) (fun i v w hv hw => ?_) (can_step h c)
  rw [burntF_eq, List.getElem?_mapIdx] at hv hw
  cases e : cs[i]? with
  | none =>
    rw [e] at hv
    cases hv
  | some x =>
    rw [e] at hv hw
    have hv : x - bit lit [] i = v := Option.some.inj hv
    have hw : x - bit lit out i = w := Option.some.inj hw
    have hb : bit lit out i ≤ bit lit [] i := by
      by_cases hl : (i : Int) ∈ lit
      · rw [bit_in hl]
        rcases bit01 lit out i with q | q <;> omega
      · rw [bit_no hl, bit_no hl]
        exact Int.le_refl _
    omega
/-- no candle goes below nought -/
theorem burnt_nonneg {cs lit out : List Int} {d : Int} (h : Lit cs d lit) (h0 : ∀ c ∈ cs, 0 ≤ c) : ∀ c ∈ burntF cs lit out, 0 ≤ c := by
  intro c hc
  obtain ⟨i, hi⟩ := List.getElem?_of_mem hc
  rw [burntF_eq, List.getElem?_mapIdx] at hi
  cases e : cs[i]? with
  | none =>
    rw [e] at hi
    cases hi
  | some x =>
    rw [e] at hi
    have hi : x - bit lit out i = c := Option.some.inj hi
    have hx := h0 x (List.mem_of_getElem? e)
    by_cases hl : (i : Int) ∈ lit
    · obtain ⟨k, w, ek, hk, hw⟩ := h.wax _ hl
      have : i = k := by omega
      subst this
      rw [e] at hk
      cases hk
      rcases bit01 lit out i with q | q <;> omega
    · rw [bit_no hl] at hi
      omega
theorem rows_len {β : Type} : ∀ (cs : List Int) (g : Nat → Int → β), ((List.range cs.length).filterMap fun i => cs[i]?.bind fun w => if 0 < w then some (g i w) else none).length = (cs.filter fun w => decide (0 < w)).length
  | [], _ => rfl
  | c :: r, g => by
    have ih := rows_len r fun i => g (i + 1)
    rw [List.length_cons, List.range_succ_eq_map, List.filterMap_cons, List.filterMap_map, List.filter_cons]
    have e : (List.range r.length).filterMap ((fun i => (c :: r)[i]?.bind fun w => if 0 < w then some (g i w) else none) ∘ Nat.succ) = (List.range r.length).filterMap fun i => r[i]?.bind fun w => if 0 < w then some (g (i + 1) w) else none := rfl
    rw [e]
    show (match (if 0 < c then some (g 0 c) else none) with | none => (List.range r.length).filterMap fun i => r[i]?.bind fun w => if 0 < w then some (g (i + 1) w) else none | some b => b :: (List.range r.length).filterMap fun i => r[i]?.bind fun w => if 0 < w then some (g (i + 1) w) else none).length = _
    by_cases h : 0 < c
    · rw [if_pos h, if_pos (decide_eq_true h), List.length_cons, List.length_cons, ih]
    · rw [if_neg h, if_neg (by rw [decide_eq_false h]; decide), ih]
theorem cnt1 : ∀ (cs : List Int), (∀ c ∈ cs, 0 ≤ c) → cnt cs 1 = ((cs.filter fun w => decide (0 < w)).length : Int)
  | [], _ => rfl
  | c :: r, h => by
    have ih := cnt1 r fun x hx => h x (List.mem_cons_of_mem _ hx)
    have h0 := h c List.mem_cons_self
    rw [cnt_cons, ih, List.filter_cons]
    by_cases hc : 0 < c
    · rw [if_pos (decide_eq_true hc), List.length_cons]
      have e : (((r.filter fun w => decide (0 < w)).length + 1 : Nat) : Int) = ((r.filter fun w => decide (0 < w)).length : Int) + 1 := by omega
      rw [e]
      by_cases h1 : 1 < c
      · rw [if_pos h1]
        omega
      · rw [if_neg h1]
        omega
    · rw [if_neg (by omega), if_neg (by rw [decide_eq_false hc]; decide)]
      omega
/-- as many can be lit as must be -/
theorem can_lights {cs r : List Int} {d : Int} (h0 : ∀ c ∈ cs, 0 ≤ c) (c : can cs (d :: r) = true) : ∃ lit, lightsF cs d = some lit := by
  have q := can_sub.mp c [d] (List.singleton_sublist.mpr List.mem_cons_self) (fun e => nomatch e)
  have e1 : ([d] : List Int).sum = d := by
    show d + 0 = d
    omega
  rw [e1] at q
  have q : d + 1 ≤ cnt cs 1 := q
  rw [cnt1 cs h0, ← rows_len cs fun i w => ((-w, (i : Int)) : Int × Int)] at q
  have q : d + 1 ≤ ((rowsOf cs).length : Int) := q
  unfold lightsF
  rw [if_neg (by omega)]
  exact ⟨_, rfl⟩
/-- one tick taken back -/
theorem burnt_back {cs lit : List Int} {d k : Int} (h : Lit cs d lit) : cnt (burntF cs lit []) (k - 1) + (d + 1) ≤ cnt cs k := by
  have e := sub_bits h (fun w => mn k w)
  have e2 : cnt cs k = (cs.map fun w => mn k w).sum := rfl
  have q : (cs.mapIdx fun i w => mn (k - 1) (w - bit lit [] (i : Int))).sum ≤ (cs.mapIdx fun i w => mn k w - bit lit [] (i : Int)).sum := mapIdx_le cs _ _ fun i w hi => by
    have a := mn_le (k - 1) (w - bit lit [] (i : Int))
    by_cases hl : (i : Int) ∈ lit
    · rw [bit_in hl] at a ⊢
      have : mn (k - 1) (w - 1) + 1 ≤ mn k w := mn_lo (by omega) (by omega)
      omega
    · rw [bit_no hl] at a ⊢
      have : mn (k - 1) (w - 0) ≤ mn k w := mn_lo (by omega) (by omega)
      omega
  rw [cnt_burnt, e2]
  omega
theorem burnt_less (cs lit : List Int) (k : Int) : cnt (burntF cs lit []) k ≤ cnt cs k := by
  rw [cnt_mn cs, cnt_burnt]
  refine mapIdx_le cs _ _ fun i w hi => ?_
  have := mn_le k (w - bit lit [] (i : Int))
  rcases bit01 lit [] (i : Int) with q | q <;> exact mn_lo (by omega) (by omega)
theorem can_back {cs lit r : List Int} {d : Int} (h0 : ∀ c ∈ cs, 0 ≤ c) (h : Lit cs d lit) (c : can (burntF cs lit []) r = true) : can cs (d :: r) = true := by
  refine can_sub.mpr fun S hS hne => ?_
  have c := can_sub.mp c
  cases hS with
  | cons _ hS =>
    have := c S hS hne
    have := burnt_less cs lit S.length
    omega
  | cons_cons _ hS =>
    rename_i S'
    rw [List.sum_cons, List.length_cons]
    have e : ((S'.length + 1 : Nat) : Int) = (S'.length : Int) + 1 := by omega
    rw [e]
    have q := burnt_back (k := (S'.length : Int) + 1) h
    have e2 : (S'.length : Int) + 1 - 1 = S'.length := by omega
    rw [e2] at q
    by_cases hn : S' = []
    · subst hn
      have z : 0 ≤ cnt (burntF cs lit []) ((([] : List Int).length : Nat) : Int) := cnt_nonneg (burnt_nonneg h h0) (Int.le_refl _)
      have z1 : ([] : List Int).sum = 0 := rfl
      have z2 : ((([] : List Int).length : Nat) : Int) = 0 := rfl
      rw [z2] at q z
      rw [z1, z2]
      omega
    · have := c S' hS hn
      omega
/-- the law of the game: the keeper's lots go through just where it can be kept -/
theorem keeper : ∀ (ds cs : List Int), (∀ c ∈ cs, 0 ≤ c) → (∀ d ∈ ds, 0 ≤ d) → (lotsF cs ds).isSome = can cs ds
  | [], _, _, _ => rfl
  | d :: r, cs, h0, hd => by
    have hd0 := hd d List.mem_cons_self
    have hr := fun x hx => hd x (List.mem_cons_of_mem d hx)
    rw [lotsF_cons]
    cases e : lightsF cs d with
    | none =>
      show false = _
      cases c : can cs (d :: r) with
      | false => rfl
      | true =>
        obtain ⟨lit, q⟩ := can_lights h0 c
        rw [q] at e
        cases e
    | some lit =>
      have L := lights_lit hd0 e
      have ih := keeper r (burntF cs lit []) (burnt_nonneg L h0) hr
      show ((lotsF (burntF cs lit []) r).map _).isSome = _
      rw [Option.isSome_map, ih, Bool.eq_iff_iff]
      exact ⟨can_back h0 L, can_step L⟩
end LF
/-! ### la_ten: more wax, weaker draughts, other orders -/
namespace LF
theorem wnt_ge {ds S : List Int} (h : S.Sublist ds) : S.sum + S.length ≤ wnt ds S.length := by
  obtain ⟨S', hp, hs⟩ := List.exists_perm_sublist h (srt_perm ds).symm
  have hl := h.length_le
  rw [wnt_sum ds S.length hl]
  have t := top_sub (srt ds) S' (srt_up ds) hs
  rw [perm_sum hp, srt_len, hp.length_eq] at t
  omega
theorem wnt_at {ds : List Int} {k : Nat} (h : k ≤ ds.length) : ∃ S : List Int, S.Sublist ds ∧ S.length = k ∧ wnt ds k = S.sum + k := by
  have hs : ((srt ds).drop (ds.length - k)).Sublist (srt ds) := List.drop_sublist _ _
  obtain ⟨S, hp, hS⟩ := List.exists_perm_sublist hs (srt_perm ds)
  refine ⟨S, hS, ?_, ?_⟩
  · rw [hp.length_eq, List.length_drop, srt_len]
    omega
  · rw [wnt_sum ds k h, perm_sum hp]
theorem wnt_sub {es ds : List Int} {k : Nat} (h : es.Sublist ds) (hk : k ≤ es.length) : wnt es k ≤ wnt ds k := by
  obtain ⟨S, hS, hl, e⟩ := wnt_at hk
  have q := wnt_ge (hS.trans h)
  rw [hl] at q
  omega
theorem set_sub : ∀ (ds : List Int) (i : Nat) (v x : Int), ds[i]? = some x → v ≤ x → ∀ S : List Int, S.Sublist (ds.set i v) → ∃ S' : List Int, S'.Sublist ds ∧ S'.length = S.length ∧ S.sum ≤ S'.sum
  | [], _, _, _, h, _, _, _ => by simp at h
  | d :: r, 0, v, x, h, hv, S, hS => by
    have h : d = x := Option.some.inj h
    subst h
    rw [List.set_cons_zero] at hS
    cases hS with
    | cons _ hS => exact ⟨S, hS.cons d, rfl, Int.le_refl _⟩
    | cons_cons _ hS =>
      rename_i S0
      refine ⟨d :: S0, hS.cons_cons d, rfl, ?_⟩
      rw [List.sum_cons, List.sum_cons]
      omega
  | d :: r, i + 1, v, x, h, hv, S, hS => by
    rw [List.set_cons_succ] at hS
    cases hS with
    | cons _ hS =>
      obtain ⟨S', h1, h2, h3⟩ := set_sub r i v x h hv S hS
      exact ⟨S', h1.cons d, h2, h3⟩
    | cons_cons _ hS =>
      rename_i S0
      obtain ⟨S', h1, h2, h3⟩ := set_sub r i v x h hv S0 hS
      refine ⟨d :: S', h1.cons_cons d, by rw [List.length_cons, List.length_cons, h2], ?_⟩
      rw [List.sum_cons, List.sum_cons]
      omega
theorem wnt_set {ds : List Int} {i k : Nat} {v x : Int} (h : ds[i]? = some x) (hv : v ≤ x) (hk : k ≤ ds.length) : wnt (ds.set i v) k ≤ wnt ds k := by
  obtain ⟨S, hS, hl, e⟩ := wnt_at (ds := ds.set i v) (k := k) (by rw [List.length_set]; exact hk)
  obtain ⟨S', h1, h2, h3⟩ := set_sub ds i v x h hv S hS
  have q := wnt_ge h1
  rw [h2, hl] at q
  omega
/-- as good a night, or a better one -/
def Eas (cs ds cs' ds' : List Int) : Prop := ∀ k : Nat, 1 ≤ k → k ≤ ds'.length → k ≤ ds.length ∧ wnt ds' k ≤ wnt ds k ∧ cnt cs k ≤ cnt cs' k
theorem Eas.can {cs ds cs' ds' : List Int} (h : Eas cs ds cs' ds') (c : can cs ds = true) : LF.can cs' ds' = true :=
  (can_iff _ _).mpr fun k k1 k2 => by
    obtain ⟨a, b, d⟩ := h k k1 k2
    have := (can_iff _ _).mp c k k1 a
    omega
theorem Eas.stb {cs ds cs' ds' : List Int} {m n : Int} (h : Eas cs ds cs' ds') (hm : Stb cs ds m) (hn : Stb cs' ds' n) : n ≤ m := by
  by_cases h0 : 0 < n
  · obtain ⟨k, k1, k2, e⟩ := hn.2.2 h0
    obtain ⟨a, b, d⟩ := h k k1 k2
    have := hm.2.1 k k1 a
    omega
  · have := hm.1
    omega
theorem eas_cs {cs cs' : List Int} (ds : List Int) (h : ∀ k : Int, 0 ≤ k → cnt cs k ≤ cnt cs' k) : Eas cs ds cs' ds := fun k _ k2 => ⟨k2, Int.le_refl _, h k (by omega)⟩
theorem eas_set (cs : List Int) {ds : List Int} {i : Nat} {v x : Int} (h : ds[i]? = some x) (hv : v ≤ x) : Eas cs ds cs (ds.set i v) := fun k _ k2 => by
  rw [List.length_set] at k2
  exact ⟨k2, wnt_set h hv k2, Int.le_refl _⟩
theorem eas_sub (cs : List Int) {es ds : List Int} (h : es.Sublist ds) : Eas cs ds cs es := fun _ _ k2 => ⟨Nat.le_trans k2 h.length_le, wnt_sub h k2, Int.le_refl _⟩
/-- one longer -/
theorem cnt_longer {cs : List Int} {i : Nat} {x : Int} (h : cs[i]? = some x) (k : Int) : cnt cs k ≤ cnt (cs.set i (x + 1)) k :=
  cnt_mono (by rw [List.length_set]) (fun j v w hv hw => by
    by_cases e : i = j
    · subst e
      rw [List.getElem?_set_self (List.getElem?_eq_some_iff.mp h).1] at hw
      cases hw
      rw [h] at hv
      cases hv
      omega
    · rw [List.getElem?_set_ne e] at hw
      rw [hv] at hw
      cases hw
      omega) k
/-- one more -/
theorem cnt_more (cs : List Int) {w : Int} (h : 0 ≤ w) {k : Int} (hk : 0 ≤ k) : cnt cs k ≤ cnt (cs ++ [w]) k := by
  rw [cnt_app, cnt_one]
  by_cases a : k < w
  · rw [if_pos a]
    omega
  · rw [if_neg a]
    omega
theorem long_mono {cs cs' : List Int} {d : Int} {r q : Nat} (h : ∀ ds, can cs ds = true → can cs' ds = true) (h1 : can cs (List.replicate r d) = true) (h2 : can cs' (List.replicate (q + 1) d) = false) : r ≤ q := by
  by_cases c : r ≤ q
  · exact c
  · have := h _ (can_rep_mono h1 (m := q + 1) (by omega))
    rw [h2] at this
    cases this
theorem spr_le {cs cs' ds : List Int} (h : ∀ k : Int, 0 ≤ k → cnt cs k ≤ cnt cs' k) (i : Nat) (x y : Int) (hx : (spr cs ds)[i]? = some x) (hy : (spr cs' ds)[i]? = some y) : x ≤ y := by
  unfold spr at hx hy
  rw [List.getElem?_map] at hx hy
  obtain ⟨j, hj, rfl⟩ := Option.map_eq_some_iff.mp hx
  rw [hj] at hy
  have hy := (Option.some.inj hy).symm
  subst hy
  have := h ((j : Int) + 1) (by omega)
  show cnt cs ((j : Int) + 1) - wnt ds (j + 1) ≤ cnt cs' ((j : Int) + 1) - wnt ds (j + 1)
  omega
theorem wnt_perm {a b : List Int} (h : a.Perm b) (k : Nat) : wnt a k = wnt b k := by
  unfold wnt
  rw [srt_of_perm h, h.length_eq]
theorem spr_perm {cs cs' ds ds' : List Int} (h : cs.Perm cs') (g : ds.Perm ds') : spr cs ds = spr cs' ds' := by
  unfold spr
  rw [g.length_eq]
  refine List.map_congr_left fun i _ => ?_
  rw [cnt_perm h, wnt_perm g]
theorem can_perm {cs cs' ds ds' : List Int} (h : cs.Perm cs') (g : ds.Perm ds') : can cs ds = can cs' ds' := by
  unfold can
  rw [spr_perm h g]
/-- the least row comes first by its number -/
theorem rowLt (y a : Int × List Int) (e : y.1 ≠ a.1) : PySem.W.dataLt (rowD y) (rowD a) = decide (y.1 < a.1) := by
  have h1 : PySem.W.alike (.int y.1) (.int a.1) = true := by simp only [PySem.W.alike]
  rw [PySem.W.dataLt_tuple, PySem.W.dataLt_all_no h1 (by rw [PySem.PyData.eqv]; exact beq_eq_false_iff_ne.mpr e)]
  exact PySem.W.dataLt_int _ _
theorem best_fold : ∀ (rs : List (Int × List Int)) (a : Int × List Int), ∃ r, r ∈ a :: rs ∧ PySem.W.minD (rowD a) (rs.map rowD) = rowD r ∧ r.1 ≤ a.1 ∧ ∀ q ∈ rs, r.1 ≤ q.1
  | [], a => ⟨a, List.mem_cons_self, rfl, Int.le_refl _, fun q h => nomatch h⟩
  | y :: rs, a => by
    show ∃ r, r ∈ a :: y :: rs ∧ (rs.map rowD).foldl (fun a y => if PySem.W.dataLt y a then y else a) (if PySem.W.dataLt (rowD y) (rowD a) then rowD y else rowD a) = rowD r ∧ _
    have L := rowLt y a
    cases c : PySem.W.dataLt (rowD y) (rowD a) with
    | true =>
      rw [if_pos rfl]
      obtain ⟨r, h1, h2, h3, h4⟩ := best_fold rs y
      have hle : y.1 ≤ a.1 := by
        by_cases e : y.1 = a.1
        · omega
        · have L := L e
          rw [c] at L
          have := of_decide_eq_true L.symm
          omega
      refine ⟨r, List.mem_cons_of_mem _ h1, h2, by omega, fun q hq => ?_⟩
      rcases List.mem_cons.mp hq with rfl | hq
      · exact h3
      · exact h4 q hq
    | false =>
      rw [if_neg (by decide)]
      obtain ⟨r, h1, h2, h3, h4⟩ := best_fold rs a
      have hle : a.1 ≤ y.1 := by
        by_cases e : y.1 = a.1
        · omega
        · have L := L e
          rw [c] at L
          have := of_decide_eq_false L.symm
          omega
      refine ⟨r, ?_, h2, h3, fun q hq => ?_⟩
      · rcases List.mem_cons.mp h1 with rfl | h1
        · exact List.mem_cons_self
        · exact List.mem_cons_of_mem _ (List.mem_cons_of_mem _ h1)
      · rcases List.mem_cons.mp hq with rfl | hq
        · omega
        · exact h4 q hq
theorem best_min {rows : List (Int × List Int)} {r : Int × List Int} (hne : rows ≠ []) (h : rowD r = best rows) : r ∈ rows ∧ ∀ q ∈ rows, r.1 ≤ q.1 := by
  cases rows with
  | nil => exact absurd rfl hne
  | cons a rs =>
    obtain ⟨r', h1, h2, h3, h4⟩ := best_fold rs a
    have e : r = r' := rowD_inj (h.trans h2)
    subst e
    refine ⟨h1, fun q hq => ?_⟩
    rcases List.mem_cons.mp hq with rfl | hq
    · exact h3
    · exact h4 q hq
abbrev plN (n : Nat) : List Int := (List.range n).map fun (i : Nat) => (i : Int)
theorem plN_succ (n : Nat) : plN (n + 1) = plN n ++ [(n : Int)] := by
  show (List.range (n + 1)).map _ = _
  rw [List.range_succ, List.map_append]
  rfl
theorem lots_iff : ∀ (n : Nat) (l : List Int), l ∈ lotsPF (plN n) ↔ l.Sublist (plN n)
  | 0, l => by
    show l ∈ [[]] ↔ l.Sublist []
    rw [List.mem_singleton, List.sublist_nil]
  | n + 1, l => by
    rw [plN_succ, lotsPF_snoc, List.mem_append, List.mem_map]
    constructor
    · rintro (h | ⟨x, h, rfl⟩)
      · exact ((lots_iff n l).mp h).trans (List.sublist_append_left _ _)
      · exact ((lots_iff n x).mp h).append (List.Sublist.refl _)
    · intro h
      obtain ⟨l1, l2, rfl, h1, h2⟩ := List.sublist_append_iff.mp h
      cases h2 with
      | cons _ h2 =>
        rw [List.sublist_nil.mp h2, List.append_nil]
        exact .inl ((lots_iff n l1).mpr h1)
      | cons_cons _ h2 =>
        rw [List.sublist_nil.mp h2]
        exact .inr ⟨l1, (lots_iff n l1).mpr h1, rfl⟩
theorem plN_nodup (n : Nat) : (plN n).Nodup := List.pairwise_map.mpr (List.nodup_range.imp fun h z => h (by omega))
theorem sub_filter {L l : List Int} (h : l.Sublist L) : L.Nodup → (L.filter fun x => decide (x ∉ l)).length + l.length = L.length := by
  induction h with
  | slnil => intro _; rfl
  | cons a h ih =>
    rename_i l L
    intro hn
    have hn := List.nodup_cons.mp hn
    have ha : a ∉ l := fun z => hn.1 (h.mem z)
    rw [List.filter_cons, if_pos (decide_eq_true ha), List.length_cons, List.length_cons]
    have := ih hn.2
    omega
  | cons_cons a h ih =>
    rename_i l L
    intro hn
    have hn := List.nodup_cons.mp hn
    rw [List.filter_cons, if_neg (by simp), List.length_cons, List.length_cons]
    have e : (L.filter fun x => decide (x ∉ a :: l)) = L.filter fun x => decide (x ∉ l) := by
      refine List.filter_congr fun x hx => ?_
      have : x ≠ a := fun z => hn.1 (z ▸ hx)
      simp [this]
    rw [e]
    have := ih hn.2
    omega
theorem fm_len {α β : Type} (p : α → Bool) (g : α → Option β) : ∀ l : List α, (∀ x ∈ l, (g x).isSome = p x) → (l.filterMap g).length = (l.filter p).length
  | [], _ => rfl
  | x :: r, h => by
    have ih := fm_len p g r fun y hy => h y (List.mem_cons_of_mem _ hy)
    have h0 := h x List.mem_cons_self
    rw [List.filterMap_cons, List.filter_cons]
    cases e : g x with
    | none =>
      rw [e] at h0
      rw [← h0]
      exact ih
    | some y =>
      rw [e] at h0
      rw [← h0]
      show (_ :: _).length = (_ :: _).length
      rw [List.length_cons, List.length_cons, ih]
theorem rem_len {cs lot : List Int} (h : lot ∈ lotsPF (placesF cs)) : (remF cs lot).length + lot.length = cs.length := by
  have hs := (lots_iff cs.length lot).mp h
  have q := sub_filter hs (plN_nodup _)
  have e : (remF cs lot).length = ((List.range cs.length).filter fun (i : Nat) => decide ((i : Int) ∉ lot)).length := fm_len _ _ _ fun i hi => by
    have hi := List.mem_range.mp hi
    by_cases c : (i : Int) ∈ lot
    · rw [if_pos c, decide_eq_false (fun z => z c)]
      rfl
    · rw [if_neg c, decide_eq_true c, List.getElem?_eq_getElem hi]
      rfl
  have e2 : ((plN cs.length).filter fun x => decide (x ∉ lot)).length = ((List.range cs.length).filter fun (i : Nat) => decide ((i : Int) ∉ lot)).length := by
    show (((List.range cs.length).map fun (i : Nat) => (i : Int)).filter fun x => decide (x ∉ lot)).length = _
    rw [List.filter_map, List.length_map]
    rfl
  have e3 : (plN cs.length).length = cs.length := by
    show ((List.range cs.length).map _).length = _
    rw [List.length_map, List.length_range]
  omega
theorem rem_mask {R cs : List Int} (h : R.Sublist cs) : ∃ p : Nat → Bool, ((List.range cs.length).filterMap fun i => if p i = true then none else cs[i]?) = R := by
  induction h with
  | slnil => exact ⟨fun _ => true, rfl⟩
  | cons a h ih =>
    rename_i R cs
    obtain ⟨p, e⟩ := ih
    refine ⟨fun i => match i with | 0 => true | j + 1 => p j, ?_⟩
    rw [List.length_cons, List.range_succ_eq_map, List.filterMap_cons, List.filterMap_map]
    show (List.range cs.length).filterMap (fun i => if p i = true then none else cs[i]?) = _
    exact e
  | cons_cons a h ih =>
    rename_i R cs
    obtain ⟨p, e⟩ := ih
    refine ⟨fun i => match i with | 0 => false | j + 1 => p j, ?_⟩
    rw [List.length_cons, List.range_succ_eq_map, List.filterMap_cons, List.filterMap_map]
    show a :: (List.range cs.length).filterMap (fun i => if p i = true then none else cs[i]?) = _
    rw [e]
theorem fm_congr {α β : Type} {f g : α → Option β} : ∀ l : List α, (∀ x ∈ l, f x = g x) → l.filterMap f = l.filterMap g
  | [], _ => rfl
  | x :: r, h => by
    rw [List.filterMap_cons, List.filterMap_cons, h x List.mem_cons_self, fm_congr r fun y hy => h y (List.mem_cons_of_mem _ hy)]
theorem rem_is {R cs : List Int} (h : R.Sublist cs) : ∃ lot, lot ∈ lotsPF (placesF cs) ∧ remF cs lot = R := by
  obtain ⟨p, e⟩ := rem_mask h
  refine ⟨(plN cs.length).filter fun x => p x.toNat, (lots_iff _ _).mpr List.filter_sublist, ?_⟩
  rw [← e]
  refine fm_congr _ fun i hi => ?_
  have hi := List.mem_range.mp hi
  by_cases c : p i = true
  · rw [if_pos c, if_pos]
    refine List.mem_filter.mpr ⟨List.mem_map.mpr ⟨i, List.mem_range.mpr hi, rfl⟩, ?_⟩
    rw [Int.toNat_natCast]
    exact c
  · rw [if_neg c, if_neg]
    intro z
    have z := (List.mem_filter.mp z).2
    rw [Int.toNat_natCast] at z
    exact c z
theorem spared_mem {cs ds : List Int} {r : Int × List Int} (h : r ∈ sparedF cs ds) : r.2 ∈ lotsPF (placesF cs) ∧ can (remF cs r.2) ds = true ∧ r.1 = -(r.2.length : Int) := by
  obtain ⟨lot, hl, e⟩ := List.mem_filterMap.mp h
  unfold rowOf at e
  by_cases c : can (remF cs lot) ds = true
  · rw [if_pos c] at e
    cases Option.some.inj e
    exact ⟨hl, c, rfl⟩
  · rw [if_neg c] at e
    cases e
theorem spared_other {cs cs' ds ds' : List Int} (h : cs.Perm cs') (g : ds.Perm ds') {r : Int × List Int} (hr : r ∈ sparedF cs ds) : ∃ r' ∈ sparedF cs' ds', r'.1 = r.1 := by
  obtain ⟨h1, h2, h3⟩ := spared_mem hr
  obtain ⟨R', hp, hR⟩ := List.exists_perm_sublist (rem_sub cs r.2) h
  obtain ⟨lot, hl, e⟩ := rem_is hR
  have c : can (remF cs' lot) ds' = true := by
    rw [e, ← h2]
    exact can_perm hp g.symm
  refine ⟨(-(lot.length : Int), lot), List.mem_filterMap.mpr ⟨lot, hl, if_pos c⟩, ?_⟩
  have l1 := rem_len h1
  have l2 := rem_len hl
  rw [e, hp.length_eq, ← h.length_eq] at l2
  rw [h3]
  show -(lot.length : Int) = _
  omega
/-- as many can be spared in other orders -/
theorem spared_perm {cs cs' ds ds' : List Int} (h : cs.Perm cs') (g : ds.Perm ds') {r r' : Int × List Int} (c : can cs ds = true) (hr : rowD r = best (sparedF cs ds)) (hr' : rowD r' = best (sparedF cs' ds')) : r.2.length = r'.2.length := by
  have c' : can cs' ds' = true := by
    rw [← can_perm h g]
    exact c
  obtain ⟨m1, b1⟩ := best_min (spared_can c) hr
  obtain ⟨m2, b2⟩ := best_min (spared_can c') hr'
  obtain ⟨q, hq, e⟩ := spared_other h g m1
  obtain ⟨q', hq', e'⟩ := spared_other h.symm g.symm m2
  have i1 := b2 q hq
  have i2 := b1 q' hq'
  have i3 := (spared_mem m1).2.2
  have i4 := (spared_mem m2).2.2
  omega
end LF
/-! ### la_judge: places, ticks, rows, among any data -/
namespace LF
open PySem PySem.Spec PyProof.Rows L2
noncomputable def cd (P : Prop) : Bool := @decide P (Classical.propDecidable P)
theorem cd_t {P : Prop} (h : P) : cd P = true := @decide_eq_true P (Classical.propDecidable P) h
theorem cd_f {P : Prop} (h : ¬P) : cd P = false := @decide_eq_false P (Classical.propDecidable P) h
theorem cd_of {P : Prop} (h : cd P = true) : P := @of_decide_eq_true P (Classical.propDecidable P) h
theorem cd_no {P : Prop} (h : cd P = false) : ¬P := @of_decide_eq_false P (Classical.propDecidable P) h
theorem cd_iff {P Q : Prop} (h : P ↔ Q) : cd P = cd Q := by rw [propext h]
theorem cd_and {P Q : Prop} (h : P) : cd (P ∧ Q) = cd Q := cd_iff ⟨fun z => z.2, fun z => ⟨h, z⟩⟩
theorem cd_b {P : Prop} {b : Bool} (h : b = true ↔ P) : b = cd P := by
  cases b with
  | true => exact (cd_t (h.mp rfl)).symm
  | false => exact (cd_f fun z => by cases h.mpr z).symm
def IsWithin (lo hi : Int) (d : PyData) : Prop := ∃ i, d = .int i ∧ lo ≤ i ∧ i ≤ hi
def Rise (l : List Int) : Prop := ∀ (i : Nat) (x y : Int), l[i]? = some x → l[i + 1]? = some y → x < y
/-- places of n candles -/
def Pl (n : Nat) (l : List Int) : Prop := (∀ i ∈ l, 0 ≤ i ∧ i ≤ (n : Int) - 1) ∧ Rise l
def IsPlaces (n : Nat) (d : PyData) : Prop := ∃ l, d = .tuple (di l) ∧ Pl n l
/-- lit and put out -/
structure TickOk (cs : List Int) (k : Int) (lit out : List Int) : Prop where
  pl : Pl cs.length lit
  po : Pl cs.length out
  wax : ∀ j : Nat, (j : Int) ∈ lit → cs[j]? ≠ some 0
  few : (out.length : Int) ≤ k
  sub : ∀ i ∈ out, i ∈ lit
abbrev tickD (t : List Int × List Int) : PyData := .tuple [.tuple (di t.1), .tuple (di t.2)]
def IsTick (cs : List Int) (k : Int) (d : PyData) : Prop := ∃ lit out, d = tickD (lit, out) ∧ TickOk cs k lit out
def RowOk : List Int → Bool → List Int → List (List Int × List Int) → Prop
  | _, _, _, [] => True
  | _, _, [], _ :: _ => False
  | cs, fl, d :: r, t :: ts => fl = true ∧ TickOk cs d t.1 t.2 ∧ RowOk (burntF cs t.1 t.2) (decide (t.2.length < t.1.length)) r ts
def IsRow (cs ds : List Int) (d : PyData) : Prop := ∃ ts, d = .list (ts.map tickD) ∧ RowOk cs true ds ts
theorem all_within {lo hi : Int} : ∀ {ds : List PyData}, (∀ d ∈ ds, IsWithin lo hi d) → ∃ l, ds = di l ∧ ∀ i ∈ l, lo ≤ i ∧ i ≤ hi
  | [], _ => ⟨[], rfl, fun i h => nomatch h⟩
  | d :: r, h => by
    obtain ⟨l, e, hl⟩ := all_within fun x hx => h x (List.mem_cons_of_mem _ hx)
    obtain ⟨i, rfl, h1, h2⟩ := h d List.mem_cons_self
    refine ⟨i :: l, by rw [e]; rfl, fun j hj => ?_⟩
    rcases List.mem_cons.mp hj with rfl | hj
    · exact ⟨h1, h2⟩
    · exact hl j hj
theorem dp_int {K : PySem.W.Frag} {H : Hp} {v : V} {i : Int} (h : Dp K H v (.int i)) : v = .int i := by
  cases h
  rfl
theorem dpall_ints {K : PySem.W.Frag} {H : Hp} : ∀ {vs : List V} {l : List Int}, DpAll K H vs (di l) → vs = vi l
  | [], [], _ => rfl
  | [], _ :: _, h => by cases h
  | _ :: _, [], h => by cases h
  | v :: vs, i :: l, h => by
    cases h with
    | cons h t =>
      rw [dp_int h, dpall_ints t]
      rfl
theorem dp_tup_get {K : PySem.W.Frag} {H : Hp} {v : V} {ds : List PyData} (h : Dp K H v (.tuple ds)) : ∃ p vs, v = .ref p ∧ SqT K H p vs ∧ DpAll K H vs ds := by
  cases h with
  | tup h a => exact ⟨_, _, rfl, h, a⟩
theorem dp_lst_get {K : PySem.W.Frag} {H : Hp} {v : V} {ds : List PyData} (h : Dp K H v (.list ds)) : ∃ p vs, v = .ref p ∧ SqL K H p vs ∧ DpAll K H vs ds := by
  cases h with
  | lst h a => exact ⟨_, _, rfl, h, a⟩
theorem dp_tints {K : PySem.W.Frag} {H : Hp} {v : V} {l : List Int} (h : Dp K H v (.tuple (di l))) : ∃ p, v = .ref p ∧ SqT K H p (vi l) := by
  obtain ⟨p, vs, e, hs, ha⟩ := dp_tup_get h
  rw [dpall_ints ha] at hs
  exact ⟨p, e, hs⟩
theorem dpall_get1 {K : PySem.W.Frag} {H : Hp} : ∀ {vs : List V} {ds : List PyData} {i : Nat} {v : V}, DpAll K H vs ds → vs[i]? = some v → ∃ d, ds[i]? = some d ∧ Dp K H v d
  | _, _, i, d, .nil, e => by simp at e
  | _, _, 0, d, .cons h _, e => by
    cases Option.some.inj e
    exact ⟨_, rfl, h⟩
  | _, _, i + 1, d, .cons _ t, e => dpall_get1 (i := i) t e
theorem dpall_app {K : PySem.W.Frag} {H : Hp} : ∀ {vs ws : List V} {ds es : List PyData}, DpAll K H vs ds → DpAll K H ws es → DpAll K H (vs ++ ws) (ds ++ es)
  | _, _, _, _, .nil, h => h
  | _, _, _, _, .cons h t, g => .cons h (dpall_app t g)
theorem is_tup {d : PyData} (h : dis "tuple" d = true) : ∃ ds, d = .tuple ds := by
  cases d with
  | tuple ds => exact ⟨ds, rfl⟩
  | _ => cases h
theorem is_lst {d : PyData} (h : dis "list" d = true) : ∃ ds, d = .list ds := by
  cases d with
  | list ds => exact ⟨ds, rfl⟩
  | _ => cases h
theorem is_int {d : PyData} (h1 : dis "int" d = true) (h2 : dis "bool" d = false) : ∃ i, d = .int i := by
  cases d with
  | int i => exact ⟨i, rfl⟩
  | bool _ => cases h2
  | _ => cases h1
theorem sat_map {α : Type} (p : α → Bool) (l : List α) : (l.map p).all id = true ↔ ∀ x ∈ l, p x = true := by
  rw [List.all_map, List.all_eq_true]
  exact Iff.rfl
/-- so many numbers, none beyond -/
def IsAre (least most top : Int) (d : PyData) : Prop := ∃ l : List Int, d = .tuple (di l) ∧ least ≤ l.length ∧ (l.length : Int) ≤ most ∧ ∀ i ∈ l, 0 ≤ i ∧ i ≤ top
theorem are_iff {least most top : Int} {ds : List PyData} (h1 : least ≤ ds.length) (h2 : (ds.length : Int) ≤ most) : IsAre least most top (.tuple ds) ↔ ∀ d ∈ ds, IsWithin 0 top d := by
  constructor
  · rintro ⟨l, e, _, _, h⟩ d hd
    have e := PyData.tuple.inj e
    rw [e] at hd
    obtain ⟨i, hi, rfl⟩ := List.mem_map.mp hd
    exact ⟨i, rfl, h i hi⟩
  · intro h
    obtain ⟨l, rfl, hl⟩ := all_within h
    rw [List.length_map] at h1 h2
    exact ⟨l, rfl, h1, h2, hl⟩
theorem are_len {least most top : Int} {ds : List PyData} (h : IsAre least most top (.tuple ds)) : least ≤ ds.length ∧ (ds.length : Int) ≤ most := by
  obtain ⟨l, e, h1, h2, _⟩ := h
  rw [PyData.tuple.inj e, List.length_map]
  exact ⟨h1, h2⟩
theorem are_all {least most top : Int} {ds : List PyData} (h1 : least ≤ ds.length) (h2 : (ds.length : Int) ≤ most) : (ds.map fun x => cd (IsWithin 0 top x)).all id = cd (IsAre least most top (.tuple ds)) :=
  cd_b (by rw [sat_map, are_iff h1 h2]; exact ⟨fun h x hx => cd_of (h x hx), fun h x hx => cd_t (h x hx)⟩)
end LF
/-! ### la_drawn: data that is drawn from the tape, whatever it be -/
namespace LF
open PySem PySem.Spec PyProof.Rows L2
/-- the heap without what is written yet -/
noncomputable def hid (B : Addr → Prop) (H : Hp) : Hp := fun a => @ite _ (B a) (Classical.propDecidable _) none (H a)
theorem hid_get {B : Addr → Prop} {H : Hp} {a : Addr} {u : HO} (h : H a = some u) (n : ¬B a) : hid B H a = some u := by
  unfold hid
  rw [if_neg n]
  exact h
theorem hid_of {B : Addr → Prop} {H : Hp} {a : Addr} {u : HO} (h : hid B H a = some u) : H a = some u ∧ ¬B a := by
  unfold hid at h
  by_cases c : B a
  · rw [if_pos c] at h
    cases h
  · rw [if_neg c] at h
    exact ⟨h, c⟩
theorem hid_same {B B' : Addr → Prop} {H H' : Hp} (h : ∀ a u, H a = some u → ¬B a → H' a = some u ∧ ¬B' a) : Same (hid B H) (hid B' H') := fun a u e => by
  obtain ⟨e1, n1⟩ := hid_of e
  obtain ⟨e2, n2⟩ := h a u e1 n1
  exact hid_get e2 n2
theorem hid_le {B : Addr → Prop} {H : Hp} : Same (hid B H) H := fun a u e => (hid_of e).1
theorem hid_smt {B : Addr → Prop} {H H' : Hp} {t : Addr} (s : Smt t H H') (b : B t) : Same (hid B H) (hid B H') := hid_same fun a u e n => ⟨s a u e fun z => n (z ▸ b), n⟩
theorem hid_s {B : Addr → Prop} {H H' : Hp} (s : Same H H') : Same (hid B H) (hid B H') := hid_same fun a u e n => ⟨s a u e, n⟩
def addB (B : Addr → Prop) (r : Addr) : Addr → Prop := fun a => B a ∨ a = r
theorem hid_add {B : Addr → Prop} {H H' : Hp} {t r : Addr} (s : Smt t H H') (b : B t) (n : H r = none) : Same (hid B H) (hid (addB B r) H') := hid_same fun a u e na => ⟨s a u e fun z => na (z ▸ b), fun z => by
  rcases z with z | z
  · exact na z
  · rw [z, n] at e
    cases e⟩
theorem hid_drop {B : Addr → Prop} {H : Hp} {r : Addr} : Same (hid (addB B r) H) (hid B H) := hid_same fun a u e n => ⟨e, fun z => n (.inl z)⟩
theorem hid_mut {B : Addr → Prop} {H : Hp} {r : Addr} {o : HO} (b : B r) : Same (hid B H) (hid B (upd H r o)) := hid_same fun a u e n => ⟨by have c : a ≠ r := (fun z => by subst z; exact n b); rw [upd_ne c]; exact e, n⟩
/-- what is hidden stands -/
def Bk (B : Addr → Prop) (H : Hp) : Prop := ∀ a, B a → ∃ u, H a = some u
theorem Bk.fresh {B : Addr → Prop} {H : Hp} {p : Addr} (h : Bk B H) (n : H p = none) : ¬B p := fun b => by
  obtain ⟨u, e⟩ := h p b
  rw [n] at e
  cases e
theorem Bk.same {B : Addr → Prop} {H H' : Hp} (h : Bk B H) (s : Same H H') : Bk B H' := fun a b => by
  obtain ⟨u, e⟩ := h a b
  exact ⟨u, s a u e⟩
theorem Bk.smt {B : Addr → Prop} {H H' : Hp} {t l : Addr} (h : Bk B H) (s : Smt t H H') (hT : TapeAt H' t l) : Bk B H' := fun a b => by
  obtain ⟨u, e⟩ := h a b
  by_cases c : a = t
  · subst c
    obtain ⟨xs, e⟩ := hT.ex
    exact ⟨_, e⟩
  · exact ⟨u, s a u e c⟩
theorem Bk.upd {B : Addr → Prop} {H : Hp} {r : Addr} {o : HO} (h : Bk B H) : Bk B (upd H r o) := fun a b => by
  by_cases c : a = r
  · subst c
    exact ⟨o, upd_same⟩
  · rw [upd_ne c]
    exact h a b
theorem Bk.add {B : Addr → Prop} {H : Hp} {r : Addr} {o : HO} (h : Bk B H) (e : H r = some o) : Bk (addB B r) H := fun a b => by
  rcases b with b | b
  · exact h a b
  · rw [b]
    exact ⟨o, e⟩
/-- data less than n deep, none longer than m -/
def Fz (m : Nat) : Nat → PyData → Prop
  | 0, _ => False
  | n + 1, .list ds => ds.length ≤ m ∧ ∀ d ∈ ds, Fz m n d
  | n + 1, .tuple ds => ds.length ≤ m ∧ ∀ d ∈ ds, Fz m n d
  | _ + 1, .dict _ => False
  | _ + 1, .str x => x.length ≤ m
  | _ + 1, _ => True
theorem Fz.mono {m m' : Nat} (hm : m ≤ m') : ∀ {n n' : Nat} {d : PyData}, n ≤ n' → Fz m n d → Fz m' n' d
  | 0, _, _, _, h => h.elim
  | n + 1, 0, _, hn, _ => absurd hn (by omega)
  | n + 1, n' + 1, .list ds, hn, h => ⟨Nat.le_trans h.1 hm, fun d hd => Fz.mono hm (by omega) (h.2 d hd)⟩
  | n + 1, n' + 1, .tuple ds, hn, h => ⟨Nat.le_trans h.1 hm, fun d hd => Fz.mono hm (by omega) (h.2 d hd)⟩
  | n + 1, n' + 1, .dict _, hn, h => h.elim
  | n + 1, n' + 1, .str _, hn, h => Nat.le_trans h hm
  | n + 1, n' + 1, .none, hn, h => True.intro
  | n + 1, n' + 1, .bool _, hn, h => True.intro
  | n + 1, n' + 1, .int _, hn, h => True.intro
theorem Fz.fit {m : Nat} (hm : m ≤ 1000) : ∀ {n : Nat} {d : PyData}, Fz m n d → Fit n d
  | 0, _, h => h.elim
  | n + 1, .list ds, h => ⟨Nat.le_trans h.1 hm, fun d hd => Fz.fit hm (h.2 d hd)⟩
  | n + 1, .tuple ds, h => ⟨Nat.le_trans h.1 hm, fun d hd => Fz.fit hm (h.2 d hd)⟩
  | n + 1, .dict _, h => h.elim
  | n + 1, .str _, h => True.intro
  | n + 1, .none, h => True.intro
  | n + 1, .bool _, h => True.intro
  | n + 1, .int _, h => True.intro
theorem fz_ints {m n : Nat} {l : List Int} (h : l.length ≤ m) : Fz m (n + 2) (.tuple (di l)) := ⟨by rw [List.length_map]; exact h, fun d hd => by
  obtain ⟨i, _, rfl⟩ := List.mem_map.mp hd
  exact True.intro⟩
theorem fz_lints {m n : Nat} {l : List Int} (h : l.length ≤ m) : Fz m (n + 2) (.list (di l)) := ⟨by rw [List.length_map]; exact h, fun d hd => by
  obtain ⟨i, _, rfl⟩ := List.mem_map.mp hd
  exact True.intro⟩
theorem dpall_set {K : PySem.W.Frag} {H : Hp} {v : V} {d : PyData} (hv : Dp K H v d) : ∀ {vs : List V} {ds : List PyData} (i : Nat), DpAll K H vs ds → DpAll K H (vs.set i v) (ds.set i d)
  | _, _, _, .nil => .nil
  | _, _, 0, .cons _ t => .cons hv t
  | _, _, i + 1, .cons h t => .cons h (dpall_set hv i t)
theorem dpall_take {K : PySem.W.Frag} {H : Hp} : ∀ {vs : List V} {ds : List PyData} (i : Nat), DpAll K H vs ds → DpAll K H (vs.take i) (ds.take i)
  | _, _, 0, _ => .nil
  | _, _, _ + 1, .nil => .nil
  | _, _, i + 1, .cons h t => .cons h (dpall_take i t)
theorem dpall_drop {K : PySem.W.Frag} {H : Hp} : ∀ {vs : List V} {ds : List PyData} (i : Nat), DpAll K H vs ds → DpAll K H (vs.drop i) (ds.drop i)
  | _, _, 0, h => h
  | _, _, _ + 1, .nil => .nil
  | _, _, i + 1, .cons _ t => dpall_drop i t
theorem dpall_erase {K : PySem.W.Frag} {H : Hp} : ∀ {vs : List V} {ds : List PyData} (i : Nat), DpAll K H vs ds → DpAll K H (vs.eraseIdx i) (ds.eraseIdx i)
  | _, _, _, .nil => .nil
  | _, _, 0, .cons _ t => t
  | _, _, i + 1, .cons h t => .cons h (dpall_erase i t)
theorem dpall_rev {K : PySem.W.Frag} {H : Hp} : ∀ {vs : List V} {ds : List PyData}, DpAll K H vs ds → DpAll K H vs.reverse ds.reverse
  | _, _, .nil => .nil
  | _, _, .cons h t => by
    rw [List.reverse_cons, List.reverse_cons]
    exact dpall_app (dpall_rev t) (.cons h .nil)
section
variable {X : Cx}
theorem lenA (K : PySem.W.Frag) (h : X.K = K := by rfl) : CallR X (.builtin "len") (fun xs H Q => ∃ x n, xs = [x] ∧ LenV K x H n ∧ Q (.int n) H) := by subst h; exact call_len
end
theorem str_len (x : Str) : x.length = x.cps.toList.length := (Array.length_toList).symm
theorem slice_to_len (x : Str) {i : Int} (h : 0 ≤ i) : (Txt.slice x none (some i)).length ≤ x.length := by
  have e : x = SX.S x.cps.toList := by
    cases x
    rfl
  rw [e, SX.slice_to h, SX.S_len, SX.S_len, List.length_take]
  exact Nat.min_le_right _ _
theorem slice_from_len (x : Str) {i : Int} (h : 0 ≤ i) : (Txt.slice x (some i) none).length ≤ x.length := by
  have e : x = SX.S x.cps.toList := by
    cases x
    rfl
  rw [e, SX.slice_from h, SX.S_len, SX.S_len, List.length_drop]
  exact Nat.sub_le _ _
theorem str_app_len (x y : Str) : (x ++ y).length = x.length + y.length := by
  show (x.cps ++ y.cps).size = _
  rw [Array.size_append]
  rfl
theorem at_in {xs : List V} {i : Int} (h0 : 0 ≤ i) (h1 : i < xs.length) : ∃ v, atI xs i = some v ∧ v ∈ xs := by
  obtain ⟨k, rfl⟩ := Int.eq_ofNat_of_zero_le h0
  have hk : k < xs.length := by omega
  exact ⟨xs[k], atI_nat (List.getElem?_eq_getElem hk), List.getElem_mem hk⟩
theorem fz_pair {m n : Nat} (h : 2 ≤ m) (a b : Int) : Fz m (n + 2) (.tuple [.int a, .int b]) := ⟨h, fun d hd => by
  rcases List.mem_cons.mp hd with rfl | hd
  · exact True.intro
  · rcases List.mem_cons.mp hd with rfl | hd
    · exact True.intro
    · cases hd⟩
theorem slice_both (x : Str) {i : Int} (h : 0 ≤ i) : (Txt.slice x none (some i)).length + (Txt.slice x (some i) none).length = x.length := by
  have e : x = SX.S x.cps.toList := by
    cases x
    rfl
  rw [e, SX.slice_to h, SX.slice_from h, SX.S_len, SX.S_len, SX.S_len, List.length_take, List.length_drop]
  omega
def seqD (tp : Bool) (ds : List PyData) : PyData := if tp = true then .tuple ds else .list ds
theorem seq_get {K : PySem.W.Frag} {H : Hp} {v : V} {d : PyData} (h : Dp K H v d) (hs : isSeq d = true) : ∃ (tp : Bool) (p : Addr) (xs : List V) (ds : List PyData), v = .ref p ∧ SqB K tp H p xs ∧ DpAll K H xs ds ∧ d = seqD tp ds := by
  cases h with
  | lst h a => exact ⟨false, _, _, _, rfl, h, a, rfl⟩
  | tup h a => exact ⟨true, _, _, _, rfl, h, a, rfl⟩
  | _ => cases hs
theorem seqD_dis (tp : Bool) (ds : List PyData) : dis "tuple" (seqD tp ds) = tp := by
  cases tp <;> rfl
theorem seqD_fz {m n : Nat} {tp : Bool} {ds : List PyData} : Fz m (n + 1) (seqD tp ds) ↔ ds.length ≤ m ∧ ∀ d ∈ ds, Fz m n d := by
  cases tp <;> exact Iff.rfl
theorem seqD_dp {K : PySem.W.Frag} {H : Hp} {p : Addr} {xs : List V} {ds : List PyData} {tp : Bool} (h : SqB K tp H p xs) (a : DpAll K H xs ds) : Dp K H (.ref p) (seqD tp ds) := by
  cases tp with
  | false => exact .lst h a
  | true => exact .tup h a
theorem lenV_b {K : PySem.W.Frag} {H : Hp} {p : Addr} {xs : List V} {tp : Bool} (h : SqB K tp H p xs) : LenV K (.ref p) H xs.length := by
  cases tp with
  | false => exact .inl ⟨xs, h, rfl⟩
  | true => exact .inr ⟨xs, h, rfl⟩
theorem kit_names_str (d : PyData) {K : PySem.W.Frag} : PySem.W.kitOne K (.type (dty d)) (.type "str") = some (dis "str" d) := kit_d d (by simp)
theorem is_str {d : PyData} (h : dis "str" d = true) : ∃ x, d = .str x := by
  cases d with
  | str x => exact ⟨x, rfl⟩
  | _ => cases h
theorem dp_str {K : PySem.W.Frag} {H : Hp} {v : V} {x : Str} (h : Dp K H v (.str x)) : v = .str x := by
  cases h
  rfl
theorem not_seq_of {d : PyData} (h : dis "tuple" d = true) : isSeq d = true := by
  obtain ⟨ds, rfl⟩ := is_tup h
  rfl
theorem ix_nat {n j : Nat} (hj : j < n) : ixN n (j : Int) = some j := by
  unfold ixN
  rw [if_pos (by omega), if_pos (by omega)]
  rfl
theorem tup_ne {H : Hp} {t l a : Addr} {xs : List V} (hT : TapeAt H t l) (h : H a = some (.tup xs)) : ¬ a = t := fun z => by
  obtain ⟨ys, e⟩ := hT.ex
  rw [z, e] at h
  cases h
theorem bk_t {H : Hp} {t l : Addr} (hT : TapeAt H t l) : Bk (fun a => a = t) H := fun a b => by
  obtain ⟨ys, e⟩ := hT.ex
  exact ⟨_, b ▸ e⟩
/-- data that stand apart from the tape -/
def Apart (K : PySem.W.Frag) (t : Addr) (H : Hp) (v : V) : Prop := ∃ e, Dp K (hid (fun a => a = t) H) v e ∧ Fz 27 8 e
theorem Apart.same {K : PySem.W.Frag} {t : Addr} {H H' : Hp} {v : V} (s : Same H H') (h : Apart K t H v) : Apart K t H' v := by
  obtain ⟨e, h, f⟩ := h
  exact ⟨e, h.same (hid_s s), f⟩
theorem apart_all {K : PySem.W.Frag} {t : Addr} {H : Hp} : ∀ {vs : List V}, (∀ v ∈ vs, Apart K t H v) → ∃ es, DpAll K (hid (fun a => a = t) H) vs es ∧ ∀ e ∈ es, Fz 27 8 e
  | [], _ => ⟨[], .nil, fun e h => nomatch h⟩
  | v :: r, h => by
    obtain ⟨e, h1, f1⟩ := h v List.mem_cons_self
    obtain ⟨es, h2, f2⟩ := apart_all fun x hx => h x (List.mem_cons_of_mem _ hx)
    refine ⟨e :: es, .cons h1 h2, fun x hx => ?_⟩
    rcases List.mem_cons.mp hx with rfl | hx
    · exact f1
    · exact f2 x hx
theorem apart_tup {K : PySem.W.Frag} {H : Hp} {t l a : Addr} {ns : List Int} (hT : TapeAt H t l) (h : H a = some (.tup (vi ns))) (hl : ns.length ≤ 27) : Apart K t H (.ref a) := ⟨.tuple (di ns), dp_tup (SqT.of (hid_get h (tup_ne hT h))), fz_ints hl⟩
theorem apart_lst {K : PySem.W.Frag} {H : Hp} {t a : Addr} {ns : List Int} (n : a ≠ t) (h : H a = some (.lst (vi ns))) (hl : ns.length ≤ 27) : Apart K t H (.ref a) := ⟨.list (di ns), dp_list (SqL.of (hid_get h n)), fz_lints hl⟩
theorem apart_one {K : PySem.W.Frag} {H : Hp} {t l a : Addr} {v : V} {d : PyData} (hT : TapeAt H t l) (h : H a = some (.tup [v])) (hv : Dp K (hid (fun a => a = t) H) v d) (hf : Fz 27 7 d) : Apart K t H (.ref a) := ⟨.tuple [d], .tup (SqT.of (hid_get h (tup_ne hT h))) (.cons hv .nil), ⟨by show 1 ≤ 27; decide, fun x hx => by
  rw [List.mem_singleton.mp hx]
  exact hf⟩⟩
theorem mem_app_all {α : Type} {P : α → Prop} {a b : List α} (h : ∀ x ∈ a, P x) (g : ∀ x ∈ b, P x) : ∀ x ∈ a ++ b, P x := fun x hx => by
  rcases List.mem_append.mp hx with hx | hx
  · exact h x hx
  · exact g x hx
/-- one thing more in a list o, on the way the tape t is read -/
theorem grow_keep {H H' : Hp} {t o : Addr} {u : HO} (s : Smt t H H') {a : Addr} {x : HO} (h : H a = some x) (ht : a ≠ t) (ho : a ≠ o) : (upd H' o u) a = some x := by
  rw [upd_ne ho]
  exact s _ _ h ht
theorem lst_ne {H : Hp} {o a : Addr} {xs ys : List V} (hO : H o = some (.lst ys)) (h : H a = some (.tup xs)) : a ≠ o := fun z => by
  rw [z, hO] at h
  cases h
theorem grow_data {K : PySem.W.Frag} {H H' : Hp} {t o : Addr} {ws : List V} {es : List PyData} {w : V} {e : PyData} (s : Smt t H H') (he : DpAll K (hid (addB (fun a => a = t) o) H) ws es) (hf : ∀ e ∈ es, Fz 27 8 e) (hw : Dp K (hid (addB (fun a => a = t) o) H') w e) (hwf : Fz 27 8 e) :
    DpAll K (hid (addB (fun a => a = t) o) (upd H' o (.lst (ws ++ [w])))) (ws ++ [w]) (es ++ [e]) ∧ (∀ x ∈ es ++ [e], Fz 27 8 x) := by
  have hm : Same (hid (addB (fun a => a = t) o) H') (hid (addB (fun a => a = t) o) (upd H' o (.lst (ws ++ [w])))) := hid_mut (.inr rfl)
  exact ⟨dpall_app (DpAll.same ((hid_smt s (.inl rfl)).trans hm) he) (.cons (hw.same hm) .nil), all_snoc hf hwf⟩
end LF
/-! ### la_kw: calls by names alone -/
namespace LF
open PySem PySem.Spec PyProof.Rows L2
def tCallK0 (m : Nat) (sp : Sp) (gV : List V → List V → List V) (E : XK) (tk : TA) : TE := fun σ H Q => tk σ H fun zs H2 => zs.length = m ∧ sp (gV [] zs) H2 Q E
section
variable {X : Cx} {CX : CXT} {k : Nat} {f : Addr} {fd : FuncData} {ps ks : List Str} {sp : Sp} {E : XK} {x : Str} {p pos : Pos} {kws : List Keyword} {tk : TA} {g : List Value → List Value → List Value} {gV : List V → List V → List V}
theorem pe_callK0 (F : FnOk X.prog X.w X.K X.mg X.base CX k f fd ps sp) (hr : Room k X.A) (hg : Gl X x) (hm : X.mg x = some (.ref f)) (hk : PySem.W.keepIn X.K (.ref f) = true) (hb : KBn X.K fd ps 0 ks g gV) (hx : Passes CX X E)
    (hkw : PK X kws tk) (hall : (backToKw pos (keywordEach kws X.env)).all (·.1.isSome) = true := by rfl) (hks : (backToKw pos (keywordEach kws X.env)).filterMap (·.1) = ks := by rfl)
    (hdb : (x == ("__debug__" : Str)) = false := by decide) (hpl : ((backTo pos (starEach [] X.env)).any (·.1) || (backToKw pos (keywordEach kws X.env)).any (·.1.isNone)) = false := by rfl) :
    PE X (.Call (.Name x p) [] kws pos) (tCallK0 ks.length sp gV E tk) := by
  refine ⟨fun pins s σ H Q I h => ?_⟩
  refine wpAny_Call_Name_kw (ld_glob I hg hm ?_ hdb)
  refine PySem.W.callWith_KW0 (h₀ := X.base) I.ok.mod.kin hk hall (thn (hkw.run pos pins s σ H _ I h) fun ws s2 ⟨zs, H2, I2, rz, l2, q2⟩ => ⟨I2.kIn, ?_⟩) hpl
  rw [hks]
  exact run_fnN F hr hb hx I2 .nil rz rfl l2 q2
end
section
variable {K : PySem.W.Frag} {x qual : Str} {st : Stmt} {f : Addr} {fd : FuncData} {ps ks : List Str}
/-- the names in the parameters' order -/
theorem kb_same (F : Fun K x qual st f fd) (h : ∀ (kV doc pm : Value) (an : Option Addr) (cdv ct : Value) (us ws : List Value), us.length = 0 → ws.length = ks.length → bindArgs (PySem.W.fnOf x qual (defArgs st) (defBody st) (defScope st) .none kV doc pm an cdv ct) ⟨us, ks.zip ws⟩ = pure (ps.zip ws)) : KBn K fd ps 0 ks (fun _ ws => ws) (fun _ zs => zs) := by
  obtain ⟨oc, od, kV, doc, pm, an, cdv, ct, osl, rfl, lk, hcd⟩ := F.ex
  exact ⟨fun s us ws _ l1 l2 => .of_eq (h kV doc pm an cdv ct us ws l1 l2), fun _ r => r⟩
theorem vals_rev : ∀ {vs : List V} {us : List Value}, Vals vs us → Vals vs.reverse us.reverse := fun h => by
  induction h with
  | nil => exact .nil
  | cons r t ih =>
    rw [List.reverse_cons, List.reverse_cons]
    exact paired_app ih (.cons r .nil)
/-- the last first -/
theorem kb_rev (F : Fun K x qual st f fd) (h : ∀ (kV doc pm : Value) (an : Option Addr) (cdv ct : Value) (us ws : List Value), us.length = 0 → ws.length = ks.length → bindArgs (PySem.W.fnOf x qual (defArgs st) (defBody st) (defScope st) .none kV doc pm an cdv ct) ⟨us, ks.zip ws⟩ = pure (ps.zip ws.reverse)) : KBn K fd ps 0 ks (fun _ ws => ws.reverse) (fun _ zs => zs.reverse) := by
  obtain ⟨oc, od, kV, doc, pm, an, cdv, ct, osl, rfl, lk, hcd⟩ := F.ex
  exact ⟨fun s us ws _ l1 l2 => .of_eq (h kV doc pm an cdv ct us ws l1 l2), fun _ r => vals_rev r⟩
end
end LF
/-! ### la_case: written cases, by a sorting that can be gone through -/
namespace LF
open PySem PySem.Spec PyProof.Rows L2
def insI (x : Int) : List Int → List Int
  | [] => [x]
  | y :: r => if x ≤ y then x :: y :: r else y :: insI x r
def srtI : List Int → List Int
  | [] => []
  | x :: r => insI x (srtI r)
theorem insI_perm (x : Int) : ∀ l, (insI x l).Perm (x :: l)
  | [] => List.Perm.refl _
  | y :: r => by
    unfold insI
    by_cases h : x ≤ y
    · rw [if_pos h]
    · rw [if_neg h]
      exact ((insI_perm x r).cons y).trans (List.Perm.swap x y r)
theorem insI_up (x : Int) : ∀ l : List Int, l.Pairwise (· ≤ ·) → (insI x l).Pairwise (· ≤ ·)
  | [], _ => List.pairwise_singleton _ _
  | y :: r, h => by
    unfold insI
    obtain ⟨h1, h2⟩ := List.pairwise_cons.mp h
    by_cases c : x ≤ y
    · rw [if_pos c]
      refine List.pairwise_cons.mpr ⟨fun z hz => ?_, h⟩
      rcases List.mem_cons.mp hz with rfl | hz
      · exact c
      · exact Int.le_trans c (h1 z hz)
    · rw [if_neg c]
      refine List.pairwise_cons.mpr ⟨fun z hz => ?_, insI_up x r h2⟩
      rcases List.mem_cons.mp ((insI_perm x r).mem_iff.mp hz) with rfl | hz
      · omega
      · exact h1 z hz
theorem srtI_perm : ∀ l, (srtI l).Perm l
  | [] => List.Perm.refl _
  | x :: r => (insI_perm x (srtI r)).trans ((srtI_perm r).cons x)
theorem srtI_up : ∀ l, (srtI l).Pairwise (· ≤ ·)
  | [] => .nil
  | x :: r => insI_up x _ (srtI_up r)
theorem srt_I (l : List Int) : srt l = srtI l := (srt_is (srtI_perm l) (srtI_up l)).symm
def insP (x : Int × Int) : List (Int × Int) → List (Int × Int)
  | [] => [x]
  | y :: r => if leP x y = true then x :: y :: r else y :: insP x r
def srtPI : List (Int × Int) → List (Int × Int)
  | [] => []
  | x :: r => insP x (srtPI r)
theorem insP_perm (x : Int × Int) : ∀ l, (insP x l).Perm (x :: l)
  | [] => List.Perm.refl _
  | y :: r => by
    unfold insP
    by_cases h : leP x y = true
    · rw [if_pos h]
    · rw [if_neg h]
      exact ((insP_perm x r).cons y).trans (List.Perm.swap x y r)
theorem leP_or (x y : Int × Int) (h : ¬ leP x y = true) : leP y x = true := by
  rw [leP_iff] at *
  omega
theorem leP_tr {x y z : Int × Int} (h1 : leP x y = true) (h2 : leP y z = true) : leP x z = true := by
  rw [leP_iff] at *
  omega
theorem insP_up (x : Int × Int) : ∀ l : List (Int × Int), l.Pairwise (fun p q => leP p q = true) → (insP x l).Pairwise (fun p q => leP p q = true)
  | [], _ => List.pairwise_singleton _ _
  | y :: r, h => by
    unfold insP
    obtain ⟨h1, h2⟩ := List.pairwise_cons.mp h
    by_cases c : leP x y = true
    · rw [if_pos c]
      refine List.pairwise_cons.mpr ⟨fun z hz => ?_, h⟩
      rcases List.mem_cons.mp hz with rfl | hz
      · exact c
      · exact leP_tr c (h1 z hz)
    · rw [if_neg c]
      refine List.pairwise_cons.mpr ⟨fun z hz => ?_, insP_up x r h2⟩
      rcases List.mem_cons.mp ((insP_perm x r).mem_iff.mp hz) with rfl | hz
      · exact leP_or _ _ c
      · exact h1 z hz
theorem srtPI_perm : ∀ l, (srtPI l).Perm l
  | [] => List.Perm.refl _
  | x :: r => (insP_perm x (srtPI r)).trans ((srtPI_perm r).cons x)
theorem srtPI_up : ∀ l, (srtPI l).Pairwise (fun p q => leP p q = true)
  | [] => .nil
  | x :: r => insP_up x _ (srtPI_up r)
theorem srtP_I (l : List (Int × Int)) : srtP l = srtPI l := (srtP_is (srtPI_perm l) (srtPI_up l)).symm
def wntI (ds : List Int) (k : Nat) : Int := (((srtI ds).drop (ds.length - k)).map fun d => d + 1).sum
theorem wnt_I (ds : List Int) (k : Nat) : wnt ds k = wntI ds k := by
  unfold wnt wntI
  rw [srt_I]
def sprI (cs ds : List Int) : List Int := (List.range ds.length).map fun (i : Nat) => cnt cs ((i : Int) + 1) - wntI ds (i + 1)
theorem spr_I (cs ds : List Int) : spr cs ds = sprI cs ds := by
  unfold spr sprI
  exact congrArg (fun f => (List.range ds.length).map f) (funext fun i => by rw [wnt_I])
def canI (cs ds : List Int) : Bool := (sprI cs ds).all fun s => decide (0 ≤ s)
theorem can_I (cs ds : List Int) : can cs ds = canI cs ds := by
  unfold can canI
  rw [spr_I]
def failsI (cs ds : List Int) : List Int := (List.range (sprI cs ds).length).filterMap fun (i : Nat) => (sprI cs ds)[i]?.bind fun s => if s < 0 then some ((i : Int) + 1) else none
theorem fails_I (cs ds : List Int) : fails cs ds = failsI cs ds := by
  unfold fails failsI
  rw [spr_I]
def lightsI (cs : List Int) (d : Int) : Option (List Int) := if ((rowsOf cs).length : Int) ≤ d then none else some (srtI (((srtPI (rowsOf cs)).take (d + 1).toNat).map Prod.snd))
theorem lights_I (cs : List Int) (d : Int) : lightsF cs d = lightsI cs d := by
  unfold lightsF lightsI
  rw [srt_I, srtP_I]
def lotsI (cs : List Int) : List Int → Option (List (List Int × List Int))
  | [] => some []
  | d :: r => match lightsI cs d with
    | none => none
    | some lit => (lotsI (burntF cs lit []) r).map fun l => (lit, burntF cs lit []) :: l
theorem lots_I : ∀ (ds cs : List Int), lotsF cs ds = lotsI cs ds
  | [], _ => rfl
  | d :: r, cs => by
    rw [lotsF_cons]
    unfold lotsI
    rw [lights_I]
    cases lightsI cs d with
    | none => rfl
    | some lit =>
      show Option.map _ (lotsF _ r) = Option.map _ (lotsI _ r)
      rw [lots_I r]
end LF
namespace LF
open PySem PySem.Spec PyProof.Rows L2
def rowOfI (cs ds lot : List Int) : Option (Int × List Int) := if canI (remF cs lot) ds = true then some (-(lot.length : Int), lot) else none
theorem rowOf_I (cs ds lot : List Int) : rowOf cs ds lot = rowOfI cs ds lot := by
  unfold rowOf rowOfI
  rw [can_I]
def sparedI (cs ds : List Int) : List (Int × List Int) := (lotsPF (placesF cs)).filterMap (rowOfI cs ds)
theorem spared_I (cs ds : List Int) : sparedF cs ds = sparedI cs ds := by
  unfold sparedF sparedI rowsP
  exact fm_congr _ fun lot _ => rowOf_I cs ds lot
end LF
namespace LF
open PySem PySem.Spec PyProof.Rows L2
def topS (i : Nat) : Stmt := PySem.Challenge.pw_lastflame_k11_written_cases_and_names.main.body.getD i (.Pass ⟨0, 0, 0, 0⟩)
section
variable {P : Program} {w : World} {K : PySem.W.Frag} {mg : Str → Option Value} {base : Heap}
structure Cs (mg : Str → Option Value) : Prop where
  MOST_CANDLES : ∃ tk : Tok, mg "MOST_CANDLES" = some (.int 8 tk)
  MOST_WAX : ∃ tk : Tok, mg "MOST_WAX" = some (.int 12 tk)
  MOST_DRAUGHTS : ∃ tk : Tok, mg "MOST_DRAUGHTS" = some (.int 10 tk)
  STRONGEST : ∃ tk : Tok, mg "STRONGEST" = some (.int 7 tk)
/-! def counted -/
abbrev s_counted : Stmt := topS 1
theorem sc_counted : FnScope ["candles", "ticks", "wax"] ["candles", "ticks"] (defScope s_counted) := ⟨rfl, rfl, rfl, by decide +kernel, rfl, by decide +kernel, by decide +kernel⟩
def spCounted (K : PySem.W.Frag) : Sp := fun vs H Q _ => ∃ (a : Addr) (cs : List Int) (k : Int), vs = [.ref a, .int k] ∧ SqT K H a (vi cs) ∧ cs.length ≤ 1000 ∧ ∀ H', Same H H' → Q (.int (cnt cs k)) H'
theorem ok_counted {f : Addr} {fd : FuncData} (T : Bl mg) (F : Fun K "counted" "counted" s_counted f fd) : FnOk P w K mg base CX0 1 f fd ["candles", "ticks"] (spCounted K) := by
  refine F.ok sc_counted (fun vs H Q E h => ?_) (fun cdv A outer s H vs Q E hr h => ?_)
  · obtain ⟨a, cs, k, rfl, _⟩ := h
    rfl
  obtain ⟨a, cs, k, rfl, hS, hl, q⟩ := h
  refine ⟨_, (pss_one (ps_ret (pe_callB (sumK K) rfl T.sum (by decide +kernel) (pa_cons (pe_lc (own := [("wax", 2)]) rfl sc_counted.nd (piT K (pv 0)) (blkOk_by (N := ["candles", "ticks", "wax"]) (sc := defScope s_counted) (own := [("wax", 2)]) (by decide +kernel)) (fun _ _ _ _ _ => (pg_name (i := 2) sc_counted.nd rfl (.inl rfl))) (fun _ _ _ _ _ => pts_nil) (fun _ _ _ _ _ => (pe_callB (call_min2 rfl) rfl T.min (by decide +kernel) (pa_cons (pv 2) (pa_cons (pv 1) pa_nil))))) pa_nil)))), ?_⟩
  refine ⟨_, rfl, a, rfl, ⟨_, hS⟩, fun D hD => lc_ints (walk_tup (xs := vi cs)) hD (by rw [vi_len]; exact hl) (fun i => cs[i]?.bind fun w => some (if k < w then k else w)) (fun H' s => s.sqt hS) (fun i x H1 H' kn ky hi sm y h1 h2 => ?_) (fun H1 sm e => ?_)⟩
  · obtain ⟨rfl, hx⟩ := y
    obtain ⟨z, hz, rfl⟩ := vi_get hx
    exact ⟨rfl, lc_yes ⟨_, rfl, _, rfl, _, _, rfl, h2 _ _ (Same.refl _) (by rw [hz]; rfl)⟩⟩
  · rw [vi_len, fm_at] at e
    exact ⟨D, _, rfl, SqL.of e, q _ sm⟩
/-! def wanted -/
abbrev s_wanted : Stmt := topS 2
theorem sc_wanted : FnScope ["draughts", "ticks", "draught"] ["draughts", "ticks"] (defScope s_wanted) := ⟨rfl, rfl, rfl, by decide +kernel, rfl, by decide +kernel, by decide +kernel⟩
theorem cutV_from (xs : List V) (n k : Nat) (h : (n : Int) - (k : Int) = ((n - k : Nat) : Int)) : cutV xs (some ((n : Int) - (k : Int))) none = xs.drop (n - k) := by
  unfold cutV
  rw [h, HT.sIx_nat, HT.sIx_none]
  by_cases c : n - k ≤ xs.length
  · rw [show min (n - k) xs.length = n - k by omega]
    exact List.take_of_length_le (by rw [List.length_drop]; omega)
  · rw [show min (n - k) xs.length = xs.length by omega, Nat.sub_self, List.take_zero]
    exact (List.drop_of_length_le (by omega)).symm
def spWanted (K : PySem.W.Frag) : Sp := fun vs H Q _ => ∃ (a : Addr) (ds : List Int) (k : Nat), vs = [.ref a, .int (k : Int)] ∧ SqT K H a (vi ds) ∧ ds.length ≤ 1000 ∧ k ≤ ds.length ∧ ∀ H', Same H H' → Q (.int (wnt ds k)) H'
theorem ok_wanted {f : Addr} {fd : FuncData} (T : Bl mg) (F : Fun K "wanted" "wanted" s_wanted f fd) : FnOk P w K mg base CX0 1 f fd ["draughts", "ticks"] (spWanted K) := by
  refine F.ok sc_wanted (fun vs H Q E h => ?_) (fun cdv A outer s H vs Q E hr h => ?_)
  · obtain ⟨a, ds, k, rfl, _⟩ := h
    rfl
  obtain ⟨a, ds, k, rfl, hS, hl, hk, q⟩ := h
  refine ⟨_, (pss_one (ps_ret (pe_callB (sumK K) rfl T.sum (by decide +kernel) (pa_cons (pe_lc (own := [("draught", 2)]) rfl sc_wanted.nd (piL K (pe_slice (slL K) (pe_callB (sortedTK K) rfl T.sorted (by decide +kernel) (pa_cons (pv 0) pa_nil)) (po_some (pe_op op_sub (pe_callB (lenK K) rfl T.len (by decide +kernel) (pa_cons (pv 0) pa_nil)) (pv 1))) po_none)) (blkOk_by (N := ["draughts", "ticks", "draught"]) (sc := defScope s_wanted) (own := [("draught", 2)]) (by decide +kernel)) (fun _ _ _ _ _ => (pg_name (i := 2) sc_wanted.nd rfl (.inl rfl))) (fun _ _ _ _ _ => pts_nil) (fun _ _ _ _ _ => (pe_op op_add (pv 2) pe_int))) pa_nil)))), ?_⟩
  refine ⟨_, rfl, a, ds, rfl, hS, fun ns p hp hu np => ?_⟩
  have es := srt_is hp hu
  subst es
  have s1 : Same H (upd H p (.lst (vi (srt ds)))) := Same.new np
  refine ⟨_, rfl, a, vi ds, rfl, .inr (s1.sqt hS), _, rfl, _, _, rfl, rfl, _, rfl, p, _, rfl, SqL.of upd_same, fun c nc => ?_⟩
  have ec : cutV (vi (srt ds)) (some ((((vi ds).length : Nat) : Int) - (k : Int))) none = vi ((srt ds).drop (ds.length - k)) := by
    rw [vi_len, cutV_from _ _ _ (by omega)]
    exact List.map_drop.symm
  rw [ec]
  have s2 := s1.trans (Same.new (o := .lst (vi ((srt ds).drop (ds.length - k)))) nc)
  have hC : SqL K (upd (upd H p (.lst (vi (srt ds)))) c (.lst (vi ((srt ds).drop (ds.length - k))))) c (vi ((srt ds).drop (ds.length - k))) := SqL.of upd_same
  refine ⟨c, rfl, ⟨_, hC⟩, fun D hD => lc_ints (walk_list (xs := vi ((srt ds).drop (ds.length - k)))) hD ?_ (fun i => ((srt ds).drop (ds.length - k))[i]?.bind fun d => some (d + 1)) (fun H' s => s.seq hC) (fun i x H1 H' kn ky hi sm y h1 h2 => ?_) (fun H1 sm e => ?_)⟩
  · rw [vi_len, List.length_drop, srt_len]
    omega
  · obtain ⟨rfl, hx⟩ := y
    obtain ⟨z, hz, rfl⟩ := vi_get hx
    exact ⟨rfl, lc_yes ⟨_, rfl, _, _, rfl, rfl, h2 _ _ (Same.refl _) (by rw [hz]; rfl)⟩⟩
  · rw [vi_len, fm_at] at e
    exact ⟨D, _, rfl, SqL.of e, q _ (s2.trans sm)⟩
/-! def spares -/
abbrev s_spares : Stmt := topS 3
theorem sc_spares : FnScope ["candles", "draughts", "many"] ["candles", "draughts"] (defScope s_spares) := ⟨rfl, rfl, rfl, by decide +kernel, rfl, by decide +kernel, by decide +kernel⟩
theorem ok_spares {f fC fW : Addr} {fd fdC fdW : FuncData} (T : Bl mg) (F : Fun K "spares" "spares" s_spares f fd) (D_counted : FnAt K mg "counted" "counted" s_counted ["candles", "ticks"] fC fdC) (D_wanted : FnAt K mg "wanted" "wanted" s_wanted ["draughts", "ticks"] fW fdW) : FnOk P w K mg base CX0 2 f fd ["candles", "draughts"] (spSpares K) := by
  have G_counted : FnOk P w K mg base CX0 1 fC fdC ["candles", "ticks"] (spCounted K) := ok_counted T D_counted.F
  have G_wanted : FnOk P w K mg base CX0 1 fW fdW ["draughts", "ticks"] (spWanted K) := ok_wanted T D_wanted.F
  refine F.ok sc_spares (fun vs H Q E h => ?_) (fun cdv A outer s H vs Q E hr h => ?_)
  · obtain ⟨a, b, cs, ds, rfl, _⟩ := h
    rfl
  obtain ⟨a, b, cs, ds, rfl, hS, hB, hl, hlb, q⟩ := h
  refine ⟨_, (pss_one (ps_ret (pe_lc (own := [("many", 2)]) rfl sc_spares.nd (pi_range2 rfl T.range (pa_cons pe_int (pa_cons (pe_op op_add (pe_callB (lenK K) rfl T.len (by decide +kernel) (pa_cons (pv 1) pa_nil)) pe_int) pa_nil))) (blkOk_by (N := ["candles", "draughts", "many"]) (sc := defScope s_spares) (own := [("many", 2)]) (by decide +kernel)) (fun _ _ _ _ _ => (pg_name (i := 2) sc_spares.nd rfl (.inl rfl))) (fun _ _ _ _ _ => pts_nil) (fun _ _ _ _ _ => (pe_op op_sub (pe_call G_counted hr rfl D_counted.g D_counted.F.kp D_counted.b .nil pass0 (pa_cons (pv 0) (pa_cons (pv 2) pa_nil))) (pe_call G_wanted hr rfl D_wanted.g D_wanted.F.kp D_wanted.b .nil pass0 (pa_cons (pv 1) (pa_cons (pv 2) pa_nil)))))))), ?_⟩
  refine ⟨_, rfl, b, vi ds, rfl, .inr hB, _, _, rfl, rfl, _, _, rfl, ⟨by omega, by omega, by rw [vi_len]; omega, by rw [vi_len]; omega⟩, fun D hD => ?_⟩
  have en : ((((vi ds).length : Nat) : Int) + 1 - 1).toNat = ds.length := by
    rw [vi_len]
    omega
  rw [en]
  refine lc_ints walk_range hD hlb (fun i => some (cnt cs ((i : Int) + 1) - wnt ds (i + 1))) (fun _ _ => trivial) (fun i x H1 H' kn ky hi sm y h1 h2 => ?_) (fun H1 sm e => ?_)
  · obtain ⟨rfl, rfl⟩ := y
    have e1 : (1 : Int) + (i : Int) = ((i + 1 : Nat) : Int) := by omega
    refine ⟨rfl, lc_yes ⟨_, rfl, _, rfl, a, cs, _, rfl, sm.sqt hS, hl, fun H2 s2 => ⟨_, rfl, _, rfl, b, ds, i + 1, congrArg (fun z => [V.ref b, V.int z]) e1, (sm.trans s2).sqt hB, hlb, hi, fun H3 s3 => ⟨_, _, rfl, rfl, h2 _ _ (s2.trans s3) ?_⟩⟩⟩⟩
    rw [Int.add_comm]
  · rw [fm_range] at e
    exact q _ D sm hD e
/-! def can_keep -/
abbrev s_can_keep : Stmt := topS 4
theorem sc_can_keep : FnScope ["candles", "draughts", "spare"] ["candles", "draughts"] (defScope s_can_keep) := ⟨rfl, rfl, rfl, by decide +kernel, rfl, by decide +kernel, by decide +kernel⟩
theorem ok_can_keep {f fS fC fW : Addr} {fd fdS fdC fdW : FuncData} (T : Bl mg) (F : Fun K "can_keep" "can_keep" s_can_keep f fd) (D_spares : FnAt K mg "spares" "spares" s_spares ["candles", "draughts"] fS fdS) (D_counted : FnAt K mg "counted" "counted" s_counted ["candles", "ticks"] fC fdC) (D_wanted : FnAt K mg "wanted" "wanted" s_wanted ["draughts", "ticks"] fW fdW) : FnOk P w K mg base CX0 3 f fd ["candles", "draughts"] (spCan K) := by
  have G_spares : FnOk P w K mg base CX0 2 fS fdS ["candles", "draughts"] (spSpares K) := ok_spares T D_spares.F D_counted D_wanted
  refine F.ok sc_can_keep (fun vs H Q E h => ?_) (fun cdv A outer s H vs Q E hr h => ?_)
  · obtain ⟨a, b, cs, ds, rfl, _⟩ := h
    rfl
  obtain ⟨a, b, cs, ds, rfl, hS, hB, hl, hlb, q⟩ := h
  refine ⟨_, (pss_one (ps_ret (pe_callB (allK K) rfl T.all (by decide +kernel) (pa_cons (pe_lc (own := [("spare", 2)]) rfl sc_can_keep.nd (piL K (pe_call G_spares hr rfl D_spares.g D_spares.F.kp D_spares.b .nil pass0 (pa_cons (pv 0) (pa_cons (pv 1) pa_nil)))) (blkOk_by (N := ["candles", "draughts", "spare"]) (sc := defScope s_can_keep) (own := [("spare", 2)]) (by decide +kernel)) (fun _ _ _ _ _ => (pg_name (i := 2) sc_can_keep.nd rfl (.inl rfl))) (fun _ _ _ _ _ => pts_nil) (fun _ _ _ _ _ => (pe_cmpR op_ge (pv 2) pe_int (nomark _)))) pa_nil)))), ?_⟩
  refine ⟨_, rfl, _, rfl, a, b, cs, ds, rfl, hS, hB, hl, hlb, fun H1 p s1 np ep => ?_⟩
  have hC : SqL K H1 p (vi (spr cs ds)) := SqL.of ep
  refine ⟨p, rfl, ⟨_, hC⟩, fun D hD => lc_bls (walk_list (xs := vi (spr cs ds))) hD (by rw [vi_len, spr_len]; exact hlb) (fun i => (spr cs ds)[i]?.bind fun s => some (decide (0 ≤ s))) (fun H' s => s.seq hC) (fun i x H2 H' kn ky hi sm y h1 h2 => ?_) (fun H2 sm e => ?_)⟩
  · obtain ⟨rfl, hx⟩ := y
    obtain ⟨z, hz, rfl⟩ := vi_get hx
    exact ⟨rfl, lc_yes ⟨_, rfl, _, _, rfl, rfl, h2 _ _ (Same.refl _) (by rw [hz]; rfl)⟩⟩
  · rw [vi_len, fm_at] at e
    refine ⟨D, _, rfl, SqL.of e, ?_⟩
    have e2 : ((spr cs ds).map fun s => decide (0 ≤ s)).all id = can cs ds := by
      unfold can
      rw [List.all_map]
      rfl
    rw [e2]
    exact q _ (s1.trans sm)
/-! def fails_at -/
abbrev s_fails_at : Stmt := topS 5
theorem sc_fails_at : FnScope ["candles", "draughts", "some", "at", "spare"] ["candles", "draughts"] (defScope s_fails_at) := ⟨rfl, rfl, rfl, by decide +kernel, rfl, by decide +kernel, by decide +kernel⟩
/-- the first place below nought, None where there is none -/
def firstV : List Int → V
  | [] => .non
  | x :: _ => .int x
def spFails (K : PySem.W.Frag) : Sp := fun vs H Q _ => ∃ (a b : Addr) (cs ds : List Int), vs = [.ref a, .ref b] ∧ SqT K H a (vi cs) ∧ SqT K H b (vi ds) ∧ cs.length ≤ 1000 ∧ ds.length ≤ 1000 ∧ ∀ H', Same H H' → Q (firstV (fails cs ds)) H'
theorem ok_fails_at {f fS fC fW : Addr} {fd fdS fdC fdW : FuncData} (T : Bl mg) (F : Fun K "fails_at" "fails_at" s_fails_at f fd) (D_spares : FnAt K mg "spares" "spares" s_spares ["candles", "draughts"] fS fdS) (D_counted : FnAt K mg "counted" "counted" s_counted ["candles", "ticks"] fC fdC) (D_wanted : FnAt K mg "wanted" "wanted" s_wanted ["draughts", "ticks"] fW fdW) : FnOk P w K mg base CX0 3 f fd ["candles", "draughts"] (spFails K) := by
  have G_spares : FnOk P w K mg base CX0 2 fS fdS ["candles", "draughts"] (spSpares K) := ok_spares T D_spares.F D_counted D_wanted
  refine F.ok sc_fails_at (fun vs H Q E h => ?_) (fun cdv A outer s H vs Q E hr h => ?_)
  · obtain ⟨a, b, cs, ds, rfl, _⟩ := h
    rfl
  obtain ⟨a, b, cs, ds, rfl, hS, hB, hl, hlb, q⟩ := h
  refine ⟨_, (pss_cons (ps_setLc (i := 2) (own := [("at", 3), ("spare", 4)]) rfl sc_fails_at.nd rfl rfl (sw_true rfl rfl rfl (by decide +kernel)) (enumK K false rfl T.enumerate (pa_cons (pe_call G_spares hr rfl D_spares.g D_spares.F.kp D_spares.b .nil pass0 (pa_cons (pv 0) (pa_cons (pv 1) pa_nil))) pa_nil)) (blkOk_by (N := ["candles", "draughts", "some", "at", "spare"]) (sc := defScope s_fails_at) (own := [("at", 3), ("spare", 4)]) (by decide +kernel)) (fun _ _ _ _ _ => (pgT K 2 rfl (pgs_cons (pg_name (i := 3) sc_fails_at.nd rfl (.inl rfl)) (pgs_cons (pg_name (i := 4) sc_fails_at.nd rfl (.inl rfl)) pgs_nil)))) (fun _ _ _ _ _ => (pts_one (pt_cmpR op_lt (pv 4) pe_int (nomark _)))) (fun _ _ _ _ _ => (pe_op op_add (pv 3) pe_int)))
  (pss_one (ps_ret (pe_ifExp (pt_cmpR (neDK K hr.units) (pv 2) (pe_lst pa_nil) (nomark _)) (pe_ix (ixL K) (pv 2) pe_int (fun _ _ => rfl)) pe_non)))), ?_⟩
  refine ⟨_, rfl, _, rfl, a, b, cs, ds, rfl, hS, hB, hl, hlb, fun H1 p s1 np ep => ⟨p, vi (spr cs ds), rfl, SqL.of ep, fun D hD => lc_ints (walk_enumB (tp := false) (xs := vi (spr cs ds))) hD (by rw [vi_len, spr_len]; exact hlb) (fun i => (spr cs ds)[i]?.bind fun s => if s < 0 then some ((i : Int) + 1) else none) (fun H' s => s.seq (SqL.of ep)) (fun i x H2 H' kn ky hi sm y h1 h2 => ?_) (fun H2 sm e => ?_)⟩⟩
  · obtain ⟨tt, x1, x2, rfl, nT, rfl, e1, e2⟩ := y
    cases Option.some.inj e1
    obtain ⟨z, hz, rfl⟩ := vi_get e2
    refine ⟨tt, _, rfl, SqT.of upd_same, rfl, _, _, rfl, _, _, rfl, rfl, rfl, _, rfl, _, _, rfl, rfl, _, rfl, if_b (fun c => ?_) (fun c => h1 _ (Same.new nT) ?_)⟩
    · refine ⟨_, rfl, _, _, rfl, rfl, h2 _ _ (Same.new nT) ?_⟩
      rw [hz]
      exact if_pos (of_decide_eq_true c)
    · rw [hz]
      exact if_neg (of_decide_eq_false c)
  · rw [vi_len] at e
    have hC : SqL K H2 D (vi (fails cs ds)) := SqL.of e
    refine ⟨_, rfl, Nat.zero_le _, fun c nc => ?_⟩
    have s3 : Same H2 (upd H2 c (.lst [])) := Same.new nc
    refine ⟨.list (di (fails cs ds)), .list (di []), dp_list (s3.seq hC), dp_list (SqL.of upd_same), shaped_ints _, shaped_ints _, _, rfl, ?_⟩
    rw [eqv_lists]
    have q2 := q _ ((s1.trans sm).trans s3)
    generalize fails cs ds = l at *
    cases l with
    | nil => exact q2
    | cons x r => exact ⟨_, rfl, D, _, 0, _, rfl, rfl, s3.seq hC, atI_nat (j := 0) rfl, q2⟩
/-! def longest -/
abbrev s_longest : Stmt := topS 7
theorem sc_longest : FnScope ["candles", "draught", "ticks"] ["candles", "draught"] (defScope s_longest) := ⟨rfl, rfl, rfl, by decide +kernel, rfl, by decide +kernel, by decide +kernel⟩
def spLongest (K : PySem.W.Frag) : Sp := fun vs H Q _ => ∃ (a : Addr) (cs : List Int) (d : Int), vs = [.ref a, .int d] ∧ SqT K H a (vi cs) ∧ cs.length ≤ 1000 ∧ cs.sum ≤ 900 ∧ 0 ≤ d ∧ ∀ H' (r : Nat), Same H H' → can cs (List.replicate r d) = true → can cs (List.replicate (r + 1) d) = false → Q (.int r) H'
theorem ok_longest {f : Addr} {fd : FuncData} (T : Bl mg) (F : Fun K "longest" "longest" s_longest f fd) {f_can_keep : Addr} {fd_can_keep : FuncData} (D_can_keep : FnAt K mg "can_keep" "can_keep" s_can_keep ["candles", "draughts"] f_can_keep fd_can_keep) {f_spares : Addr} {fd_spares : FuncData} (D_spares : FnAt K mg "spares" "spares" s_spares ["candles", "draughts"] f_spares fd_spares) {f_counted : Addr} {fd_counted : FuncData} (D_counted : FnAt K mg "counted" "counted" s_counted ["candles", "ticks"] f_counted fd_counted) {f_wanted : Addr} {fd_wanted : FuncData} (D_wanted : FnAt K mg "wanted" "wanted" s_wanted ["draughts", "ticks"] f_wanted fd_wanted) : FnOk P w K mg base CX0 4 f fd ["candles", "draught"] (spLongest K) := by
  have G_can_keep : FnOk P w K mg base CX0 3 f_can_keep fd_can_keep _ (spCan K) := ok_can_keep T D_can_keep.F D_spares D_counted D_wanted
  refine F.ok sc_longest (fun vs H Q E h => ?_) (fun cdv A outer s H vs Q E hr h => ?_)
  · obtain ⟨a, cs, d, rfl, _⟩ := h
    rfl
  obtain ⟨a, cs, d, rfl, hS, hl, hsum, h0, q⟩ := h
  refine ⟨_, (pss_cons (ps_set (i := 2) sc_longest.nd rfl (.inl rfl) pe_int)
  (pss_cons (ps_while PassesOwn.never (pt_val (pe_call G_can_keep hr rfl D_can_keep.g D_can_keep.F.kp D_can_keep.b .nil pass0 (pa_cons (pv 0) (pa_cons (pe_op (repK K) (pe_tup (pa_cons (pv 1) pa_nil)) (pe_op op_add (pv 2) pe_int)) pa_nil)))) (pss_one (ps_aug (i := 2) sc_longest.nd rfl (.inl rfl) pe_int ip_add)))
  (pss_one (ps_ret (pv 2))))), ?_⟩
  refine ⟨fun m σ H' => ∃ r : Nat, σ = [some (.ref a), some (.int d), some (.int (r : Int))] ∧ Same H H' ∧ can cs (List.replicate r d) = true ∧ m = 1000 - r, ⟨1000, 0, rfl, Same.refl _, rfl, rfl⟩, fun m σ H1 hW => ?_⟩
  obtain ⟨r, rfl, sm, hc, rfl⟩ := hW
  have hr9 : r ≤ 900 := by
    rcases can_rep_le h0 hc with h | h <;> omega
  refine ⟨_, rfl, _, rfl, by show 1 ≤ sizeLine; decide, fun p np => ?_⟩
  have s1 : Same H1 (upd H1 p (.tup [.int d])) := Same.new np
  refine ⟨_, rfl, _, _, rfl, rfl, rep_any (SqT.of upd_same) (by omega) (by omega) fun H2 g s2 hg => ?_⟩
  have et : ((r : Int) + 1).toNat = r + 1 := by omega
  rw [et, vi_rep] at hg
  refine ⟨a, g, cs, List.replicate (r + 1) d, rfl, ((sm.trans s1).trans s2).sqt hS, hg, hl, by rw [List.length_replicate]; omega, fun H3 s3 => ⟨_, rfl, if_b (fun c => ?_) (fun c => ?_)⟩⟩
  · refine ⟨_, fun σ' H' hN => ⟨1000 - (r + 1), by omega, hN⟩, _, rfl, _, _, rfl, rfl, r + 1, rfl, ((sm.trans s1).trans s2).trans s3, c, rfl⟩
  · exact ⟨_, rfl, q _ r (((sm.trans s1).trans s2).trans s3) hc c⟩
/-! def strongest -/
abbrev s_strongest : Stmt := topS 8
theorem sc_strongest : FnScope ["candles", "draughts", "found", "at", "draught"] ["candles", "draughts"] (defScope s_strongest) := ⟨rfl, rfl, rfl, by decide +kernel, rfl, by decide +kernel, by decide +kernel⟩
/-- each as strong as it can be, the others as they are -/
def Strong (cs ds ns : List Int) : Prop := ns.length = ds.length ∧ ∀ (i : Nat) (d n : Int), ds[i]? = some d → ns[i]? = some n → d ≤ n ∧ can cs (ds.set i n) = true ∧ can cs (ds.set i (n + 1)) = false
def spStrongest (K : PySem.W.Frag) : Sp := fun vs H Q _ => ∃ (a b : Addr) (cs ds : List Int), vs = [.ref a, .ref b] ∧ SqT K H a (vi cs) ∧ SqT K H b (vi ds) ∧ cs.length ≤ 900 ∧ ds.length ≤ 900 ∧ (can cs ds = false → ∀ H', Same H H' → Q .non H') ∧
  (can cs ds = true → ∀ H' p ns, Same H H' → H p = none → H' p = some (.lst (vi ns)) → Strong cs ds ns → Q (.ref p) H')
theorem ok_strongest {f : Addr} {fd : FuncData} (T : Bl mg) (F : Fun K "strongest" "strongest" s_strongest f fd) {f_can_keep : Addr} {fd_can_keep : FuncData} (D_can_keep : FnAt K mg "can_keep" "can_keep" s_can_keep ["candles", "draughts"] f_can_keep fd_can_keep) {f_spares : Addr} {fd_spares : FuncData} (D_spares : FnAt K mg "spares" "spares" s_spares ["candles", "draughts"] f_spares fd_spares) {f_counted : Addr} {fd_counted : FuncData} (D_counted : FnAt K mg "counted" "counted" s_counted ["candles", "ticks"] f_counted fd_counted) {f_wanted : Addr} {fd_wanted : FuncData} (D_wanted : FnAt K mg "wanted" "wanted" s_wanted ["draughts", "ticks"] f_wanted fd_wanted) : FnOk P w K mg base CX0 4 f fd ["candles", "draughts"] (spStrongest K) := by
  have G_can_keep : FnOk P w K mg base CX0 3 f_can_keep fd_can_keep _ (spCan K) := ok_can_keep T D_can_keep.F D_spares D_counted D_wanted
  refine F.ok sc_strongest (fun vs H Q E h => ?_) (fun cdv A outer s H vs Q E hr h => ?_)
  · obtain ⟨a, b, cs, ds, rfl, _⟩ := h
    rfl
  obtain ⟨a, b, cs, ds, rfl, hS, hB, hl, hlb, qN, qS⟩ := h
  refine ⟨_, (pss_cons (ps_if (pt_not (pt_val (pe_call G_can_keep hr rfl D_can_keep.g D_can_keep.F.kp D_can_keep.b .nil pass0 (pa_cons (pv 0) (pa_cons (pv 1) pa_nil))))) (pss_one (ps_ret pe_non)) pss_nil)
  (pss_cons (ps_set (i := 2) sc_strongest.nd rfl (.inl rfl) (pe_lst pa_nil))
  (pss_cons (ps_for PassesOwn.never rfl (enumK K true rfl T.enumerate (pa_cons (pv 1) pa_nil)) (pgT K 2 rfl (pgs_cons (pg_name (i := 3) sc_strongest.nd rfl (.inl rfl)) (pgs_cons (pg_name (i := 4) sc_strongest.nd rfl (.inl rfl)) pgs_nil))) (pss_cons (ps_while PassesOwn.never (pt_val (pe_call G_can_keep hr rfl D_can_keep.g D_can_keep.F.kp D_can_keep.b .nil pass0 (pa_cons (pv 0) (pa_cons (pe_op (catK K) (pe_op (catK K) (pe_slice (slT K) (pv 1) po_none (po_some (pv 3))) (pe_tup (pa_cons (pe_op op_add (pv 4) pe_int) pa_nil))) (pe_slice (slT K) (pv 1) (po_some (pe_op op_add (pv 3) pe_int)) po_none)) pa_nil)))) (pss_one (ps_aug (i := 4) sc_strongest.nd rfl (.inl rfl) pe_int ip_add)))
  (pss_one (ps_expr (pe_bm PySem.F.plainAttrs_list PySem.F.slot_list_append PySem.F.type_list_append mt_append (pv 2) (pa_cons (pv 4) pa_nil))))))
  (pss_one (ps_ret (pv 2)))))), ?_⟩
  refine ⟨_, rfl, _, rfl, a, b, cs, ds, rfl, hS, hB, by omega, by omega, fun H1 s1 => ⟨_, rfl, if_b (fun c => ?_) (fun c => ?_)⟩⟩
  · have c : (!can cs ds) = true := c
    exact qN (by cases h : can cs ds <;> simp_all) _ s1
  have hc : can cs ds = true := by
    have c : (!can cs ds) = false := c
    cases h : can cs ds <;> simp_all
  have qS := qS hc
  refine ⟨Nat.zero_le _, fun o no => ?_⟩
  have s2 : Same H1 (upd H1 o (.lst [])) := Same.new no
  have nHo : H o = none := s1.free no
  refine ⟨_, rfl, b, vi ds, rfl, (s1.trans s2).sqt hB, for_it (walk_enumB (tp := true) (xs := vi ds)) (fun i σ H' => ∃ (ns : List Int) (y3 y4 : Option V), σ = [some (.ref a), some (.ref b), some (.ref o), y3, y4] ∧ Same H H' ∧ H' o = some (.lst (vi ns)) ∧ ns.length = i ∧ ∀ (j : Nat) (d n : Int), ds[j]? = some d → ns[j]? = some n → d ≤ n ∧ can cs (ds.set j n) = true ∧ can cs (ds.set j (n + 1)) = false) ⟨[], none, none, rfl, s1.trans s2, upd_same, rfl, fun j d n _ h => by simp at h⟩ (fun i σ H' _ ⟨_, _, _, _, sm, _⟩ => sm.sqt hB) (fun i x σ H2 H' hi hW hy => ?_) (fun σ H2 hW => ?_)⟩
  · obtain ⟨ns, y3, y4, rfl, sm, hO, hn, hall⟩ := hW
    obtain ⟨tt, x1, x2, rfl, nT, rfl, e1, e2⟩ := hy
    cases Option.some.inj e1
    obtain ⟨d, hd, rfl⟩ := vi_get e2
    rw [vi_len] at hi
    have s3 : Same H2 (upd H2 tt (.tup [.int (i : Nat), .int d])) := Same.new nT
    refine ⟨tt, _, rfl, SqT.of upd_same, rfl, _, _, rfl, _, _, rfl, rfl, ?_⟩
    -- while can_keep(.. draught + 1 ..)
    refine ⟨fun m σ H' => ∃ n : Int, σ = [some (.ref a), some (.ref b), some (.ref o), some (.int (i : Nat)), some (.int n)] ∧ Same H H' ∧ H' o = some (.lst (vi ns)) ∧ d ≤ n ∧ can cs (ds.set i n) = true ∧ m = (1000 - n).toNat, ⟨_, d, rfl, sm.trans s3, s3 _ _ hO, Int.le_refl _, ?_, rfl⟩, fun m σ H3 hW => ?_⟩
    · rw [show ds.set i d = ds from by
        obtain ⟨_, e⟩ := List.getElem?_eq_some_iff.mp hd
        rw [← e]
        exact List.set_getElem_self _]
      exact hc
    obtain ⟨n, rfl, sm3, hO3, hdn, hcn, rfl⟩ := hW
    have hnl : n + 1 ≤ cs.length := can_lt hcn (List.mem_set hi n)
    refine ⟨_, rfl, _, rfl, _, rfl, _, rfl, sl_any (sm3.sqt hB) fun H4 g s4 hg => ?_⟩
    rw [cut_take ds i (by omega)] at hg
    refine ⟨_, rfl, _, _, rfl, rfl, by show 1 ≤ sizeLine; decide, fun e ne => ?_⟩
    have s5 : Same H4 (upd H4 e (.tup [.int (n + 1)])) := Same.new ne
    refine cat_any (s5.sqt hg) (SqT.of upd_same) (by rw [vi_len, List.length_take]; show _ + 1 ≤ 1000; omega) fun H6 g2 s6 hg2 => ?_
    have s46 := (s4.trans s5).trans s6
    refine ⟨_, rfl, _, rfl, _, _, rfl, rfl, _, rfl, noPart (sl_any ((sm3.trans s46).sqt hB) fun H7 g3 s7 hg3 => ?_)⟩
    have ei : ((i : Nat) : Int) + 1 = ((i + 1 : Nat) : Int) := by omega
    rw [ei, cut_drop ds (i + 1) (by omega)] at hg3
    refine cat_any (s7.sqt hg2) hg3 (by rw [List.length_append, vi_len, vi_len, List.length_take, List.length_drop]; show _ + 1 + _ ≤ 1000; omega) fun H8 g4 s8 hg4 => ?_
    have eset : vi (ds.take i) ++ [V.int (n + 1)] ++ vi (ds.drop (i + 1)) = vi (ds.set i (n + 1)) := by
      rw [← set_cut ds i (n + 1) hi, vi_app, vi_app]
      rfl
    rw [eset] at hg4
    have s48 := (s46.trans s7).trans s8
    refine ⟨a, g4, cs, ds.set i (n + 1), rfl, (sm3.trans s48).sqt hS, hg4, by omega, by rw [List.length_set]; omega, fun H9 s9 => ⟨_, rfl, if_b (fun c => ?_) (fun c => ?_)⟩⟩
    · exact ⟨_, fun σ' H' hN => ⟨(1000 - (n + 1)).toNat, by omega, hN⟩, _, rfl, _, _, rfl, rfl, n + 1, rfl, (sm3.trans s48).trans s9, (s48.trans s9) _ _ hO3, by omega, c, rfl⟩
    · -- found.append(draught)
      have hO9 := (s48.trans s9) _ _ hO3
      refine ⟨_, rfl, .inl ⟨rfl, _, SqL.of hO9⟩, _, rfl, o, _, _, rfl, rfl, hO9, ?_, ns ++ [n], _, _, rfl, ((sm3.trans s48).trans s9).mut nHo, ?_, ?_, fun j d' n' hdj hnj => ?_⟩
      · rw [vi_len, hn]
        exact small1000 (by omega)
      · rw [vi_snoc]
        exact upd_same
      · rw [List.length_append, hn]
        rfl
      · by_cases hj : j < i
        · rw [List.getElem?_append_left (by omega)] at hnj
          exact hall j d' n' hdj hnj
        · by_cases hj2 : j = i
          · subst hj2
            rw [List.getElem?_append_right (by omega), hn, Nat.sub_self] at hnj
            have hnj : some n = some n' := hnj
            cases Option.some.inj hnj
            rw [hd] at hdj
            cases Option.some.inj hdj
            exact ⟨hdn, hcn, c⟩
          · rw [List.getElem?_eq_none (by rw [List.length_append, hn]; show i + 1 ≤ j; omega)] at hnj
            cases hnj
  · obtain ⟨ns, y3, y4, rfl, sm, hO, hn, hall⟩ := hW
    rw [vi_len] at hn
    exact ⟨_, rfl, qS H2 o ns sm nHo hO ⟨hn, hall⟩⟩
/-! def stubs -/
abbrev s_stubs : Stmt := topS 9
theorem sc_stubs : FnScope ["candles", "draughts", "spare"] ["candles", "draughts"] (defScope s_stubs) := ⟨rfl, rfl, rfl, by decide +kernel, rfl, by decide +kernel, by decide +kernel⟩
def spStubs (K : PySem.W.Frag) : Sp := fun vs H Q _ => ∃ (a b : Addr) (cs ds : List Int), vs = [.ref a, .ref b] ∧ SqT K H a (vi cs) ∧ SqT K H b (vi ds) ∧ cs.length ≤ 900 ∧ ds.length ≤ 900 ∧ ∀ H' m, Same H H' → Stb cs ds m → Q (.int m) H'
theorem ok_stubs {f : Addr} {fd : FuncData} (T : Bl mg) (F : Fun K "stubs" "stubs" s_stubs f fd) {f_spares : Addr} {fd_spares : FuncData} (D_spares : FnAt K mg "spares" "spares" s_spares ["candles", "draughts"] f_spares fd_spares) {f_counted : Addr} {fd_counted : FuncData} (D_counted : FnAt K mg "counted" "counted" s_counted ["candles", "ticks"] f_counted fd_counted) {f_wanted : Addr} {fd_wanted : FuncData} (D_wanted : FnAt K mg "wanted" "wanted" s_wanted ["draughts", "ticks"] f_wanted fd_wanted) : FnOk P w K mg base CX0 3 f fd ["candles", "draughts"] (spStubs K) := by
  have G_spares : FnOk P w K mg base CX0 2 f_spares fd_spares _ (spSpares K) := ok_spares T D_spares.F D_counted D_wanted
  refine F.ok sc_stubs (fun vs H Q E h => ?_) (fun cdv A outer s H vs Q E hr h => ?_)
  · obtain ⟨a, b, cs, ds, rfl, _⟩ := h
    rfl
  obtain ⟨a, b, cs, ds, rfl, hS, hB, hl, hlb, q⟩ := h
  refine ⟨_, (pss_one (ps_ret (pe_callB (maxK K) rfl T.max (by decide +kernel) (pa_cons (pe_op op_cat (pe_lst (pa_cons pe_int pa_nil)) (pe_lc (own := [("spare", 2)]) rfl sc_stubs.nd (piL K (pe_call G_spares hr rfl D_spares.g D_spares.F.kp D_spares.b .nil pass0 (pa_cons (pv 0) (pa_cons (pv 1) pa_nil)))) (blkOk_by (N := ["candles", "draughts", "spare"]) (sc := defScope s_stubs) (own := [("spare", 2)]) (by decide +kernel)) (fun _ _ _ _ _ => (pg_name (i := 2) sc_stubs.nd rfl (.inl rfl))) (fun _ _ _ _ _ => pts_nil) (fun _ _ _ _ _ => (pe_un un_neg (pv 2))))) pa_nil)))), ?_⟩
  refine ⟨by show 1 ≤ sizeLine; decide, fun o no => ?_⟩
  have s0 : Same H (upd H o (.lst [.int 0])) := Same.new no
  refine ⟨_, rfl, _, rfl, a, b, cs, ds, rfl, s0.sqt hS, s0.sqt hB, by omega, by omega, fun H1 p s1 np ep => ?_⟩
  have hC : SqL K H1 p (vi (spr cs ds)) := SqL.of ep
  refine ⟨p, rfl, ⟨_, hC⟩, fun D hD => lc_ints (walk_list (xs := vi (spr cs ds))) hD (by rw [vi_len, spr_len]; omega) (fun i => (spr cs ds)[i]?.bind fun s => some (-s)) (fun H' s => s.seq hC) (fun i x H2 H' kn ky hi sm y h1 h2 => ?_) (fun H2 sm e => ?_)⟩
  · obtain ⟨rfl, hx⟩ := y
    obtain ⟨z, hz, rfl⟩ := vi_get hx
    exact ⟨rfl, lc_yes ⟨_, rfl, _, rfl, h2 _ _ (Same.refl _) (by rw [hz]; rfl)⟩⟩
  · rw [vi_len, fm_at] at e
    have s02 := (s0.trans s1).trans sm
    refine ⟨o, D, _, _, rfl, rfl, (s1.trans sm) _ _ upd_same, e, ?_, fun r nr => ?_⟩
    · rw [vi_len, List.length_map, spr_len]
      exact Nat.le_trans (show 1 + ds.length ≤ 1001 by omega) (by decide)
    · exact ⟨r, 0 :: (spr cs ds).map fun s => -s, rfl, SqL.of upd_same, Nat.succ_pos _, fun m h1 h2 => q _ m (s02.trans (Same.new nr)) (stb_of h1 h2)⟩
/-! def one_more -/
abbrev s_one_more : Stmt := topS 10
theorem sc_one_more : FnScope ["candles", "draughts", "more"] ["candles", "draughts"] (defScope s_one_more) := ⟨rfl, rfl, rfl, by decide +kernel, rfl, by decide +kernel, by decide +kernel⟩
def spOneMore (K : PySem.W.Frag) : Sp := fun vs H Q _ => ∃ (a b : Addr) (cs ds : List Int), vs = [.ref a, .ref b] ∧ SqT K H a (vi cs) ∧ SqT K H b (vi ds) ∧ cs.length ≤ 900 ∧ ds.length ≤ 900 ∧
  ∀ H' m, Same H H' → Stb cs ds m → (can (cs ++ [m]) ds = true → Q (.int m) H') ∧ (can (cs ++ [m]) ds = false → Q .non H')
theorem ok_one_more {f : Addr} {fd : FuncData} (T : Bl mg) (F : Fun K "one_more" "one_more" s_one_more f fd) {f_stubs : Addr} {fd_stubs : FuncData} (D_stubs : FnAt K mg "stubs" "stubs" s_stubs ["candles", "draughts"] f_stubs fd_stubs) {f_can_keep : Addr} {fd_can_keep : FuncData} (D_can_keep : FnAt K mg "can_keep" "can_keep" s_can_keep ["candles", "draughts"] f_can_keep fd_can_keep) {f_spares : Addr} {fd_spares : FuncData} (D_spares : FnAt K mg "spares" "spares" s_spares ["candles", "draughts"] f_spares fd_spares) {f_counted : Addr} {fd_counted : FuncData} (D_counted : FnAt K mg "counted" "counted" s_counted ["candles", "ticks"] f_counted fd_counted) {f_wanted : Addr} {fd_wanted : FuncData} (D_wanted : FnAt K mg "wanted" "wanted" s_wanted ["draughts", "ticks"] f_wanted fd_wanted) : FnOk P w K mg base CX0 4 f fd ["candles", "draughts"] (spOneMore K) := by
  have G_stubs : FnOk P w K mg base CX0 3 f_stubs fd_stubs _ (spStubs K) := ok_stubs T D_stubs.F D_spares D_counted D_wanted
  have G_can_keep : FnOk P w K mg base CX0 3 f_can_keep fd_can_keep _ (spCan K) := ok_can_keep T D_can_keep.F D_spares D_counted D_wanted
  refine F.ok sc_one_more (fun vs H Q E h => ?_) (fun cdv A outer s H vs Q E hr h => ?_)
  · obtain ⟨a, b, cs, ds, rfl, _⟩ := h
    rfl
  obtain ⟨a, b, cs, ds, rfl, hS, hB, hl, hlb, q⟩ := h
  refine ⟨_, (pss_cons (ps_set (i := 2) sc_one_more.nd rfl (.inl rfl) (pe_call G_stubs hr rfl D_stubs.g D_stubs.F.kp D_stubs.b .nil pass0 (pa_cons (pv 0) (pa_cons (pv 1) pa_nil))))
  (pss_one (ps_ret (pe_ifExp (pt_val (pe_call G_can_keep hr rfl D_can_keep.g D_can_keep.F.kp D_can_keep.b .nil pass0 (pa_cons (pe_op (catK K) (pv 0) (pe_tup (pa_cons (pv 2) pa_nil))) (pa_cons (pv 1) pa_nil)))) (pv 2) pe_non)))), ?_⟩
  refine ⟨_, rfl, _, rfl, a, b, cs, ds, rfl, hS, hB, hl, hlb, fun H1 m s1 hm => ?_⟩
  refine ⟨_, rfl, _, rfl, by show 1 ≤ sizeLine; decide, fun e ne => ?_⟩
  have s2 : Same H1 (upd H1 e (.tup [.int m])) := Same.new ne
  refine cat_any ((s1.trans s2).sqt hS) (SqT.of upd_same) (by rw [vi_len]; show _ + 1 ≤ 1000; omega) fun H3 g s3 hg => ?_
  have hg : SqT K H3 g (vi (cs ++ [m])) := by
    rw [vi_snoc]
    exact hg
  have s13 := (s1.trans s2).trans s3
  refine ⟨_, rfl, g, b, cs ++ [m], ds, rfl, hg, s13.sqt hB, by rw [List.length_append]; show _ + 1 ≤ 1000; omega, by omega, fun H4 s4 => ⟨_, rfl, if_b (fun c => ?_) (fun c => ?_)⟩⟩
  · exact ⟨_, rfl, (q H4 m (s13.trans s4) hm).1 c⟩
  · exact (q H4 m (s13.trans s4) hm).2 c
/-! def lots_needs -/
abbrev s_lotsN : Stmt := topS 11
theorem sc_lotsN : FnScope ["many", "found", "place", "lot"] ["many"] (defScope s_lotsN) := ⟨rfl, rfl, rfl, by decide +kernel, rfl, by decide +kernel, by decide +kernel⟩
def spLotsN (K : PySem.W.Frag) : Sp := fun vs H Q _ => ∃ (n : Nat), vs = [.int (n : Int)] ∧ n ≤ 8 ∧ LotsQ K H Q ((List.range n).map fun (i : Nat) => (i : Int))
theorem range_take {n i : Nat} (h : i ≤ n) : ((List.range n).map fun (i : Nat) => (i : Int)).take i = (List.range i).map fun (i : Nat) => (i : Int) := by
  rw [← List.map_take, List.take_range, Nat.min_eq_left h]
theorem ok_lotsN {f : Addr} {fd : FuncData} (T : Bl mg) (F : Fun K "lots" "lots" s_lotsN f fd) : FnOk P w K mg base CX0 1 f fd ["many"] (spLotsN K) := by
  refine F.ok sc_lotsN (fun vs H Q E h => ?_) (fun cdv A outer s H vs Q E hr h => ?_)
  · obtain ⟨n, rfl, _⟩ := h
    rfl
  obtain ⟨n, rfl, hl, q⟩ := h
  refine ⟨_, (pss_cons (ps_set (i := 1) sc_lotsN.nd rfl (.inl rfl) (pe_lst (pa_cons (pe_tup pa_nil) pa_nil)))
  (pss_cons (ps_for PassesOwn.never rfl (pi_range1 rfl T.range (pa_cons (pv 0) pa_nil)) (pg_name (i := 2) sc_lotsN.nd rfl (.inr rfl)) (pss_one (ps_set (i := 1) sc_lotsN.nd rfl (.inl rfl) (pe_op op_cat (pv 1) (pe_lc (own := [("lot", 3)]) rfl sc_lotsN.nd (piL K (pv 1)) (blkOk_by (N := ["many", "found", "place", "lot"]) (sc := defScope s_lotsN) (own := [("lot", 3)]) (by decide +kernel)) (fun _ _ _ _ _ => (pg_name (i := 3) sc_lotsN.nd rfl (.inl rfl))) (fun _ _ _ _ _ => pts_nil) (fun _ _ _ _ _ => (pe_op (catK K) (pv 3) (pe_tup (pa_cons (pv 2) pa_nil)))))))))
  (pss_one (ps_ret (pv 1))))), ?_⟩
  refine ⟨by show 0 ≤ sizeLine; decide, fun t0 nt0 => ⟨by show 1 ≤ sizeLine; decide, fun o no => ?_⟩⟩
  have st : Same H (upd H t0 (.tup [])) := Same.new nt0
  have so : Same (upd H t0 (.tup [])) (upd (upd H t0 (.tup [])) o (.lst [.ref t0])) := Same.new no
  have s0 := st.trans so
  refine ⟨_, rfl, (n : Int), rfl, by omega, by omega, for_range (lo := 0) (n := n) (fun i σ H' => ∃ (r : Addr) (xs : List V) (y2 y3 : Option V), σ = [some (.int (n : Int)), some (.ref r), y2, y3] ∧ Same H H' ∧ H r = none ∧ H' r = some (.lst xs) ∧ Paired (VS K H') xs (lotsPF ((List.range i).map fun (i : Nat) => (i : Int)))) ⟨o, [.ref t0], none, none, rfl, s0, st.free no, upd_same, .cons ⟨t0, rfl, SqT.of (so _ _ upd_same)⟩ .nil⟩ (fun i σ H1 hi hW => ?_) (fun σ H1 hW => ?_)⟩
  · obtain ⟨r, xs, y2, y3, rfl, sm, nr, hr1, hp⟩ := hW
    have hsm := lots_small (ps := (List.range i).map fun (i : Nat) => (i : Int)) (by rw [List.length_map, List.length_range]; omega)
    refine ⟨_, rfl, _, rfl, r, rfl, ⟨_, SqL.of hr1⟩, fun D hD => lc_rel (walk_list (xs := xs)) hD (by rw [paired_len hp]; omega) (VS K) (fun H H' D acc v p h s r => r.keep h s) (fun j => (lotsPF ((List.range i).map fun (i : Nat) => (i : Int)))[j]?.bind fun l => some (l ++ [0 + (i : Int)])) (fun H' s => s.seq (SqL.of hr1)) (fun j x H2 H' kn ky hj sm2 y h1 h2 => ?_) (fun ys H2 sm2 e pr => ?_)⟩
    · obtain ⟨rfl, hx⟩ := y
      obtain ⟨l, hlj, t, rfl, ht⟩ := paired_get hp hx
      have hll := lotsPF_lens _ _ (List.mem_of_getElem? hlj)
      rw [List.length_map, List.length_range] at hll
      refine ⟨rfl, lc_yes ⟨_, rfl, _, rfl, by show 1 ≤ sizeLine; decide, fun e ne => ?_⟩⟩
      have s3 : Same H' (upd H' e (.tup [.int (0 + (i : Int))])) := Same.new ne
      refine cat_any ((sm2.trans s3).sqt ht) (SqT.of upd_same) (by rw [vi_len]; show _ + 1 ≤ 1000; omega) fun H4 g s4 hg => ?_
      refine h2 _ (l ++ [0 + (i : Int)]) _ (s3.trans s4) (by rw [hlj]; rfl) ⟨g, rfl, ?_⟩
      rw [vi_snoc]
      exact hg
    · rw [paired_len hp, fm_at] at pr
      refine ⟨r, D, _, _, rfl, rfl, sm2 _ _ hr1, e, ?_, fun r2 nr2 => ?_⟩
      · rw [paired_len hp, paired_len pr, List.length_map]
        exact Nat.le_trans (show _ ≤ 1000 by omega) (by decide)
      have s5 : Same H2 (upd H2 r2 (.lst (xs ++ ys))) := Same.new nr2
      refine ⟨r2, xs ++ ys, _, _, rfl, (sm.trans sm2).trans s5, (sm.trans sm2).free nr2, upd_same, ?_⟩
      rw [List.range_succ, List.map_append, List.map_cons, List.map_nil, lotsPF_snoc]
      rw [Int.zero_add] at pr
      exact paired_app (paired_mono (fun v x r => r.same (sm2.trans s5)) hp) (paired_mono (fun v x r => r.same s5) pr)
  · obtain ⟨r, xs, y2, y3, rfl, sm, nr, hr1, hp⟩ := hW
    exact ⟨_, rfl, q H1 r xs sm nr hr1 hp⟩
/-! def spared -/
abbrev s_spared : Stmt := topS 13
theorem sc_spared : FnScope ["candles", "draughts", "rows", "lot", "rest", "place", "wax"] ["candles", "draughts"] (defScope s_spared) := ⟨rfl, rfl, rfl, by decide +kernel, rfl, by decide +kernel, by decide +kernel⟩
def spSpared (K : PySem.W.Frag) : Sp := fun vs H Q _ => ∃ (a b : Addr) (cs ds : List Int), vs = [.ref a, .ref b] ∧ SqT K H a (vi cs) ∧ SqT K H b (vi ds) ∧ cs.length ≤ 8 ∧ ds.length ≤ 900 ∧ (can cs ds = false → ∀ H', Same H H' → Q .non H') ∧
  (can cs ds = true → ∀ H' p k c, Same H H' → SqT K H' p (vi c) → rowD (k, c) = best (sparedF cs ds) → Q (.ref p) H')
theorem ok_spared {f : Addr} {fd : FuncData} (T : Bl mg) (F : Fun K "spared" "spared" s_spared f fd) {f_lotsN : Addr} {fd_lotsN : FuncData} (D_lotsN : FnAt K mg "lots_needs" "lots" s_lotsN ["many"] f_lotsN fd_lotsN) {f_can_keep : Addr} {fd_can_keep : FuncData} (D_can_keep : FnAt K mg "can_keep" "can_keep" s_can_keep ["candles", "draughts"] f_can_keep fd_can_keep) {f_spares : Addr} {fd_spares : FuncData} (D_spares : FnAt K mg "spares" "spares" s_spares ["candles", "draughts"] f_spares fd_spares) {f_counted : Addr} {fd_counted : FuncData} (D_counted : FnAt K mg "counted" "counted" s_counted ["candles", "ticks"] f_counted fd_counted) {f_wanted : Addr} {fd_wanted : FuncData} (D_wanted : FnAt K mg "wanted" "wanted" s_wanted ["draughts", "ticks"] f_wanted fd_wanted) : FnOk P w K mg base CX0 4 f fd ["candles", "draughts"] (spSpared K) := by
  have G_lotsN : FnOk P w K mg base CX0 3 f_lotsN fd_lotsN _ (spLotsN K) := (ok_lotsN T D_lotsN.F).mono (by decide)
  have G_can_keep : FnOk P w K mg base CX0 3 f_can_keep fd_can_keep _ (spCan K) := ok_can_keep T D_can_keep.F D_spares D_counted D_wanted
  refine F.ok sc_spared (fun vs H Q E h => ?_) (fun cdv A outer s H vs Q E hr h => ?_)
  · obtain ⟨a, b, cs, ds, rfl, _⟩ := h
    rfl
  obtain ⟨a, b, cs, ds, rfl, hS, hB, hl, hlb, qN, qS⟩ := h
  refine ⟨_, (pss_cons (ps_if (pt_not (pt_val (pe_call G_can_keep hr rfl D_can_keep.g D_can_keep.F.kp D_can_keep.b .nil pass0 (pa_cons (pv 0) (pa_cons (pv 1) pa_nil))))) (pss_one (ps_ret pe_non)) pss_nil)
  (pss_cons (ps_set (i := 2) sc_spared.nd rfl (.inl rfl) (pe_lst pa_nil))
  (pss_cons (ps_for PassesOwn.never rfl (piL K (pe_call G_lotsN hr rfl D_lotsN.g D_lotsN.F.kp D_lotsN.b .nil pass0 (pa_cons (pe_callB (lenK K) rfl T.len (by decide +kernel) (pa_cons (pv 0) pa_nil)) pa_nil))) (pg_name (i := 3) sc_spared.nd rfl (.inr rfl)) (pss_cons (ps_set (i := 4) sc_spared.nd rfl (.inl rfl) (pe_callTy (tupleK K) rfl T.tuple (by decide +kernel) (pa_cons (pe_lc (own := [("place", 5), ("wax", 6)]) rfl sc_spared.nd (enumK K true rfl T.enumerate (pa_cons (pv 0) pa_nil)) (blkOk_by (N := ["candles", "draughts", "rows", "lot", "rest", "place", "wax"]) (sc := defScope s_spared) (own := [("place", 5), ("wax", 6)]) (by decide +kernel)) (fun _ _ _ _ _ => (pgT K 2 rfl (pgs_cons (pg_name (i := 5) sc_spared.nd rfl (.inl rfl)) (pgs_cons (pg_name (i := 6) sc_spared.nd rfl (.inl rfl)) pgs_nil)))) (fun _ _ _ _ _ => (pts_one (pt_cmpR (notinK K) (pv 5) (pv 3) rfl))) (fun _ _ _ _ _ => (pv 6))) pa_nil)))
  (pss_one (ps_if (pt_val (pe_call G_can_keep hr rfl D_can_keep.g D_can_keep.F.kp D_can_keep.b .nil pass0 (pa_cons (pv 4) (pa_cons (pv 1) pa_nil)))) (pss_one (ps_expr (pe_bm PySem.F.plainAttrs_list PySem.F.slot_list_append PySem.F.type_list_append mt_append (pv 2) (pa_cons (pe_tup (pa_cons (pe_un un_neg (pe_callB (lenK K) rfl T.len (by decide +kernel) (pa_cons (pv 3) pa_nil))) (pa_cons (pv 3) pa_nil))) pa_nil)))) pss_nil))))
  (pss_one (ps_ret (pe_ix (ixT K) (pe_callB (minRK K hr.units) rfl T.min (by decide +kernel) (pa_cons (pv 2) pa_nil)) pe_int (fun _ _ => rfl))))))), ?_⟩
  refine ⟨_, rfl, _, rfl, a, b, cs, ds, rfl, hS, hB, by omega, by omega, fun H1 s1 => ⟨_, rfl, if_b (fun c => ?_) (fun c => ?_)⟩⟩
  · have c : (!can cs ds) = true := c
    exact qN (by cases h : can cs ds <;> simp_all) _ s1
  have hc : can cs ds = true := by
    have c : (!can cs ds) = false := c
    cases h : can cs ds <;> simp_all
  have qS := qS hc
  refine ⟨Nat.zero_le _, fun o no => ?_⟩
  have s2 : Same H1 (upd H1 o (.lst [])) := Same.new no
  have nHo : H o = none := s1.free no
  refine ⟨_, rfl, a, vi cs, rfl, .inr ((s1.trans s2).sqt hS), cs.length, (by rw [vi_len]; rfl), hl, fun H2 p xs s3 np hp pr => ?_⟩
  have hO2 : H2 o = some (.lst []) := s3 _ _ upd_same
  have pr : Paired (VS K H2) xs (lotsPF (placesF cs)) := pr
  have npo : p ≠ o := fun z => by
    rw [z, upd_same] at np
    cases np
  have s12 := (s1.trans s2).trans s3
  refine ⟨p, rfl, ⟨xs, SqL.of hp⟩, for_list (K := K) (a := p) (xs := xs) (fun i σ H' => ∃ (ys : List V) (y3 y4 y5 y6 : Option V), σ = [some (.ref a), some (.ref b), some (.ref o), y3, y4, y5, y6] ∧ Smt o H2 H' ∧ H' o = some (.lst ys) ∧ Paired (RV K H') ys (rowsP cs ds ((lotsPF (placesF cs)).take i))) ⟨[], none, none, none, none, rfl, Smt.of (Same.refl _), hO2, .nil⟩ (fun i σ H' _ ⟨_, _, _, _, _, _, sm, _⟩ => SqL.of (sm _ _ hp npo)) (fun i x σ H3 hx hW => ?_) (fun σ H3 hW => ?_)⟩
  · obtain ⟨ys, y3, y4, y5, y6, rfl, sm, hO, hpr⟩ := hW
    obtain ⟨lot, hlot, t, rfl, ht⟩ := paired_get pr hx
    have sH := same_smt s12 sm nHo
    have hS3 := sH.sqt hS
    have ht3 := sqt_keep hO2 sm ht
    have hll := lotsPF_lens _ _ (List.mem_of_getElem? hlot)
    -- rest = tuple([..])
    refine ⟨_, rfl, a, vi cs, rfl, hS3, fun D hD => lc_ints (walk_enumB (tp := true) (xs := vi cs)) hD (by rw [vi_len]; omega) (fun i => if (i : Int) ∈ lot then none else cs[i]?) (fun H' s => s.sqt hS3) (fun j x H4 H' kn ky hj sm4 y h1 h2 => ?_) (fun H4 sm4 e => ?_)⟩
    · obtain ⟨tt, x1, x2, rfl, nT, rfl, e1, e2⟩ := y
      cases Option.some.inj e1
      obtain ⟨z, hz, rfl⟩ := vi_get e2
      have sn : Same H4 (upd H4 tt (.tup [.int (j : Nat), .int z])) := Same.new nT
      refine ⟨tt, _, rfl, SqT.of upd_same, rfl, _, _, rfl, _, _, rfl, rfl, rfl, _, rfl, _, rfl, t, vi lot, rfl, .inr ((sm4.trans sn).sqt ht3), rfl, vi_flat _, _, rfl, if_b (fun c => ?_) (fun c => h1 _ sn ?_)⟩
      · have c : (!inV (.int (j : Nat)) (vi lot)) = true := c
        rw [inV_ints] at c
        refine ⟨_, rfl, h2 _ _ sn ?_⟩
        rw [if_neg (by simpa using c)]
        exact hz
      · have c : (!inV (.int (j : Nat)) (vi lot)) = false := c
        rw [inV_ints] at c
        rw [if_pos (by simpa using c)]
    · rw [vi_len] at e
      have e : H4 D = some (.lst (vi (remF cs lot))) := e
      refine ⟨D, _, rfl, .inl ⟨SqL.of e, fun g ng => ?_⟩⟩
      have s5 : Same H4 (upd H4 g (.tup (vi (remF cs lot)))) := Same.new ng
      have s35 := sm4.trans s5
      have hrl : (remF cs lot).length ≤ cs.length := (rem_sub cs lot).length_le
      refine ⟨_, rfl, _, rfl, g, b, remF cs lot, ds, rfl, SqT.of upd_same, (sH.trans s35).sqt hB, by omega, by omega, fun H6 s6 => ⟨_, rfl, if_b (fun c => ?_) (fun c => ?_)⟩⟩
      · -- rows.append((-len(lot), lot))
        have s36 := s35.trans s6
        have ht6 := s36.sqt ht3
        have hO6 := s36 _ _ hO
        refine ⟨_, rfl, .inl ⟨rfl, _, SqL.of hO6⟩, _, rfl, t, vi lot, rfl, .inr ht6, _, rfl, _, rfl, by show 2 ≤ sizeLine; decide, fun u nu => ?_⟩
        have s7 : Same H6 (upd H6 u (.tup [.int (-((vi lot).length : Int)), .ref t])) := Same.new nu
        have hO7 := s7 _ _ hO6
        have hlen : (rowsP cs ds ((lotsPF (placesF cs)).take i)).length ≤ 256 := by
          refine Nat.le_trans (List.length_filterMap_le _ _) (Nat.le_trans (List.length_take_le' _ _) (lots_small ?_))
          unfold placesF
          rw [List.length_map, List.length_range]
          exact hl
        refine ⟨o, _, _, rfl, rfl, hO7, ?_, ?_⟩
        · rw [paired_len hpr]
          exact small1000 (by omega)
        have su : Smt o (upd H6 u (.tup [.int (-((vi lot).length : Int)), .ref t])) (upd (upd H6 u (.tup [.int (-((vi lot).length : Int)), .ref t])) o (.lst (ys ++ [.ref u]))) := Smt.upd
        refine ⟨ys ++ [.ref u], _, _, _, _, rfl, (sm.trans (Smt.of (s36.trans s7))).trans su, upd_same, ?_⟩
        rw [take_next hlot, rowsP_snoc]
        have er : rowOf cs ds lot = some (-(lot.length : Int), lot) := if_pos c
        rw [er]
        refine paired_app (paired_mono (fun v x r => (r.same (s36.trans s7)).keep hO7 su) hpr) (.cons ⟨u, t, rfl, su _ _ ?_ ?_, sqt_keep hO7 su (s7.sqt ht6)⟩ .nil)
        · rw [upd_same, vi_len]
        · exact fun z => by
            rw [z, upd_same] at hO7
            cases hO7
      · have s36 := s35.trans s6
        refine ⟨ys, _, _, _, _, rfl, sm.trans (Smt.of s36), s36 _ _ hO, ?_⟩
        have er : rowOf cs ds lot = none := if_neg (by rw [c]; decide)
        rw [take_next hlot, rowsP_snoc, er]
        show Paired _ ys (rowsP cs ds ((lotsPF (placesF cs)).take i) ++ [])
        rw [List.append_nil]
        exact paired_mono (fun v x r => r.same s36) hpr
  · obtain ⟨ys, y3, y4, y5, y6, rfl, sm, hO, hpr⟩ := hW
    have hlen := paired_len pr
    rw [hlen] at hpr
    rw [List.take_length] at hpr
    refine ⟨_, rfl, o, ys, sparedF cs ds, rfl, SqL.of hO, hpr, spared_can hc, fun v r hv hb _ => ?_⟩
    obtain ⟨t, u, rfl, ht, hu⟩ := hv
    exact ⟨t, _, 1, _, rfl, rfl, SqT.of ht, rfl, qS H3 u r.1 r.2 (same_smt s12 sm nHo) hu hb⟩
/-! def is_within -/
abbrev s_is_within : Stmt := topS 19
theorem sc_is_within : FnScope ["thing", "low", "high"] ["thing", "low", "high"] (defScope s_is_within) := ⟨rfl, rfl, rfl, by decide +kernel, rfl, by decide +kernel, by decide +kernel⟩
def spWithin (K : PySem.W.Frag) : Sp := fun vs H Q _ => ∃ (v : V) (lo hi : Int) (d : PyData), vs = [v, .int lo, .int hi] ∧ Dp K H v d ∧ Q (.bl (cd (IsWithin lo hi d))) H
theorem ok_is_within {f : Addr} {fd : FuncData} (T : Bl mg) (F : Fun K "is_within" "is_within" s_is_within f fd) : FnOk P w K mg base CX0 1 f fd ["thing", "low", "high"] (spWithin K) := by
  refine F.ok sc_is_within (fun vs H Q E h => ?_) (fun cdv A outer s H vs Q E hr h => ?_)
  · obtain ⟨v, lo, hi, d, rfl, _⟩ := h
    rfl
  obtain ⟨v, lo, hi, d, rfl, hv, q⟩ := h
  refine ⟨_, (pss_one (ps_ret (pe_and (pe_callB (isiK K) rfl T.isinstance (by decide +kernel) (pa_cons (pv 0) (pa_cons (pe_bltn (v := .ty "int") (u := .type "int") rfl T.int (by decide +kernel) rfl) pa_nil))) (pe_and (pe_not (pe_callB (isiK K) rfl T.isinstance (by decide +kernel) (pa_cons (pv 0) (pa_cons (pe_bltn (v := .ty "bool") (u := .type "bool") rfl T.bool (by decide +kernel) rfl) pa_nil)))) (pe_one (pe_chain op_le op_le (pv 1) (pv 0) (pv 2))))))), ?_⟩
  refine ⟨_, rfl, v, _, _, _, _, rfl, .ty _, dp_ty hv, kit_d d (by simp), _, rfl, if_b (fun c => ?_) (fun c => ?_)⟩
  · refine ⟨_, rfl, v, _, _, _, _, rfl, .ty _, dp_ty hv, kit_d d (by simp), _, rfl, _, rfl, if_b (fun c2 => ?_) (fun c2 => ?_)⟩
    · obtain ⟨i, rfl⟩ := is_int c (by cases h : dis "bool" d <;> simp_all)
      cases dp_int hv
      refine ⟨_, rfl, _, rfl, _, _, rfl, rfl, _, rfl, if_b (fun c3 => ?_) (fun c3 => ?_)⟩
      · refine ⟨_, rfl, _, _, rfl, rfl, ?_⟩
        have e : decide (i ≤ hi) = cd (IsWithin lo hi (.int i)) := cd_b ⟨fun z => ⟨i, rfl, of_decide_eq_true c3, of_decide_eq_true z⟩, fun ⟨j, e, _, h2⟩ => by cases e; exact decide_eq_true h2⟩
        show Q (.bl (decide (i ≤ hi))) H
        rw [e]
        exact q
      · rw [cd_f (fun ⟨j, e, h1, _⟩ => by cases e; exact of_decide_eq_false c3 h1)] at q
        exact q
    · rw [cd_f (fun ⟨j, e, _, _⟩ => by subst e; cases c2)] at q
      exact q
  · rw [cd_f (fun ⟨j, e, _, _⟩ => by subst e; cases c)] at q
    exact q
/-! def are_candles -/
abbrev s_are_candles : Stmt := topS 20
theorem sc_are_candles : FnScope ["thing", "part"] ["thing"] (defScope s_are_candles) := ⟨rfl, rfl, rfl, by decide +kernel, rfl, by decide +kernel, by decide +kernel⟩
def spAre (K : PySem.W.Frag) (least most top : Int) : Sp := fun vs H Q _ => ∃ (v : V) (d : PyData) (n : Nat), vs = [v] ∧ Dp K H v d ∧ Fit (n + 1) d ∧ ∀ H', Same H H' → Q (.bl (cd (IsAre least most top d))) H'
theorem ok_are_candles {f : Addr} {fd : FuncData} (T : Bl mg) (C : Cs mg) (F : Fun K "are_candles" "are_candles" s_are_candles f fd) {f_is_within : Addr} {fd_is_within : FuncData} (D_is_within : FnAt K mg "is_within" "is_within" s_is_within ["thing", "low", "high"] f_is_within fd_is_within) : FnOk P w K mg base CX0 2 f fd ["thing"] (spAre K 1 8 12) := by
  have G_is_within : FnOk P w K mg base CX0 1 f_is_within fd_is_within _ (spWithin K) := ok_is_within T D_is_within.F
  refine F.ok sc_are_candles (fun vs H Q E h => ?_) (fun cdv A outer s H vs Q E hr h => ?_)
  · obtain ⟨v, d, n, rfl, _⟩ := h
    rfl
  obtain ⟨v, d, n, rfl, hv, hfit, q⟩ := h
  refine ⟨_, (pss_cons (ps_if (PW.pt (pw_or (pt_not (pt_val (pe_callB (isiK K) rfl T.isinstance (by decide +kernel) (pa_cons (pv 0) (pa_cons (pe_bltn (v := .ty "tuple") (u := .type "tuple") rfl T.tuple (by decide +kernel) rfl) pa_nil))))) (pw_or1 (pt_not (pt_chain op_le op_le pe_int (pe_callB (lenK K) rfl T.len (by decide +kernel) (pa_cons (pv 0) pa_nil)) (pe_gint rfl C.MOST_CANDLES)))))) (pss_one (ps_ret pe_bl)) pss_nil)
  (pss_one (ps_ret (pe_callB (allK K) rfl T.all (by decide +kernel) (pa_cons (pe_lc (own := [("part", 1)]) rfl sc_are_candles.nd (piT K (pv 0)) (blkOk_by (N := ["thing", "part"]) (sc := defScope s_are_candles) (own := [("part", 1)]) (by decide +kernel)) (fun _ _ _ _ _ => (pg_name (i := 1) sc_are_candles.nd rfl (.inl rfl))) (fun _ _ _ _ _ => pts_nil) (fun _ _ _ _ _ => (pe_call G_is_within hr rfl D_is_within.g D_is_within.F.kp D_is_within.b .nil pass0 (pa_cons (pv 1) (pa_cons pe_int (pa_cons (pe_gint rfl C.MOST_WAX) pa_nil)))))) pa_nil))))), ?_⟩
  refine ⟨_, rfl, v, _, _, _, _, rfl, .ty _, dp_ty hv, kit_d d (by simp), _, rfl, if_b (fun c => ?_) (fun c => ?_)⟩
  · rw [cd_f (fun ⟨l, e, _⟩ => by subst e; cases c)] at q
    exact if_t rfl (q H (Same.refl _))
  obtain ⟨ds, rfl⟩ := is_tup (by cases h : dis "tuple" d <;> simp_all)
  obtain ⟨p, xs, rfl, hp, ha⟩ := dp_tup_get hv
  have hlen : xs.length = ds.length := dpall_len ha
  have hsz : ds.length ≤ 1000 := hfit.1
  refine ⟨_, rfl, p, xs, rfl, .inr hp, _, _, rfl, rfl, _, rfl, if_b (fun c1 => ?_) (fun c1 => ?_)⟩
  · have c1 : (1 : Int) ≤ ((xs.length : Nat) : Int) := of_decide_eq_true c1
    refine ⟨_, _, rfl, rfl, _, rfl, if_b (fun c2 => ?_) (fun c2 => ?_)⟩
    · have c2 : ¬ ((xs.length : Nat) : Int) ≤ 8 := fun z => by
        rw [decide_eq_true z] at c2
        cases c2
      rw [cd_f (fun h => c2 (by rw [hlen]; exact (are_len h).2))] at q
      exact q H (Same.refl _)
    · have c2 : ((xs.length : Nat) : Int) ≤ 8 := by
        by_cases h : ((xs.length : Nat) : Int) ≤ 8
        · exact h
        · rw [decide_eq_false h] at c2
          cases c2
      refine ⟨_, rfl, p, rfl, ⟨_, hp⟩, fun D hD => lc_bls (walk_tup (xs := xs)) hD (by omega) (fun i => ds[i]?.bind fun x => some (cd (IsWithin 0 12 x))) (fun H' s => s.sqt hp) (fun i x H1 H' kn ky hi sm y h1 h2 => ?_) (fun H1 sm e => ?_)⟩
      · obtain ⟨rfl, hx⟩ := y
        obtain ⟨dx, hdx, hvx⟩ := dpall_get1 ha hx
        refine ⟨rfl, lc_yes ⟨_, rfl, x, 0, 12, dx, rfl, hvx.same sm, h2 _ _ (Same.refl _) ?_⟩⟩
        rw [hdx]
        rfl
      · rw [hlen, fm_at] at e
        refine ⟨D, _, rfl, SqL.of e, ?_⟩
        rw [are_all (least := 1) (most := 8) (by omega) (by omega)]
        exact q _ sm
  · have c1 : ¬ (1 : Int) ≤ ((xs.length : Nat) : Int) := of_decide_eq_false c1
    rw [cd_f (fun h => c1 (by rw [hlen]; exact (are_len h).1))] at q
    exact ⟨_, rfl, if_t rfl (q H (Same.refl _))⟩
/-! def are_draughts -/
abbrev s_are_draughts : Stmt := topS 21
theorem sc_are_draughts : FnScope ["thing", "part"] ["thing"] (defScope s_are_draughts) := ⟨rfl, rfl, rfl, by decide +kernel, rfl, by decide +kernel, by decide +kernel⟩
theorem ok_are_draughts {f : Addr} {fd : FuncData} (T : Bl mg) (C : Cs mg) (F : Fun K "are_draughts" "are_draughts" s_are_draughts f fd) {f_is_within : Addr} {fd_is_within : FuncData} (D_is_within : FnAt K mg "is_within" "is_within" s_is_within ["thing", "low", "high"] f_is_within fd_is_within) : FnOk P w K mg base CX0 2 f fd ["thing"] (spAre K 0 10 7) := by
  have G_is_within : FnOk P w K mg base CX0 1 f_is_within fd_is_within _ (spWithin K) := ok_is_within T D_is_within.F
  refine F.ok sc_are_draughts (fun vs H Q E h => ?_) (fun cdv A outer s H vs Q E hr h => ?_)
  · obtain ⟨v, d, n, rfl, _⟩ := h
    rfl
  obtain ⟨v, d, n, rfl, hv, hfit, q⟩ := h
  refine ⟨_, (pss_cons (ps_if (PW.pt (pw_or (pt_not (pt_val (pe_callB (isiK K) rfl T.isinstance (by decide +kernel) (pa_cons (pv 0) (pa_cons (pe_bltn (v := .ty "tuple") (u := .type "tuple") rfl T.tuple (by decide +kernel) rfl) pa_nil))))) (pw_or1 (pt_cmpR op_gt (pe_callB (lenK K) rfl T.len (by decide +kernel) (pa_cons (pv 0) pa_nil)) (pe_gint rfl C.MOST_DRAUGHTS) (nomark _))))) (pss_one (ps_ret pe_bl)) pss_nil)
  (pss_one (ps_ret (pe_callB (allK K) rfl T.all (by decide +kernel) (pa_cons (pe_lc (own := [("part", 1)]) rfl sc_are_draughts.nd (piT K (pv 0)) (blkOk_by (N := ["thing", "part"]) (sc := defScope s_are_draughts) (own := [("part", 1)]) (by decide +kernel)) (fun _ _ _ _ _ => (pg_name (i := 1) sc_are_draughts.nd rfl (.inl rfl))) (fun _ _ _ _ _ => pts_nil) (fun _ _ _ _ _ => (pe_call G_is_within hr rfl D_is_within.g D_is_within.F.kp D_is_within.b .nil pass0 (pa_cons (pv 1) (pa_cons pe_int (pa_cons (pe_gint rfl C.STRONGEST) pa_nil)))))) pa_nil))))), ?_⟩
  refine ⟨_, rfl, v, _, _, _, _, rfl, .ty _, dp_ty hv, kit_d d (by simp), _, rfl, if_b (fun c => ?_) (fun c => ?_)⟩
  · rw [cd_f (fun ⟨l, e, _⟩ => by subst e; cases c)] at q
    exact if_t rfl (q H (Same.refl _))
  obtain ⟨ds, rfl⟩ := is_tup (by cases h : dis "tuple" d <;> simp_all)
  obtain ⟨p, xs, rfl, hp, ha⟩ := dp_tup_get hv
  have hlen : xs.length = ds.length := dpall_len ha
  have hsz : ds.length ≤ 1000 := hfit.1
  refine ⟨_, rfl, p, xs, rfl, .inr hp, _, _, rfl, rfl, _, rfl, if_b (fun c1 => ?_) (fun c1 => ?_)⟩
  · have c1 : ((xs.length : Nat) : Int) > 10 := of_decide_eq_true c1
    have hno : ¬ IsAre 0 10 7 (.tuple ds) := fun h => by
      have := (are_len h).2
      omega
    rw [cd_f hno] at q
    exact q H (Same.refl _)
  · have c1 : ¬ ((xs.length : Nat) : Int) > 10 := of_decide_eq_false c1
    refine ⟨_, rfl, p, rfl, ⟨_, hp⟩, fun D hD => lc_bls (walk_tup (xs := xs)) hD (by omega) (fun i => ds[i]?.bind fun x => some (cd (IsWithin 0 7 x))) (fun H' s => s.sqt hp) (fun i x H1 H' kn ky hi sm y h1 h2 => ?_) (fun H1 sm e => ?_)⟩
    · obtain ⟨rfl, hx⟩ := y
      obtain ⟨dx, hdx, hvx⟩ := dpall_get1 ha hx
      refine ⟨rfl, lc_yes ⟨_, rfl, x, 0, 7, dx, rfl, hvx.same sm, h2 _ _ (Same.refl _) ?_⟩⟩
      rw [hdx]
      rfl
    · rw [hlen, fm_at] at e
      refine ⟨D, _, rfl, SqL.of e, ?_⟩
      rw [are_all (least := 0) (most := 10) (by omega) (by omega)]
      exact q _ sm
/-! def are_places -/
abbrev s_are_places : Stmt := topS 22
theorem sc_are_places : FnScope ["candles", "thing", "part", "one", "two"] ["candles", "thing"] (defScope s_are_places) := ⟨rfl, rfl, rfl, by decide +kernel, rfl, by decide +kernel, by decide +kernel⟩
def spPlaces (K : PySem.W.Frag) : Sp := fun vs H Q _ => ∃ (a : Addr) (v : V) (cs : List Int) (d : PyData) (n : Nat), vs = [.ref a, v] ∧ SqT K H a (vi cs) ∧ Dp K H v d ∧ Fit (n + 1) d ∧ ∀ H', Same H H' → Q (.bl (cd (IsPlaces cs.length d))) H'
theorem ok_are_places {f : Addr} {fd : FuncData} (T : Bl mg) (F : Fun K "are_places" "are_places" s_are_places f fd) {f_is_within : Addr} {fd_is_within : FuncData} (D_is_within : FnAt K mg "is_within" "is_within" s_is_within ["thing", "low", "high"] f_is_within fd_is_within) : FnOk P w K mg base CX0 2 f fd ["candles", "thing"] (spPlaces K) := by
  have G_is_within : FnOk P w K mg base CX0 1 f_is_within fd_is_within _ (spWithin K) := ok_is_within T D_is_within.F
  refine F.ok sc_are_places (fun vs H Q E h => ?_) (fun cdv A outer s H vs Q E hr h => ?_)
  · obtain ⟨a, v, cs, d, n, rfl, _⟩ := h
    rfl
  obtain ⟨a, v, cs, d, n, rfl, hS, hv, hfit, q⟩ := h
  refine ⟨_, (pss_cons (ps_if (PW.pt (pw_or (pt_not (pt_val (pe_callB (isiK K) rfl T.isinstance (by decide +kernel) (pa_cons (pv 1) (pa_cons (pe_bltn (v := .ty "tuple") (u := .type "tuple") rfl T.tuple (by decide +kernel) rfl) pa_nil))))) (pw_or1 (pt_not (pt_val (pe_callB (allK K) rfl T.all (by decide +kernel) (pa_cons (pe_lc (own := [("part", 2)]) rfl sc_are_places.nd (piT K (pv 1)) (blkOk_by (N := ["candles", "thing", "part", "one", "two"]) (sc := defScope s_are_places) (own := [("part", 2)]) (by decide +kernel)) (fun _ _ _ _ _ => (pg_name (i := 2) sc_are_places.nd rfl (.inl rfl))) (fun _ _ _ _ _ => pts_nil) (fun _ _ _ _ _ => (pe_call G_is_within hr rfl D_is_within.g D_is_within.F.kp D_is_within.b .nil pass0 (pa_cons (pv 2) (pa_cons pe_int (pa_cons (pe_op op_sub (pe_callB (lenK K) rfl T.len (by decide +kernel) (pa_cons (pv 0) pa_nil)) pe_int) pa_nil)))))) pa_nil))))))) (pss_one (ps_ret pe_bl)) pss_nil)
  (pss_one (ps_ret (pe_callB (allK K) rfl T.all (by decide +kernel) (pa_cons (pe_lc (own := [("one", 3), ("two", 4)]) rfl sc_are_places.nd (zipK K true true rfl T.zip (pa_cons (pv 1) (pa_cons (pe_slice (slT K) (pv 1) (po_some pe_int) po_none) pa_nil))) (blkOk_by (N := ["candles", "thing", "part", "one", "two"]) (sc := defScope s_are_places) (own := [("one", 3), ("two", 4)]) (by decide +kernel)) (fun _ _ _ _ _ => (pgT K 2 rfl (pgs_cons (pg_name (i := 3) sc_are_places.nd rfl (.inl rfl)) (pgs_cons (pg_name (i := 4) sc_are_places.nd rfl (.inl rfl)) pgs_nil)))) (fun _ _ _ _ _ => pts_nil) (fun _ _ _ _ _ => (pe_cmpR op_lt (pv 3) (pv 4) (nomark _)))) pa_nil))))), ?_⟩
  refine ⟨_, rfl, v, _, _, _, _, rfl, .ty _, dp_ty hv, kit_d d (by simp), _, rfl, if_b (fun c => ?_) (fun c => ?_)⟩
  · rw [cd_f (fun ⟨l, e, _⟩ => by subst e; cases c)] at q
    exact if_t rfl (q H (Same.refl _))
  obtain ⟨ds, rfl⟩ := is_tup (by cases h : dis "tuple" d <;> simp_all)
  obtain ⟨p, xs, rfl, hp, ha⟩ := dp_tup_get hv
  have hlen : xs.length = ds.length := dpall_len ha
  have hsz : ds.length ≤ 1000 := hfit.1
  refine ⟨_, rfl, p, rfl, ⟨_, hp⟩, fun D hD => lc_bls (walk_tup (xs := xs)) hD (by omega) (fun i => ds[i]?.bind fun x => some (cd (IsWithin 0 ((cs.length : Nat) - 1 : Int) x))) (fun H' s => s.sqt hp) (fun i x H1 H' kn ky hi sm y h1 h2 => ?_) (fun H1 sm e => ?_)⟩
  · obtain ⟨rfl, hx⟩ := y
    obtain ⟨dx, hdx, hvx⟩ := dpall_get1 ha hx
    refine ⟨rfl, lc_yes ⟨_, rfl, _, rfl, a, vi cs, rfl, .inr (sm.sqt hS), _, _, rfl, rfl, x, 0, ((vi cs).length : Nat) - 1, dx, rfl, hvx.same sm, h2 _ _ (Same.refl _) ?_⟩⟩
    rw [hdx, vi_len]
    rfl
  rw [hlen, fm_at] at e
  refine ⟨D, _, rfl, SqL.of e, _, rfl, if_b (fun c2 => ?_) (fun c2 => ?_)⟩
  · have hno : ¬ IsPlaces cs.length (.tuple ds) := fun ⟨l, e, hl, _⟩ => by
      have e := PyData.tuple.inj e
      have : ((ds.map fun x => cd (IsWithin 0 ((cs.length : Nat) - 1 : Int) x)).all id) = true := by
        rw [sat_map]
        intro x hx
        rw [e] at hx
        obtain ⟨i, hi, rfl⟩ := List.mem_map.mp hx
        exact cd_t ⟨i, rfl, hl i hi⟩
      rw [this] at c2
      cases c2
    rw [cd_f hno] at q
    exact q _ sm
  have hall : ∀ x ∈ ds, IsWithin 0 ((cs.length : Nat) - 1 : Int) x := by
    have c2 : (!((ds.map fun x => cd (IsWithin 0 ((cs.length : Nat) - 1 : Int) x)).all id)) = false := c2
    have c3 : ((ds.map fun x => cd (IsWithin 0 ((cs.length : Nat) - 1 : Int) x)).all id) = true := by
      cases h : ((ds.map fun x => cd (IsWithin 0 ((cs.length : Nat) - 1 : Int) x)).all id) with
      | true => rfl
      | false =>
        rw [h] at c2
        cases c2
    exact fun x hx => cd_of ((sat_map _ _).mp c3 x hx)
  obtain ⟨l, rfl, hl⟩ := all_within hall
  have hxs := dpall_ints ha
  subst hxs
  rw [List.length_map] at hsz
  -- all([one < two for one, two in zip(thing, thing[1:])])
  have hp1 := sm.sqt hp
  refine ⟨_, rfl, _, rfl, _, rfl, noPart (sl_any hp1 fun H2 g s2 hg => ?_)⟩
  rw [show (1 : Int) = ((1 : Nat) : Int) from rfl] at hg
  have hcut : cutV (vi l) (some ((1 : Nat) : Int)) none = vi (l.drop 1) := by
    by_cases h : 1 ≤ l.length
    · exact cut_drop l 1 h
    · have : l = [] := List.length_eq_zero_iff.mp (by omega)
      subst this
      rfl
  rw [hcut] at hg
  have hp2 := s2.sqt hp1
  have q1 : SqB K true H2 p (vi l) := hp2
  have q2 : SqB K true H2 g (vi (l.drop 1)) := hg
  refine ⟨p, g, vi l, vi (l.drop 1), rfl, q1, q2, fun D2 hD2 => lc_bls (walk_zipB (ka := true) (kb := true) (xs := vi l) (ys := vi (l.drop 1)) (n := l.length - 1) (by rw [vi_len, vi_len, List.length_drop]; omega)) hD2 (by omega) (fun i => l[i]?.bind fun x => l[i + 1]?.bind fun y => some (decide (x < y))) (fun H' s => ⟨s.sqb q1, s.sqb q2⟩) (fun i x H3 H' kn ky hi sm3 y h1 h2 => ?_) (fun H3 sm3 e => ?_)⟩
  · obtain ⟨tt, x1, x2, rfl, nT, rfl, e1, e2⟩ := y
    obtain ⟨z1, hz1, rfl⟩ := vi_get e1
    obtain ⟨z2, hz2, rfl⟩ := vi_get e2
    rw [List.getElem?_drop, Nat.add_comm] at hz2
    refine ⟨tt, _, rfl, SqT.of upd_same, rfl, _, _, rfl, _, _, rfl, rfl, rfl, lc_yes ⟨_, rfl, _, rfl, _, _, rfl, rfl, h2 _ _ (Same.new nT) ?_⟩⟩
    rw [hz1]
    show (l[i + 1]?.bind fun y => some (decide (z1 < y))) = _
    rw [hz2]
    rfl
  · have er : (((List.range (l.length - 1)).filterMap fun i => l[i]?.bind fun x => l[i + 1]?.bind fun y => some (decide (x < y))).all id) = cd (IsPlaces cs.length (.tuple (di l))) := by
      refine cd_b ⟨fun h => ⟨l, rfl, hl, fun i x y hx hy => ?_⟩, fun ⟨l', e, _, hr⟩ => ?_⟩
      · have hi := (List.getElem?_eq_some_iff.mp hy).1
        have hm : decide (x < y) ∈ (List.range (l.length - 1)).filterMap fun i => l[i]?.bind fun x => l[i + 1]?.bind fun y => some (decide (x < y)) := List.mem_filterMap.mpr ⟨i, List.mem_range.mpr (by omega), by rw [hx]; show (l[i + 1]?.bind fun y => some (decide (x < y))) = _; rw [hy]; rfl⟩
        exact of_decide_eq_true (List.all_eq_true.mp h _ hm)
      · have e := di_inj (PyData.tuple.inj e)
        subst e
        refine List.all_eq_true.mpr fun b hb => ?_
        obtain ⟨i, _, hi⟩ := List.mem_filterMap.mp hb
        obtain ⟨x, hx, hi⟩ := Option.bind_eq_some_iff.mp hi
        obtain ⟨y, hy, hi⟩ := Option.bind_eq_some_iff.mp hi
        cases hi
        exact decide_eq_true (hr i x y hx hy)
    refine ⟨D2, _, rfl, SqL.of e, ?_⟩
    rw [er]
    exact q _ ((sm.trans s2).trans sm3)
/-! def is_tick -/
abbrev s_is_tick : Stmt := topS 23
theorem sc_is_tick : FnScope ["candles", "draught", "thing", "lit", "out", "part", "place"] ["candles", "draught", "thing"] (defScope s_is_tick) := ⟨rfl, rfl, rfl, by decide +kernel, rfl, by decide +kernel, by decide +kernel⟩
def spTick (K : PySem.W.Frag) : Sp := fun vs H Q _ => ∃ (a : Addr) (k : Int) (v : V) (cs : List Int) (d : PyData) (n : Nat), vs = [.ref a, .int k, v] ∧ SqT K H a (vi cs) ∧ Dp K H v d ∧ Fit (n + 2) d ∧ ∀ H', Same H H' → Q (.bl (cd (IsTick cs k d))) H'
theorem tick_inj {t u : List Int × List Int} (h : tickD t = tickD u) : t = u := by
  obtain ⟨a, b⟩ := t
  obtain ⟨c, d⟩ := u
  injection h with h
  injection h with h1 h2
  injection h2 with h2 _
  injection h1 with h1
  injection h2 with h2
  have e1 : a = c := di_inj h1
  have e2 : b = d := di_inj h2
  rw [e1, e2]
theorem ok_is_tick {f : Addr} {fd : FuncData} (T : Bl mg) (F : Fun K "is_tick" "is_tick" s_is_tick f fd) {f_are_places : Addr} {fd_are_places : FuncData} (D_are_places : FnAt K mg "are_places" "are_places" s_are_places ["candles", "thing"] f_are_places fd_are_places) {f_is_within : Addr} {fd_is_within : FuncData} (D_is_within : FnAt K mg "is_within" "is_within" s_is_within ["thing", "low", "high"] f_is_within fd_is_within) : FnOk P w K mg base CX0 3 f fd ["candles", "draught", "thing"] (spTick K) := by
  have G_are_places : FnOk P w K mg base CX0 2 f_are_places fd_are_places _ (spPlaces K) := ok_are_places T D_are_places.F D_is_within
  refine F.ok sc_is_tick (fun vs H Q E h => ?_) (fun cdv A outer s H vs Q E hr h => ?_)
  · obtain ⟨a, k, v, cs, d, n, rfl, _⟩ := h
    rfl
  obtain ⟨a, k, v, cs, d, n, rfl, hS, hv, hfit, q⟩ := h
  refine ⟨_, (pss_cons (ps_if (PW.pt (pw_or (pt_not (pt_val (pe_callB (isiK K) rfl T.isinstance (by decide +kernel) (pa_cons (pv 2) (pa_cons (pe_bltn (v := .ty "tuple") (u := .type "tuple") rfl T.tuple (by decide +kernel) rfl) pa_nil))))) (pw_or (pt_cmpR op_ne (pe_callB (lenK K) rfl T.len (by decide +kernel) (pa_cons (pv 2) pa_nil)) pe_int (nomark _)) (pw_or1 (pt_not (pt_val (pe_callB (allK K) rfl T.all (by decide +kernel) (pa_cons (pe_lc (own := [("part", 5)]) rfl sc_is_tick.nd (piT K (pv 2)) (blkOk_by (N := ["candles", "draught", "thing", "lit", "out", "part", "place"]) (sc := defScope s_is_tick) (own := [("part", 5)]) (by decide +kernel)) (fun _ _ _ _ _ => (pg_name (i := 5) sc_is_tick.nd rfl (.inl rfl))) (fun _ _ _ _ _ => pts_nil) (fun _ _ _ _ _ => (pe_call G_are_places hr rfl D_are_places.g D_are_places.F.kp D_are_places.b .nil pass0 (pa_cons (pv 0) (pa_cons (pv 5) pa_nil))))) pa_nil)))))))) (pss_one (ps_ret pe_bl)) pss_nil)
  (pss_cons (ps_asg (pv 2) (pgT K 2 rfl (pgs_cons (pg_name (i := 3) sc_is_tick.nd rfl (.inr rfl)) (pgs_cons (pg_name (i := 4) sc_is_tick.nd rfl (.inl rfl)) pgs_nil))))
  (pss_cons (ps_if (PW.pt (pw_or (pt_val (pe_callB (anyK K) rfl T.any (by decide +kernel) (pa_cons (pe_lc (own := [("place", 6)]) rfl sc_is_tick.nd (piT K (pv 3)) (blkOk_by (N := ["candles", "draught", "thing", "lit", "out", "part", "place"]) (sc := defScope s_is_tick) (own := [("place", 6)]) (by decide +kernel)) (fun _ _ _ _ _ => (pg_name (i := 6) sc_is_tick.nd rfl (.inl rfl))) (fun _ _ _ _ _ => pts_nil) (fun _ _ _ _ _ => (pe_cmpR op_eq (pe_ix (ixT K) (pv 0) (pv 6) (fun _ _ => rfl)) pe_int (nomark _)))) pa_nil))) (pw_or1 (pt_cmpR op_gt (pe_callB (lenK K) rfl T.len (by decide +kernel) (pa_cons (pv 4) pa_nil)) (pv 1) (nomark _))))) (pss_one (ps_ret pe_bl)) pss_nil)
  (pss_one (ps_ret (pe_callB (allK K) rfl T.all (by decide +kernel) (pa_cons (pe_lc (own := [("place", 6)]) rfl sc_is_tick.nd (piT K (pv 4)) (blkOk_by (N := ["candles", "draught", "thing", "lit", "out", "part", "place"]) (sc := defScope s_is_tick) (own := [("place", 6)]) (by decide +kernel)) (fun _ _ _ _ _ => (pg_name (i := 6) sc_is_tick.nd rfl (.inl rfl))) (fun _ _ _ _ _ => pts_nil) (fun _ _ _ _ _ => (pe_cmpR (inK K) (pv 6) (pv 3) rfl))) pa_nil))))))), ?_⟩
  refine ⟨_, rfl, v, _, _, _, _, rfl, .ty _, dp_ty hv, kit_d d (by simp), _, rfl, if_b (fun c => ?_) (fun c => ?_)⟩
  · rw [cd_f (fun ⟨l, o, e, _⟩ => by subst e; cases c)] at q
    exact if_t rfl (q H (Same.refl _))
  obtain ⟨ds, rfl⟩ := is_tup (by cases h : dis "tuple" d <;> simp_all)
  obtain ⟨p, xs, rfl, hp, ha⟩ := dp_tup_get hv
  have hlen : xs.length = ds.length := dpall_len ha
  refine ⟨_, rfl, p, xs, rfl, .inr hp, rfl, _, rfl, if_b (fun c2 => ?_) (fun c2 => ?_)⟩
  · have hno : ¬ IsTick cs k (.tuple ds) := fun ⟨l, o, e, _⟩ => by
      have e := PyData.tuple.inj e
      rw [hlen, e] at c2
      cases c2
    rw [cd_f hno] at q
    exact if_t rfl (q H (Same.refl _))
  have hl2 : ds.length = 2 := by
    have c2 : (!decide (V.int ((xs.length : Nat) : Int) = V.int 2)) = false := c2
    cases h : decide (V.int ((xs.length : Nat) : Int) = V.int 2) with
    | true =>
      have := V.int.inj (of_decide_eq_true h)
      omega
    | false =>
      rw [h] at c2
      cases c2
  obtain ⟨x, y, rfl⟩ : ∃ x y, ds = [x, y] := by
    match ds, hl2 with
    | [x, y], _ => exact ⟨x, y, rfl⟩
  have hf1 : Fit (n + 1) x := hfit.2 x List.mem_cons_self
  have hf2 : Fit (n + 1) y := hfit.2 y (List.mem_cons_of_mem _ List.mem_cons_self)
  have hfa : ∀ z ∈ [x, y], Fit (n + 1) z := hfit.2
  refine ⟨_, rfl, p, rfl, ⟨_, hp⟩, fun D hD => lc_bls (walk_tup (xs := xs)) hD (by rw [hlen]; show 2 ≤ 1000; decide) (fun i => [x, y][i]?.bind fun z => some (cd (IsPlaces cs.length z))) (fun H' s => s.sqt hp) (fun i z H1 H' kn ky hi sm yy h1 h2 => ?_) (fun H1 sm e => ?_)⟩
  · obtain ⟨rfl, hx⟩ := yy
    obtain ⟨dx, hdx, hvx⟩ := dpall_get1 ha hx
    refine ⟨rfl, lc_yes ⟨_, rfl, _, rfl, a, z, cs, dx, n, rfl, sm.sqt hS, hvx.same sm, hfa dx (List.mem_of_getElem? hdx), fun H2 s2 => h2 _ _ s2 ?_⟩⟩
    rw [hdx]
    rfl
  rw [hlen] at e
  have e : H1 D = some (.lst ([cd (IsPlaces cs.length x), cd (IsPlaces cs.length y)].map V.bl)) := e
  refine ⟨D, _, rfl, SqL.of e, _, rfl, if_b (fun c3 => ?_) (fun c3 => ?_)⟩
  · have hno : ¬ IsTick cs k (.tuple [x, y]) := fun ⟨l, o, e, ht⟩ => by
      have e := PyData.tuple.inj e
      injection e with e1 e2
      injection e2 with e2 _
      rw [e1, e2, cd_t ⟨l, rfl, ht.pl⟩, cd_t ⟨o, rfl, ht.po⟩] at c3
      cases c3
    rw [cd_f hno] at q
    exact q _ sm
  have hb : cd (IsPlaces cs.length x) = true ∧ cd (IsPlaces cs.length y) = true := by
    have c3 : (!(cd (IsPlaces cs.length x) && (cd (IsPlaces cs.length y) && true))) = false := c3
    cases h1 : cd (IsPlaces cs.length x) <;> cases h2 : cd (IsPlaces cs.length y) <;> simp_all
  obtain ⟨lit, rfl, pl⟩ := cd_of hb.1
  obtain ⟨out, rfl, po⟩ := cd_of hb.2
  obtain ⟨w1, w2, rfl⟩ : ∃ w1 w2, xs = [w1, w2] := by
    match xs, hlen with
    | [w1, w2], _ => exact ⟨w1, w2, rfl⟩
  have hl1 : lit.length ≤ 1000 := by
    have := hf1.1
    rw [List.length_map] at this
    exact this
  have hl2 : out.length ≤ 1000 := by
    have := hf2.1
    rw [List.length_map] at this
    exact this
  cases ha with
  | cons ha1 ha2 =>
  cases ha2 with
  | cons ha2 _ =>
  obtain ⟨u1, rfl, hu1⟩ := dp_tints ha1
  obtain ⟨u2, rfl, hu2⟩ := dp_tints ha2
  -- lit, out = thing
  refine ⟨_, rfl, p, _, rfl, sm.sqt hp, rfl, _, _, rfl, _, _, rfl, rfl, ?_⟩
  -- any([candles[place] == 0 for place in lit])
  have hl3 := sm.sqt hu1
  have hS1 := sm.sqt hS
  have pin : ∀ z ∈ lit, ∃ j : Nat, z = (j : Int) ∧ j < cs.length := fun z hz => by
    have := pl.1 z hz
    exact ⟨z.toNat, by omega, by omega⟩
  refine ⟨_, rfl, u1, rfl, ⟨_, hl3⟩, fun D2 hD2 => lc_bls (walk_tup (xs := vi lit)) hD2 (by rw [vi_len]; exact hl1) (fun i => lit[i]?.bind fun z => some (decide (cs[z.toNat]? = some 0))) (fun H' s => s.sqt hl3) (fun i z H2 H' kn ky hi sm2 yy h1 h2 => ?_) (fun H2 sm2 e2 => ?_)⟩
  · obtain ⟨rfl, hx⟩ := yy
    obtain ⟨z, hz, rfl⟩ := vi_get hx
    obtain ⟨j, rfl, hj⟩ := pin z (List.mem_of_getElem? hz)
    refine ⟨rfl, lc_yes ⟨_, rfl, _, rfl, a, _, _, _, rfl, rfl, sm2.sqt hS1, atI_nat (vi_at hj), rfl, h2 _ _ (Same.refl _) ?_⟩⟩
    rw [hz]
    show some (decide (cs[((j : Nat) : Int).toNat]? = some 0)) = _
    rw [Int.toNat_natCast, List.getElem?_eq_getElem hj]
    congr 1
    by_cases h0 : cs[j] = 0
    · rw [h0, decide_eq_true rfl]
      exact (decide_eq_true rfl).symm
    · rw [decide_eq_false (fun z => h0 (Option.some.inj z))]
      exact (decide_eq_false fun z => h0 (V.int.inj z)).symm
  rw [vi_len, fm_at] at e2
  have sm12 := sm.trans sm2
  have hw : ((lit.map fun z => decide (cs[z.toNat]? = some 0)).any id) = true ↔ ∃ j : Nat, (j : Int) ∈ lit ∧ cs[j]? = some 0 := by
    rw [List.any_eq_true]
    constructor
    · rintro ⟨b, hb, hb2⟩
      obtain ⟨z, hz, rfl⟩ := List.mem_map.mp hb
      obtain ⟨j, rfl, hj⟩ := pin z hz
      have hb2 := of_decide_eq_true hb2
      rw [Int.toNat_natCast] at hb2
      exact ⟨j, hz, hb2⟩
    · rintro ⟨j, hj, h0⟩
      exact ⟨true, List.mem_map.mpr ⟨(j : Int), hj, decide_eq_true (by rw [Int.toNat_natCast]; exact h0)⟩, rfl⟩
  refine ⟨D2, _, rfl, SqL.of e2, _, rfl, if_b (fun c4 => ?_) (fun c4 => ?_)⟩
  · have hno : ¬ IsTick cs k (tickD (lit, out)) := fun ⟨l, o, e, ht⟩ => by
      have e := tick_inj e
      injection e with e1 e2
      subst e1
      obtain ⟨j, hj, h0⟩ := hw.mp c4
      exact ht.wax j hj h0
    rw [cd_f hno] at q
    exact if_t rfl (q _ sm12)
  have hwax : ∀ j : Nat, (j : Int) ∈ lit → cs[j]? ≠ some 0 := fun j hj h0 => by
    rw [hw.mpr ⟨j, hj, h0⟩] at c4
    cases c4
  refine ⟨_, rfl, u2, vi out, rfl, .inr (sm12.sqt hu2), _, rfl, _, _, rfl, rfl, _, rfl, if_b (fun c5 => ?_) (fun c5 => ?_)⟩
  · have c5 := of_decide_eq_true c5
    rw [vi_len] at c5
    have hno : ¬ IsTick cs k (tickD (lit, out)) := fun ⟨l, o, e, ht⟩ => by
      have e := tick_inj e
      injection e with e1 e2
      subst e2
      have := ht.few
      omega
    rw [cd_f hno] at q
    exact q _ sm12
  have c5 := of_decide_eq_false c5
  rw [vi_len] at c5
  -- all([place in lit for place in out])
  have hu22 := sm12.sqt hu2
  have hu12 := sm12.sqt hu1
  refine ⟨_, rfl, u2, rfl, ⟨_, hu22⟩, fun D3 hD3 => lc_bls (walk_tup (xs := vi out)) hD3 (by rw [vi_len]; exact hl2) (fun i => out[i]?.bind fun z => some (decide (z ∈ lit))) (fun H' s => s.sqt hu22) (fun i z H3 H' kn ky hi sm3 yy h1 h2 => ?_) (fun H3 sm3 e3 => ?_)⟩
  · obtain ⟨rfl, hx⟩ := yy
    obtain ⟨z, hz, rfl⟩ := vi_get hx
    refine ⟨rfl, lc_yes ⟨_, rfl, _, rfl, u1, vi lit, rfl, .inr (sm3.sqt hu12), rfl, vi_flat _, h2 _ _ (Same.refl _) ?_⟩⟩
    rw [hz]
    show some (decide (z ∈ lit)) = some (inV (.int z) (vi lit))
    rw [inV_ints]
  rw [vi_len, fm_at] at e3
  have er : ((out.map fun z => decide (z ∈ lit)).all id) = cd (IsTick cs k (tickD (lit, out))) := by
    refine cd_b ⟨fun h => ⟨lit, out, rfl, pl, po, hwax, by show (out.length : Int) ≤ k; omega, fun i hi => of_decide_eq_true ((sat_map _ _).mp h i hi)⟩, fun ⟨l, o, e, ht⟩ => ?_⟩
    have e := tick_inj e
    injection e with e1 e2
    subst e1
    subst e2
    exact (sat_map _ _).mpr fun i hi => decide_eq_true (ht.sub i hi)
  refine ⟨D3, _, rfl, SqL.of e3, ?_⟩
  rw [er]
  exact q _ (sm12.trans sm3)
/-! def burnt -/
abbrev s_burnt : Stmt := topS 24
theorem sc_burnt : FnScope ["candles", "lit", "out", "place", "wax"] ["candles", "lit", "out"] (defScope s_burnt) := ⟨rfl, rfl, rfl, by decide +kernel, rfl, by decide +kernel, by decide +kernel⟩
def spBurnt (K : PySem.W.Frag) : Sp := fun vs H Q _ => ∃ (a l o : Addr) (cs lit out : List Int) (t1 t2 : Bool), vs = [.ref a, .ref l, .ref o] ∧ SqT K H a (vi cs) ∧ SqB K t1 H l (vi lit) ∧ SqB K t2 H o (vi out) ∧ cs.length ≤ 1000 ∧
  ∀ H' p, Same H H' → H p = none → H' p = some (.tup (vi (burntF cs lit out))) → Q (.ref p) H'
theorem ok_burnt {f : Addr} {fd : FuncData} (T : Bl mg) (F : Fun K "burnt" "burnt" s_burnt f fd) : FnOk P w K mg base CX0 1 f fd ["candles", "lit", "out"] (spBurnt K) := by
  refine F.ok sc_burnt (fun vs H Q E h => ?_) (fun cdv A outer s H vs Q E hr h => ?_)
  · obtain ⟨a, l, o, cs, lit, out, t1, t2, rfl, _⟩ := h
    rfl
  obtain ⟨a, l, o, cs, lit, out, t1, t2, rfl, hS, hL, hO, hl, q⟩ := h
  refine ⟨_, (pss_one (ps_ret (pe_callTy (tupleK K) rfl T.tuple (by decide +kernel) (pa_cons (pe_lc (own := [("place", 3), ("wax", 4)]) rfl sc_burnt.nd (enumK K true rfl T.enumerate (pa_cons (pv 0) pa_nil)) (blkOk_by (N := ["candles", "lit", "out", "place", "wax"]) (sc := defScope s_burnt) (own := [("place", 3), ("wax", 4)]) (by decide +kernel)) (fun _ _ _ _ _ => (pgT K 2 rfl (pgs_cons (pg_name (i := 3) sc_burnt.nd rfl (.inl rfl)) (pgs_cons (pg_name (i := 4) sc_burnt.nd rfl (.inl rfl)) pgs_nil)))) (fun _ _ _ _ _ => pts_nil) (fun _ _ _ _ _ => (pe_op op_sub (pv 4) (pe_callTy call_int1 rfl T.int (by decide +kernel) (pa_cons (pe_and (pe_cmpR (inK K) (pv 3) (pv 1) rfl) (pe_one (pe_cmpR (notinK K) (pv 3) (pv 2) rfl))) pa_nil))))) pa_nil)))), ?_⟩
  refine ⟨_, rfl, a, vi cs, rfl, hS, fun D hD => lc_ints (walk_enumB (tp := true) (xs := vi cs)) hD (by rw [vi_len]; exact hl) (fun i => cs[i]?.bind fun w => some (w - bit lit out i)) (fun H' s => s.sqt hS) (fun i x H1 H' kn ky hi sm y h1 h2 => ?_) (fun H1 sm e => ?_)⟩
  · obtain ⟨tt, x1, x2, rfl, nT, rfl, e1, e2⟩ := y
    cases Option.some.inj e1
    obtain ⟨z, hz, rfl⟩ := vi_get e2
    have sn : Same H1 (upd H1 tt (.tup [.int (i : Nat), .int z])) := Same.new nT
    have sm' := sm.trans sn
    refine ⟨tt, _, rfl, SqT.of upd_same, rfl, _, _, rfl, _, _, rfl, rfl, rfl, lc_yes ⟨_, rfl, _, rfl, _, rfl, l, vi lit, rfl, sqb_or (sm'.sqb hL), rfl, vi_flat _, _, rfl, if_b (fun c => ?_) (fun c => ?_)⟩⟩
    · have c1 : (i : Int) ∈ lit := of_decide_eq_true (by rw [← inV_ints]; exact c)
      refine ⟨_, rfl, _, rfl, o, vi out, rfl, sqb_or (sm'.sqb hO), rfl, vi_flat _, .inr ⟨_, rfl, _, _, rfl, rfl, h2 _ _ sn ?_⟩⟩
      rw [hz, inV_ints]
      show some (z - bit lit out i) = _
      unfold bit
      by_cases c2 : (i : Int) ∈ out
      · rw [if_neg (fun q => q.2 c2), decide_eq_true c2]
        rfl
      · rw [if_pos ⟨c1, c2⟩, decide_eq_false c2]
        rfl
    · have c1 : ¬ (i : Int) ∈ lit := of_decide_eq_false (by rw [← inV_ints]; exact c)
      refine .inr ⟨_, rfl, _, _, rfl, rfl, h2 _ _ sn ?_⟩
      rw [hz]
      show some (z - bit lit out i) = _
      unfold bit
      rw [if_neg (fun q => c1 q.1)]
      rfl
  · rw [vi_len, fm_idx] at e
    exact ⟨D, _, rfl, .inl ⟨SqL.of e, fun p np => q _ p (sm.trans (Same.new np)) (sm.free np) upd_same⟩⟩
/-! def is_row -/
abbrev s_is_row : Stmt := topS 25
theorem sc_is_row : FnScope ["candles", "draughts", "thing", "flame", "draught", "tick", "lit", "out"] ["candles", "draughts", "thing"] (defScope s_is_row) := ⟨rfl, rfl, rfl, by decide +kernel, rfl, by decide +kernel, by decide +kernel⟩
def spRow (K : PySem.W.Frag) : Sp := fun vs H Q _ => ∃ (a b : Addr) (v : V) (cs ds : List Int) (d : PyData) (n : Nat), vs = [.ref a, .ref b, v] ∧ SqT K H a (vi cs) ∧ SqT K H b (vi ds) ∧ cs.length ≤ 1000 ∧ Dp K H v d ∧ Fit (n + 3) d ∧ ∀ H', Same H H' → Q (.bl (cd (IsRow cs ds d))) H'
theorem row_len : ∀ {ts : List (List Int × List Int)} {cs ds : List Int} {fl : Bool}, RowOk cs fl ds ts → ts.length ≤ ds.length
  | [], _, _, _, _ => Nat.zero_le _
  | t :: ts, cs, [], fl, h => h.elim
  | t :: ts, cs, d :: r, fl, h => Nat.succ_le_succ (row_len h.2.2)
theorem map_tick : ∀ {ts us : List (List Int × List Int)}, ts.map tickD = us.map tickD → ts = us
  | [], [], _ => rfl
  | [], _ :: _, h => by cases h
  | _ :: _, [], h => by cases h
  | t :: ts, u :: us, h => by
    injection h with h1 h2
    rw [tick_inj h1, map_tick h2]
/-- what is left to be judged: the candles, the flame, the draughts, the ticks -/
def RowD (cs : List Int) (fl : Bool) (ds : List Int) (es : List PyData) : Prop := ∃ ts, es = ts.map tickD ∧ RowOk cs fl ds ts
theorem rowD_cons {cs : List Int} {fl : Bool} {d : Int} {r : List Int} {e : PyData} {es : List PyData} {lit out : List Int} (h1 : fl = true) (h2 : e = tickD (lit, out)) (h3 : TickOk cs d lit out) : RowD cs fl (d :: r) (e :: es) ↔ RowD (burntF cs lit out) (decide (out.length < lit.length)) r es := by
  constructor
  · rintro ⟨ts, e1, ho⟩
    cases ts with
    | nil => cases e1
    | cons t ts =>
      injection e1 with e1 e2
      rw [h2] at e1
      have e1 := tick_inj e1
      subst e1
      exact ⟨ts, e2, ho.2.2⟩
  · rintro ⟨ts, e1, ho⟩
    exact ⟨(lit, out) :: ts, by rw [h2, e1]; rfl, h1, h3, ho⟩
theorem rowD_no {cs : List Int} {fl : Bool} {d : Int} {r : List Int} {e : PyData} {es : List PyData} (h : ¬ (fl = true ∧ IsTick cs d e)) : ¬ RowD cs fl (d :: r) (e :: es) := by
  rintro ⟨ts, e1, ho⟩
  cases ts with
  | nil => cases e1
  | cons t ts =>
    injection e1 with e1 e2
    exact h ⟨ho.1, t.1, t.2, e1, ho.2.1⟩
theorem ok_is_row {f : Addr} {fd : FuncData} (T : Bl mg) (F : Fun K "is_row" "is_row" s_is_row f fd) {f_is_tick : Addr} {fd_is_tick : FuncData} (D_is_tick : FnAt K mg "is_tick" "is_tick" s_is_tick ["candles", "draught", "thing"] f_is_tick fd_is_tick) {f_burnt : Addr} {fd_burnt : FuncData} (D_burnt : FnAt K mg "burnt" "burnt" s_burnt ["candles", "lit", "out"] f_burnt fd_burnt) {f_are_places : Addr} {fd_are_places : FuncData} (D_are_places : FnAt K mg "are_places" "are_places" s_are_places ["candles", "thing"] f_are_places fd_are_places) {f_is_within : Addr} {fd_is_within : FuncData} (D_is_within : FnAt K mg "is_within" "is_within" s_is_within ["thing", "low", "high"] f_is_within fd_is_within) : FnOk P w K mg base CX0 4 f fd ["candles", "draughts", "thing"] (spRow K) := by
  have G_is_tick : FnOk P w K mg base CX0 3 f_is_tick fd_is_tick _ (spTick K) := ok_is_tick T D_is_tick.F D_are_places D_is_within
  have G_burnt : FnOk P w K mg base CX0 3 f_burnt fd_burnt _ (spBurnt K) := (ok_burnt T D_burnt.F).mono (by decide)
  refine F.ok sc_is_row (fun vs H Q E h => ?_) (fun cdv A outer s H vs Q E hr h => ?_)
  · obtain ⟨a, b, v, cs, ds, d, n, rfl, _⟩ := h
    rfl
  obtain ⟨a, b, v, cs, ds, d, n, rfl, hS, hB, hcl, hv, hfit, q⟩ := h
  refine ⟨_, (pss_cons (ps_if (PW.pt (pw_or (pt_not (pt_val (pe_callB (isiK K) rfl T.isinstance (by decide +kernel) (pa_cons (pv 2) (pa_cons (pe_bltn (v := .ty "list") (u := .type "list") rfl T.list (by decide +kernel) rfl) pa_nil))))) (pw_or1 (pt_cmpR op_gt (pe_callB (lenK K) rfl T.len (by decide +kernel) (pa_cons (pv 2) pa_nil)) (pe_callB (lenK K) rfl T.len (by decide +kernel) (pa_cons (pv 1) pa_nil)) (nomark _))))) (pss_one (ps_ret pe_bl)) pss_nil)
  (pss_cons (ps_set (i := 3) sc_is_row.nd rfl (.inl rfl) pe_bl)
  (pss_cons (ps_for PassesOwn.never rfl (zipK K true false rfl T.zip (pa_cons (pv 1) (pa_cons (pv 2) pa_nil))) (pgT K 2 rfl (pgs_cons (pg_name (i := 4) sc_is_row.nd rfl (.inl rfl)) (pgs_cons (pg_name (i := 5) sc_is_row.nd rfl (.inl rfl)) pgs_nil))) (pss_cons (ps_if (PW.pt (pw_or (pt_not (pt_val (pv 3))) (pw_or1 (pt_not (pt_val (pe_call G_is_tick hr rfl D_is_tick.g D_is_tick.F.kp D_is_tick.b .nil pass0 (pa_cons (pv 0) (pa_cons (pv 4) (pa_cons (pv 5) pa_nil))))))))) (pss_one (ps_ret pe_bl)) pss_nil)
  (pss_cons (ps_asg (pv 5) (pgT K 2 rfl (pgs_cons (pg_name (i := 6) sc_is_row.nd rfl (.inl rfl)) (pgs_cons (pg_name (i := 7) sc_is_row.nd rfl (.inl rfl)) pgs_nil))))
  (pss_one (ps_par (i := 0) (j := 3) rfl sc_is_row.nd rfl rfl (by decide) rfl rfl (pa_cons (pe_call G_burnt hr rfl D_burnt.g D_burnt.F.kp D_burnt.b .nil pass0 (pa_cons (pv 0) (pa_cons (pv 6) (pa_cons (pv 7) pa_nil)))) (pa_cons (pe_cmpR op_lt (pe_callB (lenK K) rfl T.len (by decide +kernel) (pa_cons (pv 7) pa_nil)) (pe_callB (lenK K) rfl T.len (by decide +kernel) (pa_cons (pv 6) pa_nil)) (nomark _)) pa_nil)) (by rfl))))))
  (pss_one (ps_ret pe_bl))))), ?_⟩
  refine ⟨_, rfl, v, _, _, _, _, rfl, .ty _, dp_ty hv, kit_d d (by simp), _, rfl, if_b (fun c => ?_) (fun c => ?_)⟩
  · rw [cd_f (fun ⟨ts, e, _⟩ => by subst e; cases c)] at q
    exact if_t rfl (q H (Same.refl _))
  obtain ⟨es, rfl⟩ := is_lst (by cases h : dis "list" d <;> simp_all)
  obtain ⟨p, xs, rfl, hp, ha⟩ := dp_lst_get hv
  have hlen : xs.length = es.length := dpall_len ha
  have hfa : ∀ z ∈ es, Fit (n + 2) z := hfit.2
  refine ⟨_, rfl, p, xs, rfl, .inl hp, _, rfl, b, vi ds, rfl, .inr hB, _, _, rfl, rfl, _, rfl, if_b (fun c2 => ?_) (fun c2 => ?_)⟩
  · have c2 := of_decide_eq_true c2
    rw [vi_len, hlen] at c2
    have hno : ¬ IsRow cs ds (.list es) := fun ⟨ts, e, ho⟩ => by
      have e := PyData.list.inj e
      have := row_len ho
      rw [e, List.length_map] at c2
      omega
    rw [cd_f hno] at q
    exact q H (Same.refl _)
  have c2 := of_decide_eq_false c2
  rw [vi_len, hlen] at c2
  have hle : es.length ≤ ds.length := by omega
  have e0 : IsRow cs ds (.list es) ↔ RowD cs true ds es := ⟨fun ⟨ts, e, h⟩ => ⟨ts, PyData.list.inj e, h⟩, fun ⟨ts, e, h⟩ => ⟨ts, by rw [e], h⟩⟩
  rw [cd_iff e0] at q
  -- flame = True; for draught, tick in zip(draughts, thing)
  have q1 : SqB K true H b (vi ds) := hB
  have q2 : SqB K false H p xs := hp
  refine ⟨_, rfl, _, rfl, b, p, vi ds, xs, rfl, q1, q2, for_it (walk_zipB (ka := true) (kb := false) (xs := vi ds) (ys := xs) (n := es.length) (by rw [vi_len, hlen]; omega)) (fun i σ H' => ∃ (ca : Addr) (c : List Int) (fl : Bool) (y4 y5 y6 y7 : Option V), σ = [some (.ref ca), some (.ref b), some (.ref p), some (.bl fl), y4, y5, y6, y7] ∧ Same H H' ∧ SqT K H' ca (vi c) ∧ c.length = cs.length ∧ (RowD cs true ds es ↔ RowD c fl (ds.drop i) (es.drop i))) ⟨a, cs, true, none, none, none, none, rfl, Same.refl _, hS, rfl, Iff.rfl⟩ (fun i σ H' _ ⟨_, _, _, _, _, _, _, _, sm, _⟩ => ⟨sm.sqb q1, sm.sqb q2⟩) (fun i x σ H1 H' hi hW hy => ?_) (fun σ H1 hW => ?_)⟩
  · obtain ⟨ca, c, fl, y4, y5, y6, y7, rfl, sm, hC, hcl', hiff⟩ := hW
    obtain ⟨tt, x1, x2, rfl, nT, rfl, e1, e2⟩ := hy
    obtain ⟨k, hk, rfl⟩ := vi_get e1
    obtain ⟨dx, hdx, hvx⟩ := dpall_get1 ha e2
    have hfx := hfa dx (List.mem_of_getElem? hdx)
    rw [drop_next hk, drop_next hdx] at hiff
    have s2 : Same H1 (upd H1 tt (.tup [.int k, x2])) := Same.new nT
    have sm2 := sm.trans s2
    refine ⟨tt, _, rfl, SqT.of upd_same, rfl, _, _, rfl, _, _, rfl, rfl, ?_⟩
    refine ⟨_, rfl, _, rfl, if_b (fun c3 => ?_) (fun c3 => ?_)⟩
    · have hno : ¬ RowD cs true ds es := fun z => rowD_no (fun z2 => by rw [z2.1] at c3; cases c3) (hiff.mp z)
      rw [cd_f hno] at q
      exact if_t rfl (q _ sm2)
    have hfl : fl = true := by
      cases fl with
      | true => rfl
      | false => cases c3
    refine ⟨_, rfl, _, rfl, _, rfl, ca, k, x2, c, dx, n, rfl, s2.sqt hC, hvx.same sm2, hfx, fun H3 s3 => ⟨_, rfl, if_b (fun c4 => ?_) (fun c4 => ?_)⟩⟩
    · have c4 : (!cd (IsTick c k dx)) = true := c4
      have hno : ¬ RowD cs true ds es := fun z => rowD_no (fun z2 => by rw [cd_t z2.2] at c4; cases c4) (hiff.mp z)
      rw [cd_f hno] at q
      exact q _ (sm2.trans s3)
    have c4 : (!cd (IsTick c k dx)) = false := c4
    have ht : IsTick c k dx := by
      cases h : cd (IsTick c k dx) with
      | true => exact cd_of h
      | false =>
        rw [h] at c4
        cases c4
    obtain ⟨lit, out, rfl, ht⟩ := ht
    have sm3 := sm2.trans s3
    obtain ⟨pt, ws, rfl, hpt, hat⟩ := dp_tup_get (hvx.same sm3)
    obtain ⟨w1, w2, rfl⟩ : ∃ w1 w2, ws = [w1, w2] := by
      have := dpall_len hat
      match ws, this with
      | [w1, w2], _ => exact ⟨w1, w2, rfl⟩
    cases hat with
    | cons ha1 ha2 =>
    cases ha2 with
    | cons ha2 _ =>
    obtain ⟨u1, rfl, hu1⟩ := dp_tints ha1
    obtain ⟨u2, rfl, hu2⟩ := dp_tints ha2
    -- lit, out = tick; candles, flame = burnt(candles, lit, out), len(out) < len(lit)
    refine ⟨_, rfl, pt, _, rfl, hpt, rfl, _, _, rfl, _, _, rfl, rfl, ?_⟩
    refine ⟨_, rfl, _, rfl, _, rfl, ca, u1, u2, c, lit, out, true, true, rfl, (s2.trans s3).sqt hC, hu1, hu2, by omega, fun H4 ca' s4 nca hca => ?_⟩
    refine ⟨_, rfl, u2, vi out, rfl, .inr (s4.sqt hu2), _, rfl, u1, vi lit, rfl, .inr (s4.sqt hu1), _, _, rfl, rfl, _, _, rfl, ?_⟩
    refine ⟨ca', burntF c lit out, _, _, _, _, _, rfl, sm3.trans s4, SqT.of hca, (burntF_len _ _ _).trans hcl', ?_⟩
    rw [hiff, rowD_cons hfl rfl ht]
    have ed : decide ((((vi out).length : Nat) : Int) < (((vi lit).length : Nat) : Int)) = decide (out.length < lit.length) := by
      rw [vi_len, vi_len]
      by_cases h : out.length < lit.length
      · rw [decide_eq_true h, decide_eq_true (by omega)]
      · rw [decide_eq_false h, decide_eq_false (by omega)]
    rw [ed]
  · obtain ⟨ca, c, fl, y4, y5, y6, y7, rfl, sm, hC, hcl', hiff⟩ := hW
    rw [List.drop_length] at hiff
    rw [cd_t (hiff.mpr ⟨[], rfl, by cases ds.drop es.length <;> exact True.intro⟩)] at q
    exact q _ sm
/-! def behind -/
abbrev s_behind : Stmt := topS 26
theorem sc_behind : FnScope ["candles", "draughts", "row", "flame", "lit", "out"] ["candles", "draughts", "row"] (defScope s_behind) := ⟨rfl, rfl, rfl, by decide +kernel, rfl, by decide +kernel, by decide +kernel⟩
/-- the candles behind a row, and whether a flame is there -/
def behindF (cs : List Int) (fl : Bool) : List (List Int × List Int) → List Int × Bool
  | [] => (cs, fl)
  | t :: ts => behindF (burntF cs t.1 t.2) (decide (t.2.length < t.1.length)) ts
def spBehind (K : PySem.W.Frag) : Sp := fun vs H Q _ => ∃ (a b : Addr) (v : V) (cs : List Int) (ts : List (List Int × List Int)), vs = [.ref a, .ref b, v] ∧ SqT K H a (vi cs) ∧ cs.length ≤ 1000 ∧ Dp K H v (.list (ts.map tickD)) ∧ ∀ H' p c, Same H H' → H' p = some (.tup [.ref c, .bl (behindF cs true ts).2]) → SqT K H' c (vi (behindF cs true ts).1) → Q (.ref p) H'
theorem ok_behind {f : Addr} {fd : FuncData} (T : Bl mg) (F : Fun K "behind" "behind" s_behind f fd) {f_burnt : Addr} {fd_burnt : FuncData} (D_burnt : FnAt K mg "burnt" "burnt" s_burnt ["candles", "lit", "out"] f_burnt fd_burnt) : FnOk P w K mg base CX0 2 f fd ["candles", "draughts", "row"] (spBehind K) := by
  have G_burnt : FnOk P w K mg base CX0 1 f_burnt fd_burnt _ (spBurnt K) := ok_burnt T D_burnt.F
  refine F.ok sc_behind (fun vs H Q E h => ?_) (fun cdv A outer s H vs Q E hr h => ?_)
  · obtain ⟨a, b, v, cs, ts, rfl, _⟩ := h
    rfl
  obtain ⟨a, b, v, cs, ts, rfl, hS, hcl, hv, q⟩ := h
  refine ⟨_, (pss_cons (ps_set (i := 3) sc_behind.nd rfl (.inl rfl) pe_bl)
  (pss_cons (ps_for PassesOwn.never rfl (piL K (pv 2)) (pgT K 2 rfl (pgs_cons (pg_name (i := 4) sc_behind.nd rfl (.inl rfl)) (pgs_cons (pg_name (i := 5) sc_behind.nd rfl (.inl rfl)) pgs_nil))) (pss_one (ps_par (i := 0) (j := 3) rfl sc_behind.nd rfl rfl (by decide) rfl rfl (pa_cons (pe_call G_burnt hr rfl D_burnt.g D_burnt.F.kp D_burnt.b .nil pass0 (pa_cons (pv 0) (pa_cons (pv 4) (pa_cons (pv 5) pa_nil)))) (pa_cons (pe_cmpR op_lt (pe_callB (lenK K) rfl T.len (by decide +kernel) (pa_cons (pv 5) pa_nil)) (pe_callB (lenK K) rfl T.len (by decide +kernel) (pa_cons (pv 4) pa_nil)) (nomark _)) pa_nil)) (by rfl))))
  (pss_one (ps_ret (pe_tup (pa_cons (pv 0) (pa_cons (pv 3) pa_nil))))))), ?_⟩
  obtain ⟨p, xs, rfl, hp, ha⟩ := dp_lst_get hv
  have hlen : xs.length = ts.length := by rw [dpall_len ha, List.length_map]
  refine ⟨_, rfl, p, rfl, ⟨_, hp⟩, for_list (K := K) (a := p) (xs := xs) (fun i σ H' => ∃ (ca : Addr) (c : List Int) (fl : Bool) (y4 y5 : Option V), σ = [some (.ref ca), some (.ref b), some (.ref p), some (.bl fl), y4, y5] ∧ Same H H' ∧ SqT K H' ca (vi c) ∧ c.length = cs.length ∧ behindF cs true ts = behindF c fl (ts.drop i)) ⟨a, cs, true, none, none, rfl, Same.refl _, hS, rfl, rfl⟩ (fun i σ H' _ ⟨_, _, _, _, _, _, sm, _⟩ => sm.seq hp) (fun i x σ H1 hx hW => ?_) (fun σ H1 hW => ?_)⟩
  · obtain ⟨ca, c, fl, y4, y5, rfl, sm, hC, hcl', he⟩ := hW
    obtain ⟨dx, hdx, hvx⟩ := dpall_get1 ha hx
    rw [List.getElem?_map] at hdx
    obtain ⟨t, ht, rfl⟩ := Option.map_eq_some_iff.mp hdx
    obtain ⟨lit, out⟩ := t
    rw [drop_next ht] at he
    obtain ⟨pt, ws, rfl, hpt, hat⟩ := dp_tup_get (hvx.same sm)
    obtain ⟨w1, w2, rfl⟩ : ∃ w1 w2, ws = [w1, w2] := by
      have := dpall_len hat
      match ws, this with
      | [w1, w2], _ => exact ⟨w1, w2, rfl⟩
    cases hat with
    | cons ha1 ha2 =>
    cases ha2 with
    | cons ha2 _ =>
    obtain ⟨u1, rfl, hu1⟩ := dp_tints ha1
    obtain ⟨u2, rfl, hu2⟩ := dp_tints ha2
    refine ⟨pt, _, rfl, hpt, rfl, _, _, rfl, _, _, rfl, rfl, ?_⟩
    refine ⟨_, rfl, _, rfl, _, rfl, ca, u1, u2, c, lit, out, true, true, rfl, hC, hu1, hu2, by omega, fun H4 ca' s4 nca hca => ?_⟩
    refine ⟨_, rfl, u2, vi out, rfl, .inr (s4.sqt hu2), _, rfl, u1, vi lit, rfl, .inr (s4.sqt hu1), _, _, rfl, rfl, _, _, rfl, ?_⟩
    refine ⟨ca', burntF c lit out, _, _, _, rfl, sm.trans s4, SqT.of hca, (burntF_len _ _ _).trans hcl', ?_⟩
    have ed : decide ((((vi out).length : Nat) : Int) < (((vi lit).length : Nat) : Int)) = decide (out.length < lit.length) := by
      rw [vi_len, vi_len]
      by_cases h : out.length < lit.length
      · rw [decide_eq_true h, decide_eq_true (by omega)]
      · rw [decide_eq_false h, decide_eq_false (by omega)]
    rw [ed, he]
    rfl
  · obtain ⟨ca, c, fl, y4, y5, rfl, sm, hC, hcl', he⟩ := hW
    rw [hlen, List.drop_length] at he
    have he : behindF cs true ts = (c, fl) := he
    refine ⟨_, rfl, _, rfl, by show 2 ≤ sizeLine; decide, fun g ng => q _ g ca (sm.trans (Same.new ng)) ?_ ?_⟩
    · rw [upd_same, he]
    · rw [he]
      exact (Same.new ng).sqt hC
/-! def lights -/
abbrev s_lights : Stmt := topS 28
theorem sc_lights : FnScope ["candles", "draught", "rows", "place", "wax"] ["candles", "draught"] (defScope s_lights) := ⟨rfl, rfl, rfl, by decide +kernel, rfl, by decide +kernel, by decide +kernel⟩
/-- a tracked pair of ints -/
def Pr (H : Hp) (v : V) (p : Int × Int) : Prop := ∃ t, v = V.ref t ∧ H t = some (.tup [.int p.1, .int p.2])
theorem Pr.keep {H H' : Hp} {D : Addr} {acc : List V} {v : V} {p : Int × Int} (h : H D = some (.lst acc)) (s : Smt D H H') (r : Pr H v p) : Pr H' v p := by
  obtain ⟨t, e, ht⟩ := r
  refine ⟨t, e, s t _ ht fun z => ?_⟩
  rw [z, h] at ht
  cases ht
theorem Pr.same {H H' : Hp} {v : V} {p : Int × Int} (s : Same H H') (r : Pr H v p) : Pr H' v p := by
  obtain ⟨t, e, ht⟩ := r
  exact ⟨t, e, s t _ ht⟩
/-- the pair that a value is -/
def keyOf (H : Hp) (v : V) : Int × Int := match v with
  | .ref t => match H t with
    | some (.tup [.int i, .int j]) => (i, j)
    | _ => (0, 0)
  | _ => (0, 0)
theorem Pr.key {H : Hp} {v : V} {p : Int × Int} (r : Pr H v p) : keyOf H v = p := by
  obtain ⟨t, e, ht⟩ := r
  subst e
  show (match H t with | some (.tup [.int i, .int j]) => (i, j) | _ => (0, 0)) = p
  rw [ht]
theorem prs_key {H : Hp} : ∀ {ys : List V} {rs : List (Int × Int)}, Paired (Pr H) ys rs → ys.map (keyOf H) = rs
  | _, _, .nil => rfl
  | _, _, .cons r t => by rw [List.map_cons, r.key, prs_key t]
theorem prs_mem {H : Hp} : ∀ {ys : List V} {rs : List (Int × Int)}, Paired (Pr H) ys rs → ∀ v ∈ ys, Pr H v (keyOf H v)
  | _, _, .nil, v, hv => nomatch hv
  | _, _, .cons r t, v, hv => by
    rcases List.mem_cons.mp hv with e | e
    · subst e
      rw [r.key]
      exact r
    · exact prs_mem t v e
theorem prs_of {H : Hp} : ∀ {ys : List V}, (∀ v ∈ ys, Pr H v (keyOf H v)) → Paired (Pr H) ys (ys.map (keyOf H))
  | [], _ => .nil
  | v :: r, h => .cons (h v List.mem_cons_self) (prs_of fun x hx => h x (List.mem_cons_of_mem _ hx))
theorem sorted_rows {H : Hp} {ys zs : List V} {rs : List (Int × Int)} (h : Paired (Pr H) ys rs) (hs : SrtO.Srtd (ltP (keyOf H)) zs) (hb : SrtO.Stb (ltP (keyOf H)) zs ys) : Paired (Pr H) zs (srtP rs) := by
  have e : zs.map (keyOf H) = srtP rs := by
    refine srtP_is ?_ ?_
    · rw [← prs_key h]
      exact hb.perm.map _
    · refine List.pairwise_map.mpr (hs.imp fun {x y} q => ?_)
      have q : SrtO.lexB (keyOf H y) (keyOf H x) = false := q
      rw [leP_iff]
      have n : ¬ SrtO.lexB (keyOf H y) (keyOf H x) = true := by
        rw [q]
        decide
      rw [SrtO.lexB_iff] at n
      omega
  rw [← e]
  exact prs_of fun v hv => prs_mem h v (hb.perm.mem_iff.mp hv)
theorem paired_take {α β : Type} {F : α → β → Prop} : ∀ (n : Nat) {l1 : List α} {l2 : List β}, Paired F l1 l2 → Paired F (l1.take n) (l2.take n)
  | 0, _, _, _ => by
    rw [List.take_zero, List.take_zero]
    exact .nil
  | _ + 1, _, _, .nil => .nil
  | n + 1, _, _, .cons r t => .cons r (paired_take n t)
theorem cutV_toV (xs : List V) (k : Int) (h : 0 ≤ k) : cutV xs none (some k) = xs.take k.toNat := by
  unfold cutV
  have e : k = ((k.toNat : Nat) : Int) := (Int.toNat_of_nonneg h).symm
  rw [e, HT.sIx_nat, HT.sIx_none, Nat.sub_zero, List.drop_zero, Int.toNat_natCast]
  by_cases c : k.toNat ≤ xs.length
  · rw [Nat.min_eq_left c]
  · rw [Nat.min_eq_right (by omega), List.take_of_length_le (Nat.le_refl _), List.take_of_length_le (by omega)]
/-- None, or a new tuple of the places -/
def LitV (H : Hp) (Q : VK) (r : Option (List Int)) : Prop := match r with
  | none => ∀ H', Same H H' → Q .non H'
  | some lit => ∀ H' p, Same H H' → H p = none → H' p = some (.tup (vi lit)) → Q (.ref p) H'
def spLights (K : PySem.W.Frag) : Sp := fun vs H Q _ => ∃ (a : Addr) (cs : List Int) (d : Int), vs = [.ref a, .int d] ∧ SqT K H a (vi cs) ∧ cs.length ≤ 1000 ∧ 0 ≤ d ∧ LitV H Q (lightsF cs d)
theorem ok_lights {f : Addr} {fd : FuncData} (T : Bl mg) (F : Fun K "lights" "lights" s_lights f fd) : FnOk P w K mg base CX0 1 f fd ["candles", "draught"] (spLights K) := by
  refine F.ok sc_lights (fun vs H Q E h => ?_) (fun cdv A outer s H vs Q E hr h => ?_)
  · obtain ⟨a, cs, d, rfl, _⟩ := h
    rfl
  obtain ⟨a, cs, d, rfl, hS, hl, h0, q⟩ := h
  refine ⟨_, (pss_cons (ps_set (i := 2) sc_lights.nd rfl (.inl rfl) (pe_callB (sortedPK K) rfl T.sorted (by decide +kernel) (pa_cons (pe_lc (own := [("place", 3), ("wax", 4)]) rfl sc_lights.nd (enumK K true rfl T.enumerate (pa_cons (pv 0) pa_nil)) (blkOk_by (N := ["candles", "draught", "rows", "place", "wax"]) (sc := defScope s_lights) (own := [("place", 3), ("wax", 4)]) (by decide +kernel)) (fun _ _ _ _ _ => (pgT K 2 rfl (pgs_cons (pg_name (i := 3) sc_lights.nd rfl (.inl rfl)) (pgs_cons (pg_name (i := 4) sc_lights.nd rfl (.inl rfl)) pgs_nil)))) (fun _ _ _ _ _ => (pts_one (pt_cmpR op_gt (pv 4) pe_int (nomark _)))) (fun _ _ _ _ _ => (pe_tup (pa_cons (pe_un un_neg (pv 4)) (pa_cons (pv 3) pa_nil))))) pa_nil)))
  (pss_cons (ps_if (pt_cmpR op_le (pe_callB (lenK K) rfl T.len (by decide +kernel) (pa_cons (pv 2) pa_nil)) (pv 1) (nomark _)) (pss_one (ps_ret pe_non)) pss_nil)
  (pss_one (ps_ret (pe_callTy (tupleK K) rfl T.tuple (by decide +kernel) (pa_cons (pe_callB (sortedK K) rfl T.sorted (by decide +kernel) (pa_cons (pe_lc (own := [("wax", 4), ("place", 3)]) rfl sc_lights.nd (piL K (pe_slice (slL K) (pv 2) po_none (po_some (pe_op op_add (pv 1) pe_int)))) (blkOk_by (N := ["candles", "draught", "rows", "place", "wax"]) (sc := defScope s_lights) (own := [("wax", 4), ("place", 3)]) (by decide +kernel)) (fun _ _ _ _ _ => (pgT K 2 rfl (pgs_cons (pg_name (i := 4) sc_lights.nd rfl (.inl rfl)) (pgs_cons (pg_name (i := 3) sc_lights.nd rfl (.inl rfl)) pgs_nil)))) (fun _ _ _ _ _ => pts_nil) (fun _ _ _ _ _ => (pv 3))) pa_nil)) pa_nil)))))), ?_⟩
  refine ⟨_, rfl, a, vi cs, rfl, hS, fun D hD => lc_rel (walk_enumB (tp := true) (xs := vi cs)) hD (by rw [vi_len]; exact hl) Pr (fun H H' D acc v p h s r => r.keep h s) (fun i => cs[i]?.bind fun w => if 0 < w then some (-w, (i : Int)) else none) (fun H' s => s.sqt hS) (fun i x H1 H' kn ky hi sm y h1 h2 => ?_) (fun ys H1 sm e pr => ?_)⟩
  · obtain ⟨tt, x1, x2, rfl, nT, rfl, e1, e2⟩ := y
    cases Option.some.inj e1
    obtain ⟨z, hz, rfl⟩ := vi_get e2
    have sn : Same H1 (upd H1 tt (.tup [.int (i : Nat), .int z])) := Same.new nT
    refine ⟨tt, _, rfl, SqT.of upd_same, rfl, _, _, rfl, _, _, rfl, rfl, rfl, _, rfl, _, _, rfl, rfl, _, rfl, if_b (fun c => ?_) (fun c => h1 _ sn ?_)⟩
    · refine ⟨_, rfl, _, rfl, _, rfl, by show 2 ≤ sizeLine; decide, fun p np => h2 _ (-z, (i : Int)) _ (sn.trans (Same.new np)) ?_ ⟨p, rfl, upd_same⟩⟩
      rw [hz]
      exact if_pos (of_decide_eq_true c)
    · rw [hz]
      exact if_neg (of_decide_eq_false c)
  rw [vi_len] at pr
  have pr : Paired (Pr H1) ys (rowsOf cs) := pr
  refine ⟨D, ys, keyOf H1, rfl, SqL.of e, prs_mem pr, fun zs p hs hb np => ?_⟩
  have pz := sorted_rows pr hs hb
  have lz : zs.length = (rowsOf cs).length := (paired_len pz).trans (srtP_perm _).length_eq
  have s1 : Same H1 (upd H1 p (.lst zs)) := Same.new np
  have sb1 := sm.trans s1
  refine ⟨_, rfl, p, zs, rfl, .inl (SqL.of upd_same), _, rfl, _, _, rfl, rfl, _, rfl, if_b (fun c => ?_) (fun c => ?_)⟩
  · have c := of_decide_eq_true c
    rw [lz] at c
    unfold lightsF at q
    rw [if_pos c] at q
    exact q _ sb1
  · have c := of_decide_eq_false c
    rw [lz] at c
    unfold lightsF at q
    rw [if_neg c] at q
    refine ⟨_, rfl, _, rfl, _, _, rfl, rfl, _, rfl, p, zs, rfl, SqL.of upd_same, fun r nr => ?_⟩
    rw [cutV_toV _ _ (by omega)]
    have s2 : Same (upd H1 p (.lst zs)) (upd (upd H1 p (.lst zs)) r (.lst (zs.take (d + 1).toNat))) := Same.new nr
    have hC : SqL K (upd (upd H1 p (.lst zs)) r (.lst (zs.take (d + 1).toNat))) r (zs.take (d + 1).toNat) := SqL.of upd_same
    have pt : Paired (Pr (upd (upd H1 p (.lst zs)) r (.lst (zs.take (d + 1).toNat)))) (zs.take (d + 1).toNat) ((srtP (rowsOf cs)).take (d + 1).toNat) := paired_mono (fun v x h => h.same (s1.trans s2)) (paired_take _ pz)
    have hlz : (zs.take (d + 1).toNat).length ≤ 1000 := by
      rw [List.length_take, lz]
      have := filterMap_le (fun (i : Nat) => cs[i]?.bind fun w => if 0 < w then some (-w, (i : Int)) else none) cs.length
      have : (rowsOf cs).length ≤ cs.length := this
      omega
    refine ⟨r, rfl, ⟨_, hC⟩, fun D2 hD2 => lc_ints (walk_list (xs := zs.take (d + 1).toNat)) hD2 hlz (fun i => ((srtP (rowsOf cs)).take (d + 1).toNat)[i]?.bind fun x => some x.2) (fun H' s => s.seq hC) (fun i x H2 H' kn ky hi sm y h1 h2 => ?_) (fun H2 sm e => ?_)⟩
    · obtain ⟨rfl, hx⟩ := y
      obtain ⟨x2, hx2, tt, rfl, ht⟩ := paired_get pt hx
      refine ⟨tt, _, rfl, SqT.of (sm _ _ ht), rfl, _, _, rfl, _, _, rfl, rfl, rfl, lc_yes ⟨_, rfl, h2 _ _ (Same.refl _) ?_⟩⟩
      rw [hx2]
      rfl
    · rw [paired_len pt, fm_at] at e
      refine ⟨D2, _, rfl, SqL.of e, fun ns p2 hp hu np2 => ?_⟩
      have es := srt_is hp hu
      subst es
      exact ⟨p2, _, rfl, .inl ⟨SqL.of upd_same, fun p3 np3 => q _ p3 (((sb1.trans s2).trans sm).trans ((Same.new np2).trans (Same.new np3))) (((sb1.trans s2).trans sm).free ((Same.new np2).free np3)) upd_same⟩⟩
/-- None, or a tuple of the places -/
def LitR (H : Hp) (v : V) (r : Option (List Int)) : Prop := match r with
  | none => v = .non
  | some lit => ∃ p, v = .ref p ∧ H p = some (.tup (vi lit))
theorem litV_of {H : Hp} {Q : VK} {r : Option (List Int)} (h : ∀ H' v, Same H H' → LitR H' v r → Q v H') : LitV H Q r := by
  cases r with
  | none => exact fun H' s => h H' _ s rfl
  | some lit => exact fun H' p s _ e => h H' _ s ⟨p, rfl, e⟩
def litD : Option (List Int) → PyData
  | none => .none
  | some l => .tuple (di l)
theorem LitR.dp {K : PySem.W.Frag} {H : Hp} {v : V} : ∀ {r : Option (List Int)}, LitR H v r → Dp K H v (litD r)
  | none, h => by
    have h : v = .non := h
    rw [h]
    exact .non
  | some lit, h => by
    obtain ⟨p, e, hp⟩ := h
    rw [e]
    exact dp_tup (SqT.of hp)
theorem LitR.same {H H' : Hp} {v : V} (s : Same H H') : ∀ {r : Option (List Int)}, LitR H v r → LitR H' v r
  | none, h => h
  | some _, ⟨p, e, hp⟩ => ⟨p, e, s _ _ hp⟩
theorem lights_len {cs lit : List Int} {d : Int} (h : lightsF cs d = some lit) : lit.length ≤ cs.length := by
  unfold lightsF at h
  by_cases hc : ((rowsOf cs).length : Int) ≤ d
  · rw [if_pos hc] at h
    cases h
  · rw [if_neg hc] at h
    rw [← Option.some.inj h, srt_len, List.length_map, List.length_take, (srtP_perm _).length_eq]
    have := filterMap_le (fun (i : Nat) => cs[i]?.bind fun w => if 0 < w then some (-w, (i : Int)) else none) cs.length
    have : (rowsOf cs).length ≤ cs.length := this
    omega
theorem fit_lit {cs : List Int} {d : Int} (h : cs.length ≤ 1000) (n : Nat) : Fit (n + 2) (litD (lightsF cs d)) := by
  cases e : lightsF cs d with
  | none => exact True.intro
  | some lit => exact fit_tints (Nat.le_trans (lights_len e) h)
/-! def lots_keepers -/
abbrev s_lotsK : Stmt := topS 29
theorem sc_lotsK : FnScope ["candles", "draughts", "found", "draught", "lit"] ["candles", "draughts"] (defScope s_lotsK) := ⟨rfl, rfl, rfl, by decide +kernel, rfl, by decide +kernel, by decide +kernel⟩
/-- whom the keeper lights, and the candles behind it -/
def LC (H : Hp) (v : V) (x : List Int × List Int) : Prop := ∃ t u c, v = V.ref t ∧ H t = some (.tup [.ref u, .ref c]) ∧ H u = some (.tup (vi x.1)) ∧ H c = some (.tup (vi x.2))
theorem LC.keep {H H' : Hp} {D : Addr} {acc : List V} {v : V} {x : List Int × List Int} (h : H D = some (.lst acc)) (s : Smt D H H') (r : LC H v x) : LC H' v x := by
  obtain ⟨t, u, c, e, h1, h2, h3⟩ := r
  have ne : ∀ b xs, H b = some (.tup xs) → b ≠ D := fun b xs hb z => by
    rw [z, h] at hb
    cases hb
  exact ⟨t, u, c, e, s t _ h1 (ne _ _ h1), s u _ h2 (ne _ _ h2), s c _ h3 (ne _ _ h3)⟩
theorem LC.same {H H' : Hp} {v : V} {x : List Int × List Int} (s : Same H H') (r : LC H v x) : LC H' v x := by
  obtain ⟨t, u, c, e, h1, h2, h3⟩ := r
  exact ⟨t, u, c, e, s t _ h1, s u _ h2, s c _ h3⟩
def LotsV (H : Hp) (Q : VK) (r : Option (List (List Int × List Int))) : Prop := match r with
  | none => ∀ H', Same H H' → Q .non H'
  | some l => ∀ H' p xs, Same H H' → H p = none → H' p = some (.lst xs) → Paired (LC H') xs l → Q (.ref p) H'
def spLotsK (K : PySem.W.Frag) : Sp := fun vs H Q _ => ∃ (a b : Addr) (cs ds : List Int), vs = [.ref a, .ref b] ∧ SqT K H a (vi cs) ∧ SqT K H b (vi ds) ∧ cs.length ≤ 1000 ∧ ds.length ≤ 1000 ∧ (∀ d ∈ ds, 0 ≤ d) ∧ LotsV H Q (lotsF cs ds)
theorem ok_lotsK {f : Addr} {fd : FuncData} (T : Bl mg) (F : Fun K "lots" "lots" s_lotsK f fd) {f_lights : Addr} {fd_lights : FuncData} (D_lights : FnAt K mg "lights" "lights" s_lights ["candles", "draught"] f_lights fd_lights) {f_burnt : Addr} {fd_burnt : FuncData} (D_burnt : FnAt K mg "burnt" "burnt" s_burnt ["candles", "lit", "out"] f_burnt fd_burnt) : FnOk P w K mg base CX0 2 f fd ["candles", "draughts"] (spLotsK K) := by
  have G_lights : FnOk P w K mg base CX0 1 f_lights fd_lights _ (spLights K) := ok_lights T D_lights.F
  have G_burnt : FnOk P w K mg base CX0 1 f_burnt fd_burnt _ (spBurnt K) := ok_burnt T D_burnt.F
  refine F.ok sc_lotsK (fun vs H Q E h => ?_) (fun cdv A outer s H vs Q E hr h => ?_)
  · obtain ⟨a, b, cs, ds, rfl, _⟩ := h
    rfl
  obtain ⟨a, b, cs, ds, rfl, hS, hB, hl, hlb, h0, q⟩ := h
  refine ⟨_, (pss_cons (ps_set (i := 2) sc_lotsK.nd rfl (.inl rfl) (pe_lst pa_nil))
  (pss_cons (ps_for PassesOwn.never rfl (piT K (pv 1)) (pg_name (i := 3) sc_lotsK.nd rfl (.inl rfl)) (pss_cons (ps_set (i := 4) sc_lotsK.nd rfl (.inl rfl) (pe_call G_lights hr rfl D_lights.g D_lights.F.kp D_lights.b .nil pass0 (pa_cons (pv 0) (pa_cons (pv 3) pa_nil))))
  (pss_cons (ps_if (pt_cmpR op_isN (pv 4) pe_non (nomark _)) (pss_one (ps_ret pe_non)) pss_nil)
  (pss_cons (ps_set (i := 0) sc_lotsK.nd rfl (.inl rfl) (pe_call G_burnt hr rfl D_burnt.g D_burnt.F.kp D_burnt.b .nil pass0 (pa_cons (pv 0) (pa_cons (pv 4) (pa_cons (pe_tup pa_nil) pa_nil)))))
  (pss_one (ps_expr (pe_bm PySem.F.plainAttrs_list PySem.F.slot_list_append PySem.F.type_list_append mt_append (pv 2) (pa_cons (pe_tup (pa_cons (pv 4) (pa_cons (pv 0) pa_nil))) pa_nil))))))))
  (pss_one (ps_ret (pv 2))))), ?_⟩
  refine ⟨Nat.zero_le _, fun o no => ?_⟩
  have s0 : Same H (upd H o (.lst [])) := Same.new no
  refine ⟨_, rfl, b, rfl, ⟨_, s0.sqt hB⟩, for_tup (K := K) (a := b) (xs := vi ds) (fun i σ H' => ∃ (ca : Addr) (c : List Int) (acc : List (List Int × List Int)) (xs : List V) (y3 y4 : Option V), σ = [some (.ref ca), some (.ref b), some (.ref o), y3, y4] ∧ Same H H' ∧ SqT K H' ca (vi c) ∧ c.length = cs.length ∧ H' o = some (.lst xs) ∧ Paired (LC H') xs acc ∧ acc.length = i ∧ lotsF cs ds = (lotsF c (ds.drop i)).map (acc ++ ·)) ⟨a, cs, [], [], none, none, rfl, s0, s0.sqt hS, rfl, upd_same, .nil, rfl, ?_⟩ (fun i σ H' _ ⟨_, _, _, _, _, _, _, sm, _⟩ => sm.sqt hB) (fun i x σ H1 hx hW => ?_) (fun σ H1 hW => ?_)⟩
  · show _ = (lotsF cs ds).map fun x => x
    cases lotsF cs ds <;> rfl
  · obtain ⟨ca, c, acc, xs, y3, y4, rfl, sm, hC, hcl, hO, hp, hal, he⟩ := hW
    obtain ⟨d, hd, rfl⟩ := vi_get hx
    have hd0 := h0 d (List.mem_of_getElem? hd)
    have hdi := (List.getElem?_eq_some_iff.mp hd).1
    rw [drop_next hd, lotsF_cons] at he
    refine ⟨_, rfl, _, rfl, ca, c, d, rfl, hC, by omega, hd0, ?_⟩
    cases hlf : lightsF c d with
    | none =>
      rw [hlf] at he
      have he : lotsF cs ds = none := he
      intro H2 s2
      refine ⟨_, rfl, rfl, _, rfl, if_t rfl ?_⟩
      rw [he] at q
      exact q _ (sm.trans s2)
    | some lit =>
      rw [hlf] at he
      have he : lotsF cs ds = ((lotsF (burntF c lit []) (ds.drop (i + 1))).map fun l => (lit, burntF c lit []) :: l).map (acc ++ ·) := he
      intro H2 u s2 nu hu
      refine ⟨_, rfl, rfl, _, rfl, if_f rfl ?_⟩
      -- candles = burnt(candles, lit, ())
      refine ⟨_, rfl, _, rfl, Nat.zero_le _, fun e ne => ?_⟩
      have s3 : Same H2 (upd H2 e (.tup [])) := Same.new ne
      refine ⟨ca, u, e, c, lit, [], true, true, rfl, (s2.trans s3).sqt hC, SqT.of (s3 _ _ hu), SqT.of upd_same, by omega, fun H4 ca' s4 nca hca => ?_⟩
      have s14 := (s2.trans s3).trans s4
      have hu4 := (s3.trans s4) _ _ hu
      have hO4 := s14 _ _ hO
      -- found.append((lit, candles))
      refine ⟨_, rfl, .inl ⟨rfl, _, SqL.of hO4⟩, _, rfl, _, rfl, by show 2 ≤ sizeLine; decide, fun t nt => ?_⟩
      have s5 : Same H4 (upd H4 t (.tup [.ref u, .ref ca'])) := Same.new nt
      have hO5 := s5 _ _ hO4
      refine ⟨o, _, _, rfl, rfl, hO5, ?_, ?_⟩
      · rw [paired_len hp, hal]
        exact small1000 (by omega)
      have keep : ∀ (b : Addr) zs, (upd H4 t (.tup [.ref u, .ref ca'])) b = some (.tup zs) → b ≠ o := fun b zs hb z => by
        rw [z, hO5] at hb
        cases hb
      have su : Smt o (upd H4 t (.tup [.ref u, .ref ca'])) (upd (upd H4 t (.tup [.ref u, .ref ca'])) o (.lst (xs ++ [.ref t]))) := Smt.upd
      refine ⟨ca', burntF c lit [], acc ++ [(lit, burntF c lit [])], xs ++ [.ref t], _, _, rfl, (sm.trans (s14.trans s5)).mut no, ?_, (burntF_len _ _ _).trans hcl, upd_same, ?_, ?_, ?_⟩
      · exact SqT.of (su _ _ (s5 _ _ hca) (keep _ _ (s5 _ _ hca)))
      · refine paired_app (paired_mono (fun v x r => (r.same (s14.trans s5)).keep hO5 su) hp) (.cons ⟨t, u, ca', rfl, su _ _ upd_same (keep _ _ upd_same), su _ _ (s5 _ _ hu4) (keep _ _ (s5 _ _ hu4)), su _ _ (s5 _ _ hca) (keep _ _ (s5 _ _ hca))⟩ .nil)
      · rw [List.length_append, hal]
        rfl
      · rw [he, Option.map_map]
        congr 1
        funext l
        show acc ++ ((lit, burntF c lit []) :: l) = acc ++ [(lit, burntF c lit [])] ++ l
        rw [List.append_assoc]
        rfl
  · obtain ⟨ca, c, acc, xs, y3, y4, rfl, sm, hC, hcl, hO, hp, hal, he⟩ := hW
    rw [vi_len, List.drop_length] at he
    have he : lotsF cs ds = some (acc ++ []) := he
    rw [List.append_nil] at he
    rw [he] at q
    exact ⟨_, rfl, q H1 o xs sm no hO hp⟩
/-! def kept -/
abbrev s_kept : Stmt := topS 31
theorem sc_kept : FnScope ["candles", "draughts", "found", "lit", "left"] ["candles", "draughts"] (defScope s_kept) := ⟨rfl, rfl, rfl, by decide +kernel, rfl, by decide +kernel, by decide +kernel⟩
def KeptV (H : Hp) (Q : VK) (r : Option (List (List Int))) : Prop := match r with
  | none => ∀ H', Same H H' → Q .non H'
  | some l => ∀ H' p xs, Same H H' → H p = none → H' p = some (.lst xs) → Paired (VT H') xs l → Q (.ref p) H'
def keptF (cs ds : List Int) : Option (List (List Int)) := (lotsF cs ds).map (·.map Prod.snd)
def spKept (K : PySem.W.Frag) : Sp := fun vs H Q _ => ∃ (a b : Addr) (cs ds : List Int), vs = [.ref a, .ref b] ∧ SqT K H a (vi cs) ∧ SqT K H b (vi ds) ∧ cs.length ≤ 1000 ∧ ds.length ≤ 1000 ∧ (∀ d ∈ ds, 0 ≤ d) ∧ KeptV H Q (keptF cs ds)
theorem ok_kept {f : Addr} {fd : FuncData} (T : Bl mg) (F : Fun K "kept" "kept" s_kept f fd) {f_lotsK : Addr} {fd_lotsK : FuncData} (D_lotsK : FnAt K mg "lots_keepers" "lots" s_lotsK ["candles", "draughts"] f_lotsK fd_lotsK) {f_lights : Addr} {fd_lights : FuncData} (D_lights : FnAt K mg "lights" "lights" s_lights ["candles", "draught"] f_lights fd_lights) {f_burnt : Addr} {fd_burnt : FuncData} (D_burnt : FnAt K mg "burnt" "burnt" s_burnt ["candles", "lit", "out"] f_burnt fd_burnt) : FnOk P w K mg base CX0 3 f fd ["candles", "draughts"] (spKept K) := by
  have G_lotsK : FnOk P w K mg base CX0 2 f_lotsK fd_lotsK _ (spLotsK K) := ok_lotsK T D_lotsK.F D_lights D_burnt
  refine F.ok sc_kept (fun vs H Q E h => ?_) (fun cdv A outer s H vs Q E hr h => ?_)
  · obtain ⟨a, b, cs, ds, rfl, _⟩ := h
    rfl
  obtain ⟨a, b, cs, ds, rfl, hS, hB, hl, hlb, h0, q⟩ := h
  refine ⟨_, (pss_cons (ps_set (i := 2) sc_kept.nd rfl (.inl rfl) (pe_call G_lotsK hr rfl D_lotsK.g D_lotsK.F.kp D_lotsK.b .nil pass0 (pa_cons (pv 0) (pa_cons (pv 1) pa_nil))))
  (pss_one (ps_ret (pe_ifExp (pt_cmpR op_notN (pv 2) pe_non (nomark _)) (pe_lc (own := [("lit", 3), ("left", 4)]) rfl sc_kept.nd (piL K (pv 2)) (blkOk_by (N := ["candles", "draughts", "found", "lit", "left"]) (sc := defScope s_kept) (own := [("lit", 3), ("left", 4)]) (by decide +kernel)) (fun _ _ _ _ _ => (pgT K 2 rfl (pgs_cons (pg_name (i := 3) sc_kept.nd rfl (.inl rfl)) (pgs_cons (pg_name (i := 4) sc_kept.nd rfl (.inl rfl)) pgs_nil)))) (fun _ _ _ _ _ => pts_nil) (fun _ _ _ _ _ => (pv 4))) pe_non)))), ?_⟩
  refine ⟨_, rfl, _, rfl, a, b, cs, ds, rfl, hS, hB, hl, hlb, h0, ?_⟩
  unfold keptF at q
  cases hlf : lotsF cs ds with
  | none =>
    rw [hlf] at q
    intro H1 s1
    exact ⟨_, rfl, rfl, _, rfl, if_f rfl (q _ s1)⟩
  | some l =>
    rw [hlf] at q
    intro H1 p xs s1 np hp pr
    have hC : SqL K H1 p xs := SqL.of hp
    refine ⟨_, rfl, rfl, _, rfl, if_t rfl ⟨_, rfl, p, rfl, ⟨_, hC⟩, fun D hD => lc_rel (walk_list (xs := xs)) hD (by rw [paired_len pr, lotsF_len hlf]; exact hlb) VT (fun H H' D acc v p h s r => r.keep h s) (fun i => l[i]?.bind fun x => some x.2) (fun H' s => s.seq hC) (fun i x H2 H' kn ky hi sm y h1 h2 => ?_) (fun ys H2 sm e pr2 => ?_)⟩⟩
    · obtain ⟨rfl, hx⟩ := y
      obtain ⟨z, hz, t, u, c, rfl, ht, hu, hc⟩ := paired_get pr hx
      refine ⟨t, _, rfl, SqT.of (sm _ _ ht), rfl, _, _, rfl, _, _, rfl, rfl, rfl, lc_yes ⟨_, rfl, h2 _ z.2 _ (Same.refl _) ?_ ⟨c, rfl, sm _ _ hc⟩⟩⟩
      rw [hz]
      rfl
    · rw [paired_len pr, fm_at] at pr2
      exact q H2 D ys (s1.trans sm) (s1.free hD) e pr2
/-! def plan -/
abbrev s_plan : Stmt := topS 32
theorem sc_plan : FnScope ["candles", "draughts", "found", "lit", "left"] ["candles", "draughts"] (defScope s_plan) := ⟨rfl, rfl, rfl, by decide +kernel, rfl, by decide +kernel, by decide +kernel⟩
def PlanV (H : Hp) (Q : VK) (r : Option (List (List Int))) : Prop := match r with
  | none => ∀ H', Same H H' → Q .non H'
  | some l => ∀ H' p xs, Same H H' → H p = none → H' p = some (.lst xs) → Paired (VT H') xs l → Q (.ref p) H'
def planF (cs ds : List Int) : Option (List (List Int)) := (lotsF cs ds).map (·.map Prod.fst)
def spPlan (K : PySem.W.Frag) : Sp := fun vs H Q _ => ∃ (a b : Addr) (cs ds : List Int), vs = [.ref a, .ref b] ∧ SqT K H a (vi cs) ∧ SqT K H b (vi ds) ∧ cs.length ≤ 1000 ∧ ds.length ≤ 1000 ∧ (∀ d ∈ ds, 0 ≤ d) ∧ PlanV H Q (planF cs ds)
theorem ok_plan {f : Addr} {fd : FuncData} (T : Bl mg) (F : Fun K "plan" "plan" s_plan f fd) {f_lotsK : Addr} {fd_lotsK : FuncData} (D_lotsK : FnAt K mg "lots_keepers" "lots" s_lotsK ["candles", "draughts"] f_lotsK fd_lotsK) {f_lights : Addr} {fd_lights : FuncData} (D_lights : FnAt K mg "lights" "lights" s_lights ["candles", "draught"] f_lights fd_lights) {f_burnt : Addr} {fd_burnt : FuncData} (D_burnt : FnAt K mg "burnt" "burnt" s_burnt ["candles", "lit", "out"] f_burnt fd_burnt) : FnOk P w K mg base CX0 3 f fd ["candles", "draughts"] (spPlan K) := by
  have G_lotsK : FnOk P w K mg base CX0 2 f_lotsK fd_lotsK _ (spLotsK K) := ok_lotsK T D_lotsK.F D_lights D_burnt
  refine F.ok sc_plan (fun vs H Q E h => ?_) (fun cdv A outer s H vs Q E hr h => ?_)
  · obtain ⟨a, b, cs, ds, rfl, _⟩ := h
    rfl
  obtain ⟨a, b, cs, ds, rfl, hS, hB, hl, hlb, h0, q⟩ := h
  refine ⟨_, (pss_cons (ps_set (i := 2) sc_plan.nd rfl (.inl rfl) (pe_call G_lotsK hr rfl D_lotsK.g D_lotsK.F.kp D_lotsK.b .nil pass0 (pa_cons (pv 0) (pa_cons (pv 1) pa_nil))))
  (pss_one (ps_ret (pe_ifExp (pt_cmpR op_notN (pv 2) pe_non (nomark _)) (pe_lc (own := [("lit", 3), ("left", 4)]) rfl sc_plan.nd (piL K (pv 2)) (blkOk_by (N := ["candles", "draughts", "found", "lit", "left"]) (sc := defScope s_plan) (own := [("lit", 3), ("left", 4)]) (by decide +kernel)) (fun _ _ _ _ _ => (pgT K 2 rfl (pgs_cons (pg_name (i := 3) sc_plan.nd rfl (.inl rfl)) (pgs_cons (pg_name (i := 4) sc_plan.nd rfl (.inl rfl)) pgs_nil)))) (fun _ _ _ _ _ => pts_nil) (fun _ _ _ _ _ => (pv 3))) pe_non)))), ?_⟩
  refine ⟨_, rfl, _, rfl, a, b, cs, ds, rfl, hS, hB, hl, hlb, h0, ?_⟩
  unfold planF at q
  cases hlf : lotsF cs ds with
  | none =>
    rw [hlf] at q
    intro H1 s1
    exact ⟨_, rfl, rfl, _, rfl, if_f rfl (q _ s1)⟩
  | some l =>
    rw [hlf] at q
    intro H1 p xs s1 np hp pr
    have hC : SqL K H1 p xs := SqL.of hp
    refine ⟨_, rfl, rfl, _, rfl, if_t rfl ⟨_, rfl, p, rfl, ⟨_, hC⟩, fun D hD => lc_rel (walk_list (xs := xs)) hD (by rw [paired_len pr, lotsF_len hlf]; exact hlb) VT (fun H H' D acc v p h s r => r.keep h s) (fun i => l[i]?.bind fun x => some x.1) (fun H' s => s.seq hC) (fun i x H2 H' kn ky hi sm y h1 h2 => ?_) (fun ys H2 sm e pr2 => ?_)⟩⟩
    · obtain ⟨rfl, hx⟩ := y
      obtain ⟨z, hz, t, u, c, rfl, ht, hu, hc⟩ := paired_get pr hx
      refine ⟨t, _, rfl, SqT.of (sm _ _ ht), rfl, _, _, rfl, _, _, rfl, rfl, rfl, lc_yes ⟨_, rfl, h2 _ z.1 _ (Same.refl _) ?_ ⟨u, rfl, sm _ _ hu⟩⟩⟩
      rw [hz]
      rfl
    · rw [paired_len pr, fm_at] at pr2
      exact q H2 D ys (s1.trans sm) (s1.free hD) e pr2
/-! def is_plan -/
abbrev s_is_plan : Stmt := topS 33
theorem sc_is_plan : FnScope ["candles", "draughts", "thing", "draught", "lit", "place", "wax"] ["candles", "draughts", "thing"] (defScope s_is_plan) := ⟨rfl, rfl, rfl, by decide +kernel, rfl, by decide +kernel, by decide +kernel⟩
/-- how many of the lots have a place -/
def cntL (ls : List (List Int)) (j : Int) : Int := ((ls.filter fun l => decide (j ∈ l)).length : Int)
/-- so many places lit for each draught, no candle oftener than it has wax -/
structure PlanOk (cs ds : List Int) (ls : List (List Int)) : Prop where
  len : ls.length = ds.length
  pl : ∀ (i : Nat) (l : List Int) (k : Int), ls[i]? = some l → ds[i]? = some k → Pl cs.length l ∧ (l.length : Int) = k + 1
  wax : ∀ (j : Nat) (w : Int), cs[j]? = some w → cntL ls j ≤ w
def IsPlan (cs ds : List Int) (d : PyData) : Prop := ∃ ls, d = .list (dts ls) ∧ PlanOk cs ds ls
theorem dts_inj : ∀ {a b : List (List Int)}, dts a = dts b → a = b
  | [], [], _ => rfl
  | [], _ :: _, h => by cases h
  | _ :: _, [], h => by cases h
  | x :: a, y :: b, h => by
    injection h with h1 h2
    injection h1 with h1
    rw [di_inj h1, dts_inj h2]
/-- each item a lot of the right length -/
def LotAt (n : Nat) (e : PyData) (k : Int) : Prop := ∃ l, e = .tuple (di l) ∧ Pl n l ∧ (l.length : Int) = k + 1
theorem lots_of {n : Nat} : ∀ {es : List PyData} {ds : List Int}, es.length = ds.length → (∀ (i : Nat) (e : PyData) (k : Int), es[i]? = some e → ds[i]? = some k → LotAt n e k) → ∃ ls, es = dts ls ∧ ls.length = ds.length ∧ ∀ (i : Nat) (l : List Int) (k : Int), ls[i]? = some l → ds[i]? = some k → Pl n l ∧ (l.length : Int) = k + 1
  | [], [], _, _ => ⟨[], rfl, rfl, fun i l k h => by simp at h⟩
  | [], _ :: _, h, _ => by cases h
  | _ :: _, [], h, _ => by cases h
  | e :: es, d :: ds, hl, h => by
    obtain ⟨ls, h1, h2, h3⟩ := lots_of (es := es) (ds := ds) (by simpa using hl) fun i e k h4 h5 => h (i + 1) e k h4 h5
    obtain ⟨l, e1, e2, e3⟩ := h 0 e d rfl rfl
    refine ⟨l :: ls, by rw [e1, h1]; rfl, by rw [List.length_cons, List.length_cons, h2], fun i l' k h4 h5 => ?_⟩
    cases i with
    | zero =>
      cases Option.some.inj h4
      cases Option.some.inj h5
      exact ⟨e2, e3⟩
    | succ i => exact h3 i l' k h4 h5
theorem plan_lot {cs ds : List Int} {es : List PyData} (h : IsPlan cs ds (.list es)) {i : Nat} {e : PyData} {k : Int} (he : es[i]? = some e) (hk : ds[i]? = some k) : LotAt cs.length e k := by
  obtain ⟨ls, e1, ho⟩ := h
  rw [PyData.list.inj e1, List.getElem?_map] at he
  obtain ⟨l, hl, rfl⟩ := Option.map_eq_some_iff.mp he
  obtain ⟨h1, h2⟩ := ho.pl i l k hl hk
  exact ⟨l, rfl, h1, h2⟩
theorem plan_len {cs ds : List Int} {es : List PyData} (h : IsPlan cs ds (.list es)) : es.length = ds.length := by
  obtain ⟨ls, e1, ho⟩ := h
  rw [PyData.list.inj e1, List.length_map]
  exact ho.len
theorem plan_iff {cs ds : List Int} {ls : List (List Int)} (h1 : ls.length = ds.length) (h2 : ∀ (i : Nat) (l : List Int) (k : Int), ls[i]? = some l → ds[i]? = some k → Pl cs.length l ∧ (l.length : Int) = k + 1) : IsPlan cs ds (.list (dts ls)) ↔ ∀ (j : Nat) (w : Int), cs[j]? = some w → cntL ls j ≤ w := by
  constructor
  · rintro ⟨ls', e, ho⟩
    rw [dts_inj (PyData.list.inj e)]
    exact ho.wax
  · exact fun h => ⟨ls, rfl, h1, h2, h⟩
def spIsPlan (K : PySem.W.Frag) : Sp := fun vs H Q _ => ∃ (a b : Addr) (v : V) (cs ds : List Int) (d : PyData) (n : Nat), vs = [.ref a, .ref b, v] ∧ SqT K H a (vi cs) ∧ SqT K H b (vi ds) ∧ cs.length ≤ 1000 ∧ ds.length ≤ 1000 ∧ Dp K H v d ∧ Fit (n + 2) d ∧ ∀ H', Same H H' → Q (.bl (cd (IsPlan cs ds d))) H'
theorem dpall_dts {K : PySem.W.Frag} {H : Hp} {vs : List V} {ls : List (List Int)} {i : Nat} {v : V} (h : DpAll K H vs (dts ls)) (e : vs[i]? = some v) : ∃ (l : List Int) (p : Addr), ls[i]? = some l ∧ v = .ref p ∧ SqT K H p (vi l) := by
  obtain ⟨d, hd, hv⟩ := dpall_get1 h e
  rw [List.getElem?_map] at hd
  obtain ⟨l, hl, rfl⟩ := Option.map_eq_some_iff.mp hd
  obtain ⟨p, rfl, hp⟩ := dp_tints hv
  exact ⟨l, p, hl, rfl, hp⟩
theorem ok_is_plan {f : Addr} {fd : FuncData} (T : Bl mg) (F : Fun K "is_plan" "is_plan" s_is_plan f fd) {f_are_places : Addr} {fd_are_places : FuncData} (D_are_places : FnAt K mg "are_places" "are_places" s_are_places ["candles", "thing"] f_are_places fd_are_places) {f_is_within : Addr} {fd_is_within : FuncData} (D_is_within : FnAt K mg "is_within" "is_within" s_is_within ["thing", "low", "high"] f_is_within fd_is_within) : FnOk P w K mg base CX0 3 f fd ["candles", "draughts", "thing"] (spIsPlan K) := by
  have G_are_places : FnOk P w K mg base CX0 2 f_are_places fd_are_places _ (spPlaces K) := ok_are_places T D_are_places.F D_is_within
  refine F.ok sc_is_plan (fun vs H Q E h => ?_) (fun cdv A outer s H vs Q E hr h => ?_)
  · obtain ⟨a, b, v, cs, ds, d, n, rfl, _⟩ := h
    rfl
  obtain ⟨a, b, v, cs, ds, d, n, rfl, hS, hB, hcl, hdl, hv, hfit, q⟩ := h
  refine ⟨_, (pss_cons (ps_if (PW.pt (pw_or (pt_not (pt_val (pe_callB (isiK K) rfl T.isinstance (by decide +kernel) (pa_cons (pv 2) (pa_cons (pe_bltn (v := .ty "list") (u := .type "list") rfl T.list (by decide +kernel) rfl) pa_nil))))) (pw_or1 (pt_cmpR op_ne (pe_callB (lenK K) rfl T.len (by decide +kernel) (pa_cons (pv 2) pa_nil)) (pe_callB (lenK K) rfl T.len (by decide +kernel) (pa_cons (pv 1) pa_nil)) (nomark _))))) (pss_one (ps_ret pe_bl)) pss_nil)
  (pss_cons (ps_for PassesOwn.never rfl (zipK K true false rfl T.zip (pa_cons (pv 1) (pa_cons (pv 2) pa_nil))) (pgT K 2 rfl (pgs_cons (pg_name (i := 3) sc_is_plan.nd rfl (.inl rfl)) (pgs_cons (pg_name (i := 4) sc_is_plan.nd rfl (.inl rfl)) pgs_nil))) (pss_one (ps_if (PW.pt (pw_or (pt_not (pt_val (pe_call G_are_places hr rfl D_are_places.g D_are_places.F.kp D_are_places.b .nil pass0 (pa_cons (pv 0) (pa_cons (pv 4) pa_nil))))) (pw_or1 (pt_cmpR op_ne (pe_callB (lenK K) rfl T.len (by decide +kernel) (pa_cons (pv 4) pa_nil)) (pe_op op_add (pv 3) pe_int) (nomark _))))) (pss_one (ps_ret pe_bl)) pss_nil)))
  (pss_one (ps_ret (pe_callB (allK K) rfl T.all (by decide +kernel) (pa_cons (pe_lc (own := [("place", 5), ("wax", 6)]) rfl sc_is_plan.nd (enumK K true rfl T.enumerate (pa_cons (pv 0) pa_nil)) (blkOk_by (N := ["candles", "draughts", "thing", "draught", "lit", "place", "wax"]) (sc := defScope s_is_plan) (own := [("place", 5), ("wax", 6)]) (by decide +kernel)) (fun _ _ _ _ _ => (pgT K 2 rfl (pgs_cons (pg_name (i := 5) sc_is_plan.nd rfl (.inr rfl)) (pgs_cons (pg_name (i := 6) sc_is_plan.nd rfl (.inl rfl)) pgs_nil)))) (fun _ _ _ _ _ => pts_nil) (fun _ _ _ _ _ => (pe_cmpR op_le (pe_callB (lenK K) rfl T.len (by decide +kernel) (pa_cons (pe_lc (own := [("lit", 4)]) rfl sc_is_plan.nd (piL K (pv 2)) (blkOk_by (N := ["candles", "draughts", "thing", "draught", "lit", "place", "wax"]) (sc := ⟨.function, [(".0", .local), ("place", .cell), ("wax", .local), ("len", .globalImplicit), ("thing", .cell)], false, false, []⟩) (own := [("lit", 4)]) (by decide +kernel)) (fun _ _ _ _ _ => (pg_name (i := 4) sc_is_plan.nd rfl (.inl rfl))) (fun _ _ _ _ _ => (pts_one (pt_cmpR (inK K) (pv 5) (pv 4) rfl))) (fun _ _ _ _ _ => pe_int)) pa_nil)) (pv 6) (nomark _)))) pa_nil)))))), ?_⟩
  refine ⟨_, rfl, v, _, _, _, _, rfl, .ty _, dp_ty hv, kit_d d (by simp), _, rfl, if_b (fun c => ?_) (fun c => ?_)⟩
  · rw [cd_f (fun ⟨ts, e, _⟩ => by subst e; cases c)] at q
    exact if_t rfl (q H (Same.refl _))
  obtain ⟨es, rfl⟩ := is_lst (by cases h : dis "list" d <;> simp_all)
  obtain ⟨p, xs, rfl, hp, ha⟩ := dp_lst_get hv
  have hlen : xs.length = es.length := dpall_len ha
  have hfa : ∀ z ∈ es, Fit (n + 1) z := hfit.2
  refine ⟨_, rfl, p, xs, rfl, .inl hp, _, rfl, b, vi ds, rfl, .inr hB, rfl, _, rfl, if_b (fun c2 => ?_) (fun c2 => ?_)⟩
  · have c2 : (!decide (V.int ((xs.length : Nat) : Int) = V.int (((vi ds).length : Nat) : Int))) = true := c2
    have hno : ¬ IsPlan cs ds (.list es) := fun h => by
      rw [vi_len, hlen, plan_len h, decide_eq_true rfl] at c2
      cases c2
    rw [cd_f hno] at q
    exact q H (Same.refl _)
  have hle : es.length = ds.length := by
    have c2 : (!decide (V.int ((xs.length : Nat) : Int) = V.int (((vi ds).length : Nat) : Int))) = false := c2
    cases h : decide (V.int ((xs.length : Nat) : Int) = V.int (((vi ds).length : Nat) : Int)) with
    | true =>
      have := V.int.inj (of_decide_eq_true h)
      rw [vi_len] at this
      omega
    | false =>
      rw [h] at c2
      cases c2
  have q1 : SqB K true H b (vi ds) := hB
  have q2 : SqB K false H p xs := hp
  refine ⟨_, rfl, _, rfl, b, p, vi ds, xs, rfl, q1, q2, for_it (walk_zipB (ka := true) (kb := false) (xs := vi ds) (ys := xs) (n := es.length) (by rw [vi_len, hlen]; omega)) (fun i σ H' => ∃ (y3 y4 : Option V) (z5 z6 : Option V), σ = [some (.ref a), some (.ref b), some (.ref p), y3, y4, z5, z6] ∧ Same H H' ∧ ∀ (j : Nat) (e : PyData) (k : Int), j < i → es[j]? = some e → ds[j]? = some k → LotAt cs.length e k) ⟨none, none, none, none, rfl, Same.refl _, fun j e k h => absurd h (Nat.not_lt_zero _)⟩ (fun i σ H' _ ⟨_, _, _, _, _, sm, _⟩ => ⟨sm.sqb q1, sm.sqb q2⟩) (fun i x σ H1 H' hi hW hy => ?_) (fun σ H1 hW => ?_)⟩
  · obtain ⟨y3, y4, z5, z6, rfl, sm, hdone⟩ := hW
    obtain ⟨tt, x1, x2, rfl, nT, rfl, e1, e2⟩ := hy
    obtain ⟨k, hk, rfl⟩ := vi_get e1
    obtain ⟨dx, hdx, hvx⟩ := dpall_get1 ha e2
    have hfx := hfa dx (List.mem_of_getElem? hdx)
    have s2 : Same H1 (upd H1 tt (.tup [.int k, x2])) := Same.new nT
    have sm2 := sm.trans s2
    refine ⟨tt, _, rfl, SqT.of upd_same, rfl, _, _, rfl, _, _, rfl, rfl, ?_⟩
    refine ⟨_, rfl, _, rfl, a, x2, cs, dx, n, rfl, sm2.sqt hS, hvx.same sm2, hfx, fun H3 s3 => ⟨_, rfl, if_b (fun c3 => ?_) (fun c3 => ?_)⟩⟩
    · have c3 : (!cd (IsPlaces cs.length dx)) = true := c3
      have hno : ¬ IsPlan cs ds (.list es) := fun h => by
        obtain ⟨l, e, hl, _⟩ := plan_lot h hdx hk
        rw [cd_t ⟨l, e, hl⟩] at c3
        cases c3
      rw [cd_f hno] at q
      exact if_t rfl (q _ (sm2.trans s3))
    have c3 : (!cd (IsPlaces cs.length dx)) = false := c3
    have hpl : IsPlaces cs.length dx := by
      cases h : cd (IsPlaces cs.length dx) with
      | true => exact cd_of h
      | false =>
        rw [h] at c3
        cases c3
    obtain ⟨l, rfl, hl⟩ := hpl
    have sm3 := sm2.trans s3
    obtain ⟨u, rfl, hu⟩ := dp_tints (hvx.same sm3)
    refine ⟨_, rfl, u, vi l, rfl, .inr hu, _, rfl, _, _, rfl, rfl, rfl, _, rfl, if_b (fun c4 => ?_) (fun c4 => ?_)⟩
    · have c4 : (!decide (V.int (((vi l).length : Nat) : Int) = V.int (k + 1))) = true := c4
      have hno : ¬ IsPlan cs ds (.list es) := fun h => by
        obtain ⟨l', e, _, hl'⟩ := plan_lot h hdx hk
        rw [vi_len, di_inj (PyData.tuple.inj e), hl', decide_eq_true rfl] at c4
        cases c4
      rw [cd_f hno] at q
      exact q _ sm3
    · have c4 : (!decide (V.int (((vi l).length : Nat) : Int) = V.int (k + 1))) = false := c4
      have hll : (l.length : Int) = k + 1 := by
        cases h : decide (V.int (((vi l).length : Nat) : Int) = V.int (k + 1)) with
        | true =>
          have := V.int.inj (of_decide_eq_true h)
          rw [vi_len] at this
          exact this
        | false =>
          rw [h] at c4
          cases c4
      refine ⟨_, _, _, _, rfl, sm3, fun j e k' hj he hk' => ?_⟩
      by_cases h : j < i
      · exact hdone j e k' h he hk'
      · have : j = i := by omega
        subst this
        rw [hdx] at he
        rw [hk] at hk'
        cases he
        cases hk'
        exact ⟨l, rfl, hl, hll⟩
  · obtain ⟨y3, y4, z5, z6, rfl, sm, hdone⟩ := hW
    obtain ⟨ls, rfl, hl1, hl2⟩ := lots_of hle fun i e k he hk => hdone i e k (List.getElem?_eq_some_iff.mp he).1 he hk
    have hiff := plan_iff (cs := cs) hl1 hl2
    have hxl : xs.length = ls.length := by rw [hlen, List.length_map]
    -- all([len([1 for lit in thing if place in lit]) <= wax for place, wax in enumerate(candles)])
    have hS1 := sm.sqt hS
    have hp1 := sm.seq hp
    have ha1 := DpAll.same sm ha
    refine ⟨_, rfl, a, vi cs, rfl, hS1, fun D hD => lc_bls (walk_enumB (tp := true) (xs := vi cs)) hD (by rw [vi_len]; exact hcl) (fun i => cs[i]?.bind fun w => some (decide (cntL ls (i : Int) ≤ w))) (fun H' s => s.sqt hS1) (fun j x H2 H' kn ky hj sm2 y h1 h2 => ?_) (fun H2 sm2 e => ?_)⟩
    · obtain ⟨tt, x1, x2, rfl, nT, rfl, e1, e2⟩ := y
      cases Option.some.inj e1
      obtain ⟨w, hw, rfl⟩ := vi_get e2
      have sn : Same H2 (upd H2 tt (.tup [.int (j : Nat), .int w])) := Same.new nT
      have sm3 := sm2.trans sn
      have hp3 := sm3.seq hp1
      have ha3 := DpAll.same sm3 ha1
      refine ⟨tt, _, rfl, SqT.of upd_same, rfl, _, _, rfl, _, _, rfl, rfl, rfl, lc_yes ?_⟩
      refine ⟨_, rfl, p, rfl, ⟨_, hp3⟩, fun D2 hD2 => lc_ints (walk_list (xs := xs)) hD2 (by omega) (fun i => ls[i]?.bind fun l => if (j : Int) ∈ l then some 1 else none) (fun H' s => s.seq hp3) (fun i z H4 H' kn2 ky2 hi sm4 y4 h1' h2' => ?_) (fun H4 sm4 e4 => ?_)⟩
      · obtain ⟨rfl, hz⟩ := y4
        obtain ⟨l, u, hl, rfl, hu⟩ := dpall_dts ha3 hz
        refine ⟨rfl, _, rfl, _, rfl, u, vi l, rfl, .inr (sm4.sqt hu), rfl, vi_flat _, _, rfl, if_b (fun c => ?_) (fun c => ?_)⟩
        · have c : inV (.int (j : Nat)) (vi l) = true := c
          rw [inV_ints] at c
          exact h2' _ _ (Same.refl _) (by rw [hl]; exact if_pos (of_decide_eq_true c))
        · have c : inV (.int (j : Nat)) (vi l) = false := c
          rw [inV_ints] at c
          exact h1' _ (Same.refl _) (by rw [hl]; exact if_neg (of_decide_eq_false c))
      · rw [hxl, fm_get] at e4
        have el : ((ls.filterMap fun l => if (j : Int) ∈ l then some (1 : Int) else none).length : Int) = cntL ls j := by
          unfold cntL
          rw [fm_len (fun l => decide ((j : Int) ∈ l)) _ ls fun l _ => by
            by_cases c : (j : Int) ∈ l
            · rw [if_pos c, decide_eq_true c]
              rfl
            · rw [if_neg c, decide_eq_false c]
              rfl]
        refine ⟨D2, _, rfl, .inl (SqL.of e4), _, rfl, _, _, rfl, rfl, h2 _ _ (sn.trans sm4) ?_⟩
        rw [hw, vi_len, el]
        rfl
    · rw [vi_len, fm_idx] at e
      refine ⟨D, _, rfl, SqL.of e, ?_⟩
      have er : (cs.mapIdx fun i w => decide (cntL ls (i : Int) ≤ w)).all id = cd (IsPlan cs ds (.list (dts ls))) := by
        refine cd_b ?_
        rw [hiff, List.all_eq_true]
        constructor
        · intro h j w hw
          have hm : decide (cntL ls (j : Int) ≤ w) ∈ cs.mapIdx fun i w => decide (cntL ls (i : Int) ≤ w) := List.mem_of_getElem? (i := j) (by rw [List.getElem?_mapIdx, hw]; rfl)
          exact of_decide_eq_true (h _ hm)
        · intro h b hb
          obtain ⟨j, hj⟩ := List.getElem?_of_mem hb
          rw [List.getElem?_mapIdx] at hj
          obtain ⟨w, hw, rfl⟩ := Option.map_eq_some_iff.mp hj
          exact decide_eq_true (h j w hw)
      rw [er]
      exact q _ (sm.trans sm2)
/-! def _law_draw -/
abbrev s__law_draw : Stmt := topS 35
theorem sc__law_draw : FnScope ["tape", "many", "prime", "cell", "found"] ["tape", "many"] (defScope s__law_draw) := ⟨rfl, rfl, rfl, by decide +kernel, rfl, by decide +kernel, by decide +kernel⟩
theorem draw_nn (x : Int) : 0 ≤ x % 2305843009213693951 ∧ x % 2305843009213693951 < 2305843009213693951 := ⟨Int.emod_nonneg x (by decide), Int.emod_lt_of_pos x (by decide)⟩
def spDraw : Sp := fun vs H Q _ => ∃ (t a : Addr) (many : Int), vs = [.ref t, .int many] ∧ TapeAt H t a ∧ 0 < many ∧ many < 2 ^ 100 ∧
  ∀ (r : Int) (H' : Hp), 0 ≤ r → r < many → TapeAt H' t a → Smt t H H' → Q (.int r) H'
theorem ok__law_draw {f : Addr} {fd : FuncData} (T : Bl mg) (F : Fun K "_law_draw" "_law_draw" s__law_draw f fd) : FnOk P w K mg base CX0 1 f fd ["tape", "many"] spDraw := by
  refine F.ok sc__law_draw (fun vs H Q E h => ?_) (fun cdv A outer s H vs Q E hr h => ?_)
  · obtain ⟨t, a, many, rfl, _⟩ := h
    rfl
  obtain ⟨t, a, many, rfl, hT, hm, hm2, q⟩ := h
  refine ⟨_, (pss_cons (ps_set (i := 2) sc__law_draw.nd rfl (.inl rfl) pe_int)
  (C8.pss_cut (ps_if (pt_cmpR op_lt (pe_ix (ixL K) (pv 0) pe_int (fun _ _ => rfl)) (pv 1) (nomark _)) (pss_cons (ps_set (i := 3) sc__law_draw.nd rfl (.inl rfl) pe_int)
  (C8.pss_cut (ps_if (pt_cmpR op_gt (pe_callB (lenK K) rfl T.len (by decide +kernel) (pa_cons (pe_ix (ixL K) (pv 0) pe_int (fun _ _ => rfl)) pa_nil)) pe_int (nomark _)) (pss_one (ps_set (i := 3) sc__law_draw.nd rfl (.inl rfl) (pe_ix (ixL K) (pe_ix (ixL K) (pv 0) pe_int (fun _ _ => rfl)) (pe_op op_mod (pe_ix (ixL K) (pv 0) pe_int (fun _ _ => rfl)) (pe_callB (lenK K) rfl T.len (by decide +kernel) (pa_cons (pe_ix (ixL K) (pv 0) pe_int (fun _ _ => rfl)) pa_nil))) (fun _ _ => rfl)))) pss_nil)
  (C8.pss_cut (ps_if (PW.pt (pw_or (pt_cmpR op_ge (pe_ix (ixL K) (pv 0) pe_int (fun _ _ => rfl)) (pe_callB (lenK K) rfl T.len (by decide +kernel) (pa_cons (pe_ix (ixL K) (pv 0) pe_int (fun _ _ => rfl)) pa_nil)) (nomark _)) (pw_or1 (pt_cmpR op_lt (pv 3) (pe_op op_pow pe_int pe_int) (nomark _))))) (pss_cons (ps_set (i := 3) sc__law_draw.nd rfl (.inl rfl) (pe_op op_mod (pe_op op_add (pv 3) (pe_op op_mul pe_int (pe_ix (ixL K) (pv 0) pe_int (fun _ _ => rfl)))) (pv 2)))
  (pss_cons (ps_set (i := 3) sc__law_draw.nd rfl (.inl rfl) (pe_op op_mod (pe_op op_add (pe_op op_add (pe_op op_mul (pv 3) (pv 3)) (pe_op op_mul pe_int (pv 3))) pe_int) (pv 2)))
  (pss_one (ps_set (i := 3) sc__law_draw.nd rfl (.inl rfl) (pe_op op_mod (pe_op op_add (pe_op op_mul (pv 3) (pv 3)) pe_int) (pv 2)))))) pss_nil)
  (pss_cons (ps_asg (pe_op op_add (pe_ix (ixL K) (pv 0) pe_int (fun _ _ => rfl)) pe_int) (pg_sub (pv 0) pe_int set_list))
  (pss_one (ps_asg (pv 3) (pg_sub (pv 0) pe_int set_list))))))) pss_nil)
  (pss_cons (ps_set (i := 4) sc__law_draw.nd rfl (.inl rfl) (pe_op op_mod (pe_ix (ixL K) (pv 0) pe_int (fun _ _ => rfl)) (pv 1)))
  (pss_cons (ps_asg (pe_op op_fdivW (pe_ix (ixL K) (pv 0) pe_int (fun _ _ => rfl)) (pv 1)) (pg_sub (pv 0) pe_int set_list))
  (pss_one (ps_ret (pv 4))))))), ?_⟩
  have hta : a ≠ t := hT.ta
  obtain ⟨ns, i, c, ht, ha, hc⟩ := hT
  -- if tape[2] < many
  refine ⟨fun σ' H' => ∃ (i' c' : Int) (y : Option V), σ' = [some (.ref t), some (.int many), some (.int 2305843009213693951), y, none] ∧ H' t = some (.lst [.ref a, .int i', .int c']) ∧ H' a = some (.lst (vi ns)) ∧ 0 ≤ c' ∧ Smt t H H', ?_, ?_⟩
  · refine ⟨_, rfl, t, _, 2, _, rfl, rfl, SqL.of ht, rfl, _, rfl, _, _, rfl, rfl, _, rfl, if_b (fun _ => ?_) (fun _ => ?_)⟩
    · -- cell = 0; if len(tape[0]) > 0
      refine ⟨fun σ' H' => ∃ z : Int, σ' = [some (.ref t), some (.int many), some (.int 2305843009213693951), some (.int z), none] ∧ H' = H, ?_, ?_⟩
      · refine ⟨_, rfl, t, _, 0, _, rfl, rfl, SqL.of ht, rfl, a, vi ns, rfl, .inl (SqL.of ha), _, _, rfl, rfl, _, rfl, if_b (fun e => ?_) (fun _ => ?_)⟩
        · have e1 : (0 : Int) < (((vi ns).length : Nat) : Int) := of_decide_eq_true e
          have e2 : 0 < ns.length := by
            rw [vi_len] at e1
            omega
          obtain ⟨z, hz⟩ := atI_mod e2 i
          refine ⟨_, rfl, t, _, 0, _, rfl, rfl, SqL.of ht, rfl, _, rfl, t, _, 1, _, rfl, rfl, SqL.of ht, rfl, _, rfl, t, _, 0, _, rfl, rfl, SqL.of ht, rfl, a, vi ns, rfl, .inl (SqL.of ha), _, _, rfl, rfl, e1, a, _, _, _, rfl, rfl, SqL.of ha, hz, z, rfl, rfl⟩
        · exact ⟨0, rfl, rfl⟩
      rintro σ' H' ⟨z, rfl, rfl⟩
      -- if tape[1] >= len(tape[0]) or cell < 10 ** 18
      refine ⟨fun σ' H1 => ∃ z : Int, σ' = [some (.ref t), some (.int many), some (.int 2305843009213693951), some (.int z), none] ∧ H1 = H' ∧ 0 ≤ z, ?_, ?_⟩
      · have body : ∀ D : Ends, D.nx [some (.ref t), some (.int many), some (.int 2305843009213693951), some (.int (((((z + 1000003 * i) % 2305843009213693951) * ((z + 1000003 * i) % 2305843009213693951) + 1181783497276652981 * ((z + 1000003 * i) % 2305843009213693951) + 2049848353892358983) % 2305843009213693951 * (((((z + 1000003 * i) % 2305843009213693951) * ((z + 1000003 * i) % 2305843009213693951) + 1181783497276652981 * ((z + 1000003 * i) % 2305843009213693951) + 2049848353892358983) % 2305843009213693951)) + 1442695040888963407) % 2305843009213693951)), none] H' → _ := fun D hD => by
          have n1 := draw_nn (z + 1000003 * i)
          have n2 := draw_nn (((z + 1000003 * i) % 2305843009213693951) * ((z + 1000003 * i) % 2305843009213693951) + 1181783497276652981 * ((z + 1000003 * i) % 2305843009213693951) + 2049848353892358983)
          refine (?_ : tSeq (tAsg (tOp (rI (fun _ j => 0 < j) fun i j => .int (i % j)) (tOp (rI0 fun i j => .int (i + j)) (tVar 3) (tOp (rI CMul fun i j => .int (i * j)) (tC (.int 1000003)) (tOp (rIxL K) (tVar 0) (tC (.int 1))))) (tVar 2)) (gName 3))
            (tSeq (tAsg (tOp (rI (fun _ j => 0 < j) fun i j => .int (i % j)) (tOp (rI0 fun i j => .int (i + j)) (tOp (rI0 fun i j => .int (i + j)) (tOp (rI CMul fun i j => .int (i * j)) (tVar 3) (tVar 3)) (tOp (rI CMul fun i j => .int (i * j)) (tC (.int 1181783497276652981)) (tVar 3))) (tC (.int 2049848353892358983))) (tVar 2)) (gName 3))
            (tAsg (tOp (rI (fun _ j => 0 < j) fun i j => .int (i % j)) (tOp (rI0 fun i j => .int (i + j)) (tOp (rI CMul fun i j => .int (i * j)) (tVar 3) (tVar 3)) (tC (.int 1442695040888963407))) (tVar 2)) (gName 3))) D [some (.ref t), some (.int many), some (.int 2305843009213693951), some (.int z), none] H')
          refine ⟨_, rfl, _, rfl, t, _, 1, _, rfl, rfl, SqL.of ht, rfl, _, _, rfl, rfl, .inl ⟨by omega, by omega⟩, _, _, rfl, rfl, _, rfl, _, _, rfl, rfl, by omega, ?_⟩
          refine ⟨_, rfl, _, rfl, _, _, rfl, rfl, .inl (by omega), _, rfl, _, _, rfl, rfl, .inl ⟨by omega, by omega⟩, _, _, rfl, rfl, _, _, rfl, rfl, _, rfl, _, _, rfl, rfl, by omega, ?_⟩
          refine ⟨_, rfl, _, rfl, _, _, rfl, rfl, .inl (by omega), _, _, rfl, rfl, _, rfl, _, _, rfl, rfl, by omega, hD⟩
        refine ⟨_, rfl, t, _, 1, _, rfl, rfl, SqL.of ht, rfl, _, rfl, t, _, 0, _, rfl, rfl, SqL.of ht, rfl, a, vi ns, rfl, .inl (SqL.of ha), _, _, rfl, rfl, _, rfl, if_b (fun _ => ?_) (fun _ => ?_)⟩
        · refine if_t rfl (body _ ⟨_, rfl, rfl, (draw_nn _).1⟩)
        · refine ⟨_, rfl, _, _, rfl, rfl, ⟨by decide, by decide, by decide⟩, _, _, rfl, rfl, _, rfl, if_b (fun _ => body _ ⟨_, rfl, rfl, (draw_nn _).1⟩) (fun e => ?_)⟩
          refine ⟨z, rfl, rfl, ?_⟩
          have e1 : ¬ z < (10 : Int) ^ (18 : Int).toNat := of_decide_eq_false e
          have e2 : (0 : Int) ≤ (10 : Int) ^ (18 : Int).toNat := by decide
          omega
      rintro σ' H1 ⟨z, rfl, rfl, hz⟩
      -- tape[1] = tape[1] + 1; tape[2] = cell
      refine ⟨_, rfl, t, _, 1, _, rfl, rfl, SqL.of ht, rfl, _, _, rfl, rfl, _, rfl, t, _, 1, 1, rfl, rfl, ht, rfl, ?_⟩
      refine ⟨_, rfl, _, rfl, t, _, 2, 2, rfl, rfl, upd_same, rfl, ?_⟩
      refine ⟨i + 1, z, some (.int z), rfl, upd_same, ?_, hz, ?_⟩
      · rw [upd_ne hta, upd_ne hta]
        exact ha
      · exact Smt.upd.trans Smt.upd
    · exact ⟨i, c, none, rfl, ht, ha, hc, Smt.refl _ _⟩
  rintro σ' H' ⟨i', c', y, rfl, ht', ha', hc', sm⟩
  refine ⟨_, rfl, t, _, 2, _, rfl, rfl, SqL.of ht', rfl, _, rfl, _, _, rfl, rfl, hm, ?_⟩
  refine ⟨_, rfl, t, _, 2, _, rfl, rfl, SqL.of ht', rfl, _, rfl, _, _, rfl, rfl, wide_div (b := 100) hm (by omega) (by decide) (by decide), _, rfl, t, _, 2, 2, rfl, rfl, ht', rfl, ?_⟩
  refine ⟨_, rfl, q _ _ (Int.emod_nonneg _ (by omega)) (Int.emod_lt_of_pos _ hm) ⟨ns, i', c' / many, upd_same, ?_, ?_⟩ (sm.trans Smt.upd)⟩
  · rw [upd_ne hta]
    exact ha'
  · exact Int.ediv_nonneg hc' (by omega)
/-! def _law_three_right -/
abbrev s__law_three_right : Stmt := topS 36
theorem sc__law_three_right : FnScope ["my_candles", "my_draughts", "rows"] [] (defScope s__law_three_right) := ⟨rfl, rfl, rfl, by decide +kernel, rfl, by decide +kernel, by decide +kernel⟩
theorem t_spr : spr [3, 2, 1] [1, 0, 1] = [1, 1, 1] := by rw [spr_I]; decide +kernel
theorem t_can : can [3, 2, 1] [1, 0, 1] = true := by rw [can_I]; decide +kernel
theorem t_f1 : fails [3, 2, 1] [1, 1, 1, 0] = [4] := by rw [fails_I]; decide +kernel
theorem t_f2 : fails [3, 2, 1] [2, 2] = [2] := by rw [fails_I]; decide +kernel
theorem t_lights : lightsF [3, 2, 1] 1 = some [0, 1] := by rw [lights_I]; decide +kernel
theorem t_kept : keptF [3, 2, 1] [1, 0, 1] = some [[2, 1, 1], [1, 1, 1], [0, 0, 1]] := by
  unfold keptF
  rw [lots_I]
  decide +kernel
theorem t_plan : planF [3, 2, 1] [1, 0, 1] = some [[0, 1], [0], [0, 1]] := by
  unfold planF
  rw [lots_I]
  decide +kernel
theorem t_long {cs : List Int} {d : Int} {r q : Nat} (h1 : can cs (List.replicate r d) = true) (h2 : can cs (List.replicate (r + 1) d) = false) (g1 : canI cs (List.replicate q d) = true) (g2 : canI cs (List.replicate (q + 1) d) = false) : r = q := by
  rw [← can_I] at g1 g2
  have a := long_mono (fun _ h => h) h1 g2
  have b := long_mono (fun _ h => h) g1 h2
  omega
theorem t_plOf {n : Nat} {l : List Int} (h1 : l.all (fun i => decide (0 ≤ i ∧ i ≤ (n : Int) - 1)) = true) (h2 : (List.range l.length).all (fun i => match l[i]?, l[i + 1]? with | some x, some y => decide (x < y) | _, _ => true) = true) : Pl n l := by
  refine ⟨fun i hi => of_decide_eq_true (List.all_eq_true.mp h1 i hi), fun i x y hx hy => ?_⟩
  have q := List.all_eq_true.mp h2 i (List.mem_range.mpr (List.getElem?_eq_some_iff.mp hx).1)
  rw [hx, hy] at q
  exact of_decide_eq_true q
theorem t_ok {ls : List (List Int)} (h : ls = [[0, 2], [0], [0, 1]] ∨ ls = [[0, 1], [0], [0, 1]]) : PlanOk [3, 2, 1] [1, 0, 1] ls := by
  rcases h with rfl | rfl
  · refine ⟨rfl, fun i l k hl hk => ?_, fun j w hw => ?_⟩
    · match i, hl, hk with
      | 0, hl, hk => cases hl; cases hk; exact ⟨t_plOf (by decide) (by decide), rfl⟩
      | 1, hl, hk => cases hl; cases hk; exact ⟨t_plOf (by decide) (by decide), rfl⟩
      | 2, hl, hk => cases hl; cases hk; exact ⟨t_plOf (by decide) (by decide), rfl⟩
      | n + 3, hl, hk => simp at hl
    · match j, hw with
      | 0, hw => cases hw; decide
      | 1, hw => cases hw; decide
      | 2, hw => cases hw; decide
      | n + 3, hw => simp at hw
  · refine ⟨rfl, fun i l k hl hk => ?_, fun j w hw => ?_⟩
    · match i, hl, hk with
      | 0, hl, hk => cases hl; cases hk; exact ⟨t_plOf (by decide) (by decide), rfl⟩
      | 1, hl, hk => cases hl; cases hk; exact ⟨t_plOf (by decide) (by decide), rfl⟩
      | 2, hl, hk => cases hl; cases hk; exact ⟨t_plOf (by decide) (by decide), rfl⟩
      | n + 3, hl, hk => simp at hl
    · match j, hw with
      | 0, hw => cases hw; decide
      | 1, hw => cases hw; decide
      | 2, hw => cases hw; decide
      | n + 3, hw => simp at hw
theorem t_strong {ns : List Int} (h : Strong [3, 2, 1] [1, 0, 1] ns) : ns = [2, 1, 2] := by
  obtain ⟨hl, h⟩ := h
  match ns, hl with
  | [x, y, z], _ =>
    obtain ⟨a1, a2, a3⟩ := h 0 1 x rfl rfl
    obtain ⟨b1, b2, b3⟩ := h 1 0 y rfl rfl
    obtain ⟨c1, c2, c3⟩ := h 2 1 z rfl rfl
    have a4 := can_lt a2 (d := x) (List.mem_cons_self)
    have b4 := can_lt b2 (d := y) (List.mem_cons_of_mem _ List.mem_cons_self)
    have c4 := can_lt c2 (d := z) (List.mem_cons_of_mem _ (List.mem_cons_of_mem _ List.mem_cons_self))
    have a4 : x + 1 ≤ 3 := a4
    have b4 : y + 1 ≤ 3 := b4
    have c4 : z + 1 ≤ 3 := c4
    rw [can_I] at a2 a3 b2 b3 c2 c3
    have hx : x = 2 := by
      have : x = 1 ∨ x = 2 := by omega
      rcases this with rfl | rfl
      · exact absurd a3 (by decide +kernel)
      · rfl
    have hz : z = 2 := by
      have : z = 1 ∨ z = 2 := by omega
      rcases this with rfl | rfl
      · exact absurd c3 (by decide +kernel)
      · rfl
    have hy : y = 1 := by
      have : y = 0 ∨ y = 1 ∨ y = 2 := by omega
      rcases this with rfl | rfl | rfl
      · exact absurd b3 (by decide +kernel)
      · rfl
      · exact absurd b2 (by decide +kernel)
    rw [hx, hy, hz]
theorem t_stb {m : Int} (h : Stb [3, 2, 1] [2, 2] m) : m = 1 := by
  obtain ⟨h0, h1, h2⟩ := h
  have q := h1 2 (by decide) (by decide)
  rw [wnt_I, show wntI [2, 2] 2 = 6 from by decide +kernel] at q
  have e2 : cnt [3, 2, 1] ((2 : Nat) : Int) = 5 := by decide +kernel
  have e1 : cnt [3, 2, 1] ((1 : Nat) : Int) = 3 := by decide +kernel
  rw [e2] at q
  obtain ⟨k, k1, k2, hk⟩ := h2 (by omega)
  have k2 : k ≤ 2 := k2
  have : k = 1 ∨ k = 2 := by omega
  rcases this with rfl | rfl
  · rw [wnt_I, show wntI [2, 2] 1 = 3 from by decide +kernel, e1] at hk
    omega
  · rw [wnt_I, show wntI [2, 2] 2 = 6 from by decide +kernel, e2] at hk
    omega
theorem t_more : can ([3, 2, 1] ++ [1]) [2, 2] = true := by rw [can_I]; decide +kernel
theorem t_spared {k : Int} {c : List Int} (h : rowD (k, c) = best (sparedF [3, 2, 1] [1, 0, 1])) : c = [2] := by
  have e : sparedF [3, 2, 1] [1, 0, 1] = [(0, []), (-1, [2])] := by
    rw [spared_I]
    decide +kernel
  rw [e] at h
  obtain ⟨h1, h2⟩ := best_min (by simp) h
  have h3 := h2 (-1, [2]) (by simp)
  rcases List.mem_cons.mp h1 with h1 | h1
  · injection h1 with h1 h4
    rw [h1] at h3
    have h3 : (0 : Int) ≤ -1 := h3
    omega
  · have := List.mem_singleton.mp h1
    injection this
/-- no arguments; the answer is True -/
def spTrue0 : Sp := fun vs H Q _ => vs = [] ∧ ∀ H', Same H H' → Q (.bl true) H'
theorem ok__law_three_right {f : Addr} {fd : FuncData} (T : Bl mg) (C : Cs mg) (F : Fun K "_law_three_right" "_law_three_right" s__law_three_right f fd) {f_are_candles : Addr} {fd_are_candles : FuncData} (D_are_candles : FnAt K mg "are_candles" "are_candles" s_are_candles ["thing"] f_are_candles fd_are_candles) {f_are_draughts : Addr} {fd_are_draughts : FuncData} (D_are_draughts : FnAt K mg "are_draughts" "are_draughts" s_are_draughts ["thing"] f_are_draughts fd_are_draughts) {f_is_within : Addr} {fd_is_within : FuncData} (D_is_within : FnAt K mg "is_within" "is_within" s_is_within ["thing", "low", "high"] f_is_within fd_is_within) {f_spares : Addr} {fd_spares : FuncData} (D_spares : FnAt K mg "spares" "spares" s_spares ["candles", "draughts"] f_spares fd_spares) {f_counted : Addr} {fd_counted : FuncData} (D_counted : FnAt K mg "counted" "counted" s_counted ["candles", "ticks"] f_counted fd_counted) {f_wanted : Addr} {fd_wanted : FuncData} (D_wanted : FnAt K mg "wanted" "wanted" s_wanted ["draughts", "ticks"] f_wanted fd_wanted) {f_can_keep : Addr} {fd_can_keep : FuncData} (D_can_keep : FnAt K mg "can_keep" "can_keep" s_can_keep ["candles", "draughts"] f_can_keep fd_can_keep) {f_fails_at : Addr} {fd_fails_at : FuncData} (D_fails_at : FnAt K mg "fails_at" "fails_at" s_fails_at ["candles", "draughts"] f_fails_at fd_fails_at) {f_lights : Addr} {fd_lights : FuncData} (D_lights : FnAt K mg "lights" "lights" s_lights ["candles", "draught"] f_lights fd_lights) {f_kept : Addr} {fd_kept : FuncData} (D_kept : FnAt K mg "kept" "kept" s_kept ["candles", "draughts"] f_kept fd_kept) {f_lotsK : Addr} {fd_lotsK : FuncData} (D_lotsK : FnAt K mg "lots_keepers" "lots" s_lotsK ["candles", "draughts"] f_lotsK fd_lotsK) {f_burnt : Addr} {fd_burnt : FuncData} (D_burnt : FnAt K mg "burnt" "burnt" s_burnt ["candles", "lit", "out"] f_burnt fd_burnt) {f_plan : Addr} {fd_plan : FuncData} (D_plan : FnAt K mg "plan" "plan" s_plan ["candles", "draughts"] f_plan fd_plan) {f_is_plan : Addr} {fd_is_plan : FuncData} (D_is_plan : FnAt K mg "is_plan" "is_plan" s_is_plan ["candles", "draughts", "thing"] f_is_plan fd_is_plan) {f_are_places : Addr} {fd_are_places : FuncData} (D_are_places : FnAt K mg "are_places" "are_places" s_are_places ["candles", "thing"] f_are_places fd_are_places) {f_longest : Addr} {fd_longest : FuncData} (D_longest : FnAt K mg "longest" "longest" s_longest ["candles", "draught"] f_longest fd_longest) {f_strongest : Addr} {fd_strongest : FuncData} (D_strongest : FnAt K mg "strongest" "strongest" s_strongest ["candles", "draughts"] f_strongest fd_strongest) {f_stubs : Addr} {fd_stubs : FuncData} (D_stubs : FnAt K mg "stubs" "stubs" s_stubs ["candles", "draughts"] f_stubs fd_stubs) {f_one_more : Addr} {fd_one_more : FuncData} (D_one_more : FnAt K mg "one_more" "one_more" s_one_more ["candles", "draughts"] f_one_more fd_one_more) {f_spared : Addr} {fd_spared : FuncData} (D_spared : FnAt K mg "spared" "spared" s_spared ["candles", "draughts"] f_spared fd_spared) {f_lotsN : Addr} {fd_lotsN : FuncData} (D_lotsN : FnAt K mg "lots_needs" "lots" s_lotsN ["many"] f_lotsN fd_lotsN) : FnOk P w K mg base CX0 5 f fd [] spTrue0 := by
  have G_are_candles : FnOk P w K mg base CX0 4 f_are_candles fd_are_candles _ (spAre K 1 8 12) := (ok_are_candles T C D_are_candles.F D_is_within).mono (by decide)
  have G_are_draughts : FnOk P w K mg base CX0 4 f_are_draughts fd_are_draughts _ (spAre K 0 10 7) := (ok_are_draughts T C D_are_draughts.F D_is_within).mono (by decide)
  have G_spares : FnOk P w K mg base CX0 4 f_spares fd_spares _ (spSpares K) := (ok_spares T D_spares.F D_counted D_wanted).mono (by decide)
  have G_can_keep : FnOk P w K mg base CX0 4 f_can_keep fd_can_keep _ (spCan K) := (ok_can_keep T D_can_keep.F D_spares D_counted D_wanted).mono (by decide)
  have G_fails_at : FnOk P w K mg base CX0 4 f_fails_at fd_fails_at _ (spFails K) := (ok_fails_at T D_fails_at.F D_spares D_counted D_wanted).mono (by decide)
  have G_lights : FnOk P w K mg base CX0 4 f_lights fd_lights _ (spLights K) := (ok_lights T D_lights.F).mono (by decide)
  have G_kept : FnOk P w K mg base CX0 4 f_kept fd_kept _ (spKept K) := (ok_kept T D_kept.F D_lotsK D_lights D_burnt).mono (by decide)
  have G_plan : FnOk P w K mg base CX0 4 f_plan fd_plan _ (spPlan K) := (ok_plan T D_plan.F D_lotsK D_lights D_burnt).mono (by decide)
  have G_is_plan : FnOk P w K mg base CX0 4 f_is_plan fd_is_plan _ (spIsPlan K) := (ok_is_plan T D_is_plan.F D_are_places D_is_within).mono (by decide)
  have G_longest : FnOk P w K mg base CX0 4 f_longest fd_longest _ (spLongest K) := ok_longest T D_longest.F D_can_keep D_spares D_counted D_wanted
  have G_strongest : FnOk P w K mg base CX0 4 f_strongest fd_strongest _ (spStrongest K) := ok_strongest T D_strongest.F D_can_keep D_spares D_counted D_wanted
  have G_stubs : FnOk P w K mg base CX0 4 f_stubs fd_stubs _ (spStubs K) := (ok_stubs T D_stubs.F D_spares D_counted D_wanted).mono (by decide)
  have G_one_more : FnOk P w K mg base CX0 4 f_one_more fd_one_more _ (spOneMore K) := ok_one_more T D_one_more.F D_stubs D_can_keep D_spares D_counted D_wanted
  have G_spared : FnOk P w K mg base CX0 4 f_spared fd_spared _ (spSpared K) := ok_spared T D_spared.F D_lotsN D_can_keep D_spares D_counted D_wanted
  refine F.ok sc__law_three_right (fun vs H Q E h => ?_) (fun cdv A outer s H vs Q E hr h => ?_)
  · obtain ⟨rfl, _⟩ := h
    rfl
  obtain ⟨rfl, q⟩ := h
  refine ⟨_, (pss_cons (ps_asg (pe_tup (pa_cons (pe_tup (pa_cons pe_int (pa_cons pe_int (pa_cons pe_int pa_nil)))) (pa_cons (pe_tup (pa_cons pe_int (pa_cons pe_int (pa_cons pe_int pa_nil)))) pa_nil))) (pgT K 2 rfl (pgs_cons (pg_name (i := 0) sc__law_three_right.nd rfl (.inl rfl)) (pgs_cons (pg_name (i := 1) sc__law_three_right.nd rfl (.inl rfl)) pgs_nil))))
  (pss_cons (ps_if (PW.pt (pw_or (pt_not (pt_val (pe_callK0 (ks := ["thing"]) G_are_candles hr rfl D_are_candles.g D_are_candles.F.kp (kb_same (ps := ["thing"]) (ks := ["thing"]) D_are_candles.F (fun _ _ _ _ _ _ us ws l1 l2 => match us, ws, l1, l2 with | [], [_], _, _ => rfl)) pass0 (pk_cons (pv 0) pk_nil)))) (pw_or1 (pt_not (pt_val (pe_callK0 (ks := ["thing"]) G_are_draughts hr rfl D_are_draughts.g D_are_draughts.F.kp (kb_same (ps := ["thing"]) (ks := ["thing"]) D_are_draughts.F (fun _ _ _ _ _ _ us ws l1 l2 => match us, ws, l1, l2 with | [], [_], _, _ => rfl)) pass0 (pk_cons (pv 1) pk_nil))))))) (pss_one (ps_ret pe_bl)) pss_nil)
  (pss_cons (ps_if (pt_cmpR (neDK K hr.units) (pe_callK0 (ks := ["candles", "draughts"]) G_spares hr rfl D_spares.g D_spares.F.kp (kb_same (ps := ["candles", "draughts"]) (ks := ["candles", "draughts"]) D_spares.F (fun _ _ _ _ _ _ us ws l1 l2 => match us, ws, l1, l2 with | [], [_, _], _, _ => rfl)) pass0 (pk_cons (pv 0) (pk_cons (pv 1) pk_nil))) (pe_lst (pa_cons pe_int (pa_cons pe_int (pa_cons pe_int pa_nil)))) (nomark _)) (pss_one (ps_ret pe_bl)) pss_nil)
  (pss_cons (ps_if (pt_cmpR op_notBl (pe_callK0 (ks := ["candles", "draughts"]) G_can_keep hr rfl D_can_keep.g D_can_keep.F.kp (kb_same (ps := ["candles", "draughts"]) (ks := ["candles", "draughts"]) D_can_keep.F (fun _ _ _ _ _ _ us ws l1 l2 => match us, ws, l1, l2 with | [], [_, _], _, _ => rfl)) pass0 (pk_cons (pv 0) (pk_cons (pv 1) pk_nil))) pe_bl (nomark _)) (pss_one (ps_ret pe_bl)) pss_nil)
  (pss_cons (ps_if (pt_cmpR op_ne (pe_callK0 (ks := ["candles", "draughts"]) G_fails_at hr rfl D_fails_at.g D_fails_at.F.kp (kb_same (ps := ["candles", "draughts"]) (ks := ["candles", "draughts"]) D_fails_at.F (fun _ _ _ _ _ _ us ws l1 l2 => match us, ws, l1, l2 with | [], [_, _], _, _ => rfl)) pass0 (pk_cons (pv 0) (pk_cons (pe_tup (pa_cons pe_int (pa_cons pe_int (pa_cons pe_int (pa_cons pe_int pa_nil))))) pk_nil))) pe_int (nomark _)) (pss_one (ps_ret pe_bl)) pss_nil)
  (pss_cons (ps_if (pt_cmpR op_ne (pe_callK0 (ks := ["draughts", "candles"]) G_fails_at hr rfl D_fails_at.g D_fails_at.F.kp (kb_rev (ps := ["candles", "draughts"]) (ks := ["draughts", "candles"]) D_fails_at.F (fun _ _ _ _ _ _ us ws l1 l2 => match us, ws, l1, l2 with | [], [_, _], _, _ => rfl)) pass0 (pk_cons (pe_tup (pa_cons pe_int (pa_cons pe_int pa_nil))) (pk_cons (pv 0) pk_nil))) pe_int (nomark _)) (pss_one (ps_ret pe_bl)) pss_nil)
  (pss_cons (ps_set (i := 2) sc__law_three_right.nd rfl (.inl rfl) (pe_lst (pa_cons (pe_tup (pa_cons pe_int (pa_cons pe_int (pa_cons pe_int pa_nil)))) (pa_cons (pe_tup (pa_cons pe_int (pa_cons pe_int (pa_cons pe_int pa_nil)))) (pa_cons (pe_tup (pa_cons pe_int (pa_cons pe_int (pa_cons pe_int pa_nil)))) pa_nil)))))
  (pss_cons (ps_if (PW.pt (pw_or (pt_cmpR (neDK K hr.units) (pe_callK0 (ks := ["candles", "draught"]) G_lights hr rfl D_lights.g D_lights.F.kp (kb_same (ps := ["candles", "draught"]) (ks := ["candles", "draught"]) D_lights.F (fun _ _ _ _ _ _ us ws l1 l2 => match us, ws, l1, l2 with | [], [_, _], _, _ => rfl)) pass0 (pk_cons (pv 0) (pk_cons pe_int pk_nil))) (pe_tup (pa_cons pe_int (pa_cons pe_int pa_nil))) (nomark _)) (pw_or1 (pt_cmpR (neDK K hr.units) (pe_callK0 (ks := ["candles", "draughts"]) G_kept hr rfl D_kept.g D_kept.F.kp (kb_same (ps := ["candles", "draughts"]) (ks := ["candles", "draughts"]) D_kept.F (fun _ _ _ _ _ _ us ws l1 l2 => match us, ws, l1, l2 with | [], [_, _], _, _ => rfl)) pass0 (pk_cons (pv 0) (pk_cons (pv 1) pk_nil))) (pv 2) (nomark _))))) (pss_one (ps_ret pe_bl)) pss_nil)
  (pss_cons (ps_if (pt_cmpR op_notBl (pe_callK0 (ks := ["candles", "draughts", "thing"]) G_is_plan hr rfl D_is_plan.g D_is_plan.F.kp (kb_same (ps := ["candles", "draughts", "thing"]) (ks := ["candles", "draughts", "thing"]) D_is_plan.F (fun _ _ _ _ _ _ us ws l1 l2 => match us, ws, l1, l2 with | [], [_, _, _], _, _ => rfl)) pass0 (pk_cons (pv 0) (pk_cons (pv 1) (pk_cons (pe_lst (pa_cons (pe_tup (pa_cons pe_int (pa_cons pe_int pa_nil))) (pa_cons (pe_tup (pa_cons pe_int pa_nil)) (pa_cons (pe_tup (pa_cons pe_int (pa_cons pe_int pa_nil))) pa_nil)))) pk_nil)))) pe_bl (nomark _)) (pss_one (ps_ret pe_bl)) pss_nil)
  (pss_cons (ps_if (pt_cmpR op_notBl (pe_call G_is_plan hr rfl D_is_plan.g D_is_plan.F.kp D_is_plan.b .nil pass0 (pa_cons (pv 0) (pa_cons (pv 1) (pa_cons (pe_callK0 (ks := ["candles", "draughts"]) G_plan hr rfl D_plan.g D_plan.F.kp (kb_same (ps := ["candles", "draughts"]) (ks := ["candles", "draughts"]) D_plan.F (fun _ _ _ _ _ _ us ws l1 l2 => match us, ws, l1, l2 with | [], [_, _], _, _ => rfl)) pass0 (pk_cons (pv 0) (pk_cons (pv 1) pk_nil))) pa_nil)))) pe_bl (nomark _)) (pss_one (ps_ret pe_bl)) pss_nil)
  (pss_cons (ps_if (PW.pt (pw_or (pt_cmpR op_ne (pe_callK0 (ks := ["candles", "draught"]) G_longest hr rfl D_longest.g D_longest.F.kp (kb_same (ps := ["candles", "draught"]) (ks := ["candles", "draught"]) D_longest.F (fun _ _ _ _ _ _ us ws l1 l2 => match us, ws, l1, l2 with | [], [_, _], _, _ => rfl)) pass0 (pk_cons (pv 0) (pk_cons pe_int pk_nil))) pe_int (nomark _)) (pw_or (pt_cmpR op_ne (pe_call G_longest hr rfl D_longest.g D_longest.F.kp D_longest.b .nil pass0 (pa_cons (pv 0) (pa_cons pe_int pa_nil))) pe_int (nomark _)) (pw_or1 (pt_cmpR op_ne (pe_call G_longest hr rfl D_longest.g D_longest.F.kp D_longest.b .nil pass0 (pa_cons (pv 0) (pa_cons pe_int pa_nil))) pe_int (nomark _)))))) (pss_one (ps_ret pe_bl)) pss_nil)
  (pss_cons (ps_if (pt_cmpR (neDK K hr.units) (pe_callK0 (ks := ["candles", "draughts"]) G_strongest hr rfl D_strongest.g D_strongest.F.kp (kb_same (ps := ["candles", "draughts"]) (ks := ["candles", "draughts"]) D_strongest.F (fun _ _ _ _ _ _ us ws l1 l2 => match us, ws, l1, l2 with | [], [_, _], _, _ => rfl)) pass0 (pk_cons (pv 0) (pk_cons (pv 1) pk_nil))) (pe_lst (pa_cons pe_int (pa_cons pe_int (pa_cons pe_int pa_nil)))) (nomark _)) (pss_one (ps_ret pe_bl)) pss_nil)
  (pss_cons (ps_if (pt_cmpR op_ne (pe_callK0 (ks := ["candles", "draughts"]) G_stubs hr rfl D_stubs.g D_stubs.F.kp (kb_same (ps := ["candles", "draughts"]) (ks := ["candles", "draughts"]) D_stubs.F (fun _ _ _ _ _ _ us ws l1 l2 => match us, ws, l1, l2 with | [], [_, _], _, _ => rfl)) pass0 (pk_cons (pv 0) (pk_cons (pe_tup (pa_cons pe_int (pa_cons pe_int pa_nil))) pk_nil))) pe_int (nomark _)) (pss_one (ps_ret pe_bl)) pss_nil)
  (pss_cons (ps_if (pt_cmpR op_ne (pe_callK0 (ks := ["candles", "draughts"]) G_one_more hr rfl D_one_more.g D_one_more.F.kp (kb_same (ps := ["candles", "draughts"]) (ks := ["candles", "draughts"]) D_one_more.F (fun _ _ _ _ _ _ us ws l1 l2 => match us, ws, l1, l2 with | [], [_, _], _, _ => rfl)) pass0 (pk_cons (pv 0) (pk_cons (pe_tup (pa_cons pe_int (pa_cons pe_int pa_nil))) pk_nil))) pe_int (nomark _)) (pss_one (ps_ret pe_bl)) pss_nil)
  (pss_one (ps_ret (pe_cmpR (eqDK K hr.units) (pe_callK0 (ks := ["candles", "draughts"]) G_spared hr rfl D_spared.g D_spared.F.kp (kb_same (ps := ["candles", "draughts"]) (ks := ["candles", "draughts"]) D_spared.F (fun _ _ _ _ _ _ us ws l1 l2 => match us, ws, l1, l2 with | [], [_, _], _, _ => rfl)) pass0 (pk_cons (pv 0) (pk_cons (pv 1) pk_nil))) (pe_tup (pa_cons pe_int pa_nil)) (nomark _)))))))))))))))))), ?_⟩
  refine ⟨by show 3 ≤ sizeLine; decide, fun a na => ⟨by show 3 ≤ sizeLine; decide, fun b nb => ⟨by show 2 ≤ sizeLine; decide, fun ab nab => ⟨ab, _, rfl, SqT.of upd_same, rfl, _, _, rfl, _, _, rfl, rfl, ?_⟩⟩⟩⟩
  have s1 : Same H (upd H a (.tup [V.int 3, V.int 2, V.int 1])) := Same.new na
  have s2 : Same (upd H a (.tup [V.int 3, V.int 2, V.int 1])) (upd (upd H a (.tup [V.int 3, V.int 2, V.int 1])) b (.tup [V.int 1, V.int 0, V.int 1])) := Same.new nb
  have s3 : Same (upd (upd H a (.tup [V.int 3, V.int 2, V.int 1])) b (.tup [V.int 1, V.int 0, V.int 1])) (upd (upd (upd H a (.tup [V.int 3, V.int 2, V.int 1])) b (.tup [V.int 1, V.int 0, V.int 1])) ab (.tup [.ref a, .ref b])) := Same.new nab
  have ha := (s2.trans s3) _ _ (show (upd H a (.tup [V.int 3, V.int 2, V.int 1])) a = some (.tup (vi [3, 2, 1])) from upd_same)
  have hb := s3 _ _ (show (upd (upd H a (.tup [V.int 3, V.int 2, V.int 1])) b (.tup [V.int 1, V.int 0, V.int 1])) b = some (.tup (vi [1, 0, 1])) from upd_same)
  have sA := s1.trans (s2.trans s3)
  generalize upd (upd (upd H a (.tup [V.int 3, V.int 2, V.int 1])) b (.tup [V.int 1, V.int 0, V.int 1])) ab (.tup [.ref a, .ref b]) = H2 at s3 sA ha hb
  clear s1 s2 s3
  -- are_candles, are_draughts
  refine ⟨_, rfl, rfl, .ref a, .tuple (di [3, 2, 1]), 1, rfl, dp_tup (SqT.of ha), fit_tints (by decide), fun H3 s3 => ⟨_, rfl, ?_⟩⟩
  rw [cd_t ⟨[3, 2, 1], rfl, by decide, by decide, by decide⟩]
  refine if_f rfl ?_
  have sA := sA.trans s3; have ha := s3 _ _ ha; have hb := s3 _ _ hb
  refine ⟨_, rfl, rfl, .ref b, .tuple (di [1, 0, 1]), 1, rfl, dp_tup (SqT.of hb), fit_tints (by decide), fun H4 s4 => ⟨_, rfl, ?_⟩⟩
  rw [cd_t ⟨[1, 0, 1], rfl, by decide, by decide, by decide⟩]
  refine if_f rfl ?_
  have sA := sA.trans s4; have ha := s4 _ _ ha; have hb := s4 _ _ hb
  -- spares
  refine ⟨_, rfl, _, rfl, rfl, a, b, [3, 2, 1], [1, 0, 1], rfl, SqT.of ha, SqT.of hb, by decide, by decide, fun H5 p1 s5 np1 hp1 => ⟨by show 3 ≤ sizeLine; decide, fun g1 ng1 => ?_⟩⟩
  have s6 : Same H5 (upd H5 g1 (.lst [V.int 1, V.int 1, V.int 1])) := Same.new ng1
  refine ⟨.list (di (spr [3, 2, 1] [1, 0, 1])), .list (di [1, 1, 1]), dp_list (SqL.of (s6 _ _ hp1)), dp_list (SqL.of upd_same), shaped_ints _, shaped_ints _, _, rfl, ?_⟩
  rw [eqv_lists, t_spr]
  refine if_f rfl ?_
  have s56 := s5.trans s6
  have sA := sA.trans s56; have ha := s56 _ _ ha; have hb := s56 _ _ hb
  generalize upd H5 g1 (.lst [V.int 1, V.int 1, V.int 1]) = H6 at s6 s56 sA ha hb
  -- can_keep
  refine ⟨_, rfl, _, rfl, rfl, a, b, [3, 2, 1], [1, 0, 1], rfl, SqT.of ha, SqT.of hb, by decide, by decide, fun H7 s7 => ?_⟩
  rw [t_can]
  refine ⟨_, _, rfl, rfl, _, rfl, if_f rfl ?_⟩
  have sA := sA.trans s7; have ha := s7 _ _ ha; have hb := s7 _ _ hb
  -- fails_at
  refine ⟨_, rfl, by show 4 ≤ sizeLine; decide, fun c1 nc1 => ⟨rfl, ?_⟩⟩
  have s8 : Same H7 (upd H7 c1 (.tup [V.int 1, V.int 1, V.int 1, V.int 0])) := Same.new nc1
  refine ⟨a, c1, [3, 2, 1], [1, 1, 1, 0], rfl, SqT.of (s8 _ _ ha), SqT.of upd_same, by decide, by decide, fun H9 s9 => ?_⟩
  rw [t_f1]
  refine ⟨rfl, _, rfl, if_f rfl ?_⟩
  have s89 := s8.trans s9
  have sA := sA.trans s89; have ha := s89 _ _ ha; have hb := s89 _ _ hb
  refine ⟨by show 2 ≤ sizeLine; decide, fun c2 nc2 => ⟨_, rfl, rfl, ?_⟩⟩
  have s10 : Same H9 (upd H9 c2 (.tup [V.int 2, V.int 2])) := Same.new nc2
  refine ⟨a, c2, [3, 2, 1], [2, 2], rfl, SqT.of (s10 _ _ ha), SqT.of upd_same, by decide, by decide, fun H11 s11 => ?_⟩
  rw [t_f2]
  refine ⟨rfl, _, rfl, if_f rfl ?_⟩
  have s1011 := s10.trans s11
  have sA := sA.trans s1011; have ha := s1011 _ _ ha; have hb := s1011 _ _ hb
  -- rows
  refine ⟨by show 3 ≤ sizeLine; decide, fun r1 nr1 => ⟨by show 3 ≤ sizeLine; decide, fun r2 nr2 => ⟨by show 3 ≤ sizeLine; decide, fun r3 nr3 => ⟨by show 3 ≤ sizeLine; decide, fun rl nrl => ?_⟩⟩⟩⟩
  have t1 : Same H11 (upd H11 r1 (.tup [V.int 2, V.int 1, V.int 1])) := Same.new nr1
  have t2 : Same (upd H11 r1 (.tup [V.int 2, V.int 1, V.int 1])) (upd (upd H11 r1 (.tup [V.int 2, V.int 1, V.int 1])) r2 (.tup [V.int 1, V.int 1, V.int 1])) := Same.new nr2
  have t3 : Same (upd (upd H11 r1 (.tup [V.int 2, V.int 1, V.int 1])) r2 (.tup [V.int 1, V.int 1, V.int 1])) (upd (upd (upd H11 r1 (.tup [V.int 2, V.int 1, V.int 1])) r2 (.tup [V.int 1, V.int 1, V.int 1])) r3 (.tup [V.int 0, V.int 0, V.int 1])) := Same.new nr3
  have t4 : Same (upd (upd (upd H11 r1 (.tup [V.int 2, V.int 1, V.int 1])) r2 (.tup [V.int 1, V.int 1, V.int 1])) r3 (.tup [V.int 0, V.int 0, V.int 1])) (upd (upd (upd (upd H11 r1 (.tup [V.int 2, V.int 1, V.int 1])) r2 (.tup [V.int 1, V.int 1, V.int 1])) r3 (.tup [V.int 0, V.int 0, V.int 1])) rl (.lst [.ref r1, .ref r2, .ref r3])) := Same.new nrl
  have hr1 := (t2.trans (t3.trans t4)) _ _ (show (upd H11 r1 (.tup [V.int 2, V.int 1, V.int 1])) r1 = some (.tup (vi [2, 1, 1])) from upd_same)
  have hr2 := (t3.trans t4) _ _ (show (upd (upd H11 r1 (.tup [V.int 2, V.int 1, V.int 1])) r2 (.tup [V.int 1, V.int 1, V.int 1])) r2 = some (.tup (vi [1, 1, 1])) from upd_same)
  have hr3 := t4 _ _ (show (upd (upd (upd H11 r1 (.tup [V.int 2, V.int 1, V.int 1])) r2 (.tup [V.int 1, V.int 1, V.int 1])) r3 (.tup [V.int 0, V.int 0, V.int 1])) r3 = some (.tup (vi [0, 0, 1])) from upd_same)
  have hrl : (upd (upd (upd (upd H11 r1 (.tup [V.int 2, V.int 1, V.int 1])) r2 (.tup [V.int 1, V.int 1, V.int 1])) r3 (.tup [V.int 0, V.int 0, V.int 1])) rl (.lst [.ref r1, .ref r2, .ref r3])) rl = some (.lst [.ref r1, .ref r2, .ref r3]) := upd_same
  have t14 := t1.trans (t2.trans (t3.trans t4))
  have sA := sA.trans t14; have ha := t14 _ _ ha; have hb := t14 _ _ hb
  generalize upd (upd (upd (upd H11 r1 (.tup [V.int 2, V.int 1, V.int 1])) r2 (.tup [V.int 1, V.int 1, V.int 1])) r3 (.tup [V.int 0, V.int 0, V.int 1])) rl (.lst [.ref r1, .ref r2, .ref r3]) = H12 at hr1 hr2 hr3 hrl sA ha hb
  have hprl : Paired (VT H12) [.ref r1, .ref r2, .ref r3] [[2, 1, 1], [1, 1, 1], [0, 0, 1]] := .cons ⟨r1, rfl, hr1⟩ (.cons ⟨r2, rfl, hr2⟩ (.cons ⟨r3, rfl, hr3⟩ .nil))
  clear t1 t2 t3 t4 t14
  -- lights, kept
  refine ⟨_, rfl, rfl, a, [3, 2, 1], 1, rfl, SqT.of ha, by decide, by decide, ?_⟩
  rw [t_lights]
  intro H13 p2 s13 np2 hp2
  refine ⟨by show 2 ≤ sizeLine; decide, fun g2 ng2 => ?_⟩
  have s14 : Same H13 (upd H13 g2 (.tup [V.int 0, V.int 1])) := Same.new ng2
  refine ⟨.tuple (di [0, 1]), .tuple (di [0, 1]), dp_tup (SqT.of (s14 _ _ hp2)), dp_tup (SqT.of upd_same), shaped_tints _, shaped_tints _, _, rfl, ?_⟩
  rw [eqv_tups]
  refine if_f rfl ?_
  have s1314 := s13.trans s14
  have sA := sA.trans s1314; have ha := s1314 _ _ ha; have hb := s1314 _ _ hb
  have hrl := s1314 _ _ hrl
  have hprl := paired_mono (fun v x (r : VT _ v x) => r.same s1314) hprl
  generalize upd H13 g2 (.tup [V.int 0, V.int 1]) = H14 at s14 s1314 sA ha hb hrl hprl
  refine ⟨_, rfl, _, rfl, rfl, a, b, [3, 2, 1], [1, 0, 1], rfl, SqT.of ha, SqT.of hb, by decide, by decide, by decide, ?_⟩
  rw [t_kept]
  intro H15 p3 xs3 s15 np3 hp3 hpr3
  refine ⟨_, rfl, .list (dts [[2, 1, 1], [1, 1, 1], [0, 0, 1]]), .list (dts [[2, 1, 1], [1, 1, 1], [0, 0, 1]]), .lst (SqL.of hp3) (dp_vts hpr3), .lst (SqL.of (s15 _ _ hrl)) (dp_vts (paired_mono (fun v x (r : VT _ v x) => r.same s15) hprl)), shaped_dts _, shaped_dts _, _, rfl, ?_⟩
  rw [show PyData.eqv (.list (dts [[2, 1, 1], [1, 1, 1], [0, 0, 1]])) (.list (dts [[2, 1, 1], [1, 1, 1], [0, 0, 1]])) = true from by simp [PyData.eqv, PyData.eqvAll]]
  refine if_f rfl ?_
  have sA := sA.trans s15; have ha := s15 _ _ ha; have hb := s15 _ _ hb
  -- is_plan
  refine ⟨_, rfl, _, rfl, by show 2 ≤ sizeLine; decide, fun u1 nu1 => ⟨by show 1 ≤ sizeLine; decide, fun u2 nu2 => ⟨by show 2 ≤ sizeLine; decide, fun u3 nu3 => ⟨by show 3 ≤ sizeLine; decide, fun ul nul => ⟨rfl, ?_⟩⟩⟩⟩⟩
  have t1 : Same H15 (upd H15 u1 (.tup [V.int 0, V.int 2])) := Same.new nu1
  have t2 : Same (upd H15 u1 (.tup [V.int 0, V.int 2])) (upd (upd H15 u1 (.tup [V.int 0, V.int 2])) u2 (.tup [V.int 0])) := Same.new nu2
  have t3 : Same (upd (upd H15 u1 (.tup [V.int 0, V.int 2])) u2 (.tup [V.int 0])) (upd (upd (upd H15 u1 (.tup [V.int 0, V.int 2])) u2 (.tup [V.int 0])) u3 (.tup [V.int 0, V.int 1])) := Same.new nu3
  have t4 : Same (upd (upd (upd H15 u1 (.tup [V.int 0, V.int 2])) u2 (.tup [V.int 0])) u3 (.tup [V.int 0, V.int 1])) (upd (upd (upd (upd H15 u1 (.tup [V.int 0, V.int 2])) u2 (.tup [V.int 0])) u3 (.tup [V.int 0, V.int 1])) ul (.lst [.ref u1, .ref u2, .ref u3])) := Same.new nul
  have hu1 := (t2.trans (t3.trans t4)) _ _ (show (upd H15 u1 (.tup [V.int 0, V.int 2])) u1 = some (.tup (vi [0, 2])) from upd_same)
  have hu2 := (t3.trans t4) _ _ (show (upd (upd H15 u1 (.tup [V.int 0, V.int 2])) u2 (.tup [V.int 0])) u2 = some (.tup (vi [0])) from upd_same)
  have hu3 := t4 _ _ (show (upd (upd (upd H15 u1 (.tup [V.int 0, V.int 2])) u2 (.tup [V.int 0])) u3 (.tup [V.int 0, V.int 1])) u3 = some (.tup (vi [0, 1])) from upd_same)
  have hul : (upd (upd (upd (upd H15 u1 (.tup [V.int 0, V.int 2])) u2 (.tup [V.int 0])) u3 (.tup [V.int 0, V.int 1])) ul (.lst [.ref u1, .ref u2, .ref u3])) ul = some (.lst [.ref u1, .ref u2, .ref u3]) := upd_same
  have t14 := t1.trans (t2.trans (t3.trans t4))
  have sA := sA.trans t14; have ha := t14 _ _ ha; have hb := t14 _ _ hb
  generalize upd (upd (upd (upd H15 u1 (.tup [V.int 0, V.int 2])) u2 (.tup [V.int 0])) u3 (.tup [V.int 0, V.int 1])) ul (.lst [.ref u1, .ref u2, .ref u3]) = H16 at hu1 hu2 hu3 hul sA ha hb
  have hpul : Paired (VT H16) [.ref u1, .ref u2, .ref u3] [[0, 2], [0], [0, 1]] := .cons ⟨u1, rfl, hu1⟩ (.cons ⟨u2, rfl, hu2⟩ (.cons ⟨u3, rfl, hu3⟩ .nil))
  clear t1 t2 t3 t4 t14
  refine ⟨a, b, .ref ul, [3, 2, 1], [1, 0, 1], .list (dts [[0, 2], [0], [0, 1]]), 1, rfl, SqT.of ha, SqT.of hb, by decide, by decide, .lst (SqL.of hul) (dp_vts hpul), fit_dts (by decide) (by decide), fun H17 s17 => ?_⟩
  rw [cd_t ⟨_, rfl, t_ok (.inl rfl)⟩]
  refine ⟨_, _, rfl, rfl, _, rfl, if_f rfl ?_⟩
  have sA := sA.trans s17; have ha := s17 _ _ ha; have hb := s17 _ _ hb
  refine ⟨_, rfl, _, rfl, _, rfl, _, rfl, rfl, a, b, [3, 2, 1], [1, 0, 1], rfl, SqT.of ha, SqT.of hb, by decide, by decide, by decide, ?_⟩
  rw [t_plan]
  intro H18 p4 xs4 s18 np4 hp4 hpr4
  have sA := sA.trans s18; have ha := s18 _ _ ha; have hb := s18 _ _ hb
  refine ⟨a, b, .ref p4, [3, 2, 1], [1, 0, 1], .list (dts [[0, 1], [0], [0, 1]]), 1, rfl, SqT.of ha, SqT.of hb, by decide, by decide, .lst (SqL.of hp4) (dp_vts hpr4), fit_dts (by decide) (by decide), fun H19 s19 => ?_⟩
  rw [cd_t ⟨_, rfl, t_ok (.inr rfl)⟩]
  refine ⟨_, _, rfl, rfl, _, rfl, if_f rfl ?_⟩
  have sA := sA.trans s19; have ha := s19 _ _ ha; have hb := s19 _ _ hb
  -- longest
  refine ⟨_, rfl, rfl, a, [3, 2, 1], 1, rfl, SqT.of ha, by decide, by decide, by decide, fun H20 k1 s20 h1 h2 => ?_⟩
  obtain rfl := t_long (q := 3) h1 h2 (by decide +kernel) (by decide +kernel)
  refine ⟨rfl, _, rfl, if_f rfl ?_⟩
  have sA := sA.trans s20; have ha := s20 _ _ ha; have hb := s20 _ _ hb
  refine ⟨_, rfl, a, [3, 2, 1], 2, rfl, SqT.of ha, by decide, by decide, by decide, fun H21 k2 s21 h3 h4 => ?_⟩
  obtain rfl := t_long (q := 1) h3 h4 (by decide +kernel) (by decide +kernel)
  refine ⟨rfl, _, rfl, if_f rfl ?_⟩
  have sA := sA.trans s21; have ha := s21 _ _ ha; have hb := s21 _ _ hb
  refine ⟨_, rfl, a, [3, 2, 1], 0, rfl, SqT.of ha, by decide, by decide, by decide, fun H22 k3 s22 h5 h6 => ?_⟩
  obtain rfl := t_long (q := 6) h5 h6 (by decide +kernel) (by decide +kernel)
  refine ⟨rfl, _, rfl, if_f rfl ?_⟩
  have sA := sA.trans s22; have ha := s22 _ _ ha; have hb := s22 _ _ hb
  -- strongest
  refine ⟨_, rfl, _, rfl, rfl, a, b, [3, 2, 1], [1, 0, 1], rfl, SqT.of ha, SqT.of hb, by decide, by decide, (fun z => by rw [t_can] at z; cases z), fun _ H23 p5 n5 s23 np5 hp5 hst => ⟨by show 3 ≤ sizeLine; decide, fun g3 ng3 => ?_⟩⟩
  obtain rfl := t_strong hst
  have s24 : Same H23 (upd H23 g3 (.lst [V.int 2, V.int 1, V.int 2])) := Same.new ng3
  refine ⟨.list (di [2, 1, 2]), .list (di [2, 1, 2]), dp_list (SqL.of (s24 _ _ hp5)), dp_list (SqL.of upd_same), shaped_ints _, shaped_ints _, _, rfl, ?_⟩
  rw [eqv_lists]
  refine if_f rfl ?_
  have s2324 := s23.trans s24
  have sA := sA.trans s2324; have ha := s2324 _ _ ha; have hb := s2324 _ _ hb
  generalize upd H23 g3 (.lst [V.int 2, V.int 1, V.int 2]) = H24 at s24 s2324 sA ha hb
  -- stubs
  refine ⟨_, rfl, by show 2 ≤ sizeLine; decide, fun c3 nc3 => ⟨rfl, ?_⟩⟩
  have s25 : Same H24 (upd H24 c3 (.tup [V.int 2, V.int 2])) := Same.new nc3
  refine ⟨a, c3, [3, 2, 1], [2, 2], rfl, SqT.of (s25 _ _ ha), SqT.of upd_same, by decide, by decide, fun H26 m1 s26 hm1 => ?_⟩
  obtain rfl := t_stb hm1
  refine ⟨rfl, _, rfl, if_f rfl ?_⟩
  have s2526 := s25.trans s26
  have sA := sA.trans s2526; have ha := s2526 _ _ ha; have hb := s2526 _ _ hb
  -- one_more
  refine ⟨_, rfl, by show 2 ≤ sizeLine; decide, fun c4 nc4 => ⟨rfl, ?_⟩⟩
  have s27 : Same H26 (upd H26 c4 (.tup [V.int 2, V.int 2])) := Same.new nc4
  refine ⟨a, c4, [3, 2, 1], [2, 2], rfl, SqT.of (s27 _ _ ha), SqT.of upd_same, by decide, by decide, fun H28 m2 s28 hm2 => ?_⟩
  obtain rfl := t_stb hm2
  refine ⟨fun _ => ⟨rfl, _, rfl, if_f rfl ?_⟩, fun z => by rw [t_more] at z; cases z⟩
  have s2728 := s27.trans s28
  have sA := sA.trans s2728; have ha := s2728 _ _ ha; have hb := s2728 _ _ hb
  -- spared
  refine ⟨_, rfl, _, rfl, rfl, a, b, [3, 2, 1], [1, 0, 1], rfl, SqT.of ha, SqT.of hb, by decide, by decide, (fun z => by rw [t_can] at z; cases z), fun _ H29 p6 k6 c6 s29 hp6 hbst => ⟨by show 1 ≤ sizeLine; decide, fun g4 ng4 => ?_⟩⟩
  obtain rfl := t_spared hbst
  have s30 : Same H29 (upd H29 g4 (.tup [V.int 2])) := Same.new ng4
  refine ⟨.tuple (di [2]), .tuple (di [2]), dp_tup (s30.sqt hp6), dp_tup (SqT.of upd_same), shaped_tints _, shaped_tints _, ?_⟩
  rw [eqv_tups, decide_eq_true rfl]
  exact q _ (sA.trans (s29.trans s30))
/-! def _law_rows_right -/
abbrev s__law_rows_right : Stmt := topS 37
theorem sc__law_rows_right : FnScope ["my_candles", "my_draughts", "my_row"] [] (defScope s__law_rows_right) := ⟨rfl, rfl, rfl, by decide +kernel, rfl, by decide +kernel, by decide +kernel⟩
theorem r_pl {n : Nat} {l : List Int} (h1 : l.all (fun i => decide (0 ≤ i ∧ i ≤ (n : Int) - 1)) = true) (h2 : (List.range l.length).all (fun i => match l[i]?, l[i + 1]? with | some x, some y => decide (x < y) | _, _ => true) = true) : Pl n l := by
  refine ⟨fun i hi => of_decide_eq_true (List.all_eq_true.mp h1 i hi), fun i x y hx hy => ?_⟩
  have q := List.all_eq_true.mp h2 i (List.mem_range.mpr (List.getElem?_eq_some_iff.mp hx).1)
  rw [hx, hy] at q
  exact of_decide_eq_true q
theorem r_wax {cs lit : List Int} (h : (List.range cs.length).all (fun j => decide ((j : Int) ∈ lit → cs[j]? ≠ some 0)) = true) : ∀ j : Nat, (j : Int) ∈ lit → cs[j]? ≠ some 0 := fun j hj hw => by
  have q := List.all_eq_true.mp h j (List.mem_range.mpr (List.getElem?_eq_some_iff.mp hw).1)
  exact of_decide_eq_true q hj hw
theorem r_row1 : RowOk [1, 2] true [1, 0] [([0, 1], [1]), ([1], [])] := by
  refine ⟨rfl, ⟨r_pl (by decide) (by decide), r_pl (by decide) (by decide), r_wax (by decide), by decide, by decide⟩, rfl, ⟨r_pl (by decide) (by decide), r_pl (by decide) (by decide), r_wax (by decide), by decide, by decide⟩, True.intro⟩
theorem r_row2 : ¬ RowOk [1, 2] true [1, 0] [([1], [1]), ([0], [])] := fun h => by
  have := h.2.2.1
  cases this
theorem r_no : ¬ IsRow [1, 2] [1, 0] (.list ([([1], [1]), ([0], [])].map tickD)) := fun ⟨ts, e, h⟩ => by
  have e := map_tick (PyData.list.inj e)
  rw [← e] at h
  exact r_row2 h
theorem r_b1 : behindF [1, 2] true [([0, 1], [1]), ([1], [])] = ([0, 1], true) := by decide
theorem r_b2 : behindF [1, 2] true [([1], [1])] = ([1, 2], false) := by decide
theorem r_fit {t : List Int × List Int} {n : Nat} (h1 : t.1.length ≤ 1000) (h2 : t.2.length ≤ 1000) : Fit (n + 3) (tickD t) := ⟨by show 2 ≤ 1000; decide, fun d hd => by
  rcases List.mem_cons.mp hd with rfl | hd
  · exact fit_tints h1
  · rw [List.mem_singleton.mp hd]
    exact fit_tints h2⟩
/-- a tick written in a list -/
theorem r_tick {K : PySem.W.Frag} {H : Hp} {p u w : Addr} {a b : List Int} (hp : H p = some (.tup [.ref u, .ref w])) (hu : H u = some (.tup (vi a))) (hw : H w = some (.tup (vi b))) : Dp K H (.ref p) (tickD (a, b)) := .tup (SqT.of hp) (.cons (dp_tup (SqT.of hu)) (.cons (dp_tup (SqT.of hw)) .nil))
abbrev rowEnd (left : List Int) (fl : Bool) : PyData := .tuple [.tuple (di left), .bool fl]
theorem shaped_rowEnd (left : List Int) (fl : Bool) : SeqAt.shaped (rowEnd left fl) = true := (okd_tup (n := 1) fun d hd => by
  rcases List.mem_cons.mp hd with rfl | hd
  · exact okd_tup (okd_ints 0 left)
  · rw [List.mem_singleton.mp hd]
    exact okd_bool 1 fl).shaped (by decide)
theorem eqv_rowEnd (left : List Int) (fl : Bool) : PyData.eqv (rowEnd left fl) (rowEnd left fl) = true := by
  have h := eqv_tups left left
  rw [decide_eq_true rfl] at h
  show PyData.eqv (.tuple [.tuple (di left), .bool fl]) (.tuple [.tuple (di left), .bool fl]) = true
  rw [PyData.eqv]
  simp only [PyData.eqvAll]
  rw [h]
  cases fl <;> rfl
theorem ok__law_rows_right {f : Addr} {fd : FuncData} (T : Bl mg) (F : Fun K "_law_rows_right" "_law_rows_right" s__law_rows_right f fd) {f_is_row : Addr} {fd_is_row : FuncData} (D_is_row : FnAt K mg "is_row" "is_row" s_is_row ["candles", "draughts", "thing"] f_is_row fd_is_row) {f_is_tick : Addr} {fd_is_tick : FuncData} (D_is_tick : FnAt K mg "is_tick" "is_tick" s_is_tick ["candles", "draught", "thing"] f_is_tick fd_is_tick) {f_burnt : Addr} {fd_burnt : FuncData} (D_burnt : FnAt K mg "burnt" "burnt" s_burnt ["candles", "lit", "out"] f_burnt fd_burnt) {f_are_places : Addr} {fd_are_places : FuncData} (D_are_places : FnAt K mg "are_places" "are_places" s_are_places ["candles", "thing"] f_are_places fd_are_places) {f_is_within : Addr} {fd_is_within : FuncData} (D_is_within : FnAt K mg "is_within" "is_within" s_is_within ["thing", "low", "high"] f_is_within fd_is_within) {f_behind : Addr} {fd_behind : FuncData} (D_behind : FnAt K mg "behind" "behind" s_behind ["candles", "draughts", "row"] f_behind fd_behind) : FnOk P w K mg base CX0 5 f fd [] spTrue0 := by
  have G_is_row : FnOk P w K mg base CX0 4 f_is_row fd_is_row _ (spRow K) := ok_is_row T D_is_row.F D_is_tick D_burnt D_are_places D_is_within
  have G_behind : FnOk P w K mg base CX0 4 f_behind fd_behind _ (spBehind K) := (ok_behind T D_behind.F D_burnt).mono (by decide)
  refine F.ok sc__law_rows_right (fun vs H Q E h => ?_) (fun cdv A outer s H vs Q E hr h => ?_)
  · obtain ⟨rfl, _⟩ := h
    rfl
  obtain ⟨rfl, q⟩ := h
  refine ⟨_, (pss_cons (ps_asg (pe_tup (pa_cons (pe_tup (pa_cons pe_int (pa_cons pe_int pa_nil))) (pa_cons (pe_tup (pa_cons pe_int (pa_cons pe_int pa_nil))) pa_nil))) (pgT K 2 rfl (pgs_cons (pg_name (i := 0) sc__law_rows_right.nd rfl (.inl rfl)) (pgs_cons (pg_name (i := 1) sc__law_rows_right.nd rfl (.inl rfl)) pgs_nil))))
  (pss_cons (ps_set (i := 2) sc__law_rows_right.nd rfl (.inl rfl) (pe_lst (pa_cons (pe_tup (pa_cons (pe_tup (pa_cons pe_int (pa_cons pe_int pa_nil))) (pa_cons (pe_tup (pa_cons pe_int pa_nil)) pa_nil))) (pa_cons (pe_tup (pa_cons (pe_tup (pa_cons pe_int pa_nil)) (pa_cons (pe_tup pa_nil) pa_nil))) pa_nil))))
  (pss_cons (ps_if (pt_cmpR op_notBl (pe_callK0 (ks := ["candles", "draughts", "thing"]) G_is_row hr rfl D_is_row.g D_is_row.F.kp (kb_same (ps := ["candles", "draughts", "thing"]) (ks := ["candles", "draughts", "thing"]) D_is_row.F (fun _ _ _ _ _ _ us ws l1 l2 => match us, ws, l1, l2 with | [], [_, _, _], _, _ => rfl)) pass0 (pk_cons (pv 0) (pk_cons (pv 1) (pk_cons (pv 2) pk_nil)))) pe_bl (nomark _)) (pss_one (ps_ret pe_bl)) pss_nil)
  (pss_cons (ps_if (pt_cmpR (neDK K hr.units) (pe_callK0 (ks := ["candles", "draughts", "row"]) G_behind hr rfl D_behind.g D_behind.F.kp (kb_same (ps := ["candles", "draughts", "row"]) (ks := ["candles", "draughts", "row"]) D_behind.F (fun _ _ _ _ _ _ us ws l1 l2 => match us, ws, l1, l2 with | [], [_, _, _], _, _ => rfl)) pass0 (pk_cons (pv 0) (pk_cons (pv 1) (pk_cons (pv 2) pk_nil)))) (pe_tup (pa_cons (pe_tup (pa_cons pe_int (pa_cons pe_int pa_nil))) (pa_cons pe_bl pa_nil))) (nomark _)) (pss_one (ps_ret pe_bl)) pss_nil)
  (pss_cons (ps_if (pt_cmpR (neDK K hr.units) (pe_call G_behind hr rfl D_behind.g D_behind.F.kp D_behind.b .nil pass0 (pa_cons (pv 0) (pa_cons (pv 1) (pa_cons (pe_lst (pa_cons (pe_tup (pa_cons (pe_tup (pa_cons pe_int pa_nil)) (pa_cons (pe_tup (pa_cons pe_int pa_nil)) pa_nil))) pa_nil)) pa_nil)))) (pe_tup (pa_cons (pe_tup (pa_cons pe_int (pa_cons pe_int pa_nil))) (pa_cons pe_bl pa_nil))) (nomark _)) (pss_one (ps_ret pe_bl)) pss_nil)
  (pss_cons (ps_if (pt_cmpR (neDK K hr.units) (pe_call G_behind hr rfl D_behind.g D_behind.F.kp D_behind.b .nil pass0 (pa_cons (pv 0) (pa_cons (pv 1) (pa_cons (pe_lst pa_nil) pa_nil)))) (pe_tup (pa_cons (pe_tup (pa_cons pe_int (pa_cons pe_int pa_nil))) (pa_cons pe_bl pa_nil))) (nomark _)) (pss_one (ps_ret pe_bl)) pss_nil)
  (pss_one (ps_ret (pe_cmpR op_isBl (pe_call G_is_row hr rfl D_is_row.g D_is_row.F.kp D_is_row.b .nil pass0 (pa_cons (pv 0) (pa_cons (pv 1) (pa_cons (pe_lst (pa_cons (pe_tup (pa_cons (pe_tup (pa_cons pe_int pa_nil)) (pa_cons (pe_tup (pa_cons pe_int pa_nil)) pa_nil))) (pa_cons (pe_tup (pa_cons (pe_tup (pa_cons pe_int pa_nil)) (pa_cons (pe_tup pa_nil) pa_nil))) pa_nil))) pa_nil)))) pe_bl (nomark _)))))))))), ?_⟩
  have sA : Same H H := Same.refl _
  refine ⟨by show 2 ≤ sizeLine; decide, fun a na => ?_⟩
  have sa : Same H (upd H a (.tup [V.int 1, V.int 2])) := Same.new na
  have ea : (upd H a (.tup [V.int 1, V.int 2])) a = some (.tup (vi [1, 2])) := upd_same
  have sA := sA.trans sa
  generalize upd H a (.tup [V.int 1, V.int 2]) = H2 at sa ea sA 
  clear sa
  refine ⟨by show 2 ≤ sizeLine; decide, fun b nb => ?_⟩
  have sb : Same H2 (upd H2 b (.tup [V.int 1, V.int 0])) := Same.new nb
  have eb : (upd H2 b (.tup [V.int 1, V.int 0])) b = some (.tup (vi [1, 0])) := upd_same
  have sA := sA.trans sb
  have ea := sb _ _ ea
  generalize upd H2 b (.tup [V.int 1, V.int 0]) = H3 at sb eb sA ea
  clear sb
  refine ⟨by show 2 ≤ sizeLine; decide, fun ab nab => ?_⟩
  have sab : Same H3 (upd H3 ab (.tup [V.ref a, V.ref b])) := Same.new nab
  have eab : (upd H3 ab (.tup [V.ref a, V.ref b])) ab = some (.tup [V.ref a, V.ref b]) := upd_same
  have sA := sA.trans sab
  have ea := sab _ _ ea
  have eb := sab _ _ eb
  generalize upd H3 ab (.tup [V.ref a, V.ref b]) = H4 at sab eab sA ea eb
  clear sab
  refine ⟨ab, _, rfl, SqT.of eab, rfl, _, _, rfl, _, _, rfl, rfl, ?_⟩
  refine ⟨by show 2 ≤ sizeLine; decide, fun rowu0 nrowu0 => ?_⟩
  have srowu0 : Same H4 (upd H4 rowu0 (.tup [V.int 0, V.int 1])) := Same.new nrowu0
  have erowu0 : (upd H4 rowu0 (.tup [V.int 0, V.int 1])) rowu0 = some (.tup (vi [0, 1])) := upd_same
  have sA := sA.trans srowu0
  have ea := srowu0 _ _ ea
  have eb := srowu0 _ _ eb
  have eab := srowu0 _ _ eab
  generalize upd H4 rowu0 (.tup [V.int 0, V.int 1]) = H5 at srowu0 erowu0 sA ea eb eab
  clear srowu0
  refine ⟨by show 1 ≤ sizeLine; decide, fun rowv0 nrowv0 => ?_⟩
  have srowv0 : Same H5 (upd H5 rowv0 (.tup [V.int 1])) := Same.new nrowv0
  have erowv0 : (upd H5 rowv0 (.tup [V.int 1])) rowv0 = some (.tup (vi [1])) := upd_same
  have sA := sA.trans srowv0
  have ea := srowv0 _ _ ea
  have eb := srowv0 _ _ eb
  have eab := srowv0 _ _ eab
  have erowu0 := srowv0 _ _ erowu0
  generalize upd H5 rowv0 (.tup [V.int 1]) = H6 at srowv0 erowv0 sA ea eb eab erowu0
  clear srowv0
  refine ⟨by show 2 ≤ sizeLine; decide, fun rowp0 nrowp0 => ?_⟩
  have srowp0 : Same H6 (upd H6 rowp0 (.tup [V.ref rowu0, V.ref rowv0])) := Same.new nrowp0
  have erowp0 : (upd H6 rowp0 (.tup [V.ref rowu0, V.ref rowv0])) rowp0 = some (.tup [V.ref rowu0, V.ref rowv0]) := upd_same
  have sA := sA.trans srowp0
  have ea := srowp0 _ _ ea
  have eb := srowp0 _ _ eb
  have eab := srowp0 _ _ eab
  have erowu0 := srowp0 _ _ erowu0
  have erowv0 := srowp0 _ _ erowv0
  generalize upd H6 rowp0 (.tup [V.ref rowu0, V.ref rowv0]) = H7 at srowp0 erowp0 sA ea eb eab erowu0 erowv0
  clear srowp0
  refine ⟨by show 1 ≤ sizeLine; decide, fun rowu1 nrowu1 => ?_⟩
  have srowu1 : Same H7 (upd H7 rowu1 (.tup [V.int 1])) := Same.new nrowu1
  have erowu1 : (upd H7 rowu1 (.tup [V.int 1])) rowu1 = some (.tup (vi [1])) := upd_same
  have sA := sA.trans srowu1
  have ea := srowu1 _ _ ea
  have eb := srowu1 _ _ eb
  have eab := srowu1 _ _ eab
  have erowu0 := srowu1 _ _ erowu0
  have erowv0 := srowu1 _ _ erowv0
  have erowp0 := srowu1 _ _ erowp0
  generalize upd H7 rowu1 (.tup [V.int 1]) = H8 at srowu1 erowu1 sA ea eb eab erowu0 erowv0 erowp0
  clear srowu1
  refine ⟨by show 0 ≤ sizeLine; decide, fun rowv1 nrowv1 => ?_⟩
  have srowv1 : Same H8 (upd H8 rowv1 (.tup [])) := Same.new nrowv1
  have erowv1 : (upd H8 rowv1 (.tup [])) rowv1 = some (.tup (vi [])) := upd_same
  have sA := sA.trans srowv1
  have ea := srowv1 _ _ ea
  have eb := srowv1 _ _ eb
  have eab := srowv1 _ _ eab
  have erowu0 := srowv1 _ _ erowu0
  have erowv0 := srowv1 _ _ erowv0
  have erowp0 := srowv1 _ _ erowp0
  have erowu1 := srowv1 _ _ erowu1
  generalize upd H8 rowv1 (.tup []) = H9 at srowv1 erowv1 sA ea eb eab erowu0 erowv0 erowp0 erowu1
  clear srowv1
  refine ⟨by show 2 ≤ sizeLine; decide, fun rowp1 nrowp1 => ?_⟩
  have srowp1 : Same H9 (upd H9 rowp1 (.tup [V.ref rowu1, V.ref rowv1])) := Same.new nrowp1
  have erowp1 : (upd H9 rowp1 (.tup [V.ref rowu1, V.ref rowv1])) rowp1 = some (.tup [V.ref rowu1, V.ref rowv1]) := upd_same
  have sA := sA.trans srowp1
  have ea := srowp1 _ _ ea
  have eb := srowp1 _ _ eb
  have eab := srowp1 _ _ eab
  have erowu0 := srowp1 _ _ erowu0
  have erowv0 := srowp1 _ _ erowv0
  have erowp0 := srowp1 _ _ erowp0
  have erowu1 := srowp1 _ _ erowu1
  have erowv1 := srowp1 _ _ erowv1
  generalize upd H9 rowp1 (.tup [V.ref rowu1, V.ref rowv1]) = H10 at srowp1 erowp1 sA ea eb eab erowu0 erowv0 erowp0 erowu1 erowv1
  clear srowp1
  refine ⟨by show 2 ≤ sizeLine; decide, fun row nrow => ?_⟩
  have srow : Same H10 (upd H10 row (.lst [V.ref rowp0, V.ref rowp1])) := Same.new nrow
  have erow : (upd H10 row (.lst [V.ref rowp0, V.ref rowp1])) row = some (.lst [V.ref rowp0, V.ref rowp1]) := upd_same
  have sA := sA.trans srow
  have ea := srow _ _ ea
  have eb := srow _ _ eb
  have eab := srow _ _ eab
  have erowu0 := srow _ _ erowu0
  have erowv0 := srow _ _ erowv0
  have erowp0 := srow _ _ erowp0
  have erowu1 := srow _ _ erowu1
  have erowv1 := srow _ _ erowv1
  have erowp1 := srow _ _ erowp1
  generalize upd H10 row (.lst [V.ref rowp0, V.ref rowp1]) = H11 at srow erow sA ea eb eab erowu0 erowv0 erowp0 erowu1 erowv1 erowp1
  clear srow
  refine ⟨_, rfl, _, rfl, _, rfl, rfl, a, b, .ref row, [1, 2], [1, 0], .list (([([0, 1], [1]), ([1], [])] : List (List Int × List Int)).map tickD), 1, rfl, SqT.of ea, SqT.of eb, by decide, (.lst (SqL.of erow) (.cons (r_tick erowp0 erowu0 erowv0) (.cons (r_tick erowp1 erowu1 erowv1) .nil))), ⟨by decide, fun d hd => by obtain ⟨t, ht, rfl⟩ := List.mem_map.mp hd; exact r_fit ((show ∀ t ∈ ([([0, 1], [1]), ([1], [])] : List (List Int × List Int)), t.1.length ≤ 1000 from by decide) t ht) ((show ∀ t ∈ ([([0, 1], [1]), ([1], [])] : List (List Int × List Int)), t.2.length ≤ 1000 from by decide) t ht)⟩, fun H20 s20 => ?_⟩
  rw [cd_t ⟨_, rfl, r_row1⟩]
  refine ⟨_, _, rfl, rfl, _, rfl, if_f rfl ?_⟩
  have sA := sA.trans s20
  have ea := s20 _ _ ea
  have eb := s20 _ _ eb
  have eab := s20 _ _ eab
  have erowu0 := s20 _ _ erowu0
  have erowv0 := s20 _ _ erowv0
  have erowp0 := s20 _ _ erowp0
  have erowu1 := s20 _ _ erowu1
  have erowv1 := s20 _ _ erowv1
  have erowp1 := s20 _ _ erowp1
  have erow := s20 _ _ erow
  refine ⟨_, rfl, _, rfl, _, rfl, rfl, a, b, .ref row, [1, 2], [([0, 1], [1]), ([1], [])], rfl, SqT.of ea, by decide, (.lst (SqL.of erow) (.cons (r_tick erowp0 erowu0 erowv0) (.cons (r_tick erowp1 erowu1 erowv1) .nil))), fun xH xp xc xs xhp xhc => ?_⟩
  have xhp : xH xp = some (.tup [.ref xc, .bl true]) := by rw [r_b1] at xhp; exact xhp
  have xhc : SqT K xH xc (vi [0, 1]) := by rw [r_b1] at xhc; exact xhc
  have sA := sA.trans xs
  have ea := xs _ _ ea
  have eb := xs _ _ eb
  have eab := xs _ _ eab
  have erowu0 := xs _ _ erowu0
  have erowv0 := xs _ _ erowv0
  have erowp0 := xs _ _ erowp0
  have erowu1 := xs _ _ erowu1
  have erowv1 := xs _ _ erowv1
  have erowp1 := xs _ _ erowp1
  have erow := xs _ _ erow
  refine ⟨by show 2 ≤ sizeLine; decide, fun xx xnx => ⟨by show 2 ≤ sizeLine; decide, fun xy xny => ?_⟩⟩
  have xt : Same xH (upd xH xx (.tup [V.int 0, V.int 1])) := Same.new xnx
  have xr : Same (upd xH xx (.tup [V.int 0, V.int 1])) (upd (upd xH xx (.tup [V.int 0, V.int 1])) xy (.tup [.ref xx, .bl true])) := Same.new xny
  have xq := xt.trans xr
  refine ⟨rowEnd [0, 1] true, rowEnd [0, 1] true, .tup (SqT.of (xq _ _ xhp)) (.cons (dp_tup (xq.sqt xhc)) (.cons (.bl _) .nil)), .tup (SqT.of upd_same) (.cons (dp_tup (SqT.of (xr _ _ (show (upd xH xx (.tup [V.int 0, V.int 1])) xx = some (.tup (vi [0, 1])) from upd_same)))) (.cons (.bl _) .nil)), shaped_rowEnd _ _, shaped_rowEnd _ _, _, rfl, ?_⟩
  rw [eqv_rowEnd]
  refine if_f rfl ?_
  have sA := sA.trans xq
  have ea := xq _ _ ea
  have eb := xq _ _ eb
  have eab := xq _ _ eab
  have erowu0 := xq _ _ erowu0
  have erowv0 := xq _ _ erowv0
  have erowp0 := xq _ _ erowp0
  have erowu1 := xq _ _ erowu1
  have erowv1 := xq _ _ erowv1
  have erowp1 := xq _ _ erowp1
  have erow := xq _ _ erow
  generalize upd (upd xH xx (.tup [V.int 0, V.int 1])) xy (.tup [.ref xx, .bl true]) = xG at xq sA ea eb eab erowu0 erowv0 erowp0 erowu1 erowv1 erowp1 erow
  clear xr xq
  refine ⟨_, rfl, _, rfl, by show 1 ≤ sizeLine; decide, fun twou0 ntwou0 => ?_⟩
  have stwou0 : Same xG (upd xG twou0 (.tup [V.int 1])) := Same.new ntwou0
  have etwou0 : (upd xG twou0 (.tup [V.int 1])) twou0 = some (.tup (vi [1])) := upd_same
  have sA := sA.trans stwou0
  have ea := stwou0 _ _ ea
  have eb := stwou0 _ _ eb
  have eab := stwou0 _ _ eab
  have erowu0 := stwou0 _ _ erowu0
  have erowv0 := stwou0 _ _ erowv0
  have erowp0 := stwou0 _ _ erowp0
  have erowu1 := stwou0 _ _ erowu1
  have erowv1 := stwou0 _ _ erowv1
  have erowp1 := stwou0 _ _ erowp1
  have erow := stwou0 _ _ erow
  generalize upd xG twou0 (.tup [V.int 1]) = H21 at stwou0 etwou0 sA ea eb eab erowu0 erowv0 erowp0 erowu1 erowv1 erowp1 erow
  clear stwou0
  refine ⟨by show 1 ≤ sizeLine; decide, fun twov0 ntwov0 => ?_⟩
  have stwov0 : Same H21 (upd H21 twov0 (.tup [V.int 1])) := Same.new ntwov0
  have etwov0 : (upd H21 twov0 (.tup [V.int 1])) twov0 = some (.tup (vi [1])) := upd_same
  have sA := sA.trans stwov0
  have ea := stwov0 _ _ ea
  have eb := stwov0 _ _ eb
  have eab := stwov0 _ _ eab
  have erowu0 := stwov0 _ _ erowu0
  have erowv0 := stwov0 _ _ erowv0
  have erowp0 := stwov0 _ _ erowp0
  have erowu1 := stwov0 _ _ erowu1
  have erowv1 := stwov0 _ _ erowv1
  have erowp1 := stwov0 _ _ erowp1
  have erow := stwov0 _ _ erow
  have etwou0 := stwov0 _ _ etwou0
  generalize upd H21 twov0 (.tup [V.int 1]) = H22 at stwov0 etwov0 sA ea eb eab erowu0 erowv0 erowp0 erowu1 erowv1 erowp1 erow etwou0
  clear stwov0
  refine ⟨by show 2 ≤ sizeLine; decide, fun twop0 ntwop0 => ?_⟩
  have stwop0 : Same H22 (upd H22 twop0 (.tup [V.ref twou0, V.ref twov0])) := Same.new ntwop0
  have etwop0 : (upd H22 twop0 (.tup [V.ref twou0, V.ref twov0])) twop0 = some (.tup [V.ref twou0, V.ref twov0]) := upd_same
  have sA := sA.trans stwop0
  have ea := stwop0 _ _ ea
  have eb := stwop0 _ _ eb
  have eab := stwop0 _ _ eab
  have erowu0 := stwop0 _ _ erowu0
  have erowv0 := stwop0 _ _ erowv0
  have erowp0 := stwop0 _ _ erowp0
  have erowu1 := stwop0 _ _ erowu1
  have erowv1 := stwop0 _ _ erowv1
  have erowp1 := stwop0 _ _ erowp1
  have erow := stwop0 _ _ erow
  have etwou0 := stwop0 _ _ etwou0
  have etwov0 := stwop0 _ _ etwov0
  generalize upd H22 twop0 (.tup [V.ref twou0, V.ref twov0]) = H23 at stwop0 etwop0 sA ea eb eab erowu0 erowv0 erowp0 erowu1 erowv1 erowp1 erow etwou0 etwov0
  clear stwop0
  refine ⟨by show 1 ≤ sizeLine; decide, fun two ntwo => ?_⟩
  have stwo : Same H23 (upd H23 two (.lst [V.ref twop0])) := Same.new ntwo
  have etwo : (upd H23 two (.lst [V.ref twop0])) two = some (.lst [V.ref twop0]) := upd_same
  have sA := sA.trans stwo
  have ea := stwo _ _ ea
  have eb := stwo _ _ eb
  have eab := stwo _ _ eab
  have erowu0 := stwo _ _ erowu0
  have erowv0 := stwo _ _ erowv0
  have erowp0 := stwo _ _ erowp0
  have erowu1 := stwo _ _ erowu1
  have erowv1 := stwo _ _ erowv1
  have erowp1 := stwo _ _ erowp1
  have erow := stwo _ _ erow
  have etwou0 := stwo _ _ etwou0
  have etwov0 := stwo _ _ etwov0
  have etwop0 := stwo _ _ etwop0
  generalize upd H23 two (.lst [V.ref twop0]) = H24 at stwo etwo sA ea eb eab erowu0 erowv0 erowp0 erowu1 erowv1 erowp1 erow etwou0 etwov0 etwop0
  clear stwo
  refine ⟨a, b, .ref two, [1, 2], [([1], [1])], rfl, SqT.of ea, by decide, (.lst (SqL.of etwo) (.cons (r_tick etwop0 etwou0 etwov0) .nil)), fun yH yp yc ys yhp yhc => ?_⟩
  have yhp : yH yp = some (.tup [.ref yc, .bl false]) := by rw [r_b2] at yhp; exact yhp
  have yhc : SqT K yH yc (vi [1, 2]) := by rw [r_b2] at yhc; exact yhc
  have sA := sA.trans ys
  have ea := ys _ _ ea
  have eb := ys _ _ eb
  have eab := ys _ _ eab
  have erowu0 := ys _ _ erowu0
  have erowv0 := ys _ _ erowv0
  have erowp0 := ys _ _ erowp0
  have erowu1 := ys _ _ erowu1
  have erowv1 := ys _ _ erowv1
  have erowp1 := ys _ _ erowp1
  have erow := ys _ _ erow
  have etwou0 := ys _ _ etwou0
  have etwov0 := ys _ _ etwov0
  have etwop0 := ys _ _ etwop0
  have etwo := ys _ _ etwo
  refine ⟨by show 2 ≤ sizeLine; decide, fun yx ynx => ⟨by show 2 ≤ sizeLine; decide, fun yy yny => ?_⟩⟩
  have yt : Same yH (upd yH yx (.tup [V.int 1, V.int 2])) := Same.new ynx
  have yr : Same (upd yH yx (.tup [V.int 1, V.int 2])) (upd (upd yH yx (.tup [V.int 1, V.int 2])) yy (.tup [.ref yx, .bl false])) := Same.new yny
  have yq := yt.trans yr
  refine ⟨rowEnd [1, 2] false, rowEnd [1, 2] false, .tup (SqT.of (yq _ _ yhp)) (.cons (dp_tup (yq.sqt yhc)) (.cons (.bl _) .nil)), .tup (SqT.of upd_same) (.cons (dp_tup (SqT.of (yr _ _ (show (upd yH yx (.tup [V.int 1, V.int 2])) yx = some (.tup (vi [1, 2])) from upd_same)))) (.cons (.bl _) .nil)), shaped_rowEnd _ _, shaped_rowEnd _ _, _, rfl, ?_⟩
  rw [eqv_rowEnd]
  refine if_f rfl ?_
  have sA := sA.trans yq
  have ea := yq _ _ ea
  have eb := yq _ _ eb
  have eab := yq _ _ eab
  have erowu0 := yq _ _ erowu0
  have erowv0 := yq _ _ erowv0
  have erowp0 := yq _ _ erowp0
  have erowu1 := yq _ _ erowu1
  have erowv1 := yq _ _ erowv1
  have erowp1 := yq _ _ erowp1
  have erow := yq _ _ erow
  have etwou0 := yq _ _ etwou0
  have etwov0 := yq _ _ etwov0
  have etwop0 := yq _ _ etwop0
  have etwo := yq _ _ etwo
  generalize upd (upd yH yx (.tup [V.int 1, V.int 2])) yy (.tup [.ref yx, .bl false]) = yG at yq sA ea eb eab erowu0 erowv0 erowp0 erowu1 erowv1 erowp1 erow etwou0 etwov0 etwop0 etwo
  clear yr yq
  refine ⟨_, rfl, _, rfl, by show 0 ≤ sizeLine; decide, fun no nno => ?_⟩
  have sno : Same yG (upd yG no (.lst [])) := Same.new nno
  have eno : (upd yG no (.lst [])) no = some (.lst []) := upd_same
  have sA := sA.trans sno
  have ea := sno _ _ ea
  have eb := sno _ _ eb
  have eab := sno _ _ eab
  have erowu0 := sno _ _ erowu0
  have erowv0 := sno _ _ erowv0
  have erowp0 := sno _ _ erowp0
  have erowu1 := sno _ _ erowu1
  have erowv1 := sno _ _ erowv1
  have erowp1 := sno _ _ erowp1
  have erow := sno _ _ erow
  have etwou0 := sno _ _ etwou0
  have etwov0 := sno _ _ etwov0
  have etwop0 := sno _ _ etwop0
  have etwo := sno _ _ etwo
  generalize upd yG no (.lst []) = H25 at sno eno sA ea eb eab erowu0 erowv0 erowp0 erowu1 erowv1 erowp1 erow etwou0 etwov0 etwop0 etwo
  clear sno
  refine ⟨a, b, .ref no, [1, 2], [], rfl, SqT.of ea, by decide, (.lst (SqL.of eno) .nil), fun zH zp zc zs zhp zhc => ?_⟩
  have zhp : zH zp = some (.tup [.ref zc, .bl true]) := by rw [show behindF [1, 2] true [] = ([1, 2], true) from rfl] at zhp; exact zhp
  have zhc : SqT K zH zc (vi [1, 2]) := by rw [show behindF [1, 2] true [] = ([1, 2], true) from rfl] at zhc; exact zhc
  have sA := sA.trans zs
  have ea := zs _ _ ea
  have eb := zs _ _ eb
  have eab := zs _ _ eab
  have erowu0 := zs _ _ erowu0
  have erowv0 := zs _ _ erowv0
  have erowp0 := zs _ _ erowp0
  have erowu1 := zs _ _ erowu1
  have erowv1 := zs _ _ erowv1
  have erowp1 := zs _ _ erowp1
  have erow := zs _ _ erow
  have etwou0 := zs _ _ etwou0
  have etwov0 := zs _ _ etwov0
  have etwop0 := zs _ _ etwop0
  have etwo := zs _ _ etwo
  have eno := zs _ _ eno
  refine ⟨by show 2 ≤ sizeLine; decide, fun zx znx => ⟨by show 2 ≤ sizeLine; decide, fun zy zny => ?_⟩⟩
  have zt : Same zH (upd zH zx (.tup [V.int 1, V.int 2])) := Same.new znx
  have zr : Same (upd zH zx (.tup [V.int 1, V.int 2])) (upd (upd zH zx (.tup [V.int 1, V.int 2])) zy (.tup [.ref zx, .bl true])) := Same.new zny
  have zq := zt.trans zr
  refine ⟨rowEnd [1, 2] true, rowEnd [1, 2] true, .tup (SqT.of (zq _ _ zhp)) (.cons (dp_tup (zq.sqt zhc)) (.cons (.bl _) .nil)), .tup (SqT.of upd_same) (.cons (dp_tup (SqT.of (zr _ _ (show (upd zH zx (.tup [V.int 1, V.int 2])) zx = some (.tup (vi [1, 2])) from upd_same)))) (.cons (.bl _) .nil)), shaped_rowEnd _ _, shaped_rowEnd _ _, _, rfl, ?_⟩
  rw [eqv_rowEnd]
  refine if_f rfl ?_
  have sA := sA.trans zq
  have ea := zq _ _ ea
  have eb := zq _ _ eb
  have eab := zq _ _ eab
  have erowu0 := zq _ _ erowu0
  have erowv0 := zq _ _ erowv0
  have erowp0 := zq _ _ erowp0
  have erowu1 := zq _ _ erowu1
  have erowv1 := zq _ _ erowv1
  have erowp1 := zq _ _ erowp1
  have erow := zq _ _ erow
  have etwou0 := zq _ _ etwou0
  have etwov0 := zq _ _ etwov0
  have etwop0 := zq _ _ etwop0
  have etwo := zq _ _ etwo
  have eno := zq _ _ eno
  generalize upd (upd zH zx (.tup [V.int 1, V.int 2])) zy (.tup [.ref zx, .bl true]) = zG at zq sA ea eb eab erowu0 erowv0 erowp0 erowu1 erowv1 erowp1 erow etwou0 etwov0 etwop0 etwo eno
  clear zr zq
  refine ⟨_, rfl, _, rfl, by show 1 ≤ sizeLine; decide, fun badu0 nbadu0 => ?_⟩
  have sbadu0 : Same zG (upd zG badu0 (.tup [V.int 1])) := Same.new nbadu0
  have ebadu0 : (upd zG badu0 (.tup [V.int 1])) badu0 = some (.tup (vi [1])) := upd_same
  have sA := sA.trans sbadu0
  have ea := sbadu0 _ _ ea
  have eb := sbadu0 _ _ eb
  have eab := sbadu0 _ _ eab
  have erowu0 := sbadu0 _ _ erowu0
  have erowv0 := sbadu0 _ _ erowv0
  have erowp0 := sbadu0 _ _ erowp0
  have erowu1 := sbadu0 _ _ erowu1
  have erowv1 := sbadu0 _ _ erowv1
  have erowp1 := sbadu0 _ _ erowp1
  have erow := sbadu0 _ _ erow
  have etwou0 := sbadu0 _ _ etwou0
  have etwov0 := sbadu0 _ _ etwov0
  have etwop0 := sbadu0 _ _ etwop0
  have etwo := sbadu0 _ _ etwo
  have eno := sbadu0 _ _ eno
  generalize upd zG badu0 (.tup [V.int 1]) = H26 at sbadu0 ebadu0 sA ea eb eab erowu0 erowv0 erowp0 erowu1 erowv1 erowp1 erow etwou0 etwov0 etwop0 etwo eno
  clear sbadu0
  refine ⟨by show 1 ≤ sizeLine; decide, fun badv0 nbadv0 => ?_⟩
  have sbadv0 : Same H26 (upd H26 badv0 (.tup [V.int 1])) := Same.new nbadv0
  have ebadv0 : (upd H26 badv0 (.tup [V.int 1])) badv0 = some (.tup (vi [1])) := upd_same
  have sA := sA.trans sbadv0
  have ea := sbadv0 _ _ ea
  have eb := sbadv0 _ _ eb
  have eab := sbadv0 _ _ eab
  have erowu0 := sbadv0 _ _ erowu0
  have erowv0 := sbadv0 _ _ erowv0
  have erowp0 := sbadv0 _ _ erowp0
  have erowu1 := sbadv0 _ _ erowu1
  have erowv1 := sbadv0 _ _ erowv1
  have erowp1 := sbadv0 _ _ erowp1
  have erow := sbadv0 _ _ erow
  have etwou0 := sbadv0 _ _ etwou0
  have etwov0 := sbadv0 _ _ etwov0
  have etwop0 := sbadv0 _ _ etwop0
  have etwo := sbadv0 _ _ etwo
  have eno := sbadv0 _ _ eno
  have ebadu0 := sbadv0 _ _ ebadu0
  generalize upd H26 badv0 (.tup [V.int 1]) = H27 at sbadv0 ebadv0 sA ea eb eab erowu0 erowv0 erowp0 erowu1 erowv1 erowp1 erow etwou0 etwov0 etwop0 etwo eno ebadu0
  clear sbadv0
  refine ⟨by show 2 ≤ sizeLine; decide, fun badp0 nbadp0 => ?_⟩
  have sbadp0 : Same H27 (upd H27 badp0 (.tup [V.ref badu0, V.ref badv0])) := Same.new nbadp0
  have ebadp0 : (upd H27 badp0 (.tup [V.ref badu0, V.ref badv0])) badp0 = some (.tup [V.ref badu0, V.ref badv0]) := upd_same
  have sA := sA.trans sbadp0
  have ea := sbadp0 _ _ ea
  have eb := sbadp0 _ _ eb
  have eab := sbadp0 _ _ eab
  have erowu0 := sbadp0 _ _ erowu0
  have erowv0 := sbadp0 _ _ erowv0
  have erowp0 := sbadp0 _ _ erowp0
  have erowu1 := sbadp0 _ _ erowu1
  have erowv1 := sbadp0 _ _ erowv1
  have erowp1 := sbadp0 _ _ erowp1
  have erow := sbadp0 _ _ erow
  have etwou0 := sbadp0 _ _ etwou0
  have etwov0 := sbadp0 _ _ etwov0
  have etwop0 := sbadp0 _ _ etwop0
  have etwo := sbadp0 _ _ etwo
  have eno := sbadp0 _ _ eno
  have ebadu0 := sbadp0 _ _ ebadu0
  have ebadv0 := sbadp0 _ _ ebadv0
  generalize upd H27 badp0 (.tup [V.ref badu0, V.ref badv0]) = H28 at sbadp0 ebadp0 sA ea eb eab erowu0 erowv0 erowp0 erowu1 erowv1 erowp1 erow etwou0 etwov0 etwop0 etwo eno ebadu0 ebadv0
  clear sbadp0
  refine ⟨by show 1 ≤ sizeLine; decide, fun badu1 nbadu1 => ?_⟩
  have sbadu1 : Same H28 (upd H28 badu1 (.tup [V.int 0])) := Same.new nbadu1
  have ebadu1 : (upd H28 badu1 (.tup [V.int 0])) badu1 = some (.tup (vi [0])) := upd_same
  have sA := sA.trans sbadu1
  have ea := sbadu1 _ _ ea
  have eb := sbadu1 _ _ eb
  have eab := sbadu1 _ _ eab
  have erowu0 := sbadu1 _ _ erowu0
  have erowv0 := sbadu1 _ _ erowv0
  have erowp0 := sbadu1 _ _ erowp0
  have erowu1 := sbadu1 _ _ erowu1
  have erowv1 := sbadu1 _ _ erowv1
  have erowp1 := sbadu1 _ _ erowp1
  have erow := sbadu1 _ _ erow
  have etwou0 := sbadu1 _ _ etwou0
  have etwov0 := sbadu1 _ _ etwov0
  have etwop0 := sbadu1 _ _ etwop0
  have etwo := sbadu1 _ _ etwo
  have eno := sbadu1 _ _ eno
  have ebadu0 := sbadu1 _ _ ebadu0
  have ebadv0 := sbadu1 _ _ ebadv0
  have ebadp0 := sbadu1 _ _ ebadp0
  generalize upd H28 badu1 (.tup [V.int 0]) = H29 at sbadu1 ebadu1 sA ea eb eab erowu0 erowv0 erowp0 erowu1 erowv1 erowp1 erow etwou0 etwov0 etwop0 etwo eno ebadu0 ebadv0 ebadp0
  clear sbadu1
  refine ⟨by show 0 ≤ sizeLine; decide, fun badv1 nbadv1 => ?_⟩
  have sbadv1 : Same H29 (upd H29 badv1 (.tup [])) := Same.new nbadv1
  have ebadv1 : (upd H29 badv1 (.tup [])) badv1 = some (.tup (vi [])) := upd_same
  have sA := sA.trans sbadv1
  have ea := sbadv1 _ _ ea
  have eb := sbadv1 _ _ eb
  have eab := sbadv1 _ _ eab
  have erowu0 := sbadv1 _ _ erowu0
  have erowv0 := sbadv1 _ _ erowv0
  have erowp0 := sbadv1 _ _ erowp0
  have erowu1 := sbadv1 _ _ erowu1
  have erowv1 := sbadv1 _ _ erowv1
  have erowp1 := sbadv1 _ _ erowp1
  have erow := sbadv1 _ _ erow
  have etwou0 := sbadv1 _ _ etwou0
  have etwov0 := sbadv1 _ _ etwov0
  have etwop0 := sbadv1 _ _ etwop0
  have etwo := sbadv1 _ _ etwo
  have eno := sbadv1 _ _ eno
  have ebadu0 := sbadv1 _ _ ebadu0
  have ebadv0 := sbadv1 _ _ ebadv0
  have ebadp0 := sbadv1 _ _ ebadp0
  have ebadu1 := sbadv1 _ _ ebadu1
  generalize upd H29 badv1 (.tup []) = H30 at sbadv1 ebadv1 sA ea eb eab erowu0 erowv0 erowp0 erowu1 erowv1 erowp1 erow etwou0 etwov0 etwop0 etwo eno ebadu0 ebadv0 ebadp0 ebadu1
  clear sbadv1
  refine ⟨by show 2 ≤ sizeLine; decide, fun badp1 nbadp1 => ?_⟩
  have sbadp1 : Same H30 (upd H30 badp1 (.tup [V.ref badu1, V.ref badv1])) := Same.new nbadp1
  have ebadp1 : (upd H30 badp1 (.tup [V.ref badu1, V.ref badv1])) badp1 = some (.tup [V.ref badu1, V.ref badv1]) := upd_same
  have sA := sA.trans sbadp1
  have ea := sbadp1 _ _ ea
  have eb := sbadp1 _ _ eb
  have eab := sbadp1 _ _ eab
  have erowu0 := sbadp1 _ _ erowu0
  have erowv0 := sbadp1 _ _ erowv0
  have erowp0 := sbadp1 _ _ erowp0
  have erowu1 := sbadp1 _ _ erowu1
  have erowv1 := sbadp1 _ _ erowv1
  have erowp1 := sbadp1 _ _ erowp1
  have erow := sbadp1 _ _ erow
  have etwou0 := sbadp1 _ _ etwou0
  have etwov0 := sbadp1 _ _ etwov0
  have etwop0 := sbadp1 _ _ etwop0
  have etwo := sbadp1 _ _ etwo
  have eno := sbadp1 _ _ eno
  have ebadu0 := sbadp1 _ _ ebadu0
  have ebadv0 := sbadp1 _ _ ebadv0
  have ebadp0 := sbadp1 _ _ ebadp0
  have ebadu1 := sbadp1 _ _ ebadu1
  have ebadv1 := sbadp1 _ _ ebadv1
  generalize upd H30 badp1 (.tup [V.ref badu1, V.ref badv1]) = H31 at sbadp1 ebadp1 sA ea eb eab erowu0 erowv0 erowp0 erowu1 erowv1 erowp1 erow etwou0 etwov0 etwop0 etwo eno ebadu0 ebadv0 ebadp0 ebadu1 ebadv1
  clear sbadp1
  refine ⟨by show 2 ≤ sizeLine; decide, fun bad nbad => ?_⟩
  have sbad : Same H31 (upd H31 bad (.lst [V.ref badp0, V.ref badp1])) := Same.new nbad
  have ebad : (upd H31 bad (.lst [V.ref badp0, V.ref badp1])) bad = some (.lst [V.ref badp0, V.ref badp1]) := upd_same
  have sA := sA.trans sbad
  have ea := sbad _ _ ea
  have eb := sbad _ _ eb
  have eab := sbad _ _ eab
  have erowu0 := sbad _ _ erowu0
  have erowv0 := sbad _ _ erowv0
  have erowp0 := sbad _ _ erowp0
  have erowu1 := sbad _ _ erowu1
  have erowv1 := sbad _ _ erowv1
  have erowp1 := sbad _ _ erowp1
  have erow := sbad _ _ erow
  have etwou0 := sbad _ _ etwou0
  have etwov0 := sbad _ _ etwov0
  have etwop0 := sbad _ _ etwop0
  have etwo := sbad _ _ etwo
  have eno := sbad _ _ eno
  have ebadu0 := sbad _ _ ebadu0
  have ebadv0 := sbad _ _ ebadv0
  have ebadp0 := sbad _ _ ebadp0
  have ebadu1 := sbad _ _ ebadu1
  have ebadv1 := sbad _ _ ebadv1
  have ebadp1 := sbad _ _ ebadp1
  generalize upd H31 bad (.lst [V.ref badp0, V.ref badp1]) = H32 at sbad ebad sA ea eb eab erowu0 erowv0 erowp0 erowu1 erowv1 erowp1 erow etwou0 etwov0 etwop0 etwo eno ebadu0 ebadv0 ebadp0 ebadu1 ebadv1 ebadp1
  clear sbad
  refine ⟨a, b, .ref bad, [1, 2], [1, 0], .list (([([1], [1]), ([0], [])] : List (List Int × List Int)).map tickD), 1, rfl, SqT.of ea, SqT.of eb, by decide, (.lst (SqL.of ebad) (.cons (r_tick ebadp0 ebadu0 ebadv0) (.cons (r_tick ebadp1 ebadu1 ebadv1) .nil))), ⟨by decide, fun d hd => by obtain ⟨t, ht, rfl⟩ := List.mem_map.mp hd; exact r_fit ((show ∀ t ∈ ([([1], [1]), ([0], [])] : List (List Int × List Int)), t.1.length ≤ 1000 from by decide) t ht) ((show ∀ t ∈ ([([1], [1]), ([0], [])] : List (List Int × List Int)), t.2.length ≤ 1000 from by decide) t ht)⟩, fun H90 s90 => ?_⟩
  rw [cd_f r_no]
  exact ⟨_, _, rfl, rfl, q _ (sA.trans s90)⟩
abbrev s_law : Stmt := topS 38
theorem sc_law : FnScope ["script", "tape", "many", "wax", "even", "my_draught", "due"] ["script"] (defScope s_law) := ⟨rfl, rfl, rfl, by decide +kernel, rfl, by decide +kernel, by decide +kernel⟩

theorem cnt_even (many : Nat) (wax k : Int) : cnt (List.replicate many wax) k = many * (if k < wax then k else wax) := by
  unfold cnt
  rw [List.map_replicate, sum_rep]
/-- candles alike -/
theorem even_long {many r : Nat} {wax d : Int} (hw : 1 ≤ wax) (hd : 0 ≤ d) (h1 : can (List.replicate many wax) (List.replicate r d) = true) (h2 : can (List.replicate many wax) (List.replicate (r + 1) d) = false) :
    (d < (many : Int) → (r : Int) = wax * many / (d + 1)) ∧ (¬ d < (many : Int) → r = 0) := by
  have h0 : ∀ c ∈ List.replicate many wax, 0 ≤ c := fun c hc => by
    rw [List.eq_of_mem_replicate hc]
    omega
  have g2 : ¬ (((r + 1 : Nat) : Int) * (d + 1) ≤ cnt (List.replicate many wax) ((r + 1 : Nat) : Int)) := fun z => by
    rw [(can_rep2 h0 (by omega)).mpr z] at h2
    cases h2
  rw [cnt_even] at g2
  constructor
  · intro hm
    -- r + 1 ticks: beyond the wax of one
    have hr1 : wax ≤ ((r + 1 : Nat) : Int) := by
      by_cases c : ((r + 1 : Nat) : Int) < wax
      · rw [if_pos c] at g2
        exfalso
        refine g2 ?_
        rw [Int.mul_comm (many : Int)]
        exact Int.mul_le_mul_of_nonneg_left (by omega) (by omega)
      · omega
    rw [if_neg (by omega), Int.mul_comm (many : Int) wax] at g2
    have hle : (r : Int) * (d + 1) ≤ wax * many := by
      by_cases c : r = 0
      · rw [c]
        have := Int.mul_nonneg (show 0 ≤ wax by omega) (show (0 : Int) ≤ many by omega)
        simpa using this
      · have g1 := (can_rep2 h0 (by omega)).mp h1
        rw [cnt_even] at g1
        refine Int.le_trans g1 ?_
        rw [Int.mul_comm wax]
        refine Int.mul_le_mul_of_nonneg_left ?_ (by omega)
        by_cases c2 : (r : Int) < wax
        · rw [if_pos c2]
          omega
        · rw [if_neg c2]
          exact Int.le_refl _
    have e1 : ((r + 1 : Nat) : Int) = (r : Int) + 1 := by omega
    rw [e1] at g2
    have a := (Int.le_ediv_iff_mul_le (show 0 < d + 1 by omega)).mpr hle
    have b := (Int.ediv_lt_iff_lt_mul (show 0 < d + 1 by omega)).mpr (Int.not_le.mp g2)
    omega
  · intro hm
    by_cases c : r = 0
    · exact c
    · exfalso
      have q := can_lt h1 (d := d) (by
        rw [List.mem_replicate]
        exact ⟨c, rfl⟩)
      rw [List.length_replicate] at q
      omega
def spLaw (K : PySem.W.Frag) : Sp := fun vs H Q _ => ∃ (a : Addr) (ns : List Int), vs = [.ref a] ∧ SqL K H a (vi ns) ∧ ns.length ≤ 63 ∧ ∀ H', Q (.bl true) H'
theorem ok_law {f : Addr} {fd : FuncData} (T : Bl mg) (C : Cs mg) (F : Fun K "law" "law" s_law f fd) {f_counted : Addr} {fd_counted : FuncData} (D_counted : FnAt K mg "counted" "counted" s_counted ["candles", "ticks"] f_counted fd_counted) {f_wanted : Addr} {fd_wanted : FuncData} (D_wanted : FnAt K mg "wanted" "wanted" s_wanted ["draughts", "ticks"] f_wanted fd_wanted) {f_spares : Addr} {fd_spares : FuncData} (D_spares : FnAt K mg "spares" "spares" s_spares ["candles", "draughts"] f_spares fd_spares) {f_can_keep : Addr} {fd_can_keep : FuncData} (D_can_keep : FnAt K mg "can_keep" "can_keep" s_can_keep ["candles", "draughts"] f_can_keep fd_can_keep) {f_fails_at : Addr} {fd_fails_at : FuncData} (D_fails_at : FnAt K mg "fails_at" "fails_at" s_fails_at ["candles", "draughts"] f_fails_at fd_fails_at) {f_longest : Addr} {fd_longest : FuncData} (D_longest : FnAt K mg "longest" "longest" s_longest ["candles", "draught"] f_longest fd_longest) {f_strongest : Addr} {fd_strongest : FuncData} (D_strongest : FnAt K mg "strongest" "strongest" s_strongest ["candles", "draughts"] f_strongest fd_strongest) {f_stubs : Addr} {fd_stubs : FuncData} (D_stubs : FnAt K mg "stubs" "stubs" s_stubs ["candles", "draughts"] f_stubs fd_stubs) {f_one_more : Addr} {fd_one_more : FuncData} (D_one_more : FnAt K mg "one_more" "one_more" s_one_more ["candles", "draughts"] f_one_more fd_one_more) {f_lotsN : Addr} {fd_lotsN : FuncData} (D_lotsN : FnAt K mg "lots_needs" "lots" s_lotsN ["many"] f_lotsN fd_lotsN) {f_spared : Addr} {fd_spared : FuncData} (D_spared : FnAt K mg "spared" "spared" s_spared ["candles", "draughts"] f_spared fd_spared) {f_is_within : Addr} {fd_is_within : FuncData} (D_is_within : FnAt K mg "is_within" "is_within" s_is_within ["thing", "low", "high"] f_is_within fd_is_within) {f_are_candles : Addr} {fd_are_candles : FuncData} (D_are_candles : FnAt K mg "are_candles" "are_candles" s_are_candles ["thing"] f_are_candles fd_are_candles) {f_are_draughts : Addr} {fd_are_draughts : FuncData} (D_are_draughts : FnAt K mg "are_draughts" "are_draughts" s_are_draughts ["thing"] f_are_draughts fd_are_draughts) {f_are_places : Addr} {fd_are_places : FuncData} (D_are_places : FnAt K mg "are_places" "are_places" s_are_places ["candles", "thing"] f_are_places fd_are_places) {f_is_tick : Addr} {fd_is_tick : FuncData} (D_is_tick : FnAt K mg "is_tick" "is_tick" s_is_tick ["candles", "draught", "thing"] f_is_tick fd_is_tick) {f_burnt : Addr} {fd_burnt : FuncData} (D_burnt : FnAt K mg "burnt" "burnt" s_burnt ["candles", "lit", "out"] f_burnt fd_burnt) {f_is_row : Addr} {fd_is_row : FuncData} (D_is_row : FnAt K mg "is_row" "is_row" s_is_row ["candles", "draughts", "thing"] f_is_row fd_is_row) {f_behind : Addr} {fd_behind : FuncData} (D_behind : FnAt K mg "behind" "behind" s_behind ["candles", "draughts", "row"] f_behind fd_behind) {f_lights : Addr} {fd_lights : FuncData} (D_lights : FnAt K mg "lights" "lights" s_lights ["candles", "draught"] f_lights fd_lights) {f_lotsK : Addr} {fd_lotsK : FuncData} (D_lotsK : FnAt K mg "lots_keepers" "lots" s_lotsK ["candles", "draughts"] f_lotsK fd_lotsK) {f_kept : Addr} {fd_kept : FuncData} (D_kept : FnAt K mg "kept" "kept" s_kept ["candles", "draughts"] f_kept fd_kept) {f_plan : Addr} {fd_plan : FuncData} (D_plan : FnAt K mg "plan" "plan" s_plan ["candles", "draughts"] f_plan fd_plan) {f_is_plan : Addr} {fd_is_plan : FuncData} (D_is_plan : FnAt K mg "is_plan" "is_plan" s_is_plan ["candles", "draughts", "thing"] f_is_plan fd_is_plan) {f__law_draw : Addr} {fd__law_draw : FuncData} (D__law_draw : FnAt K mg "_law_draw" "_law_draw" s__law_draw ["tape", "many"] f__law_draw fd__law_draw) {f__law_three_right : Addr} {fd__law_three_right : FuncData} (D__law_three_right : FnAt K mg "_law_three_right" "_law_three_right" s__law_three_right [] f__law_three_right fd__law_three_right) {f__law_rows_right : Addr} {fd__law_rows_right : FuncData} (D__law_rows_right : FnAt K mg "_law_rows_right" "_law_rows_right" s__law_rows_right [] f__law_rows_right fd__law_rows_right) : FnOk P w K mg base CX0 6 f fd ["script"] (spLaw K) := by
  have G__law_draw : FnOk P w K mg base CX0 5 f__law_draw fd__law_draw _ spDraw := (ok__law_draw T D__law_draw.F).mono (by decide)
  have G_longest : FnOk P w K mg base CX0 5 f_longest fd_longest _ (spLongest K) := (ok_longest T D_longest.F D_can_keep D_spares D_counted D_wanted).mono (by decide)
  have G__law_three_right : FnOk P w K mg base CX0 5 f__law_three_right fd__law_three_right _ spTrue0 := ok__law_three_right T C D__law_three_right.F D_are_candles D_are_draughts D_is_within D_spares D_counted D_wanted D_can_keep D_fails_at D_lights D_kept D_lotsK D_burnt D_plan D_is_plan D_are_places D_longest D_strongest D_stubs D_one_more D_spared D_lotsN
  have G__law_rows_right : FnOk P w K mg base CX0 5 f__law_rows_right fd__law_rows_right _ spTrue0 := ok__law_rows_right T D__law_rows_right.F D_is_row D_is_tick D_burnt D_are_places D_is_within D_behind
  refine F.ok sc_law (fun vs H Q E h => ?_) (fun cdv A outer s H vs Q E hr h => ?_)
  · obtain ⟨a, ns, rfl, _⟩ := h
    rfl
  obtain ⟨a, ns, rfl, hS, hl, q⟩ := h
  refine ⟨_, (pss_cons (ps_set (i := 1) sc_law.nd rfl (.inl rfl) (pe_lst (pa_cons (pe_callTy (listK K) rfl T.list (by decide +kernel) (pa_cons (pv 0) pa_nil)) (pa_cons pe_int (pa_cons pe_int pa_nil)))))
  (pss_cons (ps_par (i := 2) (j := 3) rfl sc_law.nd rfl rfl (by decide) rfl rfl (pa_cons (pe_op op_add pe_int (pe_call G__law_draw hr rfl D__law_draw.g D__law_draw.F.kp D__law_draw.b .nil pass0 (pa_cons (pv 1) (pa_cons pe_int pa_nil)))) (pa_cons (pe_op op_add pe_int (pe_call G__law_draw hr rfl D__law_draw.g D__law_draw.F.kp D__law_draw.b .nil pass0 (pa_cons (pv 1) (pa_cons pe_int pa_nil)))) pa_nil)) (by rfl))
  (pss_cons (ps_set (i := 4) sc_law.nd rfl (.inl rfl) (pe_op (repK K) (pe_tup (pa_cons (pv 3) pa_nil)) (pv 2)))
  (pss_cons (ps_for PassesOwn.never rfl (pi_range1 rfl T.range (pa_cons pe_int pa_nil)) (pg_name (i := 5) sc_law.nd rfl (.inl rfl)) (pss_cons (ps_set (i := 6) sc_law.nd rfl (.inl rfl) (pe_ifExp (pt_cmpR op_lt (pv 5) (pv 2) (nomark _)) (pe_op op_fdiv (pe_op op_mul (pv 3) (pv 2)) (pe_op op_add (pv 5) pe_int)) pe_int))
  (pss_one (ps_if (pt_cmpR op_ne (pe_call G_longest hr rfl D_longest.g D_longest.F.kp D_longest.b .nil pass0 (pa_cons (pv 4) (pa_cons (pv 5) pa_nil))) (pv 6) (nomark _)) (pss_one (ps_ret pe_bl)) pss_nil))))
  (pss_one (ps_ret (pe_and (pe_call0 G__law_three_right hr rfl D__law_three_right.g D__law_three_right.F.kp D__law_three_right.b .nil pass0) (pe_one (pe_call0 G__law_rows_right hr rfl D__law_rows_right.g D__law_rows_right.F.kp D__law_rows_right.b .nil pass0))))))))), ?_⟩
  -- tape = [list(script), 0, 0]
  refine ⟨_, rfl, a, vi ns, rfl, .inl hS, fun l nl => ⟨by show 3 ≤ sizeLine; decide, fun t nt => ?_⟩⟩
  have hT0 : TapeAt (upd (upd H l (.lst (vi ns))) t (.lst [.ref l, .int 0, .int 0])) t l := by
    refine ⟨ns, 0, 0, upd_same, ?_, by decide⟩
    rw [upd_ne (ne_of_none upd_same nt)]
    exact upd_same
  -- many, wax
  refine ⟨_, rfl, t, l, 8, rfl, hT0, by decide, by decide, fun r1 H1 r10 r11 hT1 s1 => ⟨_, _, rfl, rfl, _, rfl, t, l, 12, rfl, hT1, by decide, by decide, fun r2 H2 r20 r21 hT2 s2 => ⟨_, _, rfl, rfl, _, _, rfl, ?_⟩⟩⟩
  obtain ⟨m0, rfl⟩ := Int.eq_ofNat_of_zero_le r10
  -- even = (wax,) * many
  refine ⟨_, rfl, by show 1 ≤ sizeLine; decide, fun u nu => ⟨_, rfl, rep_any (z := .int (1 + r2)) (SqT.of upd_same) (by omega) (by omega) fun H3 p s3 hp => ?_⟩⟩
  have en : (1 + ((m0 : Nat) : Int)).toNat = 1 + m0 := by omega
  rw [en, vi_rep] at hp
  have hw : 1 ≤ 1 + r2 := by omega
  have hw2 : 1 + r2 ≤ 12 := by omega
  have em : 1 + ((m0 : Nat) : Int) = ((1 + m0 : Nat) : Int) := by omega
  have hm1 : 1 + m0 ≤ 8 := by omega
  generalize 1 + m0 = m at hp hm1 em
  have hsum : (List.replicate m (1 + r2)).sum ≤ 900 := by
    rw [sum_rep]
    have : (m : Int) * (1 + r2) ≤ 8 * 12 := Int.mul_le_mul (by omega) hw2 (by omega) (by omega)
    omega
  clear hT0 hT1 hT2 s1 s2
  refine ⟨8, rfl, by decide, by decide, for_range (lo := 0) (n := 8) (fun i σ H' => ∃ (y5 y6 : Option V), σ = [some (.ref a), some (.ref t), some (.int (1 + (m0 : Int))), some (.int (1 + r2)), some (.ref p), y5, y6] ∧ Same H3 H') ⟨none, none, rfl, Same.refl _⟩ (fun i σ H4 hi hW => ?_) (fun σ H4 hW => ?_)⟩
  · obtain ⟨y5, y6, rfl, sm⟩ := hW
    have fin : ∀ (due : Int) (H5 : Hp) (r : Nat), can (List.replicate m (1 + r2)) (List.replicate r (0 + (i : Int))) = true → can (List.replicate m (1 + r2)) (List.replicate (r + 1) (0 + (i : Int))) = false → (if 0 + (i : Int) < 1 + (m0 : Int) then (1 + r2) * (1 + (m0 : Int)) / (0 + (i : Int) + 1) else 0) = due → (r : Int) = due := fun due H5 r h1 h2 e => by
      rw [em] at e
      obtain ⟨q1, q2⟩ := even_long hw (by omega) h1 h2
      by_cases c : 0 + (i : Int) < (m : Int)
      · rw [if_pos c] at e
        rw [q1 c, e]
      · rw [if_neg c] at e
        rw [q2 c, ← e]
        rfl
    refine ⟨_, rfl, _, rfl, _, _, rfl, rfl, _, rfl, if_b (fun c => ?_) (fun c => ?_)⟩
    · have c := of_decide_eq_true c
      refine ⟨_, rfl, _, rfl, _, _, rfl, rfl, .inl ⟨by omega, by omega⟩, _, rfl, _, _, rfl, rfl, _, _, rfl, rfl, ⟨by omega, by omega⟩, ?_⟩
      refine ⟨_, rfl, _, rfl, p, List.replicate m (1 + r2), 0 + (i : Int), rfl, sm.sqt hp, by rw [List.length_replicate]; omega, hsum, by omega, fun H5 r s5 h1 h2 => ?_⟩
      have e := fin _ H5 r h1 h2 (if_pos c)
      refine ⟨_, rfl, rfl, _, rfl, ?_⟩
      rw [e, decide_eq_true rfl]
      exact if_f rfl ⟨_, _, rfl, sm.trans s5⟩
    · have c := of_decide_eq_false c
      refine ⟨_, rfl, _, rfl, p, List.replicate m (1 + r2), 0 + (i : Int), rfl, sm.sqt hp, by rw [List.length_replicate]; omega, hsum, by omega, fun H5 r s5 h1 h2 => ?_⟩
      have e := fin 0 H5 r h1 h2 (if_neg c)
      refine ⟨_, rfl, rfl, _, rfl, ?_⟩
      rw [e, decide_eq_true rfl]
      exact if_f rfl ⟨_, _, rfl, sm.trans s5⟩
  · obtain ⟨y5, y6, rfl, sm⟩ := hW
    refine ⟨rfl, fun H5 s5 => ⟨_, rfl, if_t rfl ⟨rfl, fun H6 s6 => q _⟩⟩⟩
end
theorem all_mk {l : PySem.W.OpenLaw} {w : World} {K : PySem.W.Frag} {h : Heap} {mg : Str → Option Value} {fa f_counted f_wanted f_spares f_can_keep f_fails_at f_longest f_strongest f_stubs f_one_more f_lotsN f_spared f_is_within f_are_candles f_are_draughts f_are_places f_is_tick f_burnt f_is_row f_behind f_lights f_lotsK f_kept f_plan f_is_plan f__law_draw f__law_three_right f__law_rows_right f_law : Addr} (X : K.In h) (G : h.Ns mainGlobals mg) (hfa : mg "law" = some (.ref fa))
    {od_counted an_counted od_wanted an_wanted od_spares an_spares od_can_keep an_can_keep od_fails_at an_fails_at od_longest an_longest od_strongest an_strongest od_stubs an_stubs od_one_more an_one_more od_lotsN an_lotsN od_spared an_spared od_is_within an_is_within od_are_candles an_are_candles od_are_draughts an_are_draughts od_are_places an_are_places od_is_tick an_is_tick od_burnt an_burnt od_is_row an_is_row od_behind an_behind od_lights an_lights od_lotsK an_lotsK od_kept an_kept od_plan an_plan od_is_plan an_is_plan od__law_draw an__law_draw od__law_three_right an__law_three_right od__law_rows_right an__law_rows_right od_law an_law : Option Addr} {sl_counted sl_wanted sl_spares sl_can_keep sl_fails_at sl_longest sl_strongest sl_stubs sl_one_more sl_lotsN sl_spared sl_is_within sl_are_candles sl_are_draughts sl_are_places sl_is_tick sl_burnt sl_is_row sl_behind sl_lights sl_lotsK sl_kept sl_plan sl_is_plan sl__law_draw sl__law_three_right sl__law_rows_right sl_law : Array (Option Value)} {oc_counted kV_counted dc_counted pm_counted cd_counted ct_counted oc_wanted kV_wanted dc_wanted pm_wanted cd_wanted ct_wanted oc_spares kV_spares dc_spares pm_spares cd_spares ct_spares oc_can_keep kV_can_keep dc_can_keep pm_can_keep cd_can_keep ct_can_keep oc_fails_at kV_fails_at dc_fails_at pm_fails_at cd_fails_at ct_fails_at oc_longest kV_longest dc_longest pm_longest cd_longest ct_longest oc_strongest kV_strongest dc_strongest pm_strongest cd_strongest ct_strongest oc_stubs kV_stubs dc_stubs pm_stubs cd_stubs ct_stubs oc_one_more kV_one_more dc_one_more pm_one_more cd_one_more ct_one_more oc_lotsN kV_lotsN dc_lotsN pm_lotsN cd_lotsN ct_lotsN oc_spared kV_spared dc_spared pm_spared cd_spared ct_spared oc_is_within kV_is_within dc_is_within pm_is_within cd_is_within ct_is_within oc_are_candles kV_are_candles dc_are_candles pm_are_candles cd_are_candles ct_are_candles oc_are_draughts kV_are_draughts dc_are_draughts pm_are_draughts cd_are_draughts ct_are_draughts oc_are_places kV_are_places dc_are_places pm_are_places cd_are_places ct_are_places oc_is_tick kV_is_tick dc_is_tick pm_is_tick cd_is_tick ct_is_tick oc_burnt kV_burnt dc_burnt pm_burnt cd_burnt ct_burnt oc_is_row kV_is_row dc_is_row pm_is_row cd_is_row ct_is_row oc_behind kV_behind dc_behind pm_behind cd_behind ct_behind oc_lights kV_lights dc_lights pm_lights cd_lights ct_lights oc_lotsK kV_lotsK dc_lotsK pm_lotsK cd_lotsK ct_lotsK oc_kept kV_kept dc_kept pm_kept cd_kept ct_kept oc_plan kV_plan dc_plan pm_plan cd_plan ct_plan oc_is_plan kV_is_plan dc_is_plan pm_is_plan cd_is_plan ct_is_plan oc__law_draw kV__law_draw dc__law_draw pm__law_draw cd__law_draw ct__law_draw oc__law_three_right kV__law_three_right dc__law_three_right pm__law_three_right cd__law_three_right ct__law_three_right oc__law_rows_right kV__law_rows_right dc__law_rows_right pm__law_rows_right cd__law_rows_right ct__law_rows_right oc_law kV_law dc_law pm_law cd_law ct_law : Value}
    {tk_MOST_CANDLES tk_MOST_WAX tk_MOST_DRAUGHTS tk_STRONGEST : Tok}
    (a_counted : PySem.W.nsIn K mainGlobals "counted" = some (some (.ref f_counted))) (l_counted : K.lookup f_counted = some ⟨oc_counted, od_counted, .func (PySem.W.fnOf "counted" "counted" (defArgs s_counted) (defBody s_counted) (defScope s_counted) .none kV_counted dc_counted pm_counted an_counted cd_counted ct_counted), sl_counted⟩) (c_counted : PySem.W.codeIn K cd_counted "counted" = true) (k_counted : PySem.W.keepIn K (.ref f_counted) = true)
    (a_wanted : PySem.W.nsIn K mainGlobals "wanted" = some (some (.ref f_wanted))) (l_wanted : K.lookup f_wanted = some ⟨oc_wanted, od_wanted, .func (PySem.W.fnOf "wanted" "wanted" (defArgs s_wanted) (defBody s_wanted) (defScope s_wanted) .none kV_wanted dc_wanted pm_wanted an_wanted cd_wanted ct_wanted), sl_wanted⟩) (c_wanted : PySem.W.codeIn K cd_wanted "wanted" = true) (k_wanted : PySem.W.keepIn K (.ref f_wanted) = true)
    (a_spares : PySem.W.nsIn K mainGlobals "spares" = some (some (.ref f_spares))) (l_spares : K.lookup f_spares = some ⟨oc_spares, od_spares, .func (PySem.W.fnOf "spares" "spares" (defArgs s_spares) (defBody s_spares) (defScope s_spares) .none kV_spares dc_spares pm_spares an_spares cd_spares ct_spares), sl_spares⟩) (c_spares : PySem.W.codeIn K cd_spares "spares" = true) (k_spares : PySem.W.keepIn K (.ref f_spares) = true)
    (a_can_keep : PySem.W.nsIn K mainGlobals "can_keep" = some (some (.ref f_can_keep))) (l_can_keep : K.lookup f_can_keep = some ⟨oc_can_keep, od_can_keep, .func (PySem.W.fnOf "can_keep" "can_keep" (defArgs s_can_keep) (defBody s_can_keep) (defScope s_can_keep) .none kV_can_keep dc_can_keep pm_can_keep an_can_keep cd_can_keep ct_can_keep), sl_can_keep⟩) (c_can_keep : PySem.W.codeIn K cd_can_keep "can_keep" = true) (k_can_keep : PySem.W.keepIn K (.ref f_can_keep) = true)
    (a_fails_at : PySem.W.nsIn K mainGlobals "fails_at" = some (some (.ref f_fails_at))) (l_fails_at : K.lookup f_fails_at = some ⟨oc_fails_at, od_fails_at, .func (PySem.W.fnOf "fails_at" "fails_at" (defArgs s_fails_at) (defBody s_fails_at) (defScope s_fails_at) .none kV_fails_at dc_fails_at pm_fails_at an_fails_at cd_fails_at ct_fails_at), sl_fails_at⟩) (c_fails_at : PySem.W.codeIn K cd_fails_at "fails_at" = true) (k_fails_at : PySem.W.keepIn K (.ref f_fails_at) = true)
    (a_longest : PySem.W.nsIn K mainGlobals "longest" = some (some (.ref f_longest))) (l_longest : K.lookup f_longest = some ⟨oc_longest, od_longest, .func (PySem.W.fnOf "longest" "longest" (defArgs s_longest) (defBody s_longest) (defScope s_longest) .none kV_longest dc_longest pm_longest an_longest cd_longest ct_longest), sl_longest⟩) (c_longest : PySem.W.codeIn K cd_longest "longest" = true) (k_longest : PySem.W.keepIn K (.ref f_longest) = true)
    (a_strongest : PySem.W.nsIn K mainGlobals "strongest" = some (some (.ref f_strongest))) (l_strongest : K.lookup f_strongest = some ⟨oc_strongest, od_strongest, .func (PySem.W.fnOf "strongest" "strongest" (defArgs s_strongest) (defBody s_strongest) (defScope s_strongest) .none kV_strongest dc_strongest pm_strongest an_strongest cd_strongest ct_strongest), sl_strongest⟩) (c_strongest : PySem.W.codeIn K cd_strongest "strongest" = true) (k_strongest : PySem.W.keepIn K (.ref f_strongest) = true)
    (a_stubs : PySem.W.nsIn K mainGlobals "stubs" = some (some (.ref f_stubs))) (l_stubs : K.lookup f_stubs = some ⟨oc_stubs, od_stubs, .func (PySem.W.fnOf "stubs" "stubs" (defArgs s_stubs) (defBody s_stubs) (defScope s_stubs) .none kV_stubs dc_stubs pm_stubs an_stubs cd_stubs ct_stubs), sl_stubs⟩) (c_stubs : PySem.W.codeIn K cd_stubs "stubs" = true) (k_stubs : PySem.W.keepIn K (.ref f_stubs) = true)
    (a_one_more : PySem.W.nsIn K mainGlobals "one_more" = some (some (.ref f_one_more))) (l_one_more : K.lookup f_one_more = some ⟨oc_one_more, od_one_more, .func (PySem.W.fnOf "one_more" "one_more" (defArgs s_one_more) (defBody s_one_more) (defScope s_one_more) .none kV_one_more dc_one_more pm_one_more an_one_more cd_one_more ct_one_more), sl_one_more⟩) (c_one_more : PySem.W.codeIn K cd_one_more "one_more" = true) (k_one_more : PySem.W.keepIn K (.ref f_one_more) = true)
    (a_lotsN : PySem.W.nsIn K mainGlobals "lots_needs" = some (some (.ref f_lotsN))) (l_lotsN : K.lookup f_lotsN = some ⟨oc_lotsN, od_lotsN, .func (PySem.W.fnOf "lots" "lots" (defArgs s_lotsN) (defBody s_lotsN) (defScope s_lotsN) .none kV_lotsN dc_lotsN pm_lotsN an_lotsN cd_lotsN ct_lotsN), sl_lotsN⟩) (c_lotsN : PySem.W.codeIn K cd_lotsN "lots" = true) (k_lotsN : PySem.W.keepIn K (.ref f_lotsN) = true)
    (a_spared : PySem.W.nsIn K mainGlobals "spared" = some (some (.ref f_spared))) (l_spared : K.lookup f_spared = some ⟨oc_spared, od_spared, .func (PySem.W.fnOf "spared" "spared" (defArgs s_spared) (defBody s_spared) (defScope s_spared) .none kV_spared dc_spared pm_spared an_spared cd_spared ct_spared), sl_spared⟩) (c_spared : PySem.W.codeIn K cd_spared "spared" = true) (k_spared : PySem.W.keepIn K (.ref f_spared) = true)
    (a_is_within : PySem.W.nsIn K mainGlobals "is_within" = some (some (.ref f_is_within))) (l_is_within : K.lookup f_is_within = some ⟨oc_is_within, od_is_within, .func (PySem.W.fnOf "is_within" "is_within" (defArgs s_is_within) (defBody s_is_within) (defScope s_is_within) .none kV_is_within dc_is_within pm_is_within an_is_within cd_is_within ct_is_within), sl_is_within⟩) (c_is_within : PySem.W.codeIn K cd_is_within "is_within" = true) (k_is_within : PySem.W.keepIn K (.ref f_is_within) = true)
    (a_are_candles : PySem.W.nsIn K mainGlobals "are_candles" = some (some (.ref f_are_candles))) (l_are_candles : K.lookup f_are_candles = some ⟨oc_are_candles, od_are_candles, .func (PySem.W.fnOf "are_candles" "are_candles" (defArgs s_are_candles) (defBody s_are_candles) (defScope s_are_candles) .none kV_are_candles dc_are_candles pm_are_candles an_are_candles cd_are_candles ct_are_candles), sl_are_candles⟩) (c_are_candles : PySem.W.codeIn K cd_are_candles "are_candles" = true) (k_are_candles : PySem.W.keepIn K (.ref f_are_candles) = true)
    (a_are_draughts : PySem.W.nsIn K mainGlobals "are_draughts" = some (some (.ref f_are_draughts))) (l_are_draughts : K.lookup f_are_draughts = some ⟨oc_are_draughts, od_are_draughts, .func (PySem.W.fnOf "are_draughts" "are_draughts" (defArgs s_are_draughts) (defBody s_are_draughts) (defScope s_are_draughts) .none kV_are_draughts dc_are_draughts pm_are_draughts an_are_draughts cd_are_draughts ct_are_draughts), sl_are_draughts⟩) (c_are_draughts : PySem.W.codeIn K cd_are_draughts "are_draughts" = true) (k_are_draughts : PySem.W.keepIn K (.ref f_are_draughts) = true)
    (a_are_places : PySem.W.nsIn K mainGlobals "are_places" = some (some (.ref f_are_places))) (l_are_places : K.lookup f_are_places = some ⟨oc_are_places, od_are_places, .func (PySem.W.fnOf "are_places" "are_places" (defArgs s_are_places) (defBody s_are_places) (defScope s_are_places) .none kV_are_places dc_are_places pm_are_places an_are_places cd_are_places ct_are_places), sl_are_places⟩) (c_are_places : PySem.W.codeIn K cd_are_places "are_places" = true) (k_are_places : PySem.W.keepIn K (.ref f_are_places) = true)
    (a_is_tick : PySem.W.nsIn K mainGlobals "is_tick" = some (some (.ref f_is_tick))) (l_is_tick : K.lookup f_is_tick = some ⟨oc_is_tick, od_is_tick, .func (PySem.W.fnOf "is_tick" "is_tick" (defArgs s_is_tick) (defBody s_is_tick) (defScope s_is_tick) .none kV_is_tick dc_is_tick pm_is_tick an_is_tick cd_is_tick ct_is_tick), sl_is_tick⟩) (c_is_tick : PySem.W.codeIn K cd_is_tick "is_tick" = true) (k_is_tick : PySem.W.keepIn K (.ref f_is_tick) = true)
    (a_burnt : PySem.W.nsIn K mainGlobals "burnt" = some (some (.ref f_burnt))) (l_burnt : K.lookup f_burnt = some ⟨oc_burnt, od_burnt, .func (PySem.W.fnOf "burnt" "burnt" (defArgs s_burnt) (defBody s_burnt) (defScope s_burnt) .none kV_burnt dc_burnt pm_burnt an_burnt cd_burnt ct_burnt), sl_burnt⟩) (c_burnt : PySem.W.codeIn K cd_burnt "burnt" = true) (k_burnt : PySem.W.keepIn K (.ref f_burnt) = true)
    (a_is_row : PySem.W.nsIn K mainGlobals "is_row" = some (some (.ref f_is_row))) (l_is_row : K.lookup f_is_row = some ⟨oc_is_row, od_is_row, .func (PySem.W.fnOf "is_row" "is_row" (defArgs s_is_row) (defBody s_is_row) (defScope s_is_row) .none kV_is_row dc_is_row pm_is_row an_is_row cd_is_row ct_is_row), sl_is_row⟩) (c_is_row : PySem.W.codeIn K cd_is_row "is_row" = true) (k_is_row : PySem.W.keepIn K (.ref f_is_row) = true)
    (a_behind : PySem.W.nsIn K mainGlobals "behind" = some (some (.ref f_behind))) (l_behind : K.lookup f_behind = some ⟨oc_behind, od_behind, .func (PySem.W.fnOf "behind" "behind" (defArgs s_behind) (defBody s_behind) (defScope s_behind) .none kV_behind dc_behind pm_behind an_behind cd_behind ct_behind), sl_behind⟩) (c_behind : PySem.W.codeIn K cd_behind "behind" = true) (k_behind : PySem.W.keepIn K (.ref f_behind) = true)
    (a_lights : PySem.W.nsIn K mainGlobals "lights" = some (some (.ref f_lights))) (l_lights : K.lookup f_lights = some ⟨oc_lights, od_lights, .func (PySem.W.fnOf "lights" "lights" (defArgs s_lights) (defBody s_lights) (defScope s_lights) .none kV_lights dc_lights pm_lights an_lights cd_lights ct_lights), sl_lights⟩) (c_lights : PySem.W.codeIn K cd_lights "lights" = true) (k_lights : PySem.W.keepIn K (.ref f_lights) = true)
    (a_lotsK : PySem.W.nsIn K mainGlobals "lots_keepers" = some (some (.ref f_lotsK))) (l_lotsK : K.lookup f_lotsK = some ⟨oc_lotsK, od_lotsK, .func (PySem.W.fnOf "lots" "lots" (defArgs s_lotsK) (defBody s_lotsK) (defScope s_lotsK) .none kV_lotsK dc_lotsK pm_lotsK an_lotsK cd_lotsK ct_lotsK), sl_lotsK⟩) (c_lotsK : PySem.W.codeIn K cd_lotsK "lots" = true) (k_lotsK : PySem.W.keepIn K (.ref f_lotsK) = true)
    (a_kept : PySem.W.nsIn K mainGlobals "kept" = some (some (.ref f_kept))) (l_kept : K.lookup f_kept = some ⟨oc_kept, od_kept, .func (PySem.W.fnOf "kept" "kept" (defArgs s_kept) (defBody s_kept) (defScope s_kept) .none kV_kept dc_kept pm_kept an_kept cd_kept ct_kept), sl_kept⟩) (c_kept : PySem.W.codeIn K cd_kept "kept" = true) (k_kept : PySem.W.keepIn K (.ref f_kept) = true)
    (a_plan : PySem.W.nsIn K mainGlobals "plan" = some (some (.ref f_plan))) (l_plan : K.lookup f_plan = some ⟨oc_plan, od_plan, .func (PySem.W.fnOf "plan" "plan" (defArgs s_plan) (defBody s_plan) (defScope s_plan) .none kV_plan dc_plan pm_plan an_plan cd_plan ct_plan), sl_plan⟩) (c_plan : PySem.W.codeIn K cd_plan "plan" = true) (k_plan : PySem.W.keepIn K (.ref f_plan) = true)
    (a_is_plan : PySem.W.nsIn K mainGlobals "is_plan" = some (some (.ref f_is_plan))) (l_is_plan : K.lookup f_is_plan = some ⟨oc_is_plan, od_is_plan, .func (PySem.W.fnOf "is_plan" "is_plan" (defArgs s_is_plan) (defBody s_is_plan) (defScope s_is_plan) .none kV_is_plan dc_is_plan pm_is_plan an_is_plan cd_is_plan ct_is_plan), sl_is_plan⟩) (c_is_plan : PySem.W.codeIn K cd_is_plan "is_plan" = true) (k_is_plan : PySem.W.keepIn K (.ref f_is_plan) = true)
    (a__law_draw : PySem.W.nsIn K mainGlobals "_law_draw" = some (some (.ref f__law_draw))) (l__law_draw : K.lookup f__law_draw = some ⟨oc__law_draw, od__law_draw, .func (PySem.W.fnOf "_law_draw" "_law_draw" (defArgs s__law_draw) (defBody s__law_draw) (defScope s__law_draw) .none kV__law_draw dc__law_draw pm__law_draw an__law_draw cd__law_draw ct__law_draw), sl__law_draw⟩) (c__law_draw : PySem.W.codeIn K cd__law_draw "_law_draw" = true) (k__law_draw : PySem.W.keepIn K (.ref f__law_draw) = true)
    (a__law_three_right : PySem.W.nsIn K mainGlobals "_law_three_right" = some (some (.ref f__law_three_right))) (l__law_three_right : K.lookup f__law_three_right = some ⟨oc__law_three_right, od__law_three_right, .func (PySem.W.fnOf "_law_three_right" "_law_three_right" (defArgs s__law_three_right) (defBody s__law_three_right) (defScope s__law_three_right) .none kV__law_three_right dc__law_three_right pm__law_three_right an__law_three_right cd__law_three_right ct__law_three_right), sl__law_three_right⟩) (c__law_three_right : PySem.W.codeIn K cd__law_three_right "_law_three_right" = true) (k__law_three_right : PySem.W.keepIn K (.ref f__law_three_right) = true)
    (a__law_rows_right : PySem.W.nsIn K mainGlobals "_law_rows_right" = some (some (.ref f__law_rows_right))) (l__law_rows_right : K.lookup f__law_rows_right = some ⟨oc__law_rows_right, od__law_rows_right, .func (PySem.W.fnOf "_law_rows_right" "_law_rows_right" (defArgs s__law_rows_right) (defBody s__law_rows_right) (defScope s__law_rows_right) .none kV__law_rows_right dc__law_rows_right pm__law_rows_right an__law_rows_right cd__law_rows_right ct__law_rows_right), sl__law_rows_right⟩) (c__law_rows_right : PySem.W.codeIn K cd__law_rows_right "_law_rows_right" = true) (k__law_rows_right : PySem.W.keepIn K (.ref f__law_rows_right) = true)
    (a_law : PySem.W.nsIn K mainGlobals "law" = some (some (.ref f_law))) (l_law : K.lookup f_law = some ⟨oc_law, od_law, .func (PySem.W.fnOf "law" "law" (defArgs s_law) (defBody s_law) (defScope s_law) .none kV_law dc_law pm_law an_law cd_law ct_law), sl_law⟩) (c_law : PySem.W.codeIn K cd_law "law" = true) (k_law : PySem.W.keepIn K (.ref f_law) = true)
    (v_MOST_CANDLES : PySem.W.nsIn K mainGlobals "MOST_CANDLES" = some (some (.int 8 tk_MOST_CANDLES)))
    (v_MOST_WAX : PySem.W.nsIn K mainGlobals "MOST_WAX" = some (some (.int 12 tk_MOST_WAX)))
    (v_MOST_DRAUGHTS : PySem.W.nsIn K mainGlobals "MOST_DRAUGHTS" = some (some (.int 10 tk_MOST_DRAUGHTS)))
    (v_STRONGEST : PySem.W.nsIn K mainGlobals "STRONGEST" = some (some (.int 7 tk_STRONGEST)))
    (z_len : PySem.W.nsIn K mainGlobals "len" = some none)
    (z_sum : PySem.W.nsIn K mainGlobals "sum" = some none)
    (z_all : PySem.W.nsIn K mainGlobals "all" = some none)
    (z_any : PySem.W.nsIn K mainGlobals "any" = some none)
    (z_sorted : PySem.W.nsIn K mainGlobals "sorted" = some none)
    (z_tuple : PySem.W.nsIn K mainGlobals "tuple" = some none)
    (z_list : PySem.W.nsIn K mainGlobals "list" = some none)
    (z_int : PySem.W.nsIn K mainGlobals "int" = some none)
    (z_bool : PySem.W.nsIn K mainGlobals "bool" = some none)
    (z_str : PySem.W.nsIn K mainGlobals "str" = some none)
    (z_isinstance : PySem.W.nsIn K mainGlobals "isinstance" = some none)
    (z_max : PySem.W.nsIn K mainGlobals "max" = some none)
    (z_min : PySem.W.nsIn K mainGlobals "min" = some none)
    (z_range : PySem.W.nsIn K mainGlobals "range" = some none)
    (z_enumerate : PySem.W.nsIn K mainGlobals "enumerate" = some none)
    (z_zip : PySem.W.nsIn K mainGlobals "zip" = some none)
    : ∃ fd : FuncData, (∀ (s : Shared) (v : Value), BindsTo s fd ⟨[v], []⟩ [("script", v)]) ∧ ∀ base : Heap, K.In base → base.Ns mainGlobals mg → FnOk l.prog w K mg base CX0 6 fa fd ["script"] (spLaw K) := by
  have e := hfa.symm.trans (PySem.W.mg_of X G a_law)
  cases e
  have T : Bl mg := ⟨PySem.W.mg_none_of X G z_len, PySem.W.mg_none_of X G z_sum, PySem.W.mg_none_of X G z_all, PySem.W.mg_none_of X G z_any, PySem.W.mg_none_of X G z_sorted, PySem.W.mg_none_of X G z_tuple, PySem.W.mg_none_of X G z_list, PySem.W.mg_none_of X G z_int, PySem.W.mg_none_of X G z_bool, PySem.W.mg_none_of X G z_str, PySem.W.mg_none_of X G z_isinstance, PySem.W.mg_none_of X G z_max, PySem.W.mg_none_of X G z_min, PySem.W.mg_none_of X G z_range, PySem.W.mg_none_of X G z_enumerate, PySem.W.mg_none_of X G z_zip⟩
  have C : Cs mg := ⟨⟨_, PySem.W.mg_of X G v_MOST_CANDLES⟩, ⟨_, PySem.W.mg_of X G v_MOST_WAX⟩, ⟨_, PySem.W.mg_of X G v_MOST_DRAUGHTS⟩, ⟨_, PySem.W.mg_of X G v_STRONGEST⟩⟩
  have F_counted := fun_mk (st := s_counted) l_counted c_counted k_counted
  have D_counted : FnAt K mg "counted" "counted" s_counted ["candles", "ticks"] f_counted _ := ⟨F_counted, F_counted.binds (ps := ["candles", "ticks"]) (fun _ _ _ _ _ _ us hl => match us, hl with | [_, _], _ => rfl), PySem.W.mg_of X G a_counted⟩
  have F_wanted := fun_mk (st := s_wanted) l_wanted c_wanted k_wanted
  have D_wanted : FnAt K mg "wanted" "wanted" s_wanted ["draughts", "ticks"] f_wanted _ := ⟨F_wanted, F_wanted.binds (ps := ["draughts", "ticks"]) (fun _ _ _ _ _ _ us hl => match us, hl with | [_, _], _ => rfl), PySem.W.mg_of X G a_wanted⟩
  have F_spares := fun_mk (st := s_spares) l_spares c_spares k_spares
  have D_spares : FnAt K mg "spares" "spares" s_spares ["candles", "draughts"] f_spares _ := ⟨F_spares, F_spares.binds (ps := ["candles", "draughts"]) (fun _ _ _ _ _ _ us hl => match us, hl with | [_, _], _ => rfl), PySem.W.mg_of X G a_spares⟩
  have F_can_keep := fun_mk (st := s_can_keep) l_can_keep c_can_keep k_can_keep
  have D_can_keep : FnAt K mg "can_keep" "can_keep" s_can_keep ["candles", "draughts"] f_can_keep _ := ⟨F_can_keep, F_can_keep.binds (ps := ["candles", "draughts"]) (fun _ _ _ _ _ _ us hl => match us, hl with | [_, _], _ => rfl), PySem.W.mg_of X G a_can_keep⟩
  have F_fails_at := fun_mk (st := s_fails_at) l_fails_at c_fails_at k_fails_at
  have D_fails_at : FnAt K mg "fails_at" "fails_at" s_fails_at ["candles", "draughts"] f_fails_at _ := ⟨F_fails_at, F_fails_at.binds (ps := ["candles", "draughts"]) (fun _ _ _ _ _ _ us hl => match us, hl with | [_, _], _ => rfl), PySem.W.mg_of X G a_fails_at⟩
  have F_longest := fun_mk (st := s_longest) l_longest c_longest k_longest
  have D_longest : FnAt K mg "longest" "longest" s_longest ["candles", "draught"] f_longest _ := ⟨F_longest, F_longest.binds (ps := ["candles", "draught"]) (fun _ _ _ _ _ _ us hl => match us, hl with | [_, _], _ => rfl), PySem.W.mg_of X G a_longest⟩
  have F_strongest := fun_mk (st := s_strongest) l_strongest c_strongest k_strongest
  have D_strongest : FnAt K mg "strongest" "strongest" s_strongest ["candles", "draughts"] f_strongest _ := ⟨F_strongest, F_strongest.binds (ps := ["candles", "draughts"]) (fun _ _ _ _ _ _ us hl => match us, hl with | [_, _], _ => rfl), PySem.W.mg_of X G a_strongest⟩
  have F_stubs := fun_mk (st := s_stubs) l_stubs c_stubs k_stubs
  have D_stubs : FnAt K mg "stubs" "stubs" s_stubs ["candles", "draughts"] f_stubs _ := ⟨F_stubs, F_stubs.binds (ps := ["candles", "draughts"]) (fun _ _ _ _ _ _ us hl => match us, hl with | [_, _], _ => rfl), PySem.W.mg_of X G a_stubs⟩
  have F_one_more := fun_mk (st := s_one_more) l_one_more c_one_more k_one_more
  have D_one_more : FnAt K mg "one_more" "one_more" s_one_more ["candles", "draughts"] f_one_more _ := ⟨F_one_more, F_one_more.binds (ps := ["candles", "draughts"]) (fun _ _ _ _ _ _ us hl => match us, hl with | [_, _], _ => rfl), PySem.W.mg_of X G a_one_more⟩
  have F_lotsN := fun_mk (st := s_lotsN) l_lotsN c_lotsN k_lotsN
  have D_lotsN : FnAt K mg "lots_needs" "lots" s_lotsN ["many"] f_lotsN _ := ⟨F_lotsN, F_lotsN.binds (ps := ["many"]) (fun _ _ _ _ _ _ us hl => match us, hl with | [_], _ => rfl), PySem.W.mg_of X G a_lotsN⟩
  have F_spared := fun_mk (st := s_spared) l_spared c_spared k_spared
  have D_spared : FnAt K mg "spared" "spared" s_spared ["candles", "draughts"] f_spared _ := ⟨F_spared, F_spared.binds (ps := ["candles", "draughts"]) (fun _ _ _ _ _ _ us hl => match us, hl with | [_, _], _ => rfl), PySem.W.mg_of X G a_spared⟩
  have F_is_within := fun_mk (st := s_is_within) l_is_within c_is_within k_is_within
  have D_is_within : FnAt K mg "is_within" "is_within" s_is_within ["thing", "low", "high"] f_is_within _ := ⟨F_is_within, F_is_within.binds (ps := ["thing", "low", "high"]) (fun _ _ _ _ _ _ us hl => match us, hl with | [_, _, _], _ => rfl), PySem.W.mg_of X G a_is_within⟩
  have F_are_candles := fun_mk (st := s_are_candles) l_are_candles c_are_candles k_are_candles
  have D_are_candles : FnAt K mg "are_candles" "are_candles" s_are_candles ["thing"] f_are_candles _ := ⟨F_are_candles, F_are_candles.binds (ps := ["thing"]) (fun _ _ _ _ _ _ us hl => match us, hl with | [_], _ => rfl), PySem.W.mg_of X G a_are_candles⟩
  have F_are_draughts := fun_mk (st := s_are_draughts) l_are_draughts c_are_draughts k_are_draughts
  have D_are_draughts : FnAt K mg "are_draughts" "are_draughts" s_are_draughts ["thing"] f_are_draughts _ := ⟨F_are_draughts, F_are_draughts.binds (ps := ["thing"]) (fun _ _ _ _ _ _ us hl => match us, hl with | [_], _ => rfl), PySem.W.mg_of X G a_are_draughts⟩
  have F_are_places := fun_mk (st := s_are_places) l_are_places c_are_places k_are_places
  have D_are_places : FnAt K mg "are_places" "are_places" s_are_places ["candles", "thing"] f_are_places _ := ⟨F_are_places, F_are_places.binds (ps := ["candles", "thing"]) (fun _ _ _ _ _ _ us hl => match us, hl with | [_, _], _ => rfl), PySem.W.mg_of X G a_are_places⟩
  have F_is_tick := fun_mk (st := s_is_tick) l_is_tick c_is_tick k_is_tick
  have D_is_tick : FnAt K mg "is_tick" "is_tick" s_is_tick ["candles", "draught", "thing"] f_is_tick _ := ⟨F_is_tick, F_is_tick.binds (ps := ["candles", "draught", "thing"]) (fun _ _ _ _ _ _ us hl => match us, hl with | [_, _, _], _ => rfl), PySem.W.mg_of X G a_is_tick⟩
  have F_burnt := fun_mk (st := s_burnt) l_burnt c_burnt k_burnt
  have D_burnt : FnAt K mg "burnt" "burnt" s_burnt ["candles", "lit", "out"] f_burnt _ := ⟨F_burnt, F_burnt.binds (ps := ["candles", "lit", "out"]) (fun _ _ _ _ _ _ us hl => match us, hl with | [_, _, _], _ => rfl), PySem.W.mg_of X G a_burnt⟩
  have F_is_row := fun_mk (st := s_is_row) l_is_row c_is_row k_is_row
  have D_is_row : FnAt K mg "is_row" "is_row" s_is_row ["candles", "draughts", "thing"] f_is_row _ := ⟨F_is_row, F_is_row.binds (ps := ["candles", "draughts", "thing"]) (fun _ _ _ _ _ _ us hl => match us, hl with | [_, _, _], _ => rfl), PySem.W.mg_of X G a_is_row⟩
  have F_behind := fun_mk (st := s_behind) l_behind c_behind k_behind
  have D_behind : FnAt K mg "behind" "behind" s_behind ["candles", "draughts", "row"] f_behind _ := ⟨F_behind, F_behind.binds (ps := ["candles", "draughts", "row"]) (fun _ _ _ _ _ _ us hl => match us, hl with | [_, _, _], _ => rfl), PySem.W.mg_of X G a_behind⟩
  have F_lights := fun_mk (st := s_lights) l_lights c_lights k_lights
  have D_lights : FnAt K mg "lights" "lights" s_lights ["candles", "draught"] f_lights _ := ⟨F_lights, F_lights.binds (ps := ["candles", "draught"]) (fun _ _ _ _ _ _ us hl => match us, hl with | [_, _], _ => rfl), PySem.W.mg_of X G a_lights⟩
  have F_lotsK := fun_mk (st := s_lotsK) l_lotsK c_lotsK k_lotsK
  have D_lotsK : FnAt K mg "lots_keepers" "lots" s_lotsK ["candles", "draughts"] f_lotsK _ := ⟨F_lotsK, F_lotsK.binds (ps := ["candles", "draughts"]) (fun _ _ _ _ _ _ us hl => match us, hl with | [_, _], _ => rfl), PySem.W.mg_of X G a_lotsK⟩
  have F_kept := fun_mk (st := s_kept) l_kept c_kept k_kept
  have D_kept : FnAt K mg "kept" "kept" s_kept ["candles", "draughts"] f_kept _ := ⟨F_kept, F_kept.binds (ps := ["candles", "draughts"]) (fun _ _ _ _ _ _ us hl => match us, hl with | [_, _], _ => rfl), PySem.W.mg_of X G a_kept⟩
  have F_plan := fun_mk (st := s_plan) l_plan c_plan k_plan
  have D_plan : FnAt K mg "plan" "plan" s_plan ["candles", "draughts"] f_plan _ := ⟨F_plan, F_plan.binds (ps := ["candles", "draughts"]) (fun _ _ _ _ _ _ us hl => match us, hl with | [_, _], _ => rfl), PySem.W.mg_of X G a_plan⟩
  have F_is_plan := fun_mk (st := s_is_plan) l_is_plan c_is_plan k_is_plan
  have D_is_plan : FnAt K mg "is_plan" "is_plan" s_is_plan ["candles", "draughts", "thing"] f_is_plan _ := ⟨F_is_plan, F_is_plan.binds (ps := ["candles", "draughts", "thing"]) (fun _ _ _ _ _ _ us hl => match us, hl with | [_, _, _], _ => rfl), PySem.W.mg_of X G a_is_plan⟩
  have F__law_draw := fun_mk (st := s__law_draw) l__law_draw c__law_draw k__law_draw
  have D__law_draw : FnAt K mg "_law_draw" "_law_draw" s__law_draw ["tape", "many"] f__law_draw _ := ⟨F__law_draw, F__law_draw.binds (ps := ["tape", "many"]) (fun _ _ _ _ _ _ us hl => match us, hl with | [_, _], _ => rfl), PySem.W.mg_of X G a__law_draw⟩
  have F__law_three_right := fun_mk (st := s__law_three_right) l__law_three_right c__law_three_right k__law_three_right
  have D__law_three_right : FnAt K mg "_law_three_right" "_law_three_right" s__law_three_right [] f__law_three_right _ := ⟨F__law_three_right, F__law_three_right.binds (ps := []) (fun _ _ _ _ _ _ us hl => match us, hl with | [], _ => rfl), PySem.W.mg_of X G a__law_three_right⟩
  have F__law_rows_right := fun_mk (st := s__law_rows_right) l__law_rows_right c__law_rows_right k__law_rows_right
  have D__law_rows_right : FnAt K mg "_law_rows_right" "_law_rows_right" s__law_rows_right [] f__law_rows_right _ := ⟨F__law_rows_right, F__law_rows_right.binds (ps := []) (fun _ _ _ _ _ _ us hl => match us, hl with | [], _ => rfl), PySem.W.mg_of X G a__law_rows_right⟩
  have F_law := fun_mk (st := s_law) l_law c_law k_law
  exact ⟨PySem.W.fnOf "law" "law" (defArgs s_law) (defBody s_law) (defScope s_law) .none kV_law dc_law pm_law an_law cd_law ct_law, fun s v => .of_eq rfl, fun base _ _ => ok_law T C F_law D_counted D_wanted D_spares D_can_keep D_fails_at D_longest D_strongest D_stubs D_one_more D_lotsN D_spared D_is_within D_are_candles D_are_draughts D_are_places D_is_tick D_burnt D_is_row D_behind D_lights D_lotsK D_kept D_plan D_is_plan D__law_draw D__law_three_right D__law_rows_right⟩
end LF
open PySem PySem.W PyProof.Rows
set_option maxHeartbeats 0 in
theorem PySem.Challenge.cw_lastflame_k11_written_cases_and_names_holds : PySem.Challenge.rw_lastflame_k11_written_cases_and_names.Holds := by
  w_on; o_law; k_head; (case hw => w_witness2)
  k_fill
  refine L2.walk_of (l := PySem.Challenge.rw_lastflame_k11_written_cases_and_names) (n := 63) (k := 6) (x := "script") (CX := fun _ => L2.CX0) (sp := fun w => LF.spLaw _) rfl (by decide) rfl ⟨rfl, by decide, by decide⟩ (fun w h Y => PySem.W.kIn_of Y) ?F (fun _ _ a ns hl _ hS => ⟨a, ns, rfl, hS, hl, fun _ => rfl⟩) (fun _ _ _ _ _ h => h)
  case F =>
    intro w mg fa h KX G hmg
    refine' LF.all_mk KX G hmg ?a_counted ?l_counted ?c_counted ?k_counted ?a_wanted ?l_wanted ?c_wanted ?k_wanted ?a_spares ?l_spares ?c_spares ?k_spares ?a_can_keep ?l_can_keep ?c_can_keep ?k_can_keep ?a_fails_at ?l_fails_at ?c_fails_at ?k_fails_at ?a_longest ?l_longest ?c_longest ?k_longest ?a_strongest ?l_strongest ?c_strongest ?k_strongest ?a_stubs ?l_stubs ?c_stubs ?k_stubs ?a_one_more ?l_one_more ?c_one_more ?k_one_more ?a_lotsN ?l_lotsN ?c_lotsN ?k_lotsN ?a_spared ?l_spared ?c_spared ?k_spared ?a_is_within ?l_is_within ?c_is_within ?k_is_within ?a_are_candles ?l_are_candles ?c_are_candles ?k_are_candles ?a_are_draughts ?l_are_draughts ?c_are_draughts ?k_are_draughts ?a_are_places ?l_are_places ?c_are_places ?k_are_places ?a_is_tick ?l_is_tick ?c_is_tick ?k_is_tick ?a_burnt ?l_burnt ?c_burnt ?k_burnt ?a_is_row ?l_is_row ?c_is_row ?k_is_row ?a_behind ?l_behind ?c_behind ?k_behind ?a_lights ?l_lights ?c_lights ?k_lights ?a_lotsK ?l_lotsK ?c_lotsK ?k_lotsK ?a_kept ?l_kept ?c_kept ?k_kept ?a_plan ?l_plan ?c_plan ?k_plan ?a_is_plan ?l_is_plan ?c_is_plan ?k_is_plan ?a__law_draw ?l__law_draw ?c__law_draw ?k__law_draw ?a__law_three_right ?l__law_three_right ?c__law_three_right ?k__law_three_right ?a__law_rows_right ?l__law_rows_right ?c__law_rows_right ?k__law_rows_right ?a_law ?l_law ?c_law ?k_law ?v_MOST_CANDLES ?v_MOST_WAX ?v_MOST_DRAUGHTS ?v_STRONGEST ?z_len ?z_sum ?z_all ?z_any ?z_sorted ?z_tuple ?z_list ?z_int ?z_bool ?z_str ?z_isinstance ?z_max ?z_min ?z_range ?z_enumerate ?z_zip
    (case a_counted => k_is)
    (case l_counted => k_is)
    (case c_counted => k_is)
    (case k_counted => k_is)
    (case a_wanted => k_is)
    (case l_wanted => k_is)
    (case c_wanted => k_is)
    (case k_wanted => k_is)
    (case a_spares => k_is)
    (case l_spares => k_is)
    (case c_spares => k_is)
    (case k_spares => k_is)
    (case a_can_keep => k_is)
    (case l_can_keep => k_is)
    (case c_can_keep => k_is)
    (case k_can_keep => k_is)
    (case a_fails_at => k_is)
    (case l_fails_at => k_is)
    (case c_fails_at => k_is)
    (case k_fails_at => k_is)
    (case a_longest => k_is)
    (case l_longest => k_is)
    (case c_longest => k_is)
    (case k_longest => k_is)
    (case a_strongest => k_is)
    (case l_strongest => k_is)
    (case c_strongest => k_is)
    (case k_strongest => k_is)
    (case a_stubs => k_is)
    (case l_stubs => k_is)
    (case c_stubs => k_is)
    (case k_stubs => k_is)
    (case a_one_more => k_is)
    (case l_one_more => k_is)
    (case c_one_more => k_is)
    (case k_one_more => k_is)
    (case a_lotsN => k_is)
    (case l_lotsN => k_is)
    (case c_lotsN => k_is)
    (case k_lotsN => k_is)
    (case a_spared => k_is)
    (case l_spared => k_is)
    (case c_spared => k_is)
    (case k_spared => k_is)
    (case a_is_within => k_is)
    (case l_is_within => k_is)
    (case c_is_within => k_is)
    (case k_is_within => k_is)
    (case a_are_candles => k_is)
    (case l_are_candles => k_is)
    (case c_are_candles => k_is)
    (case k_are_candles => k_is)
    (case a_are_draughts => k_is)
    (case l_are_draughts => k_is)
    (case c_are_draughts => k_is)
    (case k_are_draughts => k_is)
    (case a_are_places => k_is)
    (case l_are_places => k_is)
    (case c_are_places => k_is)
    (case k_are_places => k_is)
    (case a_is_tick => k_is)
    (case l_is_tick => k_is)
    (case c_is_tick => k_is)
    (case k_is_tick => k_is)
    (case a_burnt => k_is)
    (case l_burnt => k_is)
    (case c_burnt => k_is)
    (case k_burnt => k_is)
    (case a_is_row => k_is)
    (case l_is_row => k_is)
    (case c_is_row => k_is)
    (case k_is_row => k_is)
    (case a_behind => k_is)
    (case l_behind => k_is)
    (case c_behind => k_is)
    (case k_behind => k_is)
    (case a_lights => k_is)
    (case l_lights => k_is)
    (case c_lights => k_is)
    (case k_lights => k_is)
    (case a_lotsK => k_is)
    (case l_lotsK => k_is)
    (case c_lotsK => k_is)
    (case k_lotsK => k_is)
    (case a_kept => k_is)
    (case l_kept => k_is)
    (case c_kept => k_is)
    (case k_kept => k_is)
    (case a_plan => k_is)
    (case l_plan => k_is)
    (case c_plan => k_is)
    (case k_plan => k_is)
    (case a_is_plan => k_is)
    (case l_is_plan => k_is)
    (case c_is_plan => k_is)
    (case k_is_plan => k_is)
    (case a__law_draw => k_is)
    (case l__law_draw => k_is)
    (case c__law_draw => k_is)
    (case k__law_draw => k_is)
    (case a__law_three_right => k_is)
    (case l__law_three_right => k_is)
    (case c__law_three_right => k_is)
    (case k__law_three_right => k_is)
    (case a__law_rows_right => k_is)
    (case l__law_rows_right => k_is)
    (case c__law_rows_right => k_is)
    (case k__law_rows_right => k_is)
    (case a_law => k_is)
    (case l_law => k_is)
    (case c_law => k_is)
    (case k_law => k_is)
    (case v_MOST_CANDLES => k_is)
    (case v_MOST_WAX => k_is)
    (case v_MOST_DRAUGHTS => k_is)
    (case v_STRONGEST => k_is)
    (case z_len => k_is)
    (case z_sum => k_is)
    (case z_all => k_is)
    (case z_any => k_is)
    (case z_sorted => k_is)
    (case z_tuple => k_is)
    (case z_list => k_is)
    (case z_int => k_is)
    (case z_bool => k_is)
    (case z_str => k_is)
    (case z_isinstance => k_is)
    (case z_max => k_is)
    (case z_min => k_is)
    (case z_range => k_is)
    (case z_enumerate => k_is)
    (case z_zip => k_is)

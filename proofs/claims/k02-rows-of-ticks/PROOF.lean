import PyProof.Rows.All
import Wide.All
import OpenK.AllK
import Wide.FinOn
import KE.GoesEnum
import KE.DataMinMax
import HandS.ForMost
import HandS.IsInst
import HandS.TupAny
import HandS.TupMul
import HandS.Style
import HandS.SortInts
import HandS.SortRule
import HandS.Wide
import HandS.Walk
import HandS.More
import HandS.Codes
import HandS.Conv
import HandS.Defaults
import PySem.Challenge.RW_lastflame_k02_rows_of_ticks_judged
set_option Elab.async false
set_option linter.all false
set_option maxRecDepth 100000
set_option maxHeartbeats 4000000
/-! ### la_walks: enumerate and zip over lists and tuples in any mix; sum, sorted of tuples -/
namespace LF
open PySem PySem.Spec PyProof.Rows L2

def SqB (K : PySem.W.Frag) : Bool → Hp → Addr → List V → Prop
  | false => SqL K
  | true => SqT K
def IsItB : Bool → Heap → Addr → Addr → Nat → Prop
  | false => fun h it a i => h.IsListIter it a i
  | true => fun h it a i => h.IsTupleIter it a i
def IsSeqB : Bool → Heap → Addr → Array Value → Prop
  | false => fun h a items => h.IsList a items
  | true => fun h a items => h.IsTuple a items
def itObj (tp : Bool) (a : Addr) : Obj := { cls := .type (if tp then "tuple_iterator" else "list_iterator"), data := .fields #[.ref a, .int 0 0] }
theorem drawsB {prog : Program} {w : World} {A : Around} (hh : A.handled = none) (tp : Bool) (it l : Addr) (hne : l ≠ it) (items : Array Value) :
    Draws prog w A it [it, l] items.size (fun i v => items[i]? = some v) (fun i h => IsItB tp h it l i ∧ IsSeqB tp h l items) := by
  cases tp with
  | false => exact Draws.list hh it l hne items
  | true => exact Draws.tuple hh it l hne items
theorem beginsB (tp : Bool) (l : Addr) (items : Array Value) : Begins (.ref l) (itObj tp l) fun h => IsSeqB tp h l items := by
  cases tp with
  | false => exact begins_list l items
  | true => exact begins_tuple l items
theorem IsItB.obj {tp : Bool} {h : Heap} {it a : Addr} {i : Nat} (x : IsItB tp h it a i) : ∃ o : Obj, h.get? it = some o ∧ o.cls = .type (if tp then "tuple_iterator" else "list_iterator") ∧ ∃ vs, o.data = .fields vs := by
  cases tp with
  | false => obtain ⟨o, e, c, d⟩ := x; exact ⟨o, e, c, _, d⟩
  | true => obtain ⟨o, e, c, d⟩ := x; exact ⟨o, e, c, _, d⟩
theorem IsItB.at {tp : Bool} {h h' : Heap} {it a : Addr} {i : Nat} (x : IsItB tp h it a i) (k : ∀ o, h.get? it = some o → h'.get? it = some o) : IsItB tp h' it a i := by
  cases tp with
  | false => obtain ⟨o, e, c⟩ := x; exact ⟨o, k o e, c⟩
  | true => obtain ⟨o, e, c⟩ := x; exact ⟨o, k o e, c⟩
theorem IsSeqB.obj {tp : Bool} {h : Heap} {a : Addr} {items : Array Value} (x : IsSeqB tp h a items) : ∃ o : Obj, h.get? a = some o ∧ ∃ n, o.data = .seq items n := by
  cases tp with
  | false => obtain ⟨o, e, _, n, d⟩ := x; exact ⟨o, e, n, d⟩
  | true => obtain ⟨o, e, _, n, d⟩ := x; exact ⟨o, e, n, d⟩
theorem neB {tp : Bool} {h : Heap} {it a : Addr} {i : Nat} {items : Array Value} (x : IsItB tp h it a i) (y : IsSeqB tp h a items) : a ≠ it := fun e => by
  obtain ⟨o, e1, _, vs, d1⟩ := x.obj
  obtain ⟨o2, e2, n, d2⟩ := y.obj
  rw [e, e1] at e2
  cases e2
  rw [d1] at d2
  cases d2
theorem itB_new {tp : Bool} {h : Heap} {it a : Addr} (e : h.get? it = some (itObj tp a)) : IsItB tp h it a 0 := by
  cases tp with
  | false => exact ⟨_, e, rfl, rfl⟩
  | true => exact ⟨_, e, rfl, rfl⟩
section
variable {X : Cx} {pins : List (Addr × Obj)} {σ : L2.St} {H : Hp} {s : Shared} {a : Addr} {xs ys : List V}
theorem seqB (tp : Bool) (I : Inv X pins σ H s) (h : SqB X.K tp H a xs) : ∃ its : List Value, Vals xs its ∧ IsSeqB tp s.heap a its.toArray ∧ xs.length ≤ sizeLine := by
  cases tp with
  | false => obtain ⟨its, rv, p, z⟩ := I.list h; exact ⟨its, rv, p.isList, z⟩
  | true => obtain ⟨its, rv, p, z⟩ := I.tuple h; exact ⟨its, rv, p, z⟩
theorem seqB_inj {tp : Bool} (I : Inv X pins σ H s) (h : SqB X.K tp H a xs) (h' : SqB X.K tp H a ys) : xs = ys := by
  cases tp with
  | false => exact I.list_inj h h'
  | true => exact I.tuple_inj h h'
end
/-! enumerate -/
def IteB (K : PySem.W.Frag) (tp : Bool) (a : Addr) : It :=
  ⟨fun i H => ∃ (xs : List V) (x : V), SqB K tp H a xs ∧ xs[i]? = some x, fun i H v H' => ∃ T x, v = .ref T ∧ H T = none ∧ H' = upd H T (.tup [.int (i : Nat), x]) ∧ ∀ xs, SqB K tp H a xs → xs[i]? = some x, fun i H => ∃ xs : List V, SqB K tp H a xs ∧ xs.length = i⟩
theorem turn_enumB {P : Program} {w : World} {K : PySem.W.Frag} {elts : List Expr} {kk : Nat} {tpos : Pos} (tp : Bool) (a e it : Addr) :
    Turn P w K (.Tuple elts kk tpos) (IteB K tp a) [e, it] e (fun i h => (∃ old, IsEnum h e it ((i : Nat) : Int) old) ∧ IsItB tp h it a i ∧ e ≠ it) where
  mem := by simp
  obj := fun i h st b hb => by
    obtain ⟨⟨old, he⟩, hi, _⟩ := st
    obtain ⟨o, ho, _, vs, hd⟩ := hi.obj
    have e' : b = e ∨ b = it := by simpa using hb
    rcases e' with z | z
    · rw [z]; exact ⟨_, he, fun v q => nomatch q⟩
    · rw [z]; exact ⟨o, ho, fun v q => by rw [hd] at q; cases q⟩
  keep := fun i h h' st k => let ⟨⟨old, he⟩, hi, hne⟩ := st; ⟨⟨old, k e (by simp) _ he⟩, hi.at fun o q => k it (by simp) o q, hne⟩
  item := by
    intro X hP hw hK hc i pins s σ H E I hf st hg
    subst hP hw hK
    obtain ⟨⟨old, he⟩, hit, hne⟩ := st
    obtain ⟨xs, x, hq, hx⟩ := hg
    obtain ⟨its, rv, p, hz⟩ := seqB tp I hq
    obtain ⟨u, hu, ru⟩ := rv.get hx
    have hel : e < s.heap.objs.size := Heap.lt_size he
    have hil : it < s.heap.objs.size := by obtain ⟨_, q, _⟩ := hit.obj; exact Heap.lt_size q
    have hia : a ≠ it := neB hit p
    have hea : e ≠ a := fun z => by
      obtain ⟨o, ho, n, hd⟩ := p.obj
      rw [← z, he] at ho
      cases ho
      cases hd
    have hlt : i < its.toArray.size := by
      obtain ⟨h1, _⟩ := List.getElem?_eq_some_iff.mp hu
      simpa using h1
    refine wpAny_pyNext_enum_itemC (drawsB (A := X.A.in1) (I.ok.hd hc) tp it a hia its.toArray) he ⟨hit, p⟩ hlt hne (by simp [hne, hea]) fun u' h' tk hP ho hit' hT hsz hk => ?_
    have eu : u' = u := by
      have q : its.toArray[i]? = some u := by simpa using hu
      rw [q] at hP
      exact (Option.some.inj hP).symm
    subst eu
    refine ⟨_, rfl, wpAny_letOwnedTupleGo_enum (s := { s with heap := h', toks := tk + 1 }) ho fun h'' he' sb => ?_⟩
    have hT2 : h''.get? s.heap.objs.size = some { cls := .type "tuple", data := .seq #[.int i tk, u'] } := (sb.2 _ (Nat.ne_of_gt hel)).trans hT
    have new : ObjOk X.prog X.w (upd H s.heap.objs.size (.tup [.int (i : Nat), x])) h'' s.heap.objs.size (.tup [.int (i : Nat), x]) :=
      ⟨by show 2 ≤ sizeLine; decide, [.int i tk, u'], .cons ⟨_, rfl⟩ (.cons ru .nil), ⟨_, hT2, rfl, _, rfl⟩⟩
    have I1 : Inv X pins σ (upd H s.heap.objs.size (.tup [.int (i : Nat), x])) { s with heap := h'', toks := tk + 1 } :=
      I.turnedNew (ch := [e, it]) (fun b ob hb q => (sb.2 b (fun z => hb (by simp [z]))).trans (hk b ob (fun z => hb (by simp [z])) (fun z => hb (by simp [z])) q)) hf (Nat.le_refl _) new
    refine ⟨.ref s.heap.objs.size, _, I1, rfl, ⟨_, x, rfl, I.hok.fresh (Nat.le_refl _), rfl, fun ys hy => by rw [seqB_inj I hy hq]; exact hx⟩, ⟨⟨u', ?_⟩, hit'.1.at fun o q => (sb.2 it (Ne.symm hne)).trans q, hne⟩, fun b hb => ?_⟩
    · have e1 : ((i + 1 : Nat) : Int) = (i : Int) + 1 := by omega
      rw [e1]; exact he'
    · have hb' : b < s.heap.objs.size := by
        have e' : b = e ∨ b = it := by simpa using hb
        rcases e' with z | z
        · rw [z]; exact hel
        · rw [z]; exact hil
      rw [upd_ne (Nat.ne_of_lt hb')]
      exact (hf b hb).1
  done := by
    intro X hP hw hK hc i pins s σ H E I hf st hg
    subst hP hw hK
    obtain ⟨⟨old, he⟩, hit, hne⟩ := st
    obtain ⟨xs, hq, hx⟩ := hg
    obtain ⟨its, rv, p, hz⟩ := seqB tp I hq
    obtain ⟨f0, f1, f2, f3, f4, f5⟩ := hf it (by simp)
    have hl := rv.length
    have ei : i = its.toArray.size := by simp; omega
    have hia : a ≠ it := neB hit p
    exact wpAny_pyNext_enum_endD (drawsB (A := X.A.in1) (I.ok.hd hc) tp it a hia its.toArray) he (by rw [← ei]; exact ⟨hit, p⟩) fun h' eb => ⟨rfl, I.turned (t' := s.toks) (fun b o hb q => eb b o hb q) f0 f1 f3 f4 f5⟩
  self := fun A i s Q E st h => let ⟨⟨_, he⟩, _⟩ := st; wpAny_pyIter_enum he h
set_option maxHeartbeats 2000000 in
theorem meets_enum1 {v : Value} {o : Obj} {H : Heap → Prop} (B : Begins v o H) :
    Meets (Builtin.«enumerate.__new__» ⟨[.type "enumerate", v], []⟩) (fun _ R s => H s.heap ∧
      R (.ok (.ret (.ref (s.heap.push o).objs.size))) { s with heap := (s.heap.push o).push { cls := .type "enumerate", data := .fields #[.none, .bool false, .ref s.heap.objs.size, rawInt 0, .none, .none] } }) :=
  .of_wp fun prog w A R s h => by
    obtain ⟨hp, g, d, tk, os⟩ := s; obtain ⟨h1, h⟩ := h
    have hsub := sub_enumerate
    have q1 : ∀ {A' : Around} {E : Value → Shared → Prop} {Q : Value → Shared → Prop}, Q (.ref hp.objs.size) ⟨hp.push o, g, d, tk, os⟩ → wpAny (model prog w) A' (pyIter v) Q E ⟨hp, g, d, tk, os⟩ :=
      fun q => B.iter prog w _ _ ⟨hp, g, d, tk, os⟩ _ h1 q
    wp_walk
    refine wpAny_stack_any fun st => wpAny_pure ?_
    split
    · rename_i c _ _ _ _ _
      cases (c == Value.type "enumerate")
      · wp_walk using q1
        exact ⟨_, rfl, h⟩
      · wp_walk using q1
        exact ⟨_, rfl, h⟩
    · wp_walk using q1
      exact ⟨_, rfl, h⟩
theorem enum1_begins {prog : Program} {w : World} {A : Around} {E : Value → Shared → Prop} {s : Shared} {v : Value} {o : Obj} {H : Heap → Prop} {Q : Value → Shared → Prop} (B : Begins v o H) (h1 : H s.heap)
    (h : ∀ h', IsEnum h' (s.heap.objs.size + 1) s.heap.objs.size 0 .none → h'.get? s.heap.objs.size = some o → h'.objs.size = s.heap.objs.size + 2 →
      (∀ b o, s.heap.get? b = some o → h'.get? b = some o) → Q (.ref (s.heap.objs.size + 1)) { s with heap := h' }) :
    wpAny (model prog w) A (call (.type "enumerate") [v]) Q E s := by
  refine callType_new F.called_enumerate (by decide) (F.typeCall_enumerate_1 _) (F.newCall_enumerate_1 _) (fun obj => F.args_object_init_2 obj _) F.entry_enumerate_new
    (meets_enum1 B) ⟨h1, ?_⟩
  have hz : (s.heap.push o).objs.size = s.heap.objs.size + 1 := Heap.size_push ..
  show _ ∧ _
  rw [hz]
  have he : IsEnum ((s.heap.push o).push { cls := .type "enumerate", data := .fields #[.none, .bool false, .ref s.heap.objs.size, rawInt 0, .none, .none] }) (s.heap.objs.size + 1) s.heap.objs.size 0 .none := by
    have := Heap.get?_push_size (s.heap.push o) (o := { cls := .type "enumerate", data := .fields #[.none, .bool false, .ref s.heap.objs.size, rawInt 0, .none, .none] }) rfl
    rw [hz] at this; exact this
  refine ⟨⟨_, he, rfl⟩, h _ he (Heap.get?_push_of_some _ (Heap.get?_push_size _ B.free)) (by rw [Heap.size_push, hz]) fun b o x => Heap.get?_push_of_some _ (Heap.get?_push_of_some _ x)⟩
/-- enumerate of a list (false) or a tuple (true) -/
def iEnumB (K : PySem.W.Frag) (tp : Bool) (ta : TA) : TI := fun σ H R => ta σ H fun vs H1 => ∃ a xs, vs = [.ref a] ∧ SqB K tp H1 a xs ∧ R (IteB K tp a) H1
theorem pi_enumB {X : Cx} (tp : Bool) {e : Expr} {ta : TA} {p pos tpos : Pos} {elts : List Expr} {kk : Nat} (hg : Gl X "enumerate") (hm : X.mg "enumerate" = none) (ha : PA X [e] ta) (hs : starEach [e] X.env = [(false, eval e X.env)] := by rfl) :
    PI X (.Tuple elts kk tpos) (.Call (.Name "enumerate" p) [e] [] pos) (iEnumB X.K tp ta) := by
  refine ⟨fun pins s σ H R I h => ?_⟩
  refine Call_ (ld_blt I hg hm boot_enumerate (PyProof.Rows.callWith_type1 (thn (ha.run pos pins s σ H _ I h) fun us s1 ⟨vs, H1, I1, r1, q1⟩ => ?_) hs rfl))
  obtain ⟨a, xs, ex, hq, q⟩ := q1
  subst ex
  cases r1 with
  | cons r rr =>
    cases rr
    cases r
    obtain ⟨its, rv, p', hz⟩ := seqB tp I1 hq
    refine enum1_begins (beginsB tp a its.toArray) p' fun h' he hit hsz hk => wpAny_pyIter_enum he ?_
    have I2 : Inv X pins σ H1 { s1 with heap := h' } := I1.kept (t' := s1.toks) hk
    refine ⟨s1.heap.objs.size + 1, [s1.heap.objs.size + 1, s1.heap.objs.size], _, _, H1, rfl, I2, turn_enumB tp a (s1.heap.objs.size + 1) s1.heap.objs.size, ⟨⟨.none, he⟩, itB_new hit, Nat.succ_ne_self _⟩, fun b hb => ?_, q⟩
    have e' : b = s1.heap.objs.size + 1 ∨ b = s1.heap.objs.size := by simpa using hb
    have hle : s1.heap.objs.size ≤ b := by
      rcases e' with z | z
      · rw [z]; exact Nat.le_add_right _ _
      · rw [z]; exact Nat.le_refl _
    exact I1.fpOk hle (I1.hok.fresh hle)
theorem pi_enumT {X : Cx} {e : Expr} {ta : TA} {p pos tpos : Pos} {elts : List Expr} {kk : Nat} (hg : Gl X "enumerate") (hm : X.mg "enumerate" = none) (ha : PA X [e] ta) (hs : starEach [e] X.env = [(false, eval e X.env)] := by rfl) :
    PI X (.Tuple elts kk tpos) (.Call (.Name "enumerate" p) [e] [] pos) (iEnumB X.K true ta) := pi_enumB true hg hm ha hs
theorem pi_enumL {X : Cx} {e : Expr} {ta : TA} {p pos tpos : Pos} {elts : List Expr} {kk : Nat} (hg : Gl X "enumerate") (hm : X.mg "enumerate" = none) (ha : PA X [e] ta) (hs : starEach [e] X.env = [(false, eval e X.env)] := by rfl) :
    PI X (.Tuple elts kk tpos) (.Call (.Name "enumerate" p) [e] [] pos) (iEnumB X.K false ta) := pi_enumB false hg hm ha hs
theorem walk_enumB {K : PySem.W.Frag} {tp : Bool} {a : Addr} {xs : List V} : Walk (IteB K tp a) xs.length (fun H => SqB K tp H a xs) (YPair (fun i => some (.int (i : Nat))) (fun i => xs[i]?)) := by
  refine ⟨fun i _ hi q => ⟨xs, xs[i], q, by simp [hi]⟩, fun _ q => ⟨xs, q, rfl⟩, fun i H v H' _ q y => ?_⟩
  obtain ⟨T, x, h1, h2, h3, h4⟩ := y
  exact ⟨T, .int (i : Nat), x, h1, h2, h3, rfl, h4 xs q⟩
/-! zip of two, each a list or a tuple -/
def ItzB (K : PySem.W.Frag) (ta tb : Bool) (a b : Addr) : It :=
  ⟨fun i H => ∃ (xs ys : List V) (x y : V), SqB K ta H a xs ∧ SqB K tb H b ys ∧ xs[i]? = some x ∧ ys[i]? = some y,
    fun i H v H' => ∃ T x y, v = .ref T ∧ H T = none ∧ H' = upd H T (.tup [x, y]) ∧ (∀ xs, SqB K ta H a xs → xs[i]? = some x) ∧ ∀ ys, SqB K tb H b ys → ys[i]? = some y,
    fun i H => ∃ xs ys : List V, SqB K ta H a xs ∧ SqB K tb H b ys ∧ i = min xs.length ys.length⟩
theorem turn_zipB {P : Program} {w : World} {K : PySem.W.Frag} {elts : List Expr} {kk : Nat} {tpos : Pos} (ka kb : Bool) {a b : Addr} {N : Nat} (la : a < N) (lb : b < N) :
    Turn P w K (.Tuple elts kk tpos) (ItzB K ka kb a b) [N + 4, N + 2, N + 3, N, N + 1] (N + 4) (fun i h => IsZip h (N + 4) (N + 2) (N + 3) .none ∧ IsTupOf2 h (N + 2) (.ref N) (.ref (N + 1)) ∧ (∃ x y, IsTupOf2 h (N + 3) x y) ∧ IsItB ka h N a i ∧ IsItB kb h (N + 1) b i) where
  mem := by simp
  obj := fun i h st c hc => by
    obtain ⟨hz, hTI, ⟨x, y, hTO⟩, h1, h2⟩ := st
    obtain ⟨o1, e1, _, v1, d1⟩ := h1.obj
    obtain ⟨o2, e2, _, v2, d2⟩ := h2.obj
    have e' : c = N + 4 ∨ c = N + 2 ∨ c = N + 3 ∨ c = N ∨ c = N + 1 := by simpa using hc
    rcases e' with q | q | q | q | q
    · rw [q]; exact ⟨_, hz, fun v q => nomatch q⟩
    · rw [q]; exact ⟨_, hTI, fun v q => nomatch q⟩
    · rw [q]; exact ⟨_, hTO, fun v q => nomatch q⟩
    · rw [q]; exact ⟨o1, e1, fun v q => by rw [d1] at q; cases q⟩
    · rw [q]; exact ⟨o2, e2, fun v q => by rw [d2] at q; cases q⟩
  keep := fun i h h' st k => by
    obtain ⟨hz, hTI, ⟨x, y, hTO⟩, h1, h2⟩ := st
    exact ⟨k _ (by simp) _ hz, k _ (by simp) _ hTI, ⟨x, y, k _ (by simp) _ hTO⟩, h1.at fun o q => k _ (by simp) o q, h2.at fun o q => k _ (by simp) o q⟩
  item := by
    intro X hP hw hK hc i pins s σ H E I hf st hg
    subst hP hw hK
    obtain ⟨hz, hTI, ⟨x0, y0, hTO⟩, h1, h2⟩ := st
    obtain ⟨xs, ys, x, y, hqx, hqy, hx, hy⟩ := hg
    obtain ⟨its, rv, p, _⟩ := seqB ka I hqx
    obtain ⟨its2, rv2, p2, _⟩ := seqB kb I hqy
    obtain ⟨u, hu, ru⟩ := rv.get hx
    obtain ⟨u2, hu2, ru2⟩ := rv2.get hy
    have hzl : N + 4 < s.heap.objs.size := Heap.lt_size hz
    have S : ZipSep2 (N + 4) (N + 2) (N + 3) N (N + 1) [N, a] [N + 1, b] := zip_sep2 (fp1 := [a]) (fp2 := [b]) (by simpa using la) (by simpa using lb)
    have D1 := drawsB (prog := X.prog) (w := X.w) (A := X.A.in1) (I.ok.hd hc) ka N a (Nat.ne_of_lt la) its.toArray
    have D2 := drawsB (prog := X.prog) (w := X.w) (A := X.A.in1) (I.ok.hd hc) kb (N + 1) b (Nat.ne_of_lt (Nat.lt_succ_of_lt lb)) its2.toArray
    have hlt : i < its.toArray.size := by
      obtain ⟨h1, _⟩ := List.getElem?_eq_some_iff.mp hu
      simpa using h1
    have hlt2 : i < its2.toArray.size := by
      obtain ⟨h1, _⟩ := List.getElem?_eq_some_iff.mp hu2
      simpa using h1
    refine wpAny_pyNext_zipD2_item S D1 D2 hz hTI hTO ⟨h1, p⟩ ⟨h2, p2⟩ hlt hlt2 fun u' u2' h' tk hP1 hP2 z' TO' h1' h2' hT hsz hk => ?_
    have eu : u' = u := by
      have q : its.toArray[i]? = some u := by simpa using hu
      rw [q] at hP1
      exact (Option.some.inj hP1).symm
    have eu2 : u2' = u2 := by
      have q : its2.toArray[i]? = some u2 := by simpa using hu2
      rw [q] at hP2
      exact (Option.some.inj hP2).symm
    subst eu eu2
    refine ⟨_, rfl, wpAny_letOwnedTupleGo_zip (s := { s with heap := h', toks := tk }) z' fun h'' z'' sb => ?_⟩
    have hT2 : h''.get? s.heap.objs.size = some { cls := .type "tuple", data := .seq #[u', u2'] } := (sb.2 _ (Nat.ne_of_gt hzl)).trans hT
    have new : ObjOk X.prog X.w (upd H s.heap.objs.size (.tup [x, y])) h'' s.heap.objs.size (.tup [x, y]) :=
      ⟨by show 2 ≤ sizeLine; decide, [u', u2'], .cons ru (.cons ru2 .nil), ⟨_, hT2, rfl, _, rfl⟩⟩
    have I1 : Inv X pins σ (upd H s.heap.objs.size (.tup [x, y])) { s with heap := h'', toks := tk } :=
      I.turnedNew (ch := [N + 4, N + 2, N + 3, N, N + 1]) (fun c o hb q => (sb.2 c (fun q' => hb (by simp [q']))).trans (hk c o (fun q' => hb (by simp [q'])) (fun q' => hb (by simp [q'])) (fun q' => hb (by simp [q'])) (fun q' => hb (by simp [q'])) q)) hf (Nat.le_refl _) new
    refine ⟨.ref s.heap.objs.size, _, I1, rfl, ⟨_, x, y, rfl, I.hok.fresh (Nat.le_refl _), rfl, fun l hl => by rw [seqB_inj I hl hqx]; exact hx, fun l hl => by rw [seqB_inj I hl hqy]; exact hy⟩, ⟨z'', ?_, ⟨u', u2', ?_⟩, ?_, ?_⟩, fun c hcm => ?_⟩
    · exact (sb.2 _ S.TIz).trans (hk _ _ S.TIz S.TITO S.TIi1 S.TIi2 hTI)
    · exact (sb.2 _ S.TOz).trans TO'
    · exact h1'.1.at fun o q => (sb.2 _ (Ne.symm S.zi1)).trans q
    · exact h2'.1.at fun o q => (sb.2 _ (Ne.symm S.zi2)).trans q
    · have hlt : c < s.heap.objs.size := by
        have e' : c = N + 4 ∨ c = N + 2 ∨ c = N + 3 ∨ c = N ∨ c = N + 1 := by simpa using hcm
        rcases e' with q | q | q | q | q
        · rw [q]; exact hzl
        · rw [q]; exact Heap.lt_size hTI
        · rw [q]; exact Heap.lt_size hTO
        · rw [q]; obtain ⟨_, e1, _⟩ := h1.obj; exact Heap.lt_size e1
        · rw [q]; obtain ⟨_, e2, _⟩ := h2.obj; exact Heap.lt_size e2
      rw [upd_ne (Nat.ne_of_lt hlt)]
      exact (hf c hcm).1
  done := by
    intro X hP hw hK hc i pins s σ H E I hf st hg
    subst hP hw hK
    obtain ⟨hz, hTI, ⟨x0, y0, hTO⟩, h1, h2⟩ := st
    obtain ⟨xs, ys, hqx, hqy, hend⟩ := hg
    obtain ⟨its, rv, p, _⟩ := seqB ka I hqx
    obtain ⟨its2, rv2, p2, _⟩ := seqB kb I hqy
    have l1 := rv.length
    have l2 := rv2.length
    have S : ZipSep2 (N + 4) (N + 2) (N + 3) N (N + 1) [N, a] [N + 1, b] := zip_sep2 (fp1 := [a]) (fp2 := [b]) (by simpa using la) (by simpa using lb)
    have D1 := drawsB (prog := X.prog) (w := X.w) (A := X.A.in1) (I.ok.hd hc) ka N a (Nat.ne_of_lt la) its.toArray
    have D2 := drawsB (prog := X.prog) (w := X.w) (A := X.A.in1) (I.ok.hd hc) kb (N + 1) b (Nat.ne_of_lt (Nat.lt_succ_of_lt lb)) its2.toArray
    exact wpAny_pyNext_zipD2_end S D1 D2 hz hTI hTO ⟨h1, p⟩ ⟨h2, p2⟩ (by simp; omega) (by simp; omega) (by simp; omega) fun h' tk hk => ⟨rfl, I.turnedL (t' := tk) (ch := [N + 4, N + 2, N + 3, N, N + 1]) (fun c o hb q =>
      hk c o (fun q' => hb (by simp [q'])) (fun q' => hb (by simp [q'])) (fun q' => hb (by simp [q'])) (fun q' => hb (by simp [q'])) q) hf⟩
  self := fun A i s Q E st h => wpAny_pyIter_zip st.1 h
def iZipB (K : PySem.W.Frag) (ka kb : Bool) (ta : TA) : TI := fun σ H R => ta σ H fun vs H1 => ∃ a b xs ys, vs = [.ref a, .ref b] ∧ SqB K ka H1 a xs ∧ SqB K kb H1 b ys ∧ R (ItzB K ka kb a b) H1
theorem pi_zipB {X : Cx} (ka kb : Bool) {e e2 : Expr} {ta : TA} {p pos tpos : Pos} {elts : List Expr} {kk : Nat} (hg : Gl X "zip") (hm : X.mg "zip" = none) (ha : PA X [e, e2] ta)
    (hs : starEach [e, e2] X.env = (false, eval e X.env) :: starEach [e2] X.env := by rfl) (hpl : (backTo pos (starEach [e2] X.env)).any (·.1) = false := by rfl) :
    PI X (.Tuple elts kk tpos) (.Call (.Name "zip" p) [e, e2] [] pos) (iZipB X.K ka kb ta) := by
  refine ⟨fun pins s σ H R I h => ?_⟩
  refine Call_ (ld_blt I hg hm PyProof.Rows.boot_zip (PyProof.Rows.callWith_type1 (thn (ha.run pos pins s σ H _ I h) fun us s1 ⟨vs, H1, I1, r1, q1⟩ => ?_) hs hpl))
  obtain ⟨a, b, xs, ys, ex, hqx, hqy, q⟩ := q1
  subst ex
  cases r1 with
  | cons r rr =>
    cases rr with
    | cons r' rr =>
      cases rr
      cases r
      cases r'
      obtain ⟨its, rv, p1, _⟩ := seqB ka I1 hqx
      obtain ⟨its2, rv2, p2, _⟩ := seqB kb I1 hqy
      have la : a < s1.heap.objs.size := by obtain ⟨_, e, _⟩ := p1.obj; exact Heap.lt_size e
      have lb : b < s1.heap.objs.size := by obtain ⟨_, e, _⟩ := p2.obj; exact Heap.lt_size e
      refine zip_begins2 (beginsB ka a its.toArray) (beginsB kb b its2.toArray) p1 p2 fun h' hz hTI hTO h1 h2 hsz hk => wpAny_pyIter_zip hz ?_
      have I2 : Inv X pins σ H1 { s1 with heap := h' } := I1.kept (t' := s1.toks) hk
      refine ⟨s1.heap.objs.size + 4, [s1.heap.objs.size + 4, s1.heap.objs.size + 2, s1.heap.objs.size + 3, s1.heap.objs.size, s1.heap.objs.size + 1], _, _, H1, rfl, I2, turn_zipB ka kb la lb, ⟨hz, hTI, ⟨_, _, hTO⟩, itB_new h1, itB_new h2⟩, fun c hcm => ?_, q⟩
      have e' : c = s1.heap.objs.size + 4 ∨ c = s1.heap.objs.size + 2 ∨ c = s1.heap.objs.size + 3 ∨ c = s1.heap.objs.size ∨ c = s1.heap.objs.size + 1 := by simpa using hcm
      have hle : s1.heap.objs.size ≤ c := by
        rcases e' with z | z | z | z | z
        · rw [z]; exact Nat.le_add_right _ _
        · rw [z]; exact Nat.le_add_right _ _
        · rw [z]; exact Nat.le_add_right _ _
        · rw [z]; exact Nat.le_refl _
        · rw [z]; exact Nat.le_add_right _ _
      exact I1.fpOk hle (I1.hok.fresh hle)
theorem walk_zipB {K : PySem.W.Frag} {ka kb : Bool} {a b : Addr} {xs ys : List V} {n : Nat} (hn : n = min xs.length ys.length) : Walk (ItzB K ka kb a b) n (fun H => SqB K ka H a xs ∧ SqB K kb H b ys) (YPair (fun i => xs[i]?) (fun i => ys[i]?)) := by
  subst hn
  refine ⟨fun i _ hi q => ?_, fun _ q => ⟨xs, ys, q.1, q.2, rfl⟩, fun i H v H' _ q y => ?_⟩
  · have h1 : i < xs.length := by omega
    have h2 : i < ys.length := by omega
    exact ⟨xs, ys, xs[i], ys[i], q.1, q.2, by simp [h1], by simp [h2]⟩
  · obtain ⟨T, x, z, h1, h2, h3, h4, h5⟩ := y
    exact ⟨T, x, z, h1, h2, h3, h4 xs q.1, h5 ys q.2⟩
end LF
/-! ### la_base: what every def's walk uses -/
namespace LF
open PySem PySem.Spec PyProof.Rows L2
/-- the built-ins' names are theirs -/
structure Bl (mg : Str → Option Value) : Prop where
  len : mg "len" = none
  sum : mg "sum" = none
  all : mg "all" = none
  any : mg "any" = none
  sorted : mg "sorted" = none
  tuple : mg "tuple" = none
  list : mg "list" = none
  int : mg "int" = none
  bool : mg "bool" = none
  str : mg "str" = none
  isinstance : mg "isinstance" = none
  max : mg "max" = none
  min : mg "min" = none
  range : mg "range" = none
  enumerate : mg "enumerate" = none
  zip : mg "zip" = none
/-- a def of the text at its place -/
structure FnAt (K : PySem.W.Frag) (mg : Str → Option Value) (gx x : Str) (st : Stmt) (ps : List Str) (f : Addr) (fd : FuncData) : Prop where
  F : Fun K x x st f fd
  b : Binds K fd ps []
  g : mg gx = some (.ref f)
abbrev vi (ns : List Int) : List V := ns.map V.int
theorem vi_snoc (zs : List Int) (z : Int) : vi (zs ++ [z]) = vi zs ++ [.int z] := List.map_append
theorem vi_app (xs ys : List Int) : vi (xs ++ ys) = vi xs ++ vi ys := List.map_append
theorem vi_len (ns : List Int) : (vi ns).length = ns.length := List.length_map _
/-- all but t as it was -/
def Smt (t : Addr) (H H' : Hp) : Prop := ∀ b o, H b = some o → b ≠ t → H' b = some o
theorem Smt.refl (t : Addr) (H : Hp) : Smt t H H := fun _ _ h _ => h
theorem Smt.trans {t : Addr} {H H1 H2 : Hp} (a : Smt t H H1) (b : Smt t H1 H2) : Smt t H H2 := fun c o h n => b c o (a c o h n) n
theorem Smt.of {t : Addr} {H H' : Hp} (a : Same H H') : Smt t H H' := fun b o h _ => a b o h
theorem Smt.upd {t : Addr} {H : Hp} {o : HO} : Smt t H (upd H t o) := fun b u h n => by rw [upd_ne n]; exact h
theorem _root_.L2.Same.new {H : Hp} {p : Addr} {o : HO} (h : H p = none) : Same H (upd H p o) := fun b u e => by
  rw [upd_ne (ne_of_none e h)]
  exact e
/-- a tracked object that H did not know may change -/
theorem _root_.L2.Same.mut {H H' : Hp} {p : Addr} {o : HO} (e : Same H H') (h : H p = none) : Same H (upd H' p o) := fun a u ha => by
  rw [upd_ne (ne_of_none ha h)]
  exact e a u ha
theorem _root_.L2.Same.sqt {K : PySem.W.Frag} {H H' : Hp} {a : Addr} {xs : List V} (e : Same H H') (h : SqT K H a xs) : SqT K H' a xs := by
  rcases h with (h | ⟨o, h⟩) | h
  · exact .inl (.inl (e _ _ h))
  · exact .inl (.inr ⟨o, e _ _ h⟩)
  · exact .inr h
theorem _root_.L2.Same.sqb {K : PySem.W.Frag} {H H' : Hp} {a : Addr} {xs : List V} {tp : Bool} (e : Same H H') (h : SqB K tp H a xs) : SqB K tp H' a xs := by
  cases tp with
  | false => exact e.seq h
  | true => exact e.sqt h
/-- the tape at t: the script's numbers in a list at a, how many cells are read, what is left of the last one -/
def TapeAt (H : Hp) (t a : Addr) : Prop := ∃ (ns : List Int) (i c : Int), H t = some (.lst [.ref a, .int i, .int c]) ∧ H a = some (.lst (vi ns)) ∧ 0 ≤ c
theorem TapeAt.ex {H : Hp} {t a : Addr} (h : TapeAt H t a) : ∃ xs, H t = some (.lst xs) := by
  obtain ⟨ns, i, c, h, _⟩ := h
  exact ⟨_, h⟩
theorem TapeAt.same {H H' : Hp} {t a : Addr} (e : Same H H') (h : TapeAt H t a) : TapeAt H' t a := by
  obtain ⟨ns, i, c, h1, h2, h3⟩ := h
  exact ⟨ns, i, c, e _ _ h1, e _ _ h2, h3⟩
theorem TapeAt.ne_none {H : Hp} {t a p : Addr} (h : TapeAt H t a) (n : H p = none) : t ≠ p := by
  obtain ⟨xs, e⟩ := h.ex
  exact ne_of_none e n
theorem TapeAt.ne_none2 {H : Hp} {t a p : Addr} (h : TapeAt H t a) (n : H p = none) : a ≠ p := by
  obtain ⟨ns, i, c, h1, h2, h3⟩ := h
  exact ne_of_none h2 n
theorem TapeAt.ta {H : Hp} {t a : Addr} (h : TapeAt H t a) : a ≠ t := fun z => by
  obtain ⟨ns, i, c, h1, h2, h3⟩ := h
  rw [z, h1] at h2
  have e := congrArg (fun o : Option HO => match o with | some (.lst (.ref _ :: _)) => true | _ => false) h2
  cases ns <;> cases e
/-- another object is written -/
theorem TapeAt.but {H H' : Hp} {t a p : Addr} (h : TapeAt H t a) (s : Smt p H H') (n1 : t ≠ p) (n2 : a ≠ p) : TapeAt H' t a := by
  obtain ⟨ns, i, c, h1, h2, h3⟩ := h
  exact ⟨ns, i, c, s _ _ h1 n1, s _ _ h2 n2, h3⟩
theorem TapeAt.upd {H : Hp} {t a p : Addr} {o : HO} (h : TapeAt H t a) (n : H p = none) : TapeAt (L2.upd H p o) t a := h.same (Same.new n)
theorem Smt.tup {t a b : Addr} {H H' : Hp} {xs : List V} (s : Smt t H H') (h : TapeAt H t b) (e : H a = some (.tup xs)) : H' a = some (.tup xs) := by
  refine s a _ e fun z => ?_
  obtain ⟨ys, e2⟩ := h.ex
  rw [z, e2] at e
  cases e
theorem Smt.sqt {K : PySem.W.Frag} {t a b : Addr} {H H' : Hp} {xs : List V} (s : Smt t H H') (h : TapeAt H t b) (e : SqT K H a xs) : SqT K H' a xs := by
  obtain ⟨ys, e2⟩ := h.ex
  rcases e with (e | ⟨o, e⟩) | e
  · exact .inl (.inl (s.tup h e))
  · refine .inl (.inr ⟨o, s a _ e fun z => ?_⟩)
    rw [z, e2] at e
    cases e
  · exact .inr e
theorem same_smt {H H' H2 : Hp} {o : Addr} (s : Same H H2) (t : Smt o H2 H') (n : H o = none) : Same H H' := fun a u ha => t a u (s a u ha) (ne_of_none ha n)
theorem Smt.lst {t a : Addr} {H H' : Hp} {o : HO} (s : Smt t H H') (n : a ≠ t) (e : H a = some o) : H' a = some o := s a o e n
/-- what is new is tracked besides -/
theorem Smt.new {t p : Addr} {H H' : Hp} {o : HO} (s : Smt t H H') (n : H p = none) : Smt t H (L2.upd H' p o) := fun b u h hb => by
  rw [upd_ne (ne_of_none h n)]
  exact s b u h hb
theorem Smt.free {t p : Addr} {H H' : Hp} (s : Smt t H H') (n : H' p = none) (hp : p ≠ t) : H p = none := by
  cases q : H p with
  | none => rfl
  | some o =>
    rw [s p o q hp] at n
    cases n
theorem atI_mod {ns : List Int} (h : 0 < ns.length) (i : Int) : ∃ z, atI (vi ns) (i % (((vi ns).length : Nat) : Int)) = some (.int z) := by
  rw [vi_len]
  have h1 : 0 ≤ i % (ns.length : Int) := Int.emod_nonneg i (by omega)
  have h2 : i % (ns.length : Int) < (ns.length : Int) := Int.emod_lt_of_pos i (by omega)
  have h3 : (((i % (ns.length : Int)).toNat : Nat) : Int) = i % (ns.length : Int) := Int.toNat_of_nonneg h1
  have h4 : (i % (ns.length : Int)).toNat < ns.length := by omega
  have h5 : atI (vi ns) (((i % (ns.length : Int)).toNat : Nat) : Int) = some (.int ns[(i % (ns.length : Int)).toNat]) := atI_nat (by
    rw [List.getElem?_map, List.getElem?_eq_getElem h4]
    rfl)
  exact ⟨ns[(i % (ns.length : Int)).toNat], (congrArg (atI (vi ns)) h3.symm).trans h5⟩
theorem vi_get {ns : List Int} {i : Nat} {x : V} (h : (vi ns)[i]? = some x) : ∃ z, ns[i]? = some z ∧ x = .int z := by
  rw [List.getElem?_map] at h
  cases e : ns[i]? with
  | none =>
    rw [e] at h
    cases h
  | some z =>
    rw [e] at h
    exact ⟨z, rfl, (Option.some.inj h).symm⟩
theorem vi_at {ns : List Int} {i : Nat} (h : i < ns.length) : (vi ns)[i]? = some (.int ns[i]) := by
  rw [List.getElem?_map, List.getElem?_eq_getElem h]
  rfl
theorem vi_flat : ∀ ns : List Int, (vi ns).all flatV = true
  | [] => rfl
  | _ :: r => by
    show (true && (vi r).all flatV) = true
    rw [vi_flat r]
    rfl
/-- an if whose test is known -/
theorem if_t {c : Bool} {A B : Prop} (hc : c = true) (h : A) : if c = true then A else B := by
  rw [if_pos hc]
  exact h
theorem if_f {c : Bool} {A B : Prop} (hc : c = false) (h : B) : if c = true then A else B := by
  rw [hc, if_neg Bool.false_ne_true]
  exact h
/-- both ways -/
theorem if_b {c : Bool} {A B : Prop} (h1 : c = true → A) (h2 : c = false → B) : if c = true then A else B := by
  cases c with
  | true => exact if_t rfl (h1 rfl)
  | false => exact if_f rfl (h2 rfl)
/-- a if t else b, both of them one value -/
theorem if_val {c : Bool} {ta tb : TE} {σ : L2.St} {H : Hp} {Q : VK} (v : V) (h1 : c = true → ∀ Q : VK, Q v H → ta σ H Q) (h2 : c = false → ∀ Q : VK, Q v H → tb σ H Q) (h : Q v H) : if c = true then ta σ H Q else tb σ H Q :=
  if_b (fun e => h1 e Q h) (fun e => h2 e Q h)
theorem sz3 {n : Nat} (h : n ≤ 1000) : n ≤ sizeLine := Nat.le_of_lt (small1000 h)
end LF
/-! ### la_comp: comprehensions by what they give -/
namespace LF
open PySem PySem.Spec PyProof.Rows L2
section
variable {J : It} {n : Nat} {G : Hp → Prop} {Y : Nat → Hp → V → Hp → Prop} {g : TG} {tt : TT} {te : TE} {vs : List Nat} {σ : L2.St} {H1 : Hp} {D : Addr} {Qd : Hp → Prop}
/-- no test -/
theorem lc_yes {σ2 : L2.St} {H : Hp} {ky : V → Hp → Prop} {kn : Hp → Prop} (h : te σ2 H ky) : tYes σ2 H fun b H3 => if b = true then te σ2 H3 ky else kn H3 := if_t (B := kn H) rfl h
/-- S: by the turn, the items so far, the heap -/
theorem lc_gen (w : Walk J n G Y) (S : Nat → List V → Hp → Prop) (h0 : S 0 [] (upd H1 D (.lst []))) (hG : ∀ i acc H, S i acc H → H D = some (.lst acc) → G H) (hlen : ∀ i acc H, S i acc H → acc.length < sizeLine)
    (hs : ∀ i x H H' acc (kn : Hp → Prop) (ky : V → Hp → Prop), i < n → S i acc H → H D = some (.lst acc) → Y i H x H' → (∀ H3, H3 D = some (.lst acc) → S (i + 1) acc H3 → kn H3) →
      (∀ y H4, H4 D = some (.lst acc) → S (i + 1) (acc ++ [y]) (upd H4 D (.lst (acc ++ [y]))) → ky y H4) →
      g x (wipe σ vs) H' fun σ2 H2 => wipe σ2 vs = wipe σ vs ∧ tt σ2 H2 fun b H3 => if b = true then te σ2 H3 ky else kn H3) (hd : ∀ acc H, S n acc H → H D = some (.lst acc) → Qd H) :
    ∃ W : Nat → Nat → Hp → Prop, (∃ m, W 0 m (upd H1 D (.lst []))) ∧ ∀ i m H, W i m H →
      (J.stop i H ∧ Qd H) ∨ (J.go i H ∧ ∃ Nx : Hp → Prop, (∀ H', Nx H' → ∃ m', m' < m ∧ W (i + 1) m' H') ∧ ∀ x H', J.yld i H x H' → g x (wipe σ vs) H' fun σ2 H2 => wipe σ2 vs = wipe σ vs ∧ tt σ2 H2 fun b H3 =>
        if b = true then te σ2 H3 fun y H4 => ∃ acc, H4 D = some (.lst acc) ∧ acc.length < sizeLine ∧ Nx (upd H4 D (.lst (acc ++ [y]))) else Nx H3) := by
  refine lc_it w (fun i H => ∃ acc, H D = some (.lst acc) ∧ S i acc H) ⟨[], upd_same, h0⟩ (fun i H _ ⟨acc, h1, h2⟩ => hG i acc H h2 h1) (fun i x H H' hi ⟨acc, h1, h2⟩ y => ?_) (fun H ⟨acc, h1, h2⟩ => hd acc H h2 h1)
  exact hs i x H H' acc _ _ hi h2 h1 y (fun H3 e s => ⟨acc, e, s⟩) fun y H4 e s => ⟨acc, e, hlen _ _ _ h2, _, upd_same, s⟩
theorem paired_app {α β : Type} {F : α → β → Prop} : ∀ {l1 : List α} {l2 : List β} {m1 : List α} {m2 : List β}, Paired F l1 l2 → Paired F m1 m2 → Paired F (l1 ++ m1) (l2 ++ m2)
  | _, _, _, _, .nil, s => s
  | _, _, _, _, .cons r t, s => .cons r (paired_app t s)
theorem paired_mono {α β : Type} {F F' : α → β → Prop} (h : ∀ a b, F a b → F' a b) : ∀ {l1 : List α} {l2 : List β}, Paired F l1 l2 → Paired F' l1 l2
  | _, _, .nil => .nil
  | _, _, .cons r t => .cons (h _ _ r) (paired_mono h t)
theorem paired_get {α β : Type} {F : α → β → Prop} : ∀ {l1 : List α} {l2 : List β} {i : Nat} {x : α}, Paired F l1 l2 → l1[i]? = some x → ∃ y, l2[i]? = some y ∧ F x y
  | _, _, i, x, .nil, e => by simp at e
  | _, _, 0, x, .cons r _, e => by
    cases Option.some.inj e
    exact ⟨_, rfl, r⟩
  | _, _, i + 1, x, .cons _ t, e => paired_get (i := i) t e
theorem all_snoc {α : Type} {P : α → Prop} {zs : List α} {z : α} (h : ∀ c ∈ zs, P c) (hz : P z) : ∀ c ∈ zs ++ [z], P c := fun c hc => by
  rcases List.mem_append.mp hc with q | q
  · exact h c q
  · rw [List.mem_singleton.mp q]
    exact hz
theorem paired_len {α β : Type} {F : α → β → Prop} : ∀ {l1 : List α} {l2 : List β}, Paired F l1 l2 → l1.length = l2.length
  | _, _, .nil => rfl
  | _, _, .cons _ t => congrArg (· + 1) (paired_len t)
theorem filterMap_succ {α : Type} (R : Nat → Option α) (i : Nat) : (List.range (i + 1)).filterMap R = (List.range i).filterMap R ++ (R i).toList := by
  rw [List.range_succ, List.filterMap_append]
  cases e : R i <;> simp [e]
theorem filterMap_le {α : Type} (R : Nat → Option α) (n : Nat) : ((List.range n).filterMap R).length ≤ n := by
  have h := List.length_filterMap_le R (List.range n)
  rw [List.length_range] at h
  exact h
/-- nothing but new objects is made on the way; the items by a relation that lasts while a list (the new one) changes -/
theorem lc_rel {α : Type} (w : Walk J n G Y) (hD : H1 D = none) (hn : n ≤ 1000) (ρ : Hp → V → α → Prop) (mono : ∀ (H H' : Hp) (D : Addr) (acc : List V) v a, H D = some (.lst acc) → Smt D H H' → ρ H v a → ρ H' v a) (R : Nat → Option α) (hG : ∀ H, Same H1 H → G H)
    (hs : ∀ i x H H' (kn : Hp → Prop) (ky : V → Hp → Prop), i < n → Same H1 H → Y i H x H' → (∀ H3, Same H H3 → R i = none → kn H3) → (∀ y a H4, Same H H4 → R i = some a → ρ H4 y a → ky y H4) →
      g x (wipe σ vs) H' fun σ2 H2 => wipe σ2 vs = wipe σ vs ∧ tt σ2 H2 fun b H3 => if b = true then te σ2 H3 ky else kn H3)
    (hd : ∀ ys H, Same H1 H → H D = some (.lst ys) → Paired (ρ H) ys ((List.range n).filterMap R) → Qd H) :
    ∃ W : Nat → Nat → Hp → Prop, (∃ m, W 0 m (upd H1 D (.lst []))) ∧ ∀ i m H, W i m H →
      (J.stop i H ∧ Qd H) ∨ (J.go i H ∧ ∃ Nx : Hp → Prop, (∀ H', Nx H' → ∃ m', m' < m ∧ W (i + 1) m' H') ∧ ∀ x H', J.yld i H x H' → g x (wipe σ vs) H' fun σ2 H2 => wipe σ2 vs = wipe σ vs ∧ tt σ2 H2 fun b H3 =>
        if b = true then te σ2 H3 fun y H4 => ∃ acc, H4 D = some (.lst acc) ∧ acc.length < sizeLine ∧ Nx (upd H4 D (.lst (acc ++ [y]))) else Nx H3) := by
  refine lc_gen w (fun i acc H => i ≤ n ∧ Same H1 H ∧ Paired (ρ H) acc ((List.range i).filterMap R)) ⟨Nat.zero_le _, Same.new hD, .nil⟩ (fun i acc H s _ => hG H s.2.1) (fun i acc H s => ?_) (fun i x H H' acc kn ky hi s hacc y h1 h2 => ?_) (fun acc H s e => ?_)
  · obtain ⟨hle, _, p⟩ := s
    rw [paired_len p]
    exact Nat.lt_of_le_of_lt (Nat.le_trans (filterMap_le R i) (Nat.le_trans hle hn)) (small1000 (Nat.le_refl _))
  · obtain ⟨_, sm, p⟩ := s
    refine hs i x H H' kn ky hi sm y (fun H3 s3 e => h1 H3 (s3 _ _ hacc) ⟨hi, sm.trans s3, ?_⟩) (fun v a H4 s4 e r => h2 v H4 (s4 _ _ hacc) ⟨hi, Same.mut (sm.trans s4) hD, ?_⟩)
    · rw [filterMap_succ, e]
      show Paired (ρ H3) acc (_ ++ [])
      rw [List.append_nil]
      exact paired_mono (fun v a r => mono _ _ _ _ _ _ hacc (Smt.of s3) r) p
    · have hD4 := s4 _ _ hacc
      rw [filterMap_succ, e]
      refine paired_app (paired_mono (fun v a r => mono _ _ _ _ _ _ hacc ((Smt.of s4).trans Smt.upd) r) p) ?_
      exact .cons (mono _ _ _ _ _ _ hD4 Smt.upd r) .nil
  · exact hd acc H s.2.1 e s.2.2
theorem paired_ints : ∀ {ys : List V} {zs : List Int}, Paired (fun v z => v = V.int z) ys zs → ys = vi zs
  | _, _, .nil => rfl
  | _, _, .cons r t => by rw [r, paired_ints t]; rfl
theorem paired_bls : ∀ {ys : List V} {zs : List Bool}, Paired (fun v z => v = V.bl z) ys zs → ys = zs.map V.bl
  | _, _, .nil => rfl
  | _, _, .cons r t => by rw [r, paired_bls t]; rfl
/-- items that are ints -/
theorem lc_ints (w : Walk J n G Y) (hD : H1 D = none) (hn : n ≤ 1000) (R : Nat → Option Int) (hG : ∀ H, Same H1 H → G H)
    (hs : ∀ i x H H' (kn : Hp → Prop) (ky : V → Hp → Prop), i < n → Same H1 H → Y i H x H' → (∀ H3, Same H H3 → R i = none → kn H3) → (∀ z H4, Same H H4 → R i = some z → ky (.int z) H4) →
      g x (wipe σ vs) H' fun σ2 H2 => wipe σ2 vs = wipe σ vs ∧ tt σ2 H2 fun b H3 => if b = true then te σ2 H3 ky else kn H3)
    (hd : ∀ H, Same H1 H → H D = some (.lst (vi ((List.range n).filterMap R))) → Qd H) :
    ∃ W : Nat → Nat → Hp → Prop, (∃ m, W 0 m (upd H1 D (.lst []))) ∧ ∀ i m H, W i m H →
      (J.stop i H ∧ Qd H) ∨ (J.go i H ∧ ∃ Nx : Hp → Prop, (∀ H', Nx H' → ∃ m', m' < m ∧ W (i + 1) m' H') ∧ ∀ x H', J.yld i H x H' → g x (wipe σ vs) H' fun σ2 H2 => wipe σ2 vs = wipe σ vs ∧ tt σ2 H2 fun b H3 =>
        if b = true then te σ2 H3 fun y H4 => ∃ acc, H4 D = some (.lst acc) ∧ acc.length < sizeLine ∧ Nx (upd H4 D (.lst (acc ++ [y]))) else Nx H3) :=
  lc_rel w hD hn (fun _ v z => v = V.int z) (fun _ _ _ _ _ _ _ _ r => r) R hG (fun i x H H' kn ky hi sm y h1 h2 => hs i x H H' kn ky hi sm y h1 fun z H4 s e => h2 _ z H4 s e rfl) (fun ys H sm e p => hd H sm (by rw [e, paired_ints p]))
theorem lc_bls (w : Walk J n G Y) (hD : H1 D = none) (hn : n ≤ 1000) (R : Nat → Option Bool) (hG : ∀ H, Same H1 H → G H)
    (hs : ∀ i x H H' (kn : Hp → Prop) (ky : V → Hp → Prop), i < n → Same H1 H → Y i H x H' → (∀ H3, Same H H3 → R i = none → kn H3) → (∀ z H4, Same H H4 → R i = some z → ky (.bl z) H4) →
      g x (wipe σ vs) H' fun σ2 H2 => wipe σ2 vs = wipe σ vs ∧ tt σ2 H2 fun b H3 => if b = true then te σ2 H3 ky else kn H3)
    (hd : ∀ H, Same H1 H → H D = some (.lst (((List.range n).filterMap R).map V.bl)) → Qd H) :
    ∃ W : Nat → Nat → Hp → Prop, (∃ m, W 0 m (upd H1 D (.lst []))) ∧ ∀ i m H, W i m H →
      (J.stop i H ∧ Qd H) ∨ (J.go i H ∧ ∃ Nx : Hp → Prop, (∀ H', Nx H' → ∃ m', m' < m ∧ W (i + 1) m' H') ∧ ∀ x H', J.yld i H x H' → g x (wipe σ vs) H' fun σ2 H2 => wipe σ2 vs = wipe σ vs ∧ tt σ2 H2 fun b H3 =>
        if b = true then te σ2 H3 fun y H4 => ∃ acc, H4 D = some (.lst acc) ∧ acc.length < sizeLine ∧ Nx (upd H4 D (.lst (acc ++ [y]))) else Nx H3) :=
  lc_rel w hD hn (fun _ v z => v = V.bl z) (fun _ _ _ _ _ _ _ _ r => r) R hG (fun i x H H' kn ky hi sm y h1 h2 => hs i x H H' kn ky hi sm y h1 fun z H4 s e => h2 _ z H4 s e rfl) (fun ys H sm e p => hd H sm (by rw [e, paired_bls p]))
/-- the tape t is read on the way; the items are ints, I tells of them -/
theorem lc_tape (w : Walk J n G Y) {t a : Addr} (ht : TapeAt H1 t a) (hD : H1 D = none) (hn : n ≤ 1000) (I : Nat → List Int → Prop) (h0 : I 0 []) (hl : ∀ i zs, I i zs → zs.length ≤ i) (hG : ∀ H, Smt t H1 H → G H)
    (hs : ∀ i x H H' zs (kn : Hp → Prop) (ky : V → Hp → Prop), i < n → Smt t H1 H → TapeAt H t a → I i zs → Y i H x H' → (∀ H3, Smt t H H3 → TapeAt H3 t a → I (i + 1) zs → kn H3) →
      (∀ z H4, Smt t H H4 → TapeAt H4 t a → I (i + 1) (zs ++ [z]) → ky (.int z) H4) →
      g x (wipe σ vs) H' fun σ2 H2 => wipe σ2 vs = wipe σ vs ∧ tt σ2 H2 fun b H3 => if b = true then te σ2 H3 ky else kn H3)
    (hd : ∀ zs H, Smt t H1 H → TapeAt H t a → H D = some (.lst (vi zs)) → I n zs → Qd H) :
    ∃ W : Nat → Nat → Hp → Prop, (∃ m, W 0 m (upd H1 D (.lst []))) ∧ ∀ i m H, W i m H →
      (J.stop i H ∧ Qd H) ∨ (J.go i H ∧ ∃ Nx : Hp → Prop, (∀ H', Nx H' → ∃ m', m' < m ∧ W (i + 1) m' H') ∧ ∀ x H', J.yld i H x H' → g x (wipe σ vs) H' fun σ2 H2 => wipe σ2 vs = wipe σ vs ∧ tt σ2 H2 fun b H3 =>
        if b = true then te σ2 H3 fun y H4 => ∃ acc, H4 D = some (.lst acc) ∧ acc.length < sizeLine ∧ Nx (upd H4 D (.lst (acc ++ [y]))) else Nx H3) := by
  have hDt : t ≠ D := ht.ne_none hD
  have hDa : a ≠ D := ht.ne_none2 hD
  refine lc_gen w (fun i acc H => i ≤ n ∧ Smt t H1 H ∧ TapeAt H t a ∧ ∃ zs, acc = vi zs ∧ I i zs) ⟨Nat.zero_le _, Smt.of (Same.new hD), ht.upd hD, [], rfl, h0⟩ (fun i acc H s _ => hG H s.2.1) (fun i acc H s => ?_) (fun i x H H' acc kn ky hi s hacc y h1 h2 => ?_) (fun acc H s e => ?_)
  · obtain ⟨hle, _, _, zs, rfl, hI⟩ := s
    rw [vi_len]
    exact Nat.lt_of_le_of_lt (Nat.le_trans (hl _ _ hI) (Nat.le_trans hle hn)) (small1000 (Nat.le_refl _))
  · obtain ⟨_, sm, hT, zs, rfl, hI⟩ := s
    refine hs i x H H' zs kn ky hi sm hT hI y (fun H3 s3 t3 e => h1 H3 (s3 _ _ hacc hDt.symm) ⟨hi, sm.trans s3, t3, zs, rfl, e⟩) (fun z H4 s4 t4 e => h2 (.int z) H4 (s4 _ _ hacc hDt.symm) ⟨hi, (sm.trans s4).new hD, t4.but Smt.upd hDt hDa, zs ++ [z], (vi_snoc zs z).symm, e⟩)
  · obtain ⟨_, sm, hT, zs, rfl, hI⟩ := s
    exact hd zs H sm hT e hI
end
end LF
/-! ### la_tup: sum and sorted of tuples of ints -/
namespace LF
open PySem PySem.Spec PyProof.Rows L2
section
variable {prog : Program} {w : World} {A : Around} {E : Value → Shared → Prop} {s : Shared}
theorem sum_tup {l : Addr} {its : List Value} {ns : List Int} {Q : Value → Shared → Prop} (hh : A.handled = none) (hl : s.heap.IsTuple l its.toArray) (hi : IntsAre its ns)
    (h : ∀ h' tk t', (∀ b o, s.heap.get? b = some o → h'.get? b = some o) → Q (.int ns.sum t') { s with heap := h', toks := tk }) : wpAny (model prog w) A (call (.builtin "sum") [.ref l]) Q E s := by
  obtain ⟨xs, e⟩ := hi.allInts.items
  have hn : numsOf (intItems xs).toList = ns := by rw [← e]; exact hi.numsOf
  rw [nums_intItems] at hn
  rw [e] at hl
  obtain ⟨o, ho, hc, n, hd⟩ := id hl
  have hlt : l < s.heap.objs.size := Heap.lt_size ho
  refine call_sum_walkG (wpAny_pyIter_tuple hl ⟨s.heap.objs.size, [s.heap.objs.size, l], [s.heap.objs.size], (intItems xs).size, _, _, numAt xs, rfl, Walks.tuple (A := A.in1) hh _ l (Nat.ne_of_lt hlt) (intItems xs), ?_, ?_, (fun _ _ => intItems_at), fun h' tk t' hk => ?_⟩)
  · exact ⟨⟨_, Heap.get?_push_size _ rfl, rfl, rfl⟩, o, Heap.get?_push_of_some _ ho, hc, n, hd⟩
  · intro b hb
    show b < (s.heap.push _).objs.size
    rw [Heap.size_push]
    have e' : b = s.heap.objs.size ∨ b = l := by simpa using hb
    rcases e' with z | z
    · rw [z]; exact Nat.lt_succ_self _
    · rw [z]; exact Nat.lt_succ_of_lt hlt
  · have q := h h' tk t' fun b o e => hk b o (fun m => Nat.ne_of_lt (Heap.lt_size e) (by simpa using m)) (Heap.get?_push_of_some _ e)
    rw [preSum_eq, List.take_of_length_le (by simp [intItems]), hn]
    exact q
theorem collect_tup {l : Addr} {vs : List Value} {Q : List Value → Shared → Prop} (hl : s.heap.IsTuple l vs.toArray)
    (h : Q vs { s with heap := (s.heap.push (seqObj "list" #[] 0)).update s.heap.objs.size (Obj.mapSeq (· ++ vs.toArray)) }) (hsz : vs.length ≤ sizeLine) :
    wpAny (model prog w) A (collect (.ref l)) Q E s := by
  obtain ⟨o, ho, hc, n, hd⟩ := hl
  have ho' : (s.heap.push (seqObj "list" #[] 0)).get? l = some o := Heap.get?_push_of_some _ ho
  have hN : (s.heap.push (seqObj "list" #[] 0)).get? s.heap.objs.size = some (seqObj "list" #[] 0) := Heap.get?_push_size _ rfl
  unfold collect
  refine wpAny_bind (wpAny_runValue (codeAny_builtin entry_proto_collect' ?_))
  show wpAny _ _ (do again (.builtin "list.__iadd__" ⟨[← newList [], .ref l], []⟩)) _ _ s
  refine wpAny_bind (wpAny_newList (wpAny_pure ⟨Code.quiet_builtin _ (by decide +kernel), codeAny_builtin entry_list_iadd' ?_⟩))
  show wpAny _ _ (Builtin.List.listExtendWith (.ref s.heap.objs.size) (.ref l) (.ref s.heap.objs.size)) _ _ { s with heap := s.heap.push (seqObj "list" #[] 0) }
  unfold Builtin.List.listExtendWith
  refine wpAny_bind (wpAny_typeOf (T := "tuple") ⟨o, ho', hc⟩ ?_)
  have ht : (Value.type "tuple" == Value.type "tuple") = true := by rfl
  rw [if_pos (by rw [ht, Bool.or_true])]
  refine wpAny_bind (listItems_at ho' hd (wpAny_bind (listItems_at (xs := #[]) (n := 0) hN rfl ?_)))
  rw [if_neg (by simp)]
  refine wpAny_bind (listUpdate_at (xs := #[]) (n := 0) hN rfl (wpAny_pure ?_) (Nat.zero_le _) (by show (#[] ++ vs.toArray).size ≤ sizeLine + 1; simp only [Array.size_append, List.size_toArray, List.length_nil]; omega))
  show wpAny (model prog w) A (do
      let o ← load s.heap.objs.size
      match o.data with
      | .seq xs _ => pure xs.toList
      | _ => unsupported "internal:collect") Q E { s with heap := (s.heap.push (seqObj "list" #[] 0)).update s.heap.objs.size (Obj.mapSeq (· ++ vs.toArray)) }
  refine wpAny_bind (wpAny_load (get?_update_seq hN _) ?_)
  show wpAny _ _ (pure ((#[] : Array Value) ++ vs.toArray).toList) Q E _
  have e0 : ((#[] : Array Value) ++ vs.toArray).toList = vs := by simp
  rw [e0]
  exact wpAny_pure h
theorem sorted_tup {l : Addr} {vs : List Value} {ltv : Value → Value → Bool} {Q : Value → Shared → Prop} (O : SrtO.Swo ltv) (hl : s.heap.IsTuple l vs.toArray) (hz : vs.length ≤ sizeLine)
    (hS : 2 ≤ vs.length → ∀ (h₁ : Heap) (a : Addr), h₁.get? a = some (seqObj "list" vs.toArray 0) → (∀ b o, s.heap.get? b = some o → b ≠ a ∧ h₁.get? b = some o) → SrtO.SortableO prog w A.in1.in1 { s with heap := h₁ } a vs ltv)
    (h : ∀ out : List Value, SrtO.Srtd ltv out → SrtO.Stb ltv out vs → Q (.ref (s.heap.objs.size + 1)) { s with heap := PyProof.Rows.sortedAll s.heap vs out.toArray }) :
    wpAny (model prog w) A (call (.builtin "sorted") [.ref l]) Q E s := by
  refine Calls.call_function_entry kind_sorted plain_sorted entry_sorted (args_sorted1 _) ?_
  unfold Builtin.«sorted»
  refine wpAny_bind (m := checkCount "sorted" 1 1 _) (wpAny_pure (wpAny_bind (collect_tup hl (wpAny_bind (wpAny_newList ?_ hz)) hz)))
  have hsz : ((s.heap.push (seqObj "list" #[] 0)).update s.heap.objs.size (Obj.mapSeq (· ++ vs.toArray))).objs.size = s.heap.objs.size + 1 := by
    rw [Heap.size_update, Heap.size_push]
  have hoL : (((s.heap.push (seqObj "list" #[] 0)).update s.heap.objs.size (Obj.mapSeq (· ++ vs.toArray))).push (seqObj "list" vs.toArray 0)).get? (s.heap.objs.size + 1) = some (seqObj "list" vs.toArray 0) := by
    rw [← hsz]; exact Heap.get?_push_size _ rfl
  have keep : ∀ b o, s.heap.get? b = some o → b ≠ s.heap.objs.size + 1 ∧ (((s.heap.push (seqObj "list" #[] 0)).update s.heap.objs.size (Obj.mapSeq (· ++ vs.toArray))).push (seqObj "list" vs.toArray 0)).get? b = some o := fun b o q => by
    have hlt : b < s.heap.objs.size := Heap.lt_size q
    exact ⟨Nat.ne_of_lt (Nat.lt_succ_of_lt hlt), Heap.get?_push_of_some _ (by rw [Heap.get?_update_ne _ _ _ _ (Nat.ne_of_lt hlt)]; exact Heap.get?_push_of_some _ q)⟩
  show wpAny _ _ _ _ _ { s with heap := ((s.heap.push (seqObj "list" #[] 0)).update s.heap.objs.size (Obj.mapSeq (· ++ vs.toArray))).push (seqObj "list" vs.toArray 0) }
  rw [hsz]
  exact wpAny_bind (wpAny_holding (wpAny_call_entry slot_list_sort ⟨_, hoL, rfl⟩ entry_list_sort (SrtO.list_sort_ord O hoL hz (fun h2 => hS h2 _ _ hoL keep) fun out hs hb => ⟨_, rfl, wpAny_pure ⟨_, rfl, h out hs hb⟩⟩) (args_list_sort _)))
end
section
variable {X : Cx}
def rSumB (K : PySem.W.Frag) (tp : Bool) : List V → Hp → VK → Prop := fun vs H Q => ∃ (a : Addr) (ns : List Int), vs = [V.ref a] ∧ SqB K tp H a (vi ns) ∧ Q (.int ns.sum) H
theorem cr_sumT (hc : X.calm = true) : CallR X (.builtin "sum") (rSumB X.K true) := by
  intro pins s σ H vs us Q I r h
  obtain ⟨a, ns, rfl, hs, q⟩ := h
  obtain ⟨its, rv, hl, _⟩ := I.tuple hs
  rw [Vals.ref1 r]
  exact sum_tup (I.ok.hd hc) hl rv.ints fun h' tk t' hk => ⟨.int _, H, I.kept hk, ⟨_, rfl⟩, q⟩
def rSortedB (K : PySem.W.Frag) (tp : Bool) : List V → Hp → VK → Prop := fun vs H Q => ∃ (a : Addr) (ns : List Int), vs = [V.ref a] ∧ SqB K tp H a (vi ns) ∧ ∀ (ns' : List Int) (p : Addr), ns'.Perm ns → ns'.Pairwise (· ≤ ·) → H p = none → Q (.ref p) (upd H p (.lst (vi ns')))
theorem cr_sortedT : CallR X (.builtin "sorted") (rSortedB X.K true) := by
  intro pins s σ H vs us Q I r h
  obtain ⟨a, ns, rfl, hs, q⟩ := h
  obtain ⟨its, rv, hl, hz⟩ := I.tuple hs
  rw [Vals.ref1 r]
  have hi := rv.ints
  refine sorted_tup SrtO.swo_int hl (by rw [← rv.length]; exact hz) (fun h2 h₁ a' _ _ => SrtO.ints_sortable hi h2) fun out h1 h2 => ?_
  obtain ⟨k1, k2, k3⟩ := SrtO.ints_out hi h1 h2
  obtain ⟨ep, he'⟩ := PyProof.Rows.sortedAll_at s.heap its out.toArray
  have hlen : (vi (out.map SrtO.iv)).length ≤ sizeLine := by
    rw [vi_len, k2.length_eq]
    rw [vi_len] at hz
    exact hz
  exact ⟨.ref _, upd H (s.heap.objs.size + 1) (.lst (vi (out.map SrtO.iv))), I.laid (t' := s.toks) (fun _ _ => PyProof.Rows.sortedAll_old) (Nat.le_succ _) ⟨hlen, out, ep, vals_of_ints k1, he'⟩, rfl, q _ _ k2 k3 (I.hok.fresh (Nat.le_succ _))⟩
end
end LF
/-! ### la_k: the rules over the written part as a letter -/
namespace LF
open PySem PySem.Spec PyProof.Rows L2
def rTupOf (K : PySem.W.Frag) : List V → Hp → VK → Prop := fun xs H Q => ∃ p ys, xs = [.ref p] ∧ ((SqL K H p ys ∧ ∀ l, H l = none → Q (.ref l) (upd H l (.tup ys))) ∨ (SqT K H p ys ∧ Q (.ref p) H))
def rListOf (K : PySem.W.Frag) : List V → Hp → VK → Prop := fun xs H Q => ∃ p ys, xs = [.ref p] ∧ (SqL K H p ys ∨ SqT K H p ys) ∧ ∀ l, H l = none → Q (.ref l) (upd H l (.lst ys))
def rLenOf (K : PySem.W.Frag) : List V → Hp → VK → Prop := fun xs H Q => ∃ p ys, xs = [.ref p] ∧ (SqL K H p ys ∨ SqT K H p ys) ∧ Q (.int ys.length) H
section
variable {X : Cx}
theorem pe_gint {x : Str} {v : Int} {pos : Pos} (hg : Gl X x) (hm : ∃ tk : Tok, X.mg x = some (.int v tk)) (hd : (x == ("__debug__" : Str)) = false := by decide) : PE X (.Name x pos) (tC (.int v)) := by
  obtain ⟨tk, h⟩ := hm
  exact pe_glob hg h ⟨_, rfl⟩ hd
theorem lenK (K : PySem.W.Frag) (h : X.K = K := by rfl) : CallR X (.builtin "len") (rLenOf K) := by subst h; exact call_len_seq
theorem sumK (K : PySem.W.Frag) (h : X.K = K := by rfl) (hc : X.calm = true := by rfl) : CallR X (.builtin "sum") (rSum K) := by subst h; exact cr_sum hc
theorem sumTK (K : PySem.W.Frag) (h : X.K = K := by rfl) (hc : X.calm = true := by rfl) : CallR X (.builtin "sum") (rSumB K true) := by subst h; exact cr_sumT hc
theorem allK (K : PySem.W.Frag) (h : X.K = K := by rfl) (hc : X.calm = true := by rfl) : CallR X (.builtin "all") (rAll K) := by subst h; exact cr_all hc
theorem anyK (K : PySem.W.Frag) (h : X.K = K := by rfl) (hc : X.calm = true := by rfl) : CallR X (.builtin "any") (rAny K) := by subst h; exact cr_any hc
theorem maxK (K : PySem.W.Frag) (h : X.K = K := by rfl) (hc : X.calm = true := by rfl) : CallR X (.builtin "max") (rMax K) := by subst h; exact cr_max hc
theorem minK (K : PySem.W.Frag) (h : X.K = K := by rfl) (hc : X.calm = true := by rfl) : CallR X (.builtin "min") (rMin K) := by subst h; exact cr_min hc
theorem sortedK (K : PySem.W.Frag) (h : X.K = K := by rfl) : CallR X (.builtin "sorted") (rSortedI K) := by subst h; exact cr_sortedI
theorem sortedTK (K : PySem.W.Frag) (h : X.K = K := by rfl) : CallR X (.builtin "sorted") (rSortedB K true) := by subst h; exact cr_sortedT
theorem sortedPK (K : PySem.W.Frag) (h : X.K = K := by rfl) : CallR X (.builtin "sorted") (rSortedPO K) := by subst h; exact cr_sortedPO
theorem tupleK (K : PySem.W.Frag) (h : X.K = K := by rfl) : CallR X (.type "tuple") (rTupOf K) := by subst h; exact call_tuple_of
theorem listK (K : PySem.W.Frag) (h : X.K = K := by rfl) : CallR X (.type "list") (rListOf K) := by subst h; exact call_list_of
theorem isiK (K : PySem.W.Frag) (h : X.K = K := by rfl) : CallR X (.builtin "isinstance") (rIsi K) := by subst h; exact call_isi
theorem isiTK (K : PySem.W.Frag) (h : X.K = K := by rfl) : CallR X (.builtin "isinstance") (rIsiT K) := by subst h; exact call_isiT
theorem ixL (K : PySem.W.Frag) (h : X.K = K := by rfl) : IxR X (rIxL K) := by subst h; exact ix_list
theorem ixT (K : PySem.W.Frag) (h : X.K = K := by rfl) : IxR X (rIxT K) := by subst h; exact ix_tup
theorem ixA (K : PySem.W.Frag) (h : X.K = K := by rfl) : IxR X (rIx K) := by subst h; exact ix_seq
theorem slL (K : PySem.W.Frag) (h : X.K = K := by rfl) : SlR X (rSlL K) := by subst h; exact sl_list
theorem slT (K : PySem.W.Frag) (h : X.K = K := by rfl) : SlR X (rSlA K) := by subst h; exact sl_tupA
theorem catK (K : PySem.W.Frag) (h : X.K = K := by rfl) : OpR X (binaryOp .Add) (rCatA K) := by subst h; exact op_catA
theorem inK (K : PySem.W.Frag) (h : X.K = K := by rfl) : OpR X (compareOp .In) (rIn K false) := by subst h; exact op_in_seq
theorem notinK (K : PySem.W.Frag) (h : X.K = K := by rfl) : OpR X (compareOp .NotIn) (rIn K true) := by subst h; exact op_notIn_seq
theorem eqDK (K : PySem.W.Frag) (hu : X.A.units + 64 < cLine) (h : X.K = K := by rfl) : OpR X (compareOp .Eq) (rEqD K) := by subst h; exact op_eqD hu
theorem neDK (K : PySem.W.Frag) (hu : X.A.units + 64 < cLine) (h : X.K = K := by rfl) : OpR X (compareOp .NotEq) (rNeD K) := by subst h; exact op_neD hu
theorem pgT (K : PySem.W.Frag) (n : Nat) {es : List Expr} {k : Nat} {pos : Pos} {t : TGs} (hc : X.calm = true) (hg : PGs X es t) (h : X.K = K := by rfl) (hn : (assignEach es X.env).length = n := by rfl) (hst : (assignEach es X.env).findIdx? (·.1) = none := by rfl) : PG X (.Tuple es k pos) (gTup K n t) := by subst h; exact pg_tup hc hg hn hst
theorem piL (K : PySem.W.Frag) {tg l : Expr} {tl : TE} (hl : PE X l tl) (h : X.K = K := by rfl) : PI X tg l (iList K tl) := by subst h; exact pi_list hl
theorem piT (K : PySem.W.Frag) {tg l : Expr} {tl : TE} (hl : PE X l tl) (h : X.K = K := by rfl) : PI X tg l (iTup K tl) := by subst h; exact pi_tup hl
theorem enumK (K : PySem.W.Frag) (tp : Bool) {e : Expr} {ta : TA} {p pos tpos : Pos} {elts : List Expr} {kk : Nat} (hg : Gl X "enumerate") (hm : X.mg "enumerate" = none) (ha : PA X [e] ta) (h : X.K = K := by rfl) (hs : starEach [e] X.env = [(false, eval e X.env)] := by rfl) :
    PI X (.Tuple elts kk tpos) (.Call (.Name "enumerate" p) [e] [] pos) (iEnumB K tp ta) := by subst h; exact pi_enumB tp hg hm ha hs
theorem zipK (K : PySem.W.Frag) (ka kb : Bool) {e e2 : Expr} {ta : TA} {p pos tpos : Pos} {elts : List Expr} {kk : Nat} (hg : Gl X "zip") (hm : X.mg "zip" = none) (ha : PA X [e, e2] ta) (h : X.K = K := by rfl)
    (hs : starEach [e, e2] X.env = (false, eval e X.env) :: starEach [e2] X.env := by rfl) (hpl : (backTo pos (starEach [e2] X.env)).any (·.1) = false := by rfl) :
    PI X (.Tuple elts kk tpos) (.Call (.Name "zip" p) [e, e2] [] pos) (iZipB K ka kb ta) := by subst h; exact pi_zipB ka kb hg hm ha hs hpl
theorem pe_revK (K : PySem.W.Frag) {e : Expr} {te : TE} {k : Nat} {p1 p2 p3 pos : Pos} (he : PE X e te) (h : X.K = K := by rfl) : PE X (.Subscript e (.Slice none none (some (.UnaryOp .USub (.Constant (.int 1) k p1) p2)) p3) pos) (tRevL K te) := by subst h; exact pe_revL he
end
end LF
namespace LF
open PySem PySem.Spec PyProof.Rows L2
def ItB (K : PySem.W.Frag) : Bool → Addr → It
  | false => Itl K
  | true => Itt K
/-- a for over a list or a tuple -/
def iSeq (K : PySem.W.Frag) (tp : Bool) (tl : TE) : TI := fun σ H R => tl σ H fun x H1 => ∃ a, x = .ref a ∧ (∃ xs, SqB K tp H1 a xs) ∧ R (ItB K tp a) H1
theorem piB {X : Cx} (K : PySem.W.Frag) (tp : Bool) {tg l : Expr} {tl : TE} (hl : PE X l tl) (h : X.K = K := by rfl) : PI X tg l (iSeq K tp tl) := by
  subst h
  cases tp with
  | false => exact pi_list hl
  | true => exact pi_tup hl
theorem walk_B {K : PySem.W.Frag} {tp : Bool} {a : Addr} {xs : List V} : Walk (ItB K tp a) xs.length (fun H => SqB K tp H a xs) (YAt xs) := by
  cases tp with
  | false => exact walk_list
  | true => exact walk_tup
/-- a tracked tuple of ints -/
def VT (H : Hp) (v : V) (c : List Int) : Prop := ∃ t, v = V.ref t ∧ H t = some (.tup (vi c))
theorem VT.keep {H H' : Hp} {D : Addr} {acc : List V} {v : V} {c : List Int} (h : H D = some (.lst acc)) (s : Smt D H H') (r : VT H v c) : VT H' v c := by
  obtain ⟨t, e, ht⟩ := r
  refine ⟨t, e, s t _ ht fun z => ?_⟩
  rw [z, h] at ht
  cases ht
theorem VT.same {H H' : Hp} {v : V} {c : List Int} (s : Same H H') (r : VT H v c) : VT H' v c := by
  obtain ⟨t, e, ht⟩ := r
  exact ⟨t, e, s t _ ht⟩
end LF
/-! ### la_math: the two sums, in plain Lean -/
namespace LF
theorem fm_get {α β : Type} (g : α → Option β) : ∀ (l : List α), (List.range l.length).filterMap (fun i => l[i]?.bind g) = l.filterMap g
  | [] => rfl
  | x :: r => by
    have ih := fm_get g r
    rw [List.length_cons, List.range_succ_eq_map, List.filterMap_cons, List.filterMap_map]
    have e : (List.range r.length).filterMap ((fun i => (x :: r)[i]?.bind g) ∘ Nat.succ) = r.filterMap g := by
      rw [← ih]
      rfl
    rw [e]
    rw [List.filterMap_cons]
    show (match g x with | none => r.filterMap g | some b => b :: r.filterMap g) = _
    cases g x <;> rfl
theorem fm_map {α β : Type} (f : α → β) (l : List α) : l.filterMap (fun x => some (f x)) = l.map f := by
  induction l with
  | nil => rfl
  | cons x r ih => rw [List.filterMap_cons, List.map_cons, ih]
theorem fm_idx {α β : Type} : ∀ (l : List α) (g : Nat → α → β), (List.range l.length).filterMap (fun i => l[i]?.bind fun x => some (g i x)) = l.mapIdx g
  | [], _ => rfl
  | x :: r, g => by
    have ih := fm_idx r fun i => g (i + 1)
    rw [List.length_cons, List.range_succ_eq_map, List.filterMap_cons, List.filterMap_map, List.mapIdx_cons, ← ih]
    rfl
/-- items by place -/
theorem fm_at {α β : Type} (f : α → β) (l : List α) : (List.range l.length).filterMap (fun i => l[i]?.bind fun x => some (f x)) = l.map f := by rw [fm_get, fm_map]
theorem fm_range {β : Type} (f : Nat → β) (n : Nat) : (List.range n).filterMap (fun i => some (f i)) = (List.range n).map f := fm_map f _
def srt (ds : List Int) : List Int := ds.mergeSort (fun a b => decide (a ≤ b))
theorem srt_perm (ds : List Int) : (srt ds).Perm ds := List.mergeSort_perm ds _
theorem srt_up (ds : List Int) : (srt ds).Pairwise (· ≤ ·) := by
  have h := List.pairwise_mergeSort (le := fun a b : Int => decide (a ≤ b)) (fun a b c h1 h2 => by simp only [decide_eq_true_eq] at *; omega) (fun a b => by simp only [Bool.or_eq_true, decide_eq_true_eq]; omega) ds
  exact h.imp fun h => of_decide_eq_true h
theorem srt_is {ns ds : List Int} (h : ns.Perm ds) (u : ns.Pairwise (· ≤ ·)) : ns = srt ds :=
  List.Perm.eq_of_pairwise (fun _ _ _ _ h1 h2 => Int.le_antisymm h1 h2) u (srt_up ds) (h.trans (srt_perm ds).symm)
theorem srt_len (ds : List Int) : (srt ds).length = ds.length := (srt_perm ds).length_eq
theorem srt_of_perm {a b : List Int} (h : a.Perm b) : srt a = srt b := srt_is ((srt_perm a).trans h) (srt_up a)
/-- what candles have for k ticks -/
def cnt (cs : List Int) (k : Int) : Int := (cs.map fun w => if k < w then k else w).sum
/-- what draughts want for k ticks -/
def wnt (ds : List Int) (k : Nat) : Int := (((srt ds).drop (ds.length - k)).map fun d => d + 1).sum
def spr (cs ds : List Int) : List Int := (List.range ds.length).map fun (i : Nat) => cnt cs ((i : Int) + 1) - wnt ds (i + 1)
def can (cs ds : List Int) : Bool := (spr cs ds).all fun s => decide (0 ≤ s)
def fails (cs ds : List Int) : List Int := (List.range (spr cs ds).length).filterMap fun (i : Nat) => (spr cs ds)[i]?.bind fun s => if s < 0 then some ((i : Int) + 1) else none
theorem spr_len (cs ds : List Int) : (spr cs ds).length = ds.length := by
  unfold spr
  rw [List.length_map, List.length_range]
theorem cnt_eq (cs : List Int) (k : Int) : (cs.map fun w => if w < k then w else k).sum = cnt cs k := by
  unfold cnt
  congr 1
  refine List.map_congr_left fun w _ => ?_
  by_cases h : w < k
  · rw [if_pos h, if_neg (by omega)]
  · by_cases h2 : k < w
    · rw [if_neg h, if_pos h2]
    · rw [if_neg h, if_neg h2]
      omega
theorem sum_succ (l : List Int) : (l.map fun d => d + 1).sum = l.sum + l.length := by
  induction l with
  | nil => rfl
  | cons x r ih =>
    rw [List.map_cons, List.sum_cons, List.sum_cons, ih, List.length_cons]
    omega
theorem sum_rev (l : List Int) : l.reverse.sum = l.sum := by
  induction l with
  | nil => rfl
  | cons x r ih =>
    rw [List.reverse_cons, List.sum_append, ih, List.sum_cons]
    show r.sum + (x + 0) = x + r.sum
    omega
/-- the law's way: the strongest first -/
theorem wnt_eq (ds : List Int) (k : Nat) (h : k ≤ ds.length) : wnt ds k = ((srt ds).reverse.take k).sum + k := by
  unfold wnt
  rw [sum_succ, List.take_reverse, sum_rev, srt_len, List.length_drop, srt_len]
  have e : ds.length - (ds.length - k) = k := by omega
  rw [e]
theorem can_iff (cs ds : List Int) : can cs ds = true ↔ ∀ k, 1 ≤ k → k ≤ ds.length → wnt ds k ≤ cnt cs k := by
  unfold can spr
  rw [List.all_eq_true]
  constructor
  · intro h k h1 h2
    have q := h (cnt cs (((k - 1 : Nat) : Int) + 1) - wnt ds (k - 1 + 1)) (List.mem_map.mpr ⟨k - 1, List.mem_range.mpr (by omega), rfl⟩)
    have q := of_decide_eq_true q
    have e1 : k - 1 + 1 = k := by omega
    have e2 : ((k - 1 : Nat) : Int) + 1 = (k : Int) := by omega
    rw [e1, e2] at q
    omega
  · intro h s hs
    obtain ⟨i, hi, rfl⟩ := List.mem_map.mp hs
    have q := h (i + 1) (by omega) (by have := List.mem_range.mp hi; omega)
    have e2 : ((i + 1 : Nat) : Int) = (i : Int) + 1 := by omega
    rw [e2] at q
    exact decide_eq_true (by omega)
/-- the law's own word for it -/
theorem can_min {cs ds : List Int} {m : Int} (h1 : m ∈ 0 :: spr cs ds) (h2 : ∀ y, y ∈ 0 :: spr cs ds → m ≤ y) : decide (m = 0) = can cs ds := by
  unfold can
  have h0 := h2 0 List.mem_cons_self
  by_cases e : m = 0
  · rw [decide_eq_true e]
    refine (List.all_eq_true.mpr fun y hy => ?_).symm
    have := h2 y (List.mem_cons_of_mem _ hy)
    exact decide_eq_true (by omega)
  · rw [decide_eq_false e]
    rcases List.mem_cons.mp h1 with z | z
    · exact absurd z e
    · cases q : (spr cs ds).all fun s => decide (0 ≤ s) with
      | false => rfl
      | true =>
        have := of_decide_eq_true (List.all_eq_true.mp q m z)
        omega
end LF
/-! ### la_data: data as the library's == sees them -/
namespace LF
open PySem PySem.Spec PyProof.Rows L2
/-- data that == may be asked of, at most n deep -/
def Okd (n : Nat) (d : PyData) : Prop := d.canLay0 = true ∧ d.depth ≤ n
theorem Okd.mono {n m : Nat} {d : PyData} (h : Okd n d) (l : n ≤ m) : Okd m d := ⟨h.1, Nat.le_trans h.2 l⟩
theorem okd_int (n : Nat) (i : Int) : Okd n (.int i) := ⟨by simp only [PyData.canLay0], by simp only [PyData.depth]; exact Nat.zero_le _⟩
theorem okd_bool (n : Nat) (b : Bool) : Okd n (.bool b) := ⟨by simp only [PyData.canLay0], by simp only [PyData.depth]; exact Nat.zero_le _⟩
theorem okd_none (n : Nat) : Okd n .none := ⟨by simp only [PyData.canLay0], by simp only [PyData.depth]; exact Nat.zero_le _⟩
theorem okd_all {n : Nat} : ∀ {ds : List PyData}, (∀ d ∈ ds, Okd n d) → PyData.canLayAll0 ds = true ∧ PyData.depthAll ds ≤ n
  | [], _ => ⟨by simp only [PyData.canLayAll0], by simp only [PyData.depthAll]; exact Nat.zero_le _⟩
  | d :: r, h => by
    have h1 := h d List.mem_cons_self
    have h2 := okd_all fun x hx => h x (List.mem_cons_of_mem _ hx)
    simp only [PyData.canLayAll0, PyData.depthAll]
    exact ⟨by rw [h1.1, h2.1]; rfl, Nat.max_le.mpr ⟨h1.2, h2.2⟩⟩
theorem okd_list {n : Nat} {ds : List PyData} (h : ∀ d ∈ ds, Okd n d) : Okd (n + 1) (.list ds) := by
  have q := okd_all h
  exact ⟨by simp only [PyData.canLay0]; exact q.1, by simp only [PyData.depth]; exact Nat.succ_le_succ q.2⟩
theorem okd_tup {n : Nat} {ds : List PyData} (h : ∀ d ∈ ds, Okd n d) : Okd (n + 1) (.tuple ds) := by
  have q := okd_all h
  exact ⟨by simp only [PyData.canLay0]; exact q.1, by simp only [PyData.depth]; exact Nat.succ_le_succ q.2⟩
theorem Okd.shaped {n : Nat} {d : PyData} (h : Okd n d) (l : n ≤ 64) : SeqAt.shaped d = true := by
  unfold SeqAt.shaped
  rw [h.1, decide_eq_true (Nat.le_trans h.2 l)]
  rfl
abbrev di (ns : List Int) : List PyData := ns.map PyData.int
theorem okd_ints (n : Nat) (ns : List Int) : ∀ d ∈ di ns, Okd n d := fun d hd => by
  obtain ⟨i, _, rfl⟩ := List.mem_map.mp hd
  exact okd_int n i
theorem shaped_ints (ns : List Int) : SeqAt.shaped (.list (di ns)) = true := (okd_list (okd_ints 0 ns)).shaped (by decide)
theorem shaped_tints (ns : List Int) : SeqAt.shaped (.tuple (di ns)) = true := (okd_tup (okd_ints 0 ns)).shaped (by decide)
theorem dp_ints {K : PySem.W.Frag} {H : Hp} : ∀ ns : List Int, DpAll K H (vi ns) (di ns)
  | [] => .nil
  | n :: r => .cons (.int n) (dp_ints r)
theorem dp_list {K : PySem.W.Frag} {H : Hp} {p : Addr} {ns : List Int} (h : SqL K H p (vi ns)) : Dp K H (.ref p) (.list (di ns)) := .lst h (dp_ints ns)
theorem dp_tup {K : PySem.W.Frag} {H : Hp} {p : Addr} {ns : List Int} (h : SqT K H p (vi ns)) : Dp K H (.ref p) (.tuple (di ns)) := .tup h (dp_ints ns)
theorem eqvAll_ints : ∀ ns ms : List Int, PyData.eqvAll (di ns) (di ms) = decide (ns = ms)
  | [], [] => by simp only [List.map_nil, PyData.eqvAll]; rfl
  | [], _ :: _ => by simp [PyData.eqvAll]
  | _ :: _, [] => by simp [PyData.eqvAll]
  | n :: r, m :: r' => by
    have ih := eqvAll_ints r r'
    show PyData.eqvAll (PyData.int n :: di r) (PyData.int m :: di r') = _
    rw [PyData.eqvAll, ih, PyData.eqv]
    by_cases h : n = m
    · by_cases h2 : r = r'
      · simp [h, h2]
      · simp [h, h2]
    · simp [h]
theorem eqv_lists (ns ms : List Int) : PyData.eqv (.list (di ns)) (.list (di ms)) = decide (ns = ms) := by
  rw [PyData.eqv]
  exact eqvAll_ints ns ms
theorem eqv_tups (ns ms : List Int) : PyData.eqv (.tuple (di ns)) (.tuple (di ms)) = decide (ns = ms) := by
  rw [PyData.eqv]
  exact eqvAll_ints ns ms
end LF
namespace L2
open PySem
mutual
theorem Dp.same {K : PySem.W.Frag} {H H' : Hp} (e : Same H H') : ∀ {d : PyData} {v : V}, Dp K H v d → Dp K H' v d
  | _, _, .non => .non
  | _, _, .bl b => .bl b
  | _, _, .int i => .int i
  | _, _, .str x => .str x
  | _, _, .lst h a => .lst (e.seq h) (DpAll.same e a)
  | _, _, .tup h a => .tup (e.sqt h) (DpAll.same e a)
theorem DpAll.same {K : PySem.W.Frag} {H H' : Hp} (e : Same H H') : ∀ {ds : List PyData} {vs : List V}, DpAll K H vs ds → DpAll K H' vs ds
  | _, _, .nil => .nil
  | _, _, .cons h a => .cons (Dp.same e h) (DpAll.same e a)
end
end L2
namespace LF
open PySem PySem.Spec PyProof.Rows L2
theorem dpall_len {K : PySem.W.Frag} {H : Hp} : ∀ {vs : List V} {ds : List PyData}, DpAll K H vs ds → vs.length = ds.length
  | _, _, .nil => rfl
  | _, _, .cons _ t => congrArg (· + 1) (dpall_len t)
theorem dpall_get {K : PySem.W.Frag} {H : Hp} : ∀ {vs : List V} {ds : List PyData} {i : Nat} {d : PyData}, DpAll K H vs ds → ds[i]? = some d → ∃ v, vs[i]? = some v ∧ Dp K H v d
  | _, _, i, d, .nil, e => by simp at e
  | _, _, 0, d, .cons h _, e => by
    cases Option.some.inj e
    exact ⟨_, rfl, h⟩
  | _, _, i + 1, d, .cons _ t, e => dpall_get (i := i) t e
/-- the class of a datum -/
def dty : PyData → String
  | .none => "NoneType"
  | .bool _ => "bool"
  | .int _ => "int"
  | .str _ => "str"
  | .list _ => "list"
  | .tuple _ => "tuple"
  | .dict _ => "dict"
def isSeq : PyData → Bool
  | .list _ => true
  | .tuple _ => true
  | _ => false
theorem dp_ty {K : PySem.W.Frag} {H : Hp} {v : V} {d : PyData} (h : Dp K H v d) : TyX K H v (.type (dty d)) := by
  cases h with
  | non => exact .base .non
  | bl b => exact .base (.bl b)
  | int i => exact .base (.int i)
  | str x => exact .base (.str x)
  | lst h a =>
    rcases h with (h | ⟨o, h⟩) | ⟨o, its, n, hk, hc, _⟩
    · exact .base (.lst h)
    · exact .base (.frz h)
    · exact .kList hk hc
  | tup h a =>
    rcases h with (h | ⟨o, h⟩) | ⟨o, its, n, hk, hc, _⟩
    · exact .base (.tup h)
    · exact .fTuple h
    · exact .kTuple hk hc
/-- is it of the class T, by names -/
def isN (a T : String) : Bool := decide (a = T) || (decide (a = "bool") && decide (T = "int"))
def dis (T : String) (d : PyData) : Bool := isN (dty d) T
def tyNames : List String := ["NoneType", "bool", "int", "str", "list", "tuple", "dict"]
theorem kit_names : ∀ a ∈ tyNames, ∀ T ∈ ["int", "bool", "list", "tuple", "str"], kitB a T = some (isN a T) := by decide +kernel
theorem dty_mem (d : PyData) : dty d ∈ tyNames := by
  cases d <;> simp [dty, tyNames]
theorem kit_d {K : PySem.W.Frag} (d : PyData) {T : String} (hT : T ∈ ["int", "bool", "list", "tuple", "str"]) : PySem.W.kitOne K (.type (dty d)) (.type T) = some (dis T d) := kit_ty (kit_names _ (dty_mem d) T hT)
theorem seq_names : ∀ a ∈ tyNames, isN a "list" = true ∨ isN a "tuple" = true ↔ (a = "list" ∨ a = "tuple") := by decide +kernel
theorem isSeq_n (d : PyData) : isSeq d = (dis "list" d || dis "tuple" d) := by
  cases d <;> simp [isSeq, dis, isN, dty]
theorem kit_lt {K : PySem.W.Frag} (d : PyData) : PySem.W.kitAny K (.type (dty d)) [.type "list", .type "tuple"] = some (isSeq d) := by
  rw [isSeq_n]
  refine kitAny_cons (kit_d d (by simp)) (fun h => ?_) (fun h => by rw [h]; rfl)
  rw [h, Bool.false_or]
  refine kitAny_cons (kit_d d (by simp)) (fun h2 => by rw [h2]; exact kitAny_nil) (fun h2 => h2)
theorem kit_tl {K : PySem.W.Frag} (d : PyData) : PySem.W.kitAny K (.type (dty d)) [.type "tuple", .type "list"] = some (isSeq d) := by
  rw [isSeq_n, Bool.or_comm]
  refine kitAny_cons (kit_d d (by simp)) (fun h => ?_) (fun h => by rw [h]; rfl)
  rw [h, Bool.false_or]
  refine kitAny_cons (kit_d d (by simp)) (fun h2 => by rw [h2]; exact kitAny_nil) (fun h2 => h2)
/-- data at most n - 1 deep, no list of more than a thousand -/
def Fit : Nat → PyData → Prop
  | 0, _ => False
  | n + 1, .list ds => ds.length ≤ 1000 ∧ ∀ d ∈ ds, Fit n d
  | n + 1, .tuple ds => ds.length ≤ 1000 ∧ ∀ d ∈ ds, Fit n d
  | _ + 1, .dict _ => False
  | _ + 1, _ => True
theorem fit_ints {n : Nat} {ns : List Int} (h : ns.length ≤ 1000) : Fit (n + 2) (.list (di ns)) := ⟨by rw [List.length_map]; exact h, fun d hd => by
  obtain ⟨i, _, rfl⟩ := List.mem_map.mp hd
  exact True.intro⟩
theorem fit_tints {n : Nat} {ns : List Int} (h : ns.length ≤ 1000) : Fit (n + 2) (.tuple (di ns)) := ⟨by rw [List.length_map]; exact h, fun d hd => by
  obtain ⟨i, _, rfl⟩ := List.mem_map.mp hd
  exact True.intro⟩
theorem sqb_or {K : PySem.W.Frag} {H : Hp} {a : Addr} {xs : List V} {tp : Bool} (h : SqB K tp H a xs) : SqL K H a xs ∨ SqT K H a xs := by
  cases tp with
  | false => exact .inl h
  | true => exact .inr h
theorem ix_b {K : PySem.W.Frag} {H : Hp} {a : Addr} {xs : List V} {tp : Bool} {i : Int} {v : V} {Q : VK} (h : SqB K tp H a xs) (e : atI xs i = some v) (q : Q v H) : rIx K (.ref a) (.int i) H Q := by
  cases tp with
  | false => exact .inl ⟨a, xs, i, v, rfl, rfl, h, e, q⟩
  | true => exact .inr (.inl ⟨a, xs, i, v, rfl, rfl, h, e, q⟩)
end LF
namespace LF
open PySem PySem.Spec PyProof.Rows L2
abbrev dts (css : List (List Int)) : List PyData := css.map fun c => PyData.tuple (di c)
theorem dp_vts {K : PySem.W.Frag} {H : Hp} : ∀ {xs : List V} {css : List (List Int)}, Paired (VT H) xs css → DpAll K H xs (dts css)
  | _, _, .nil => .nil
  | _, _, .cons r t => by
    obtain ⟨a, e, ha⟩ := r
    subst e
    exact .cons (dp_tup (SqT.of ha)) (dp_vts t)
theorem fit_dts {n : Nat} {css : List (List Int)} (h : css.length ≤ 1000) (h2 : ∀ c ∈ css, c.length ≤ 1000) : Fit (n + 3) (.list (dts css)) := ⟨by rw [List.length_map]; exact h, fun d hd => by
  obtain ⟨c, hc, rfl⟩ := List.mem_map.mp hd
  exact fit_tints (h2 c hc)⟩
theorem shaped_dts (css : List (List Int)) : SeqAt.shaped (.list (dts css)) = true := (okd_list (n := 1) fun d hd => by
  obtain ⟨c, _, rfl⟩ := List.mem_map.mp hd
  exact okd_tup (okd_ints 0 c)).shaped (by decide)
theorem eqv_nil (ds : List PyData) : PyData.eqv (.list ds) (.list (di [])) = ds.isEmpty := by
  rw [PyData.eqv]
  cases ds with
  | nil => simp only [List.map_nil, PyData.eqvAll]; rfl
  | cons x r => simp only [List.map_nil, PyData.eqvAll]; rfl
theorem inV_ints (z : Int) (ns : List Int) : inV (.int z) (vi ns) = decide (z ∈ ns) := by
  induction ns with
  | nil => rfl
  | cons n r ih =>
    show (eqV (.int n) (.int z) || inV (.int z) (vi r)) = _
    rw [ih]
    show ((n == z) || decide (z ∈ r)) = decide (z ∈ n :: r)
    by_cases h : n = z
    · simp [h]
    · have h2 : ¬ z = n := fun e => h e.symm
      simp [h, h2]
def spSpares (K : PySem.W.Frag) : Sp := fun vs H Q _ => ∃ (a b : Addr) (cs ds : List Int), vs = [.ref a, .ref b] ∧ SqT K H a (vi cs) ∧ SqT K H b (vi ds) ∧ cs.length ≤ 1000 ∧ ds.length ≤ 1000 ∧ ∀ H' p, Same H H' → H p = none → H' p = some (.lst (vi (spr cs ds))) → Q (.ref p) H'
def spCan (K : PySem.W.Frag) : Sp := fun vs H Q _ => ∃ (a b : Addr) (cs ds : List Int), vs = [.ref a, .ref b] ∧ SqT K H a (vi cs) ∧ SqT K H b (vi ds) ∧ cs.length ≤ 1000 ∧ ds.length ≤ 1000 ∧ ∀ H', Same H H' → Q (.bl (can cs ds)) H'
end LF
/-! ### la_keep: whom the keeper lights, in plain Lean -/
namespace LF
/-- pairs in Python's order -/
def leP (p q : Int × Int) : Bool := decide (p.1 < q.1) || (decide (p.1 = q.1) && decide (p.2 ≤ q.2))
theorem leP_iff {p q : Int × Int} : leP p q = true ↔ p.1 < q.1 ∨ (p.1 = q.1 ∧ p.2 ≤ q.2) := by
  unfold leP
  simp only [Bool.or_eq_true, Bool.and_eq_true, decide_eq_true_eq]
def srtP (l : List (Int × Int)) : List (Int × Int) := l.mergeSort leP
theorem srtP_perm (l : List (Int × Int)) : (srtP l).Perm l := List.mergeSort_perm l _
theorem srtP_up (l : List (Int × Int)) : (srtP l).Pairwise (fun p q => leP p q = true) :=
  List.pairwise_mergeSort (le := leP) (fun a b c h1 h2 => by rw [leP_iff] at *; omega) (fun a b => by rw [Bool.or_eq_true, leP_iff, leP_iff]; omega) l
theorem srtP_is {m l : List (Int × Int)} (h : m.Perm l) (u : m.Pairwise (fun p q => leP p q = true)) : m = srtP l :=
  List.Perm.eq_of_pairwise (fun p q _ _ h1 h2 => by
    rw [leP_iff] at h1 h2
    exact Prod.ext (by omega) (by omega)) u (srtP_up l) (h.trans (srtP_perm l).symm)
/-- the candles that have wax: most first, of as much the lesser places -/
def rowsOf (cs : List Int) : List (Int × Int) := (List.range cs.length).filterMap fun (i : Nat) => cs[i]?.bind fun w => if 0 < w then some (-w, (i : Int)) else none
def lightsF (cs : List Int) (d : Int) : Option (List Int) := if ((rowsOf cs).length : Int) ≤ d then none else some (srt (((srtP (rowsOf cs)).take (d + 1).toNat).map Prod.snd))
/-- the candles behind a tick -/
def bit (lit out : List Int) (i : Int) : Int := if i ∈ lit ∧ i ∉ out then 1 else 0
def burntF (cs lit out : List Int) : List Int := cs.mapIdx fun i w => w - bit lit out i
theorem burntF_eq (cs lit out : List Int) : burntF cs lit out = cs.mapIdx fun i w => w - bit lit out i := rfl
theorem burntF_len (cs lit out : List Int) : (burntF cs lit out).length = cs.length := by
  rw [burntF_eq, List.length_mapIdx]
theorem burntF_get {cs lit out : List Int} {i : Nat} {w : Int} (h : cs[i]? = some w) : (burntF cs lit out)[i]? = some (w - bit lit out i) := by
  rw [burntF_eq, List.getElem?_mapIdx, h]
  rfl
theorem rowsOf_mem {cs : List Int} {p : Int × Int} : p ∈ rowsOf cs ↔ ∃ (i : Nat) (w : Int), cs[i]? = some w ∧ 0 < w ∧ p = (-w, (i : Int)) := by
  unfold rowsOf
  rw [List.mem_filterMap]
  constructor
  · rintro ⟨i, hi, e⟩
    cases h : cs[i]? with
    | none =>
      rw [h] at e
      cases e
    | some w =>
      rw [h] at e
      by_cases hw : 0 < w
      · have e : (if 0 < w then some (-w, (i : Int)) else none) = some p := e
        rw [if_pos hw] at e
        exact ⟨i, w, h, hw, (Option.some.inj e).symm⟩
      · have e : (if 0 < w then some (-w, (i : Int)) else none) = some p := e
        rw [if_neg hw] at e
        cases e
  · rintro ⟨i, w, h, hw, rfl⟩
    refine ⟨i, List.mem_range.mpr (List.getElem?_eq_some_iff.mp h).1, ?_⟩
    rw [h]
    exact if_pos hw
theorem rowsOf_nodup (cs : List Int) : ((rowsOf cs).map Prod.snd).Nodup := by
  have e0 : (rowsOf cs).map Prod.snd = (List.range cs.length).filterMap (fun (i : Nat) => (cs[i]?.bind fun w => if 0 < w then some (-w, (i : Int)) else none).map Prod.snd) := by
    unfold rowsOf
    exact List.map_filterMap
  rw [e0]
  have h : (List.range cs.length).Pairwise (fun a b => a < b) := List.pairwise_lt_range
  have h2 : ((List.range cs.length).filterMap (fun (i : Nat) => (cs[i]?.bind fun w => if 0 < w then some (-w, (i : Int)) else none).map Prod.snd)).Pairwise (fun a b : Int => a < b) := by
    refine List.Pairwise.filterMap (R := fun a b : Nat => a < b) _ (fun a a' haa b hb b' hb' => ?_) h
    have key : ∀ (a : Nat) (b : Int), (cs[a]?.bind fun w => if 0 < w then some (-w, (a : Int)) else none).map Prod.snd = some b → b = (a : Int) := fun a b e => by
      cases q : cs[a]? with
      | none =>
        rw [q] at e
        cases e
      | some w =>
        rw [q] at e
        have e : ((if 0 < w then some (-w, (a : Int)) else none)).map Prod.snd = some b := e
        by_cases hw : 0 < w
        · rw [if_pos hw] at e
          exact (Option.some.inj e).symm
        · rw [if_neg hw] at e
          cases e
    rw [key a b hb, key a' b' hb']
    omega
  exact h2.imp fun h => Int.ne_of_lt h
/-- what is known of those that are lit -/
structure Lit (cs : List Int) (d : Int) (lit : List Int) : Prop where
  len : (lit.length : Int) = d + 1
  up : lit.Pairwise (· < ·)
  wax : ∀ i ∈ lit, ∃ (k : Nat) (w : Int), i = (k : Int) ∧ cs[k]? = some w ∧ 0 < w
  top : ∀ i ∈ lit, ∀ (k j : Nat) (w v : Int), i = (k : Int) → cs[k]? = some w → cs[j]? = some v → (j : Int) ∉ lit → v ≤ w
theorem Lit.nd {cs : List Int} {d : Int} {lit : List Int} (h : Lit cs d lit) : lit.Nodup := h.up.imp fun h => Int.ne_of_lt h
theorem srt_lt {l : List Int} (h : l.Nodup) : (srt l).Pairwise (· < ·) := by
  have h1 := srt_up l
  have h2 : (srt l).Pairwise (· ≠ ·) := (srt_perm l).nodup_iff.mpr h
  exact h1.imp₂ (fun a b h1 h2 => by omega) h2
theorem lights_lit {cs lit : List Int} {d : Int} (h0 : 0 ≤ d) (h : lightsF cs d = some lit) : Lit cs d lit := by
  unfold lightsF at h
  by_cases hc : ((rowsOf cs).length : Int) ≤ d
  · rw [if_pos hc] at h
    cases h
  rw [if_neg hc] at h
  have e := (Option.some.inj h).symm
  subst e
  have hp := srtP_perm (rowsOf cs)
  have hsub : ((srtP (rowsOf cs)).take (d + 1).toNat).map Prod.snd |>.Sublist ((srtP (rowsOf cs)).map Prod.snd) := (List.take_sublist _ _).map _
  have hnd : (((srtP (rowsOf cs)).take (d + 1).toNat).map Prod.snd).Nodup := hsub.nodup ((hp.map Prod.snd).nodup_iff.mpr (rowsOf_nodup cs))
  have hlen : (srtP (rowsOf cs)).length = (rowsOf cs).length := hp.length_eq
  have mem : ∀ i, i ∈ srt (((srtP (rowsOf cs)).take (d + 1).toNat).map Prod.snd) ↔ ∃ p ∈ (srtP (rowsOf cs)).take (d + 1).toNat, p.2 = i := fun i => by
    rw [(srt_perm _).mem_iff, List.mem_map]
  refine ⟨?_, srt_lt hnd, fun i hi => ?_, fun i hi k j w v ek hk hj hn => ?_⟩
  · rw [srt_len, List.length_map, List.length_take, hlen]
    omega
  · obtain ⟨p, hpm, e⟩ := (mem i).mp hi
    obtain ⟨k, w, h1, h2, rfl⟩ := rowsOf_mem.mp (hp.mem_iff.mp ((List.take_sublist _ _).mem hpm))
    exact ⟨k, w, e.symm, h1, h2⟩
  · obtain ⟨p, hpm, e⟩ := (mem i).mp hi
    obtain ⟨k', w', h1, h2, rfl⟩ := rowsOf_mem.mp (hp.mem_iff.mp ((List.take_sublist _ _).mem hpm))
    have ekk : k' = k := by
      have : (k' : Int) = i := e
      omega
    subst ekk
    rw [hk] at h1
    cases h1
    by_cases hv : 0 < v
    · have hq : ((-v, (j : Int)) : Int × Int) ∈ srtP (rowsOf cs) := hp.mem_iff.mpr (rowsOf_mem.mpr ⟨j, v, hj, hv, rfl⟩)
      have hd : ((-v, (j : Int)) : Int × Int) ∈ (srtP (rowsOf cs)).drop (d + 1).toNat := by
        rw [← List.take_append_drop (d + 1).toNat (srtP (rowsOf cs))] at hq
        rcases List.mem_append.mp hq with q | q
        · exact absurd ((mem _).mpr ⟨_, q, rfl⟩) hn
        · exact q
      have hup := srtP_up (rowsOf cs)
      rw [← List.take_append_drop (d + 1).toNat (srtP (rowsOf cs))] at hup
      have q := (List.pairwise_append.mp hup).2.2 _ hpm _ hd
      rw [leP_iff] at q
      have q : -w < -v ∨ (-w = -v ∧ (k' : Int) ≤ (j : Int)) := q
      omega
    · omega
/-- ticks one behind the other: lit, then what is left -/
def lotsF (cs : List Int) : List Int → Option (List (List Int × List Int))
  | [] => some []
  | d :: r => match lightsF cs d with
    | none => none
    | some lit => (lotsF (burntF cs lit []) r).map fun l => (lit, burntF cs lit []) :: l
theorem lotsF_cons (cs : List Int) (d : Int) (r : List Int) : lotsF cs (d :: r) = (match lightsF cs d with
    | none => none
    | some lit => (lotsF (burntF cs lit []) r).map fun l => (lit, burntF cs lit []) :: l) := rfl
theorem lotsF_len {ds : List Int} : ∀ {cs : List Int} {l : List (List Int × List Int)}, lotsF cs ds = some l → l.length = ds.length := by
  induction ds with
  | nil =>
    intro cs l h
    cases Option.some.inj h
    rfl
  | cons d r ih =>
    intro cs l h
    unfold lotsF at h
    cases e : lightsF cs d with
    | none =>
      rw [e] at h
      cases h
    | some lit =>
      rw [e] at h
      obtain ⟨l', h1, h2⟩ := Option.map_eq_some_iff.mp h
      rw [← h2, List.length_cons, List.length_cons, ih h1]
theorem sum_bits : ∀ (lit : List Int) (cs : List Int) (s : Nat), lit.Nodup → (∀ i ∈ lit, (s : Int) ≤ i ∧ i < (s : Int) + cs.length) → (cs.mapIdx fun i w => w - bit lit [] ((i + s : Nat) : Int)).sum = cs.sum - lit.length := by
  intro lit cs
  induction cs generalizing lit with
  | nil =>
    intro s _ h
    cases lit with
    | nil => rfl
    | cons x r =>
      have := h x List.mem_cons_self
      simp at this
      omega
  | cons c r ih =>
    intro s hn h
    rw [List.mapIdx_cons, List.sum_cons, List.sum_cons]
    have hm : (r.mapIdx fun i w => w - bit lit [] ((i + 1 + s : Nat) : Int)) = r.mapIdx fun i w => w - bit (lit.filter fun x => decide (x ≠ (s : Int))) [] ((i + (s + 1) : Nat) : Int) := by
      congr 1
      funext i w
      have e : i + 1 + s = i + (s + 1) := by omega
      rw [e]
      unfold bit
      have e2 : (((i + (s + 1) : Nat) : Int) ∈ lit) ↔ (((i + (s + 1) : Nat) : Int) ∈ lit.filter fun x => decide (x ≠ (s : Int))) := by
        rw [List.mem_filter]
        constructor
        · intro q
          exact ⟨q, decide_eq_true (by omega)⟩
        · intro q
          exact q.1
      simp only [← e2]
    rw [hm, ih (lit.filter fun x => decide (x ≠ (s : Int))) (s + 1) (hn.filter _) (fun i hi => ?_)]
    · by_cases hs : (s : Int) ∈ lit
      · have e3 : bit lit [] ((0 + s : Nat) : Int) = 1 := by
          unfold bit
          rw [Nat.zero_add, if_pos ⟨hs, by simp⟩]
        have e4 : (lit.filter fun x => decide (x ≠ (s : Int))).length + 1 = lit.length := by
          have q := List.length_erase_of_mem hs
          have q2 : lit.erase (s : Int) = lit.filter fun x => decide (x ≠ (s : Int)) := by
            rw [hn.erase_eq_filter]
            congr 1
            funext x
            by_cases hx : x = (s : Int) <;> simp [hx]
          rw [← q2, q]
          have := List.length_pos_of_mem hs
          omega
        rw [e3]
        omega
      · have e3 : bit lit [] ((0 + s : Nat) : Int) = 0 := by
          unfold bit
          rw [Nat.zero_add, if_neg (fun q => hs q.1)]
        have e4 : (lit.filter fun x => decide (x ≠ (s : Int))) = lit := List.filter_eq_self.mpr fun x hx => decide_eq_true fun e => hs (e ▸ hx)
        rw [e3, e4]
        omega
    · obtain ⟨h1, h2⟩ := List.mem_filter.mp hi
      have := h i h1
      have h2 := of_decide_eq_true h2
      rw [List.length_cons] at this
      omega
theorem burnt_sum {cs lit : List Int} {d : Int} (h : Lit cs d lit) : (burntF cs lit []).sum = cs.sum - (d + 1) := by
  rw [burntF_eq, ← h.len]
  have q := sum_bits lit cs 0 h.nd (fun i hi => by
    obtain ⟨k, w, e, hk, _⟩ := h.wax i hi
    have := (List.getElem?_eq_some_iff.mp hk).1
    omega)
  exact q
end LF
namespace LF
theorem burnt_step {cs L out : List Int} {i : Int} {k : Nat} {w : Int} (hi : i ∉ L) (ho : i ∉ out) (e : i = (k : Int)) (hk : cs[k]? = some w) : (burntF cs L out).set k (w - 1) = burntF cs (L ++ [i]) out := by
  apply List.ext_getElem?
  intro j
  rw [List.getElem?_set, burntF_len]
  by_cases hj : k = j
  · subst hj
    have hlt := (List.getElem?_eq_some_iff.mp hk).1
    rw [if_pos rfl, if_pos hlt, burntF_get hk]
    unfold bit
    rw [if_pos ⟨List.mem_append_right _ (by rw [← e]; exact List.mem_singleton.mpr rfl), by rw [← e]; exact ho⟩]
  · rw [if_neg hj]
    cases q : cs[j]? with
    | none =>
      rw [List.getElem?_eq_none (by rw [burntF_len]; exact List.getElem?_eq_none_iff.mp q), List.getElem?_eq_none (by rw [burntF_len]; exact List.getElem?_eq_none_iff.mp q)]
    | some v =>
      rw [burntF_get q, burntF_get q]
      have e2 : bit (L ++ [i]) out (j : Int) = bit L out (j : Int) := by
        unfold bit
        have e3 : ((j : Int) ∈ L ++ [i]) ↔ (j : Int) ∈ L := by
          rw [List.mem_append, List.mem_singleton]
          constructor
          · rintro (z | z)
            · exact z
            · omega
          · exact Or.inl
        simp only [e3]
      rw [e2]
theorem burnt_same {cs L out : List Int} {i : Int} (ho : i ∈ out) : burntF cs (L ++ [i]) out = burntF cs L out := by
  unfold burntF
  congr 1
  funext j w
  have e2 : bit (L ++ [i]) out (j : Int) = bit L out (j : Int) := by
    unfold bit
    by_cases hj : (j : Int) ∈ out
    · rw [if_neg (fun q => q.2 hj), if_neg (fun q => q.2 hj)]
    · have e3 : ((j : Int) ∈ L ++ [i]) ↔ (j : Int) ∈ L := by
        rw [List.mem_append, List.mem_singleton]
        constructor
        · rintro (z | z)
          · exact z
          · rw [z] at hj
            exact absurd ho hj
        · exact Or.inl
      simp only [e3]
  rw [e2]
theorem burnt_none (cs out : List Int) : burntF cs [] out = cs := by
  apply List.ext_getElem?
  intro j
  cases q : cs[j]? with
  | none => rw [List.getElem?_eq_none (by rw [burntF_len]; exact List.getElem?_eq_none_iff.mp q)]
  | some v =>
    rw [burntF_get q]
    unfold bit
    rw [if_neg (fun q => nomatch q.1), Int.sub_zero]
/-- the next of the places -/
theorem take_next {α : Type} {l : List α} {i : Nat} {x : α} (h : l[i]? = some x) : l.take (i + 1) = l.take i ++ [x] := by
  rw [List.take_add_one, h]
  rfl
theorem drop_next {α : Type} {l : List α} {i : Nat} {x : α} (h : l[i]? = some x) : l.drop i = x :: l.drop (i + 1) := by
  obtain ⟨hi, e⟩ := List.getElem?_eq_some_iff.mp h
  rw [← e]
  exact List.drop_eq_getElem_cons hi
theorem nodup_next {l : List Int} {i : Nat} {x : Int} (h : l.Nodup) (e : l[i]? = some x) : x ∉ l.take i := by
  intro hm
  obtain ⟨j, hj⟩ := List.mem_iff_getElem?.mp hm
  have hlt : j < i := by
    have := (List.getElem?_eq_some_iff.mp hj).1
    rw [List.length_take] at this
    omega
  rw [List.getElem?_take_of_lt hlt] at hj
  obtain ⟨h1, e1⟩ := List.getElem?_eq_some_iff.mp hj
  obtain ⟨h2, e2⟩ := List.getElem?_eq_some_iff.mp e
  have := (List.getElem_inj (i := j) (j := i) h).mp (e1.trans e2.symm)
  omega
/-- all is burnt that is wanted -/
theorem lots_sum : ∀ (ds cs : List Int) (l : List (List Int × List Int)), (∀ d ∈ ds, 0 ≤ d) → lotsF cs ds = some l → ∀ p, l.getLast? = some p → p.2.sum = cs.sum - ds.sum - ds.length := by
  intro ds
  induction ds with
  | nil =>
    intro cs l _ h p hp
    cases Option.some.inj h
    cases hp
  | cons d r ih =>
    intro cs l h0 h p hp
    unfold lotsF at h
    cases e : lightsF cs d with
    | none =>
      rw [e] at h
      cases h
    | some lit =>
      rw [e] at h
      obtain ⟨l', h1, h2⟩ := Option.map_eq_some_iff.mp h
      have hb := burnt_sum (lights_lit (h0 d List.mem_cons_self) e)
      rw [List.sum_cons, List.length_cons]
      subst h2
      cases q : l'.getLast? with
      | none =>
        have e0 : l' = [] := List.getLast?_eq_none_iff.mp q
        have e1 := lotsF_len h1
        rw [e0] at e1 hp
        have e2 : r = [] := List.length_eq_zero_iff.mp e1.symm
        cases Option.some.inj hp
        show (burntF cs lit []).sum = _
        rw [hb, e2]
        show _ = cs.sum - (d + 0) - _
        simp
        omega
      | some p' =>
        have e1 : p' = p := by
          have := List.getLast?_cons (a := (lit, burntF cs lit [])) (l := l')
          rw [this, q] at hp
          exact Option.some.inj hp
        subst e1
        rw [ih (burntF cs lit []) l' (fun x hx => h0 x (List.mem_cons_of_mem _ hx)) h1 p' q, hb]
        omega
theorem lots_lens : ∀ (ds cs : List Int) (l : List (List Int × List Int)), lotsF cs ds = some l → ∀ p ∈ l, p.2.length = cs.length := by
  intro ds
  induction ds with
  | nil =>
    intro cs l h p hp
    cases Option.some.inj h
    cases hp
  | cons d r ih =>
    intro cs l h p hp
    unfold lotsF at h
    cases e : lightsF cs d with
    | none =>
      rw [e] at h
      cases h
    | some lit =>
      rw [e] at h
      obtain ⟨l', h1, h2⟩ := Option.map_eq_some_iff.mp h
      subst h2
      rcases List.mem_cons.mp hp with z | z
      · rw [z]
        exact burntF_len _ _ _
      · rw [ih _ _ h1 p z]
        exact burntF_len _ _ _
end LF
/-! ### la_rep: (x,) * k for every k -/
namespace LF
open PySem PySem.Spec PyProof.Rows L2
theorem tup_mul_one (l : Addr) (items : Array Value) (n : Nat) (dd : Option Addr) (sl : Array (Option Value)) (x : Int) (u : Tok) (c0 : (decide (x < -(2 ^ 63)) || decide (x ≥ 2 ^ 63)) = false) (c1 : (items.isEmpty || x == 1) = true) :
    Meets (Builtin.«tuple.__mul__» ⟨[.ref l, .int x u], []⟩) (fun _ R s => s.heap.get? l = some { cls := .type "tuple", dict := dd, data := .seq items n, slots := sl } ∧ R (.ok (.ret (Value.ref l))) s) :=
  .of_wp fun prog w A R s h => by
    obtain ⟨hp, g, d, tk, os⟩ := s
    obtain ⟨hl, h⟩ := h
    have f1 := AutoSeq1.idx_int
    wp_walk using wpAny_loadPart' hl
    repeat (first
      | (refine wpAny_ite_false (decide_eq_false (by rw [c0]; exact Bool.false_ne_true)) ?_; wp_walk using wpAny_loadPart' hl)
      | (refine wpAny_ite_true (decide_eq_true c1) ?_; wp_walk using wpAny_loadPart' hl))
    all_goals exact ⟨_, rfl, h⟩
theorem tup_mul_nought (l : Addr) (items : Array Value) (n : Nat) (dd : Option Addr) (sl : Array (Option Value)) (x : Int) (u : Tok) (c0 : (decide (x < -(2 ^ 63)) || decide (x ≥ 2 ^ 63)) = false) (c1 : (items.isEmpty || x == 1) = false) (c2 : (decide (x ≤ 0) || items.isEmpty) = true) :
    Meets (Builtin.«tuple.__mul__» ⟨[.ref l, .int x u], []⟩) (fun _ R s => s.heap.get? l = some { cls := .type "tuple", dict := dd, data := .seq items n, slots := sl } ∧
      R (.ok (.ret (Value.ref s.heap.objs.size))) { s with heap := s.heap.push { cls := Value.type "tuple", data := Data.seq #[] }, toks := s.toks }) :=
  .of_wp fun prog w A R s h => by
    obtain ⟨hp, g, d, tk, os⟩ := s
    obtain ⟨hl, h⟩ := h
    have f1 := AutoSeq1.idx_int
    wp_walk using wpAny_loadPart' hl
    repeat (first
      | (refine wpAny_ite_false (decide_eq_false (by rw [c0]; exact Bool.false_ne_true)) ?_; wp_walk using wpAny_loadPart' hl)
      | (refine wpAny_ite_false (decide_eq_false (by rw [c1]; exact Bool.false_ne_true)) ?_; wp_walk using wpAny_loadPart' hl)
      | (refine wpAny_ite_true (decide_eq_true c2) ?_; wp_walk using wpAny_loadPart' hl))
    all_goals exact ⟨_, rfl, h⟩
/-- of one thing: the thing so many times -/
def rRepA (K : PySem.W.Frag) : R2 := fun x y H Q => ∃ l k z, x = .ref l ∧ y = .int k ∧ SqT K H l [z] ∧ 0 ≤ k ∧ k ≤ 1000 ∧ (k = 1 → Q (.ref l) H) ∧ (k ≠ 1 → ∀ p, H p = none → Q (.ref p) (upd H p (.tup (List.replicate k.toNat z))))
section
variable {X : Cx}
theorem flat_one {α : Type} (z : α) : ∀ n : Nat, (List.replicate n [z]).flatten = List.replicate n z
  | 0 => rfl
  | n + 1 => by
    rw [List.replicate_succ, List.flatten_cons, flat_one z n]
    rfl
theorem op_repA : OpR X (binaryOp .Mult) (rRepA X.K) := by
  intro pins s σ H x y v u Q I rx ry h
  obtain ⟨l, k, z, rfl, rfl, hT, h1, h2, q1, q2⟩ := h
  by_cases k2 : 2 ≤ k
  · refine op_repT pins s σ H _ _ v u Q I rx ry ⟨l, k, [z], rfl, rfl, hT, (by simp), k2, h2, (by show 1 ≤ 1000; decide), fun p np => ?_⟩
    rw [flat_one]
    exact q2 (by omega) p np
  cases rx
  obtain ⟨t, rfl⟩ := ry
  obtain ⟨its, r, ⟨⟨cls, dd, data, sl⟩, ho, hc, n, hd⟩, hs⟩ := I.tuple hT
  simp only at hc hd
  subst hc hd
  have hle : its.length = 1 := r.length.symm
  have hi : its.toArray.isEmpty = false := by
    cases its with
    | nil => cases hle
    | cons a b => rfl
  have c0 : (decide (k < -(2 ^ 63)) || decide (k ≥ 2 ^ 63)) = false := by
    rw [decide_eq_false (by omega), decide_eq_false (by omega)] <;> rfl
  by_cases k1 : k = 1
  · have c1 : (its.toArray.isEmpty || k == 1) = true := by
      rw [k1, Bool.or_eq_true]
      exact .inr rfl
    exact wpAny_binaryOp_repeat_ref (T := "tuple") (U := "int") (by decide) ⟨_, ho, rfl⟩ (fun s' => typeIs_int s' k t) noFill_tuple_mul F.fills_int_mul F.slot_int_rmul repeat_tuple F.slot_int_index.lookup
      (call_meets F.slot_int_rmul (typeIs_int s k t) F.entry_int_rmul (F.args_int_rmul_2 _ _) (int_rmul_tuple k t l its.toArray n dd sl)
        ⟨ho, rfl, ⟨_, ho, rfl⟩, call_meets F.slot_tuple_mul ⟨_, ho, rfl⟩ F.entry_tuple_mul (F.args_tuple_mul_2 _ _) (tup_mul_one l its.toArray n dd sl k t c0 c1) ⟨ho, ⟨.ref l, H, I, rfl, q1 k1⟩⟩⟩)
  · have k0 : k = 0 := by omega
    have c1 : (its.toArray.isEmpty || k == 1) = false := by
      rw [hi, Bool.false_or]
      exact beq_eq_false_iff_ne.mpr k1
    have c2 : (decide (k ≤ 0) || its.toArray.isEmpty) = true := by
      rw [decide_eq_true (by omega), Bool.true_or]
    refine wpAny_binaryOp_repeat_ref (T := "tuple") (U := "int") (by decide) ⟨_, ho, rfl⟩ (fun s' => typeIs_int s' k t) noFill_tuple_mul F.fills_int_mul F.slot_int_rmul repeat_tuple F.slot_int_index.lookup
      (call_meets F.slot_int_rmul (typeIs_int s k t) F.entry_int_rmul (F.args_int_rmul_2 _ _) (int_rmul_tuple k t l its.toArray n dd sl)
        ⟨ho, rfl, ⟨_, ho, rfl⟩, call_meets F.slot_tuple_mul ⟨_, ho, rfl⟩ F.entry_tuple_mul (F.args_tuple_mul_2 _ _) (tup_mul_nought l its.toArray n dd sl k t c0 c1 c2) ⟨ho, ?_⟩⟩)
    have q := q2 k1 s.heap.objs.size (I.hok.fresh (Nat.le_refl _))
    rw [k0] at q
    refine ⟨.ref s.heap.objs.size, _, I.laid (t' := s.toks) (o := .tup []) (fun b ob e => Heap.get?_push_of_some _ e) (Nat.le_refl _) ?_, rfl, q⟩
    exact ⟨Nat.zero_le _, [], .nil, IsTup.new _ _⟩
theorem repK (K : PySem.W.Frag) (h : X.K = K := by rfl) : OpR X (binaryOp .Mult) (rRepA K) := by subst h; exact op_repA
end
end LF
/-! tuples put together, cut, repeated: whichever object it is -/
namespace LF
open PySem PySem.Spec PyProof.Rows L2
theorem cat_any {K : PySem.W.Frag} {H : Hp} {a b : Addr} {xs ys : List V} {Q : VK} (ha : SqT K H a xs) (hb : SqT K H b ys) (hl : xs.length + ys.length ≤ 1000) (h : ∀ H' p, Same H H' → SqT K H' p (xs ++ ys) → Q (.ref p) H') : rCatA K (.ref a) (.ref b) H Q := by
  refine ⟨a, b, xs, ys, rfl, rfl, ha, hb, sz3 hl, fun e => h H b (Same.refl _) ?_, fun _ e => h H a (Same.refl _) ?_, fun _ _ p np => h _ p (Same.new np) (SqT.of upd_same)⟩
  · rw [e]
    exact hb
  · rw [e, List.append_nil]
    exact ha
theorem sl_any {K : PySem.W.Frag} {H : Hp} {a : Addr} {xs : List V} {lo hi : Option Int} {Q : VK} (ha : SqT K H a xs) (h : ∀ H' p, Same H H' → SqT K H' p (cutV xs lo hi) → Q (.ref p) H') : rSlA K (.ref a) lo hi H Q := by
  refine ⟨a, xs, rfl, ha, fun e => h H a (Same.refl _) ?_, fun _ p np => h _ p (Same.new np) (SqT.of upd_same)⟩
  unfold cutV
  rw [e.1, e.2, List.drop_zero, Nat.sub_zero, List.take_length]
  exact ha
theorem noPart {σ : L2.St} {H : Hp} {Q : Option Int → Hp → Prop} (h : Q none H) : tNoPart σ H Q := h
theorem rep_any {K : PySem.W.Frag} {H : Hp} {a : Addr} {z : V} {k : Int} {Q : VK} (ha : SqT K H a [z]) (h0 : 0 ≤ k) (h1 : k ≤ 1000) (h : ∀ H' p, Same H H' → SqT K H' p (List.replicate k.toNat z) → Q (.ref p) H') : rRepA K (.ref a) (.int k) H Q := by
  refine ⟨a, k, z, rfl, rfl, ha, h0, h1, fun e => h H a (Same.refl _) ?_, fun _ p np => h _ p (Same.new np) (SqT.of upd_same)⟩
  rw [e]
  exact ha
theorem vi_rep (n : Nat) (z : Int) : List.replicate n (V.int z) = vi (List.replicate n z) := List.map_replicate.symm
theorem cut_take (ns : List Int) (k : Nat) (h : k ≤ ns.length) : cutV (vi ns) none (some (k : Int)) = vi (ns.take k) := by
  unfold cutV
  rw [HT.sIx_nat, HT.sIx_none, vi_len, Nat.min_eq_left h, Nat.sub_zero, List.drop_zero]
  exact List.map_take.symm
theorem cut_drop (ns : List Int) (k : Nat) (h : k ≤ ns.length) : cutV (vi ns) (some (k : Int)) none = vi (ns.drop k) := by
  unfold cutV
  rw [HT.sIx_nat, HT.sIx_none, vi_len, Nat.min_eq_left h, List.take_of_length_le (by rw [List.length_drop, vi_len]; exact Nat.le_refl _)]
  exact List.map_drop.symm
theorem set_cut (ds : List Int) (i : Nat) (d : Int) (h : i < ds.length) : ds.take i ++ [d] ++ ds.drop (i + 1) = ds.set i d := by
  rw [List.set_eq_take_append_cons_drop, if_pos h, List.append_assoc]
  rfl
end LF
/-! ### la_can: whether a flame can be kept, told by lots of draughts -/
namespace LF
theorem top_sub : ∀ (L S : List Int), L.Pairwise (· ≤ ·) → S.Sublist L → S.sum ≤ (L.drop (L.length - S.length)).sum := by
  intro L
  induction L with
  | nil =>
    intro S _ h
    rw [List.sublist_nil.mp h]
    exact Int.le_refl _
  | cons x r ih =>
    intro S hp h
    have hp2 := (List.pairwise_cons.mp hp)
    cases h with
    | cons _ h1 =>
      have q := ih S hp2.2 h1
      have hl := h1.length_le
      rw [List.length_cons, show r.length + 1 - S.length = (r.length - S.length) + 1 by omega, List.drop_succ_cons]
      exact q
    | cons_cons _ h1 =>
      rename_i S'
      have q := ih S' hp2.2 h1
      have hl := h1.length_le
      rw [List.length_cons, List.length_cons, Nat.add_sub_add_right, List.sum_cons]
      by_cases e : r.length - S'.length = 0
      · rw [e, List.drop_zero, List.sum_cons]
        rw [e, List.drop_zero] at q
        omega
      · obtain ⟨m, hm⟩ : ∃ m, r.length - S'.length = m + 1 := ⟨r.length - S'.length - 1, by omega⟩
        rw [hm, List.drop_succ_cons]
        rw [hm] at q
        have hml : m < r.length := by omega
        rw [List.drop_eq_getElem_cons hml, List.sum_cons]
        have := hp2.1 r[m] (List.getElem_mem _)
        omega
theorem wnt_sum (ds : List Int) (k : Nat) (h : k ≤ ds.length) : wnt ds k = ((srt ds).drop (ds.length - k)).sum + k := by
  unfold wnt
  rw [sum_succ, List.length_drop, srt_len]
  have e : ds.length - (ds.length - k) = k := by omega
  rw [e]
theorem perm_sum {a b : List Int} (h : a.Perm b) : a.sum = b.sum := by
  induction h with
  | nil => rfl
  | cons x _ ih => rw [List.sum_cons, List.sum_cons, ih]
  | swap x y l =>
    rw [List.sum_cons, List.sum_cons, List.sum_cons, List.sum_cons]
    omega
  | trans _ _ h1 h2 => exact h1.trans h2
/-- each lot of draughts has what it wants -/
theorem can_sub {cs ds : List Int} : can cs ds = true ↔ ∀ S : List Int, S.Sublist ds → S ≠ [] → S.sum + S.length ≤ cnt cs S.length := by
  rw [can_iff]
  constructor
  · intro h S hS hn
    obtain ⟨S', hp, hs⟩ := List.exists_perm_sublist hS (srt_perm ds).symm
    have hl := hS.length_le
    have hpos : 1 ≤ S.length := List.length_pos_iff.mpr hn
    have q := h S.length hpos hl
    rw [wnt_sum ds S.length hl] at q
    have t := top_sub (srt ds) S' (srt_up ds) hs
    rw [perm_sum hp, srt_len, hp.length_eq] at t
    omega
  · intro h k h1 h2
    rw [wnt_sum ds k h2]
    have hs : ((srt ds).drop (ds.length - k)).Sublist (srt ds) := List.drop_sublist _ _
    obtain ⟨S, hp, hS⟩ := List.exists_perm_sublist hs (srt_perm ds)
    have hl : S.length = k := by
      rw [hp.length_eq, List.length_drop, srt_len]
      omega
    have q := h S hS (fun e => by rw [e] at hl; simp at hl; omega)
    rw [hl] at q
    rw [← perm_sum hp]
    exact q
theorem can_perm_ds {cs ds es : List Int} (h : ds.Perm es) : can cs ds = can cs es := by
  have key : ∀ {a b : List Int}, a.Perm b → can cs a = true → can cs b = true := fun {a b} hp hc => by
    rw [can_iff] at *
    intro k h1 h2
    have q := hc k h1 (by rw [hp.length_eq]; exact h2)
    unfold wnt at *
    rw [srt_of_perm hp, hp.length_eq] at q
    exact q
  cases h1 : can cs ds with
  | true => exact (key h h1).symm
  | false =>
    cases h2 : can cs es with
    | false => rfl
    | true =>
      rw [key h.symm h2] at h1
      cases h1
theorem cnt_nil (k : Int) : cnt [] k = 0 := rfl
theorem cnt_cons (c : Int) (r : List Int) (k : Int) : cnt (c :: r) k = (if k < c then k else c) + cnt r k := by
  unfold cnt
  rw [List.map_cons, List.sum_cons]
theorem cnt_app (a b : List Int) (k : Int) : cnt (a ++ b) k = cnt a k + cnt b k := by
  unfold cnt
  rw [List.map_append, List.sum_append]
theorem cnt_perm {a b : List Int} (h : a.Perm b) (k : Int) : cnt a k = cnt b k := perm_sum (h.map _)
theorem cnt_le_sum {cs : List Int} (k : Int) : cnt cs k ≤ cs.sum := by
  induction cs with
  | nil => exact Int.le_refl _
  | cons c r ih =>
    rw [cnt_cons, List.sum_cons]
    by_cases h : k < c
    · rw [if_pos h]
      omega
    · rw [if_neg h]
      omega
theorem cnt_one_le {cs : List Int} : cnt cs 1 ≤ cs.length := by
  induction cs with
  | nil => exact Int.le_refl _
  | cons c r ih =>
    rw [cnt_cons, List.length_cons]
    by_cases h : 1 < c
    · rw [if_pos h]
      omega
    · rw [if_neg h]
      omega
theorem can_perm_cs {a b ds : List Int} (h : a.Perm b) : can a ds = can b ds := by
  unfold can spr
  congr 1
  refine List.map_congr_left fun i _ => ?_
  rw [cnt_perm h]
/-- the draught that is strongest is less than candles are many -/
theorem can_lt {cs ds : List Int} (h : can cs ds = true) {d : Int} (hd : d ∈ ds) : d + 1 ≤ cs.length := by
  have q := can_sub.mp h [d] (List.singleton_sublist.mpr hd) (by simp)
  have e : ([d] : List Int).sum = d := by
    rw [List.sum_cons]
    exact Int.add_zero d
  rw [e] at q
  have := cnt_one_le (cs := cs)
  have q : d + 1 ≤ cnt cs 1 := q
  omega
/-! many ticks of one draught -/
theorem sum_rep (n : Nat) (z : Int) : (List.replicate n z).sum = n * z := by
  induction n with
  | zero =>
    rw [List.replicate_zero]
    show (0 : Int) = ((0 : Nat) : Int) * z
    rw [Int.natCast_zero, Int.zero_mul]
  | succ n ih =>
    rw [List.replicate_succ, List.sum_cons, ih]
    have e : ((n + 1 : Nat) : Int) = (n : Int) + 1 := by omega
    rw [e, Int.add_mul, Int.one_mul, Int.add_comm]
theorem srt_rep (n : Nat) (d : Int) : srt (List.replicate n d) = List.replicate n d :=
  (srt_is (List.Perm.refl _) (List.pairwise_replicate.mpr (.inr (Int.le_refl d)))).symm
theorem wnt_rep (n k : Nat) (d : Int) (h : k ≤ n) : wnt (List.replicate n d) k = k * (d + 1) := by
  rw [wnt_sum _ _ (by rw [List.length_replicate]; exact h), srt_rep, List.length_replicate, List.drop_replicate, sum_rep]
  have e : n - (n - k) = k := by omega
  rw [e, Int.mul_add, Int.mul_one]
theorem can_rep {cs : List Int} {n : Nat} {d : Int} : can cs (List.replicate n d) = true ↔ ∀ k : Nat, 1 ≤ k → k ≤ n → (k : Int) * (d + 1) ≤ cnt cs k := by
  rw [can_iff, List.length_replicate]
  constructor
  · intro h k h1 h2
    have q := h k h1 h2
    rw [wnt_rep n k d h2] at q
    exact q
  · intro h k h1 h2
    rw [wnt_rep n k d h2]
    exact h k h1 h2
/-- for more ticks a candle has no more to each -/
theorem cnt_slope {cs : List Int} (h0 : ∀ c ∈ cs, 0 ≤ c) {k t : Int} (hk : 0 ≤ k) (hkt : k ≤ t) : k * cnt cs t ≤ t * cnt cs k := by
  induction cs with
  | nil =>
    rw [cnt_nil, cnt_nil, Int.mul_zero, Int.mul_zero]
    exact Int.le_refl _
  | cons c r ih =>
    have ih := ih fun x hx => h0 x (List.mem_cons_of_mem _ hx)
    have hc := h0 c List.mem_cons_self
    rw [cnt_cons, cnt_cons, Int.mul_add, Int.mul_add]
    have one : k * (if t < c then t else c) ≤ t * (if k < c then k else c) := by
      by_cases h1 : t < c
      · rw [if_pos h1, if_pos (by omega), Int.mul_comm]
        exact Int.le_refl _
      · rw [if_neg h1]
        by_cases h2 : k < c
        · rw [if_pos h2, Int.mul_comm t k]
          exact Int.mul_le_mul_of_nonneg_left (by omega) hk
        · rw [if_neg h2]
          exact Int.mul_le_mul_of_nonneg_right hkt hc
    omega
theorem can_rep2 {cs : List Int} (h0 : ∀ c ∈ cs, 0 ≤ c) {n : Nat} {d : Int} (hn : 1 ≤ n) : can cs (List.replicate n d) = true ↔ (n : Int) * (d + 1) ≤ cnt cs n := by
  rw [can_rep]
  constructor
  · intro h
    exact h n hn (Nat.le_refl _)
  · intro h k h1 h2
    have s := cnt_slope h0 (k := (k : Int)) (t := (n : Int)) (by omega) (by omega)
    have a : (k : Int) * ((n : Int) * (d + 1)) ≤ (k : Int) * cnt cs n := Int.mul_le_mul_of_nonneg_left h (by omega)
    have e : (k : Int) * ((n : Int) * (d + 1)) = (n : Int) * ((k : Int) * (d + 1)) := Int.mul_left_comm _ _ _
    rw [e] at a
    exact Int.le_of_mul_le_mul_left (Int.le_trans a s) (by omega)
theorem can_rep_mono {cs : List Int} {n m : Nat} {d : Int} (h : can cs (List.replicate n d) = true) (hm : m ≤ n) : can cs (List.replicate m d) = true := by
  rw [can_rep] at *
  exact fun k h1 h2 => h k h1 (Nat.le_trans h2 hm)
theorem can_rep_le {cs : List Int} {n : Nat} {d : Int} (hd : 0 ≤ d) (h : can cs (List.replicate n d) = true) : (n : Int) ≤ cs.sum ∨ n = 0 := by
  by_cases hn : n = 0
  · exact .inr hn
  · rw [can_rep] at h
    have q := h n (by omega) (Nat.le_refl _)
    have q2 := cnt_le_sum (cs := cs) (n : Int)
    have q3 : (n : Int) * 1 ≤ (n : Int) * (d + 1) := Int.mul_le_mul_of_nonneg_left (by omega) (by omega)
    rw [Int.mul_one] at q3
    exact .inl (by omega)
theorem can_nil (cs : List Int) : can cs [] = true := rfl
end LF
/-! ### la_min: the least of a list of (int, ints) -/
namespace LF
open PySem PySem.Spec PyProof.Rows L2
abbrev rowD (r : Int × List Int) : PyData := .tuple [.int r.1, .tuple (di r.2)]
theorem di_inj : ∀ {a b : List Int}, di a = di b → a = b
  | [], [], _ => rfl
  | [], _ :: _, h => by cases h
  | _ :: _, [], h => by cases h
  | x :: a, y :: b, h => by
    injection h with h1 h2
    injection h1 with h1
    rw [h1, di_inj h2]
theorem rowD_inj {r q : Int × List Int} (h : rowD r = rowD q) : r = q := by
  obtain ⟨k, c⟩ := r
  obtain ⟨k', c'⟩ := q
  injection h with h
  injection h with h1 h2
  injection h1 with h1
  injection h2 with h2 _
  injection h2 with h2
  have h1 : k = k' := h1
  have h2 : c = c' := di_inj h2
  rw [h1, h2]
/-- the least row, as data -/
def best : List (Int × List Int) → PyData
  | [] => .none
  | r :: rs => PySem.W.minD (rowD r) (rs.map rowD)
def VS (K : PySem.W.Frag) (H : Hp) (v : V) (c : List Int) : Prop := ∃ t, v = .ref t ∧ SqT K H t (vi c)
theorem sqt_keep {K : PySem.W.Frag} {H H' : Hp} {D a : Addr} {acc xs : List V} (h : H D = some (.lst acc)) (s : Smt D H H') (e : SqT K H a xs) : SqT K H' a xs := by
  rcases e with (e | ⟨o, e⟩) | e
  · refine .inl (.inl (s a _ e fun z => ?_))
    rw [z, h] at e
    cases e
  · refine .inl (.inr ⟨o, s a _ e fun z => ?_⟩)
    rw [z, h] at e
    cases e
  · exact .inr e
theorem VS.keep {K : PySem.W.Frag} {H H' : Hp} {D : Addr} {acc : List V} {v : V} {c : List Int} (h : H D = some (.lst acc)) (s : Smt D H H') (r : VS K H v c) : VS K H' v c := by
  obtain ⟨t, e, ht⟩ := r
  exact ⟨t, e, sqt_keep h s ht⟩
theorem VS.same {K : PySem.W.Frag} {H H' : Hp} {v : V} {c : List Int} (s : Same H H') (r : VS K H v c) : VS K H' v c := by
  obtain ⟨t, e, ht⟩ := r
  exact ⟨t, e, s.sqt ht⟩
/-- a row: its number and its lot -/
def RV (K : PySem.W.Frag) (H : Hp) (v : V) (r : Int × List Int) : Prop := ∃ t u, v = .ref t ∧ H t = some (.tup [.int r.1, .ref u]) ∧ SqT K H u (vi r.2)
theorem RV.keep {K : PySem.W.Frag} {H H' : Hp} {D : Addr} {acc : List V} {v : V} {r : Int × List Int} (h : H D = some (.lst acc)) (s : Smt D H H') (q : RV K H v r) : RV K H' v r := by
  obtain ⟨t, u, e, ht, hu⟩ := q
  refine ⟨t, u, e, s t _ ht fun z => ?_, sqt_keep h s hu⟩
  rw [z, h] at ht
  cases ht
theorem RV.same {K : PySem.W.Frag} {H H' : Hp} {v : V} {r : Int × List Int} (s : Same H H') (q : RV K H v r) : RV K H' v r := by
  obtain ⟨t, u, e, ht, hu⟩ := q
  exact ⟨t, u, e, s t _ ht, s.sqt hu⟩
theorem dp_row {K : PySem.W.Frag} {H : Hp} {v : V} {r : Int × List Int} (q : RV K H v r) : Dp K H v (rowD r) := by
  obtain ⟨t, u, e, ht, hu⟩ := q
  subst e
  exact .tup (SqT.of ht) (.cons (.int r.1) (.cons (dp_tup hu) .nil))
theorem dp_rows {K : PySem.W.Frag} {H : Hp} : ∀ {xs : List V} {rows : List (Int × List Int)}, Paired (RV K H) xs rows → DpAll K H xs (rows.map rowD)
  | _, _, .nil => .nil
  | _, _, .cons q t => .cons (dp_row q) (dp_rows t)
theorem alike_ints : ∀ a b : List Int, PySem.W.alikeAll (di a) (di b) = true
  | [], _ => by simp only [List.map_nil, PySem.W.alikeAll]
  | _ :: _, [] => by simp only [List.map_nil, List.map_cons, PySem.W.alikeAll]
  | x :: a, y :: b => by
    show PySem.W.alikeAll (.int x :: di a) (.int y :: di b) = true
    simp only [PySem.W.alikeAll, PySem.W.alike, alike_ints a b, Bool.true_and]
theorem alike_rows (rows : List (Int × List Int)) : PySem.W.AlikeAll (rows.map rowD) := by
  constructor
  · intro x hx y hy
    obtain ⟨r, _, rfl⟩ := List.mem_map.mp hx
    obtain ⟨q, _, rfl⟩ := List.mem_map.mp hy
    simp only [PySem.W.alikeAll, PySem.W.alike, alike_ints r.2 q.2, Bool.true_and]
  · intro x hx
    obtain ⟨r, _, rfl⟩ := List.mem_map.mp hx
    exact fun z => by cases z
theorem okd_row (r : Int × List Int) : Okd 2 (rowD r) := okd_tup fun d hd => by
  rcases List.mem_cons.mp hd with rfl | hd
  · exact okd_int 1 _
  · rcases List.mem_cons.mp hd with rfl | hd
    · exact okd_tup (okd_ints 0 _)
    · cases hd
theorem depth_rows (rows : List (Int × List Int)) : PyData.canLayAll0 (rows.map rowD) = true ∧ PyData.depthAll (rows.map rowD) ≤ 2 := okd_all fun d hd => by
  obtain ⟨r, _, rfl⟩ := List.mem_map.mp hd
  exact okd_row r
theorem paired_get2 {α β : Type} {F : α → β → Prop} : ∀ {xs : List α} {ys : List β} {i : Nat} {y : β}, Paired F xs ys → ys[i]? = some y → ∃ x, xs[i]? = some x ∧ F x y
  | _, _, i, _, .nil, e => by simp at e
  | _, _, 0, _, .cons h _, e => by
    cases Option.some.inj e
    exact ⟨_, rfl, h⟩
  | _, _, i + 1, _, .cons _ t, e => paired_get2 (i := i) t e
theorem readsAll_get {h : Heap} : ∀ {vs : List Value} {ds : List PyData} {as : List Addr} {i : Nat} {u : Value}, ReadsAll h vs ds as → vs[i]? = some u → ∃ d bs, ds[i]? = some d ∧ Reads h u d bs
  | _, _, _, i, _, .nil, e => by simp at e
  | _, _, _, 0, _, .cons r _, e => by
    cases Option.some.inj e
    exact ⟨_, _, rfl, r⟩
  | _, _, _, i + 1, _, .cons _ t, e => readsAll_get (i := i) t e
section
variable {X : Cx}
def rMinR (K : PySem.W.Frag) : List V → Hp → VK → Prop := fun vs H Q => ∃ (a : Addr) (xs : List V) (rows : List (Int × List Int)), vs = [V.ref a] ∧ SqL K H a xs ∧ Paired (RV K H) xs rows ∧ rows ≠ [] ∧ ∀ v r, RV K H v r → rowD r = best rows → r ∈ rows → Q v H
theorem cr_minR (hu : X.A.units + 64 < cLine) (hc : X.calm = true) : CallR X (.builtin "min") (rMinR X.K) := by
  intro pins s σ H vs us Q I rr h
  obtain ⟨a, xs, rows, rfl, hS, hp, hne, q⟩ := h
  obtain ⟨its, rv, hl, _⟩ := I.list hS
  rw [Vals.ref1 rr]
  cases rows with
  | nil => exact absurd rfl hne
  | cons r0 rs =>
    obtain ⟨as, ra⟩ := Dp.readsAll I ((r0 :: rs).map rowD) xs its (dp_rows hp) rv
    have hdep := depth_rows (r0 :: rs)
    refine PySem.W.min_list_data (I.ok.hd hc) hl.isList (x := rowD r0) (xs := rs.map rowD) ra (alike_rows (r0 :: rs)) (by have := hdep.2; show X.A.units + 1 + PyData.depthAll ((r0 :: rs).map rowD) < _; omega) fun i u h' tk bs hi hr hk => ?_
    have hi : its[i]? = some u := by
      rw [← hi]
      simp
    have hx : ∃ v, xs[i]? = some v := by
      have hlen := rv.length
      have hi2 := (List.getElem?_eq_some_iff.mp hi).1
      exact ⟨xs[i]'(by omega), List.getElem?_eq_getElem (by omega)⟩
    obtain ⟨v, hv⟩ := hx
    obtain ⟨r, hr1, hrv⟩ := paired_get hp hv
    obtain ⟨u', hu', hrel⟩ := rv.get hv
    rw [hi] at hu'
    cases Option.some.inj hu'
    obtain ⟨d, bs', hd, hrd⟩ := readsAll_get ra hi
    rw [List.getElem?_map, hr1] at hd
    cases Option.some.inj hd
    have e : rowD r = best (r0 :: rs) := SeqAt.Reads.unique _ _ _ _ _ (okd_row r).1 (Reads.keeps hk hrd) hr
    exact ⟨v, H, I.kept hk, hrel, q v r hrv e (List.mem_of_getElem? hr1)⟩
theorem minRK (K : PySem.W.Frag) (hu : X.A.units + 64 < cLine) (h : X.K = K := by rfl) (hc : X.calm = true := by rfl) : CallR X (.builtin "min") (rMinR K) := by subst h; exact cr_minR hu hc
end
theorem eqv_rows_nil (rows : List (Int × List Int)) : PyData.eqv (.list (rows.map rowD)) (.list (di [])) = rows.isEmpty := by
  rw [eqv_nil]
  cases rows <;> rfl
theorem shaped_rows (rows : List (Int × List Int)) : SeqAt.shaped (.list (rows.map rowD)) = true := (okd_list (n := 2) fun d hd => by
  obtain ⟨r, _, rfl⟩ := List.mem_map.mp hd
  exact okd_row r).shaped (by decide)
end LF
/-! ### la_add: what must be added, what can be spared -/
namespace LF
/-- the stubs that are lacking -/
def Stb (cs ds : List Int) (m : Int) : Prop := 0 ≤ m ∧ (∀ k, 1 ≤ k → k ≤ ds.length → wnt ds k ≤ cnt cs k + m) ∧ (0 < m → ∃ k, 1 ≤ k ∧ k ≤ ds.length ∧ wnt ds k = cnt cs k + m)
theorem stb_of {cs ds : List Int} {m : Int} (h1 : m ∈ 0 :: (spr cs ds).map fun s => -s) (h2 : ∀ y, y ∈ 0 :: (spr cs ds).map (fun s => -s) → y ≤ m) : Stb cs ds m := by
  have h0 := h2 0 List.mem_cons_self
  refine ⟨h0, fun k k1 k2 => ?_, fun hm => ?_⟩
  · have e1 : k - 1 + 1 = k := by omega
    have e2 : ((k - 1 : Nat) : Int) + 1 = (k : Int) := by omega
    have q := h2 (-(cnt cs (((k - 1 : Nat) : Int) + 1) - wnt ds (k - 1 + 1))) (List.mem_cons_of_mem _ (List.mem_map.mpr ⟨_, List.mem_map.mpr ⟨k - 1, List.mem_range.mpr (by omega), rfl⟩, rfl⟩))
    rw [e1, e2] at q
    omega
  · rcases List.mem_cons.mp h1 with z | z
    · omega
    · obtain ⟨s, hs, e⟩ := List.mem_map.mp z
      obtain ⟨i, hi, e2⟩ := List.mem_map.mp hs
      have hi := List.mem_range.mp hi
      have e3 : ((i + 1 : Nat) : Int) = (i : Int) + 1 := by omega
      refine ⟨i + 1, by omega, by omega, ?_⟩
      rw [e3]
      omega
theorem cnt_rep1 (n : Nat) (k : Int) (hk : 1 ≤ k) : cnt (List.replicate n 1) k = n := by
  unfold cnt
  rw [List.map_replicate, if_neg (by omega), sum_rep, Int.mul_one]
theorem cnt_one (w k : Int) : cnt [w] k = if k < w then k else w := by
  rw [cnt_cons, cnt_nil, Int.add_zero]
theorem stb_can {cs ds : List Int} {m : Int} (h : Stb cs ds m) : can (cs ++ List.replicate m.toNat 1) ds = true := by
  refine (can_iff _ _).mpr fun k k1 k2 => ?_
  rw [cnt_app, cnt_rep1 _ _ (by omega), Int.toNat_of_nonneg h.1]
  exact h.2.1 k k1 k2
theorem stb_not {cs ds : List Int} {m : Int} (h : Stb cs ds m) (hm : 0 < m) : can (cs ++ List.replicate (m - 1).toNat 1) ds = false := by
  cases c : can (cs ++ List.replicate (m - 1).toNat 1) ds with
  | false => rfl
  | true =>
    obtain ⟨k, k1, k2, e⟩ := h.2.2 hm
    have q := (can_iff _ _).mp c k k1 k2
    rw [cnt_app, cnt_rep1 _ _ (by omega), Int.toNat_of_nonneg (by omega)] at q
    omega
/-- if any candle more is enough, one of that wax is -/
theorem one_of {cs ds : List Int} {m w : Int} (h : Stb cs ds m) (c : can (cs ++ [w]) ds = true) : can (cs ++ [m]) ds = true := by
  refine (can_iff _ _).mpr fun k k1 k2 => ?_
  have q := (can_iff _ _).mp c k k1 k2
  have q2 := h.2.1 k k1 k2
  rw [cnt_app, cnt_one] at q ⊢
  by_cases a : (k : Int) < w
  · rw [if_pos a] at q
    by_cases b : (k : Int) < m
    · rw [if_pos b]
      exact q
    · rw [if_neg b]
      exact q2
  · rw [if_neg a] at q
    by_cases b : (k : Int) < m
    · rw [if_pos b]
      omega
    · rw [if_neg b]
      exact q2
theorem one_not {cs ds : List Int} {m : Int} (h : Stb cs ds m) (hm : 0 < m) : can (cs ++ [m - 1]) ds = false := by
  cases c : can (cs ++ [m - 1]) ds with
  | false => rfl
  | true =>
    obtain ⟨k, k1, k2, e⟩ := h.2.2 hm
    have q := (can_iff _ _).mp c k k1 k2
    rw [cnt_app, cnt_one] at q
    by_cases a : (k : Int) < m - 1
    · rw [if_pos a] at q
      omega
    · rw [if_neg a] at q
      omega
theorem sub_sum {S ds : List Int} (h : S.Sublist ds) (h0 : ∀ d ∈ ds, 0 ≤ d) : S.sum ≤ ds.sum := by
  induction h with
  | slnil => exact Int.le_refl _
  | cons a h ih =>
    rw [List.sum_cons]
    have := ih fun d hd => h0 d (List.mem_cons_of_mem _ hd)
    have := h0 a List.mem_cons_self
    omega
  | cons_cons a h ih =>
    rw [List.sum_cons, List.sum_cons]
    have := ih fun d hd => h0 d (List.mem_cons_of_mem _ hd)
    omega
theorem cnt_nonneg {cs : List Int} (h0 : ∀ c ∈ cs, 0 ≤ c) {k : Int} (hk : 0 ≤ k) : 0 ≤ cnt cs k := by
  induction cs with
  | nil => exact Int.le_refl _
  | cons c r ih =>
    have := ih fun x hx => h0 x (List.mem_cons_of_mem _ hx)
    have := h0 c List.mem_cons_self
    rw [cnt_cons]
    by_cases a : k < c
    · rw [if_pos a]
      omega
    · rw [if_neg a]
      omega
theorem cnt_sub {S cs : List Int} (h : S.Sublist cs) (h0 : ∀ c ∈ cs, 0 ≤ c) {k : Int} (hk : 0 ≤ k) : cnt S k ≤ cnt cs k := by
  unfold cnt
  refine sub_sum (h.map _) fun d hd => ?_
  obtain ⟨c, hc, rfl⟩ := List.mem_map.mp hd
  have := h0 c hc
  show 0 ≤ if k < c then k else c
  by_cases a : k < c
  · rw [if_pos a]
    exact hk
  · rw [if_neg a]
    exact this
theorem can_sub_cs {S cs ds : List Int} (h : S.Sublist cs) (h0 : ∀ c ∈ cs, 0 ≤ c) (c : can S ds = true) : can cs ds = true :=
  (can_iff _ _).mpr fun k k1 k2 => Int.le_trans ((can_iff _ _).mp c k k1 k2) (cnt_sub h h0 (by omega))
theorem stb_le {cs ds : List Int} {m b : Int} (h : Stb cs ds m) (h0 : ∀ c ∈ cs, 0 ≤ c) (hd : ∀ d ∈ ds, 0 ≤ d ∧ d ≤ b) (hb : 0 ≤ b) : m ≤ (b + 1) * ds.length := by
  have hpos : 0 ≤ (b + 1) * (ds.length : Int) := Int.mul_nonneg (by omega) (by omega)
  by_cases hm : 0 < m
  · obtain ⟨k, k1, k2, e⟩ := h.2.2 hm
    have hc := cnt_nonneg h0 (k := (k : Int)) (by omega)
    have hw : wnt ds k ≤ (b + 1) * ds.length := by
      rw [wnt_sum _ _ k2]
      have hs : ((srt ds).drop (ds.length - k)).sum ≤ (srt ds).sum := sub_sum (List.drop_sublist _ _) fun d hd' => (hd d ((srt_perm ds).mem_iff.mp hd')).1
      rw [perm_sum (srt_perm ds)] at hs
      have hsum : ∀ l : List Int, (∀ d ∈ l, d ≤ b) → l.sum ≤ b * l.length := by
        intro l
        induction l with
        | nil =>
          intro _
          show (0 : Int) ≤ b * ((0 : Nat) : Int)
          rw [Int.natCast_zero, Int.mul_zero]
          exact Int.le_refl _
        | cons x r ih =>
          intro hl
          have := ih fun d hd => hl d (List.mem_cons_of_mem _ hd)
          have := hl x List.mem_cons_self
          have e : ((r.length + 1 : Nat) : Int) = (r.length : Int) + 1 := by omega
          rw [List.sum_cons, List.length_cons, e, Int.mul_add, Int.mul_one]
          omega
      have := hsum ds fun d h => (hd d h).2
      rw [Int.add_mul, Int.one_mul]
      omega
    omega
  · omega
/-- the lots of some places, one by one -/
def lotsPF (ps : List Int) : List (List Int) := ps.foldl (fun found p => found ++ found.map (· ++ [p])) [[]]
theorem lotsPF_snoc (ps : List Int) (p : Int) : lotsPF (ps ++ [p]) = lotsPF ps ++ (lotsPF ps).map (· ++ [p]) := by
  unfold lotsPF
  rw [List.foldl_append]
  rfl
theorem lotsPF_len (ps : List Int) : (lotsPF ps).length = 2 ^ ps.length := by
  suffices h : ∀ (ps : List Int) (acc : List (List Int)), (ps.foldl (fun found p => found ++ found.map (· ++ [p])) acc).length = acc.length * 2 ^ ps.length by
    rw [lotsPF, h ps [[]]]
    show 1 * _ = _
    rw [Nat.one_mul]
  intro ps
  induction ps with
  | nil => intro acc; simp
  | cons p r ih =>
    intro acc
    rw [List.foldl_cons, ih, List.length_append, List.length_map, List.length_cons, Nat.pow_succ]
    have : acc.length + acc.length = acc.length * 2 := by omega
    rw [this, Nat.mul_assoc, Nat.mul_comm 2]
theorem lotsPF_nil_mem (ps : List Int) : [] ∈ lotsPF ps := by
  suffices h : ∀ (ps : List Int) (acc : List (List Int)), [] ∈ acc → [] ∈ ps.foldl (fun found p => found ++ found.map (· ++ [p])) acc from h ps [[]] List.mem_cons_self
  intro ps
  induction ps with
  | nil => intro acc h; exact h
  | cons p r ih =>
    intro acc h
    rw [List.foldl_cons]
    exact ih _ (List.mem_append_left _ h)
theorem lotsPF_lens (ps : List Int) : ∀ l ∈ lotsPF ps, l.length ≤ ps.length := by
  suffices h : ∀ (ps : List Int) (acc : List (List Int)) (n : Nat), (∀ l ∈ acc, l.length ≤ n) → ∀ l ∈ ps.foldl (fun found p => found ++ found.map (· ++ [p])) acc, l.length ≤ n + ps.length by
    intro l hl
    have := h ps [[]] 0 (fun l hl => by
      rcases List.mem_cons.mp hl with rfl | hl
      · exact Nat.le_refl _
      · cases hl) l hl
    omega
  intro ps
  induction ps with
  | nil => intro acc n h l hl; exact h l hl
  | cons p r ih =>
    intro acc n h l hl
    rw [List.foldl_cons] at hl
    have := ih _ (n + 1) (fun l hl => by
      rcases List.mem_append.mp hl with hl | hl
      · exact Nat.le_succ_of_le (h l hl)
      · obtain ⟨x, hx, rfl⟩ := List.mem_map.mp hl
        rw [List.length_append]
        exact Nat.succ_le_succ (h x hx)) l hl
    rw [List.length_cons]
    omega
/-- the candles without those at the places of a lot -/
def remF (cs lot : List Int) : List Int := (List.range cs.length).filterMap fun (i : Nat) => if (i : Int) ∈ lot then none else cs[i]?
theorem rem_sub_gen (cs : List Int) : ∀ p : Nat → Bool, ((List.range cs.length).filterMap fun i => if p i then none else cs[i]?).Sublist cs := by
  induction cs with
  | nil => intro p; exact List.Sublist.refl _
  | cons c r ih =>
    intro p
    rw [List.length_cons, List.range_succ_eq_map, List.filterMap_cons, List.filterMap_map]
    have q := ih fun i => p (i + 1)
    have e : (List.range r.length).filterMap ((fun i => if p i then none else (c :: r)[i]?) ∘ Nat.succ) = (List.range r.length).filterMap fun i => if p (i + 1) then none else r[i]? := rfl
    rw [e]
    by_cases h : p 0 = true
    · rw [if_pos h]
      exact q.cons c
    · rw [if_neg h]
      exact q.cons_cons c
theorem rem_sub (cs lot : List Int) : (remF cs lot).Sublist cs := by
  have q := rem_sub_gen cs fun i => decide ((i : Int) ∈ lot)
  simp only [decide_eq_true_eq] at q
  exact q
theorem rem_nil (cs : List Int) : remF cs [] = cs := by
  have e := fm_get (fun x : Int => some x) cs
  rw [List.filterMap_some] at e
  unfold remF
  refine Eq.trans ?_ e
  congr 1
  funext i
  rw [if_neg (fun h => nomatch h)]
  cases cs[i]? <;> rfl
def rowOf (cs ds lot : List Int) : Option (Int × List Int) := if can (remF cs lot) ds then some (-(lot.length : Int), lot) else none
/-- the lots that can be spared -/
def rowsP (cs ds : List Int) (lots : List (List Int)) : List (Int × List Int) := lots.filterMap (rowOf cs ds)
def placesF (cs : List Int) : List Int := (List.range cs.length).map fun (i : Nat) => (i : Int)
def sparedF (cs ds : List Int) : List (Int × List Int) := rowsP cs ds (lotsPF (placesF cs))
theorem spared_can {cs ds : List Int} (h : can cs ds = true) : sparedF cs ds ≠ [] := by
  intro e
  have q : ((-(([] : List Int).length : Int)), ([] : List Int)) ∈ sparedF cs ds := List.mem_filterMap.mpr ⟨[], lotsPF_nil_mem _, by rw [rowOf, rem_nil, h]; rfl⟩
  rw [e] at q
  cases q
theorem spared_not {cs ds : List Int} (h0 : ∀ c ∈ cs, 0 ≤ c) (h : can cs ds = false) : sparedF cs ds = [] := by
  refine List.filterMap_eq_nil_iff.mpr fun lot _ => ?_
  unfold rowOf
  cases c : can (remF cs lot) ds with
  | false => rfl
  | true =>
    rw [can_sub_cs (rem_sub cs lot) h0 c] at h
    cases h
theorem rowsP_snoc (cs ds : List Int) (l : List (List Int)) (lot : List Int) : rowsP cs ds (l ++ [lot]) = rowsP cs ds l ++ (rowOf cs ds lot).toList := by
  unfold rowsP
  rw [List.filterMap_append, List.filterMap_cons, List.filterMap_nil]
  cases rowOf cs ds lot <;> rfl
end LF
namespace LF
open PySem PySem.Spec PyProof.Rows L2
/-- all lots of some places, as a list of tuples -/
def LotsQ (K : PySem.W.Frag) (H : Hp) (Q : VK) (ps : List Int) : Prop := ∀ H' p xs, Same H H' → H p = none → H' p = some (.lst xs) → Paired (VS K H') xs (lotsPF ps) → Q (.ref p) H'
/-- how many lots -/
theorem lots_small {ps : List Int} (h : ps.length ≤ 8) : (lotsPF ps).length ≤ 256 := by
  rw [lotsPF_len]
  exact Nat.le_trans (Nat.pow_le_pow_right (by decide) h) (by decide)
end LF
/-! ### la_main: the keeper keeps the flame just where no spare is below nought -/
namespace LF
def mn (k w : Int) : Int := if k < w then k else w
theorem mn_le (k w : Int) : mn k w ≤ k ∧ mn k w ≤ w ∧ (mn k w = k ∨ mn k w = w) := by
  unfold mn
  by_cases h : k < w
  · rw [if_pos h]
    exact ⟨Int.le_refl _, by omega, .inl rfl⟩
  · rw [if_neg h]
    exact ⟨by omega, Int.le_refl _, .inr rfl⟩
theorem mn_lo {k w x : Int} (h1 : x ≤ k) (h2 : x ≤ w) : x ≤ mn k w := by
  rcases (mn_le k w).2.2 with e | e <;> omega
theorem mapIdx_le : ∀ (cs : List Int) (f g : Nat → Int → Int), (∀ i w, cs[i]? = some w → f i w ≤ g i w) → (cs.mapIdx f).sum ≤ (cs.mapIdx g).sum
  | [], _, _, _ => Int.le_refl _
  | c :: r, f, g, h => by
    rw [List.mapIdx_cons, List.mapIdx_cons, List.sum_cons, List.sum_cons]
    have h0 := h 0 c rfl
    have h1 := mapIdx_le r (fun i => f (i + 1)) (fun i => g (i + 1)) fun i w e => h (i + 1) w e
    omega
theorem map_mapIdx (cs : List Int) (f : Int → Int) (g : Nat → Int → Int) : (cs.mapIdx g).map f = cs.mapIdx fun i w => f (g i w) := by
  apply List.ext_getElem?
  intro j
  rw [List.getElem?_map, List.getElem?_mapIdx, List.getElem?_mapIdx, Option.map_map]
  rfl
theorem mapIdx_map' (cs : List Int) (f : Int → Int) (g : Nat → Int → Int) : (cs.map f).mapIdx g = cs.mapIdx fun i w => g i (f w) := by
  apply List.ext_getElem?
  intro j
  rw [List.getElem?_mapIdx, List.getElem?_mapIdx, List.getElem?_map, Option.map_map]
  rfl
theorem mapIdx_id (cs : List Int) (f : Int → Int) : (cs.mapIdx fun _ w => f w) = cs.map f := by
  apply List.ext_getElem?
  intro j
  rw [List.getElem?_mapIdx, List.getElem?_map]
theorem cnt_mn (cs : List Int) (k : Int) : cnt cs k = (cs.mapIdx fun _ w => mn k w).sum := by
  rw [mapIdx_id]
  rfl
theorem cnt_burnt (cs lit out : List Int) (k : Int) : cnt (burntF cs lit out) k = (cs.mapIdx fun i w => mn k (w - bit lit out i)).sum := by
  rw [burntF_eq]
  show ((cs.mapIdx fun (i : Nat) w => w - bit lit out (i : Int)).map fun w => mn k w).sum = _
  rw [map_mapIdx]
theorem bit01 (lit out : List Int) (i : Int) : bit lit out i = 0 ∨ bit lit out i = 1 := by
  unfold bit
  by_cases h : i ∈ lit ∧ i ∉ out
  · rw [if_pos h]
    exact .inr rfl
  · rw [if_neg h]
    exact .inl rfl
theorem bit_in {lit : List Int} {i : Int} (h : i ∈ lit) : bit lit [] i = 1 := if_pos ⟨h, fun z => nomatch z⟩
theorem bit_no {lit out : List Int} {i : Int} (h : i ∉ lit) : bit lit out i = 0 := if_neg fun z => h z.1
theorem sub_bits {cs lit : List Int} {d : Int} (h : Lit cs d lit) (f : Int → Int) : (cs.mapIdx fun i w => f w - bit lit [] (i : Int)).sum = (cs.map f).sum - (d + 1) := by
  have q := sum_bits lit (cs.map f) 0 h.nd fun i hi => by
    obtain ⟨k, w, e, hk, _⟩ := h.wax i hi
    have := (List.getElem?_eq_some_iff.mp hk).1
    rw [List.length_map]
    omega
  rw [mapIdx_map', h.len] at q
  exact q
/-- what the candles have behind a tick -/
theorem burnt_cnt {cs lit : List Int} {d k : Int} (h : Lit cs d lit) : cnt cs k ≤ cnt (burntF cs lit []) k ∨ cnt cs (k + 1) - (d + 1) ≤ cnt (burntF cs lit []) k := by
  by_cases hB : ∃ (j : Nat) (v : Int), cs[j]? = some v ∧ (j : Int) ∉ lit ∧ k + 1 ≤ v
  · obtain ⟨j, v, hj, hn, hv⟩ := hB
    refine .inl ?_
    rw [cnt_mn, cnt_burnt]
    refine mapIdx_le cs _ _ fun i w hi => ?_
    by_cases hl : (i : Int) ∈ lit
    · have := h.top _ hl i j w v rfl hi hj hn
      rw [bit_in hl]
      have := mn_le k w
      exact mn_lo (by omega) (by omega)
    · rw [bit_no hl, Int.sub_zero]
      exact Int.le_refl _
  · refine .inr ?_
    have e := sub_bits h (fun w => mn (k + 1) w)
    have e2 : cnt cs (k + 1) = (cs.map fun w => mn (k + 1) w).sum := rfl
    rw [e2, ← e, cnt_burnt]
    refine mapIdx_le cs _ _ fun i w hi => ?_
    have := mn_le (k + 1) w
    by_cases hl : (i : Int) ∈ lit
    · rw [bit_in hl]
      exact mn_lo (by omega) (by omega)
    · rw [bit_no hl]
      have : ¬ k + 1 ≤ w := fun z => hB ⟨i, w, hi, hl, z⟩
      exact mn_lo (by omega) (by omega)
/-- behind a tick the rest can be kept -/
theorem can_step {cs lit r : List Int} {d : Int} (h : Lit cs d lit) (c : can cs (d :: r) = true) : can (burntF cs lit []) r = true := by
  refine can_sub.mpr fun S hS hne => ?_
  have c := can_sub.mp c
  have h1 := c S (hS.cons d) hne
  have h2 := c (d :: S) (hS.cons_cons d) (fun e => nomatch e)
  rw [List.sum_cons, List.length_cons] at h2
  have e : ((S.length + 1 : Nat) : Int) = (S.length : Int) + 1 := by omega
  rw [e] at h2
  rcases burnt_cnt (k := (S.length : Int)) h with q | q <;> omega
theorem cnt_mono {a b : List Int} (hl : a.length = b.length) (h : ∀ (i : Nat) (v w : Int), a[i]? = some v → b[i]? = some w → v ≤ w) (k : Int) : cnt a k ≤ cnt b k := by
  induction a generalizing b with
  | nil =>
    cases b with
    | nil => exact Int.le_refl _
    | cons x r => cases hl
  | cons x r ih =>
    cases b with
    | nil => cases hl
    | cons y r' =>
      have q := ih (by simpa using hl) fun i v w h1 h2 => h (i + 1) v w h1 h2
      have q0 := h 0 x y rfl rfl
      rw [cnt_cons, cnt_cons]
      have := mn_le k x
      have : mn k x ≤ mn k y := mn_lo (by omega) (by omega)
      unfold mn at this
      omega
theorem can_mono_cs {a b ds : List Int} (hl : a.length = b.length) (h : ∀ (i : Nat) (v w : Int), a[i]? = some v → b[i]? = some w → v ≤ w) (c : can a ds = true) : can b ds = true :=
  (can_iff _ _).mpr fun k k1 k2 => Int.le_trans ((can_iff _ _).mp c k k1 k2) (cnt_mono hl h k)
/-- what is put out burns less -/
theorem can_step_out {cs lit out r : List Int} {d : Int} (h : Lit cs d lit) (c : can cs (d :: r) = true) : can (burntF cs lit out) r = true := by
  refine can_mono_cs (by rw [burntF_len, burntF_len]) (fun i v w hv hw => ?_) (can_step h c)
  rw [burntF_eq, List.getElem?_mapIdx] at hv hw
  cases e : cs[i]? with
  | none =>
    rw [e] at hv
    cases hv
  | some x =>
    rw [e] at hv hw
    have hv : x - bit lit [] i = v := Option.some.inj hv
    have hw : x - bit lit out i = w := Option.some.inj hw
    have hb : bit lit out i ≤ bit lit [] i := by
      by_cases hl : (i : Int) ∈ lit
      · rw [bit_in hl]
        rcases bit01 lit out i with q | q <;> omega
      · rw [bit_no hl, bit_no hl]
        exact Int.le_refl _
    omega
/-- no candle goes below nought -/
theorem burnt_nonneg {cs lit out : List Int} {d : Int} (h : Lit cs d lit) (h0 : ∀ c ∈ cs, 0 ≤ c) : ∀ c ∈ burntF cs lit out, 0 ≤ c := by
  intro c hc
  obtain ⟨i, hi⟩ := List.getElem?_of_mem hc
  rw [burntF_eq, List.getElem?_mapIdx] at hi
  cases e : cs[i]? with
  | none =>
    rw [e] at hi
    cases hi
  | some x =>
    rw [e] at hi
    have hi : x - bit lit out i = c := Option.some.inj hi
    have hx := h0 x (List.mem_of_getElem? e)
    by_cases hl : (i : Int) ∈ lit
    · obtain ⟨k, w, ek, hk, hw⟩ := h.wax _ hl
      have : i = k := by omega
      subst this
      rw [e] at hk
      cases hk
      rcases bit01 lit out i with q | q <;> omega
    · rw [bit_no hl] at hi
      omega
theorem rows_len {β : Type} : ∀ (cs : List Int) (g : Nat → Int → β), ((List.range cs.length).filterMap fun i => cs[i]?.bind fun w => if 0 < w then some (g i w) else none).length = (cs.filter fun w => decide (0 < w)).length
  | [], _ => rfl
  | c :: r, g => by
    have ih := rows_len r fun i => g (i + 1)
    rw [List.length_cons, List.range_succ_eq_map, List.filterMap_cons, List.filterMap_map, List.filter_cons]
    have e : (List.range r.length).filterMap ((fun i => (c :: r)[i]?.bind fun w => if 0 < w then some (g i w) else none) ∘ Nat.succ) = (List.range r.length).filterMap fun i => r[i]?.bind fun w => if 0 < w then some (g (i + 1) w) else none := rfl
    rw [e]
    show (match (if 0 < c then some (g 0 c) else none) with | none => (List.range r.length).filterMap fun i => r[i]?.bind fun w => if 0 < w then some (g (i + 1) w) else none | some b => b :: (List.range r.length).filterMap fun i => r[i]?.bind fun w => if 0 < w then some (g (i + 1) w) else none).length = _
    by_cases h : 0 < c
    · rw [if_pos h, if_pos (decide_eq_true h), List.length_cons, List.length_cons, ih]
    · rw [if_neg h, if_neg (by rw [decide_eq_false h]; decide), ih]
theorem cnt1 : ∀ (cs : List Int), (∀ c ∈ cs, 0 ≤ c) → cnt cs 1 = ((cs.filter fun w => decide (0 < w)).length : Int)
  | [], _ => rfl
  | c :: r, h => by
    have ih := cnt1 r fun x hx => h x (List.mem_cons_of_mem _ hx)
    have h0 := h c List.mem_cons_self
    rw [cnt_cons, ih, List.filter_cons]
    by_cases hc : 0 < c
    · rw [if_pos (decide_eq_true hc), List.length_cons]
      have e : (((r.filter fun w => decide (0 < w)).length + 1 : Nat) : Int) = ((r.filter fun w => decide (0 < w)).length : Int) + 1 := by omega
      rw [e]
      by_cases h1 : 1 < c
      · rw [if_pos h1]
        omega
      · rw [if_neg h1]
        omega
    · rw [if_neg (by omega), if_neg (by rw [decide_eq_false hc]; decide)]
      omega
/-- as many can be lit as must be -/
theorem can_lights {cs r : List Int} {d : Int} (h0 : ∀ c ∈ cs, 0 ≤ c) (c : can cs (d :: r) = true) : ∃ lit, lightsF cs d = some lit := by
  have q := can_sub.mp c [d] (List.singleton_sublist.mpr List.mem_cons_self) (fun e => nomatch e)
  have e1 : ([d] : List Int).sum = d := by
    show d + 0 = d
    omega
  rw [e1] at q
  have q : d + 1 ≤ cnt cs 1 := q
  rw [cnt1 cs h0, ← rows_len cs fun i w => ((-w, (i : Int)) : Int × Int)] at q
  have q : d + 1 ≤ ((rowsOf cs).length : Int) := q
  unfold lightsF
  rw [if_neg (by omega)]
  exact ⟨_, rfl⟩
/-- one tick taken back -/
theorem burnt_back {cs lit : List Int} {d k : Int} (h : Lit cs d lit) : cnt (burntF cs lit []) (k - 1) + (d + 1) ≤ cnt cs k := by
  have e := sub_bits h (fun w => mn k w)
  have e2 : cnt cs k = (cs.map fun w => mn k w).sum := rfl
  have q : (cs.mapIdx fun i w => mn (k - 1) (w - bit lit [] (i : Int))).sum ≤ (cs.mapIdx fun i w => mn k w - bit lit [] (i : Int)).sum := mapIdx_le cs _ _ fun i w hi => by
    have a := mn_le (k - 1) (w - bit lit [] (i : Int))
    by_cases hl : (i : Int) ∈ lit
    · rw [bit_in hl] at a ⊢
      have : mn (k - 1) (w - 1) + 1 ≤ mn k w := mn_lo (by omega) (by omega)
      omega
    · rw [bit_no hl] at a ⊢
      have : mn (k - 1) (w - 0) ≤ mn k w := mn_lo (by omega) (by omega)
      omega
  rw [cnt_burnt, e2]
  omega
theorem burnt_less (cs lit : List Int) (k : Int) : cnt (burntF cs lit []) k ≤ cnt cs k := by
  rw [cnt_mn cs, cnt_burnt]
  refine mapIdx_le cs _ _ fun i w hi => ?_
  have := mn_le k (w - bit lit [] (i : Int))
  rcases bit01 lit [] (i : Int) with q | q <;> exact mn_lo (by omega) (by omega)
theorem can_back {cs lit r : List Int} {d : Int} (h0 : ∀ c ∈ cs, 0 ≤ c) (h : Lit cs d lit) (c : can (burntF cs lit []) r = true) : can cs (d :: r) = true := by
  refine can_sub.mpr fun S hS hne => ?_
  have c := can_sub.mp c
  cases hS with
  | cons _ hS =>
    have := c S hS hne
    have := burnt_less cs lit S.length
    omega
  | cons_cons _ hS =>
    rename_i S'
    rw [List.sum_cons, List.length_cons]
    have e : ((S'.length + 1 : Nat) : Int) = (S'.length : Int) + 1 := by omega
    rw [e]
    have q := burnt_back (k := (S'.length : Int) + 1) h
    have e2 : (S'.length : Int) + 1 - 1 = S'.length := by omega
    rw [e2] at q
    by_cases hn : S' = []
    · subst hn
      have z : 0 ≤ cnt (burntF cs lit []) ((([] : List Int).length : Nat) : Int) := cnt_nonneg (burnt_nonneg h h0) (Int.le_refl _)
      have z1 : ([] : List Int).sum = 0 := rfl
      have z2 : ((([] : List Int).length : Nat) : Int) = 0 := rfl
      rw [z2] at q z
      rw [z1, z2]
      omega
    · have := c S' hS hn
      omega
/-- the law of the game: the keeper's lots go through just where it can be kept -/
theorem keeper : ∀ (ds cs : List Int), (∀ c ∈ cs, 0 ≤ c) → (∀ d ∈ ds, 0 ≤ d) → (lotsF cs ds).isSome = can cs ds
  | [], _, _, _ => rfl
  | d :: r, cs, h0, hd => by
    have hd0 := hd d List.mem_cons_self
    have hr := fun x hx => hd x (List.mem_cons_of_mem d hx)
    rw [lotsF_cons]
    cases e : lightsF cs d with
    | none =>
      show false = _
      cases c : can cs (d :: r) with
      | false => rfl
      | true =>
        obtain ⟨lit, q⟩ := can_lights h0 c
        rw [q] at e
        cases e
    | some lit =>
      have L := lights_lit hd0 e
      have ih := keeper r (burntF cs lit []) (burnt_nonneg L h0) hr
      show ((lotsF (burntF cs lit []) r).map _).isSome = _
      rw [Option.isSome_map, ih, Bool.eq_iff_iff]
      exact ⟨can_back h0 L, can_step L⟩
end LF
/-! ### la_ten: more wax, weaker draughts, other orders -/
namespace LF
theorem wnt_ge {ds S : List Int} (h : S.Sublist ds) : S.sum + S.length ≤ wnt ds S.length := by
  obtain ⟨S', hp, hs⟩ := List.exists_perm_sublist h (srt_perm ds).symm
  have hl := h.length_le
  rw [wnt_sum ds S.length hl]
  have t := top_sub (srt ds) S' (srt_up ds) hs
  rw [perm_sum hp, srt_len, hp.length_eq] at t
  omega
theorem wnt_at {ds : List Int} {k : Nat} (h : k ≤ ds.length) : ∃ S : List Int, S.Sublist ds ∧ S.length = k ∧ wnt ds k = S.sum + k := by
  have hs : ((srt ds).drop (ds.length - k)).Sublist (srt ds) := List.drop_sublist _ _
  obtain ⟨S, hp, hS⟩ := List.exists_perm_sublist hs (srt_perm ds)
  refine ⟨S, hS, ?_, ?_⟩
  · rw [hp.length_eq, List.length_drop, srt_len]
    omega
  · rw [wnt_sum ds k h, perm_sum hp]
theorem wnt_sub {es ds : List Int} {k : Nat} (h : es.Sublist ds) (hk : k ≤ es.length) : wnt es k ≤ wnt ds k := by
  obtain ⟨S, hS, hl, e⟩ := wnt_at hk
  have q := wnt_ge (hS.trans h)
  rw [hl] at q
  omega
theorem set_sub : ∀ (ds : List Int) (i : Nat) (v x : Int), ds[i]? = some x → v ≤ x → ∀ S : List Int, S.Sublist (ds.set i v) → ∃ S' : List Int, S'.Sublist ds ∧ S'.length = S.length ∧ S.sum ≤ S'.sum
  | [], _, _, _, h, _, _, _ => by simp at h
  | d :: r, 0, v, x, h, hv, S, hS => by
    have h : d = x := Option.some.inj h
    subst h
    rw [List.set_cons_zero] at hS
    cases hS with
    | cons _ hS => exact ⟨S, hS.cons d, rfl, Int.le_refl _⟩
    | cons_cons _ hS =>
      rename_i S0
      refine ⟨d :: S0, hS.cons_cons d, rfl, ?_⟩
      rw [List.sum_cons, List.sum_cons]
      omega
  | d :: r, i + 1, v, x, h, hv, S, hS => by
    rw [List.set_cons_succ] at hS
    cases hS with
    | cons _ hS =>
      obtain ⟨S', h1, h2, h3⟩ := set_sub r i v x h hv S hS
      exact ⟨S', h1.cons d, h2, h3⟩
    | cons_cons _ hS =>
      rename_i S0
      obtain ⟨S', h1, h2, h3⟩ := set_sub r i v x h hv S0 hS
      refine ⟨d :: S', h1.cons_cons d, by rw [List.length_cons, List.length_cons, h2], ?_⟩
      rw [List.sum_cons, List.sum_cons]
      omega
theorem wnt_set {ds : List Int} {i k : Nat} {v x : Int} (h : ds[i]? = some x) (hv : v ≤ x) (hk : k ≤ ds.length) : wnt (ds.set i v) k ≤ wnt ds k := by
  obtain ⟨S, hS, hl, e⟩ := wnt_at (ds := ds.set i v) (k := k) (by rw [List.length_set]; exact hk)
  obtain ⟨S', h1, h2, h3⟩ := set_sub ds i v x h hv S hS
  have q := wnt_ge h1
  rw [h2, hl] at q
  omega
/-- as good a night, or a better one -/
def Eas (cs ds cs' ds' : List Int) : Prop := ∀ k : Nat, 1 ≤ k → k ≤ ds'.length → k ≤ ds.length ∧ wnt ds' k ≤ wnt ds k ∧ cnt cs k ≤ cnt cs' k
theorem Eas.can {cs ds cs' ds' : List Int} (h : Eas cs ds cs' ds') (c : can cs ds = true) : LF.can cs' ds' = true :=
  (can_iff _ _).mpr fun k k1 k2 => by
    obtain ⟨a, b, d⟩ := h k k1 k2
    have := (can_iff _ _).mp c k k1 a
    omega
theorem Eas.stb {cs ds cs' ds' : List Int} {m n : Int} (h : Eas cs ds cs' ds') (hm : Stb cs ds m) (hn : Stb cs' ds' n) : n ≤ m := by
  by_cases h0 : 0 < n
  · obtain ⟨k, k1, k2, e⟩ := hn.2.2 h0
    obtain ⟨a, b, d⟩ := h k k1 k2
    have := hm.2.1 k k1 a
    omega
  · have := hm.1
    omega
theorem eas_cs {cs cs' : List Int} (ds : List Int) (h : ∀ k : Int, 0 ≤ k → cnt cs k ≤ cnt cs' k) : Eas cs ds cs' ds := fun k _ k2 => ⟨k2, Int.le_refl _, h k (by omega)⟩
theorem eas_set (cs : List Int) {ds : List Int} {i : Nat} {v x : Int} (h : ds[i]? = some x) (hv : v ≤ x) : Eas cs ds cs (ds.set i v) := fun k _ k2 => by
  rw [List.length_set] at k2
  exact ⟨k2, wnt_set h hv k2, Int.le_refl _⟩
theorem eas_sub (cs : List Int) {es ds : List Int} (h : es.Sublist ds) : Eas cs ds cs es := fun _ _ k2 => ⟨Nat.le_trans k2 h.length_le, wnt_sub h k2, Int.le_refl _⟩
/-- one longer -/
theorem cnt_longer {cs : List Int} {i : Nat} {x : Int} (h : cs[i]? = some x) (k : Int) : cnt cs k ≤ cnt (cs.set i (x + 1)) k :=
  cnt_mono (by rw [List.length_set]) (fun j v w hv hw => by
    by_cases e : i = j
    · subst e
      rw [List.getElem?_set_self (List.getElem?_eq_some_iff.mp h).1] at hw
      cases hw
      rw [h] at hv
      cases hv
      omega
    · rw [List.getElem?_set_ne e] at hw
      rw [hv] at hw
      cases hw
      omega) k
/-- one more -/
theorem cnt_more (cs : List Int) {w : Int} (h : 0 ≤ w) {k : Int} (hk : 0 ≤ k) : cnt cs k ≤ cnt (cs ++ [w]) k := by
  rw [cnt_app, cnt_one]
  by_cases a : k < w
  · rw [if_pos a]
    omega
  · rw [if_neg a]
    omega
theorem long_mono {cs cs' : List Int} {d : Int} {r q : Nat} (h : ∀ ds, can cs ds = true → can cs' ds = true) (h1 : can cs (List.replicate r d) = true) (h2 : can cs' (List.replicate (q + 1) d) = false) : r ≤ q := by
  by_cases c : r ≤ q
  · exact c
  · have := h _ (can_rep_mono h1 (m := q + 1) (by omega))
    rw [h2] at this
    cases this
theorem spr_le {cs cs' ds : List Int} (h : ∀ k : Int, 0 ≤ k → cnt cs k ≤ cnt cs' k) (i : Nat) (x y : Int) (hx : (spr cs ds)[i]? = some x) (hy : (spr cs' ds)[i]? = some y) : x ≤ y := by
  unfold spr at hx hy
  rw [List.getElem?_map] at hx hy
  obtain ⟨j, hj, rfl⟩ := Option.map_eq_some_iff.mp hx
  rw [hj] at hy
  have hy := (Option.some.inj hy).symm
  subst hy
  have := h ((j : Int) + 1) (by omega)
  show cnt cs ((j : Int) + 1) - wnt ds (j + 1) ≤ cnt cs' ((j : Int) + 1) - wnt ds (j + 1)
  omega
theorem wnt_perm {a b : List Int} (h : a.Perm b) (k : Nat) : wnt a k = wnt b k := by
  unfold wnt
  rw [srt_of_perm h, h.length_eq]
theorem spr_perm {cs cs' ds ds' : List Int} (h : cs.Perm cs') (g : ds.Perm ds') : spr cs ds = spr cs' ds' := by
  unfold spr
  rw [g.length_eq]
  refine List.map_congr_left fun i _ => ?_
  rw [cnt_perm h, wnt_perm g]
theorem can_perm {cs cs' ds ds' : List Int} (h : cs.Perm cs') (g : ds.Perm ds') : can cs ds = can cs' ds' := by
  unfold can
  rw [spr_perm h g]
/-- the least row comes first by its number -/
theorem rowLt (y a : Int × List Int) (e : y.1 ≠ a.1) : PySem.W.dataLt (rowD y) (rowD a) = decide (y.1 < a.1) := by
  have h1 : PySem.W.alike (.int y.1) (.int a.1) = true := by simp only [PySem.W.alike]
  rw [PySem.W.dataLt_tuple, PySem.W.dataLt_all_no h1 (by rw [PySem.PyData.eqv]; exact beq_eq_false_iff_ne.mpr e)]
  exact PySem.W.dataLt_int _ _
theorem best_fold : ∀ (rs : List (Int × List Int)) (a : Int × List Int), ∃ r, r ∈ a :: rs ∧ PySem.W.minD (rowD a) (rs.map rowD) = rowD r ∧ r.1 ≤ a.1 ∧ ∀ q ∈ rs, r.1 ≤ q.1
  | [], a => ⟨a, List.mem_cons_self, rfl, Int.le_refl _, fun q h => nomatch h⟩
  | y :: rs, a => by
    show ∃ r, r ∈ a :: y :: rs ∧ (rs.map rowD).foldl (fun a y => if PySem.W.dataLt y a then y else a) (if PySem.W.dataLt (rowD y) (rowD a) then rowD y else rowD a) = rowD r ∧ _
    have L := rowLt y a
    cases c : PySem.W.dataLt (rowD y) (rowD a) with
    | true =>
      rw [if_pos rfl]
      obtain ⟨r, h1, h2, h3, h4⟩ := best_fold rs y
      have hle : y.1 ≤ a.1 := by
        by_cases e : y.1 = a.1
        · omega
        · have L := L e
          rw [c] at L
          have := of_decide_eq_true L.symm
          omega
      refine ⟨r, List.mem_cons_of_mem _ h1, h2, by omega, fun q hq => ?_⟩
      rcases List.mem_cons.mp hq with rfl | hq
      · exact h3
      · exact h4 q hq
    | false =>
      rw [if_neg (by decide)]
      obtain ⟨r, h1, h2, h3, h4⟩ := best_fold rs a
      have hle : a.1 ≤ y.1 := by
        by_cases e : y.1 = a.1
        · omega
        · have L := L e
          rw [c] at L
          have := of_decide_eq_false L.symm
          omega
      refine ⟨r, ?_, h2, h3, fun q hq => ?_⟩
      · rcases List.mem_cons.mp h1 with rfl | h1
        · exact List.mem_cons_self
        · exact List.mem_cons_of_mem _ (List.mem_cons_of_mem _ h1)
      · rcases List.mem_cons.mp hq with rfl | hq
        · omega
        · exact h4 q hq
theorem best_min {rows : List (Int × List Int)} {r : Int × List Int} (hne : rows ≠ []) (h : rowD r = best rows) : r ∈ rows ∧ ∀ q ∈ rows, r.1 ≤ q.1 := by
  cases rows with
  | nil => exact absurd rfl hne
  | cons a rs =>
    obtain ⟨r', h1, h2, h3, h4⟩ := best_fold rs a
    have e : r = r' := rowD_inj (h.trans h2)
    subst e
    refine ⟨h1, fun q hq => ?_⟩
    rcases List.mem_cons.mp hq with rfl | hq
    · exact h3
    · exact h4 q hq
abbrev plN (n : Nat) : List Int := (List.range n).map fun (i : Nat) => (i : Int)
theorem plN_succ (n : Nat) : plN (n + 1) = plN n ++ [(n : Int)] := by
  show (List.range (n + 1)).map _ = _
  rw [List.range_succ, List.map_append]
  rfl
theorem lots_iff : ∀ (n : Nat) (l : List Int), l ∈ lotsPF (plN n) ↔ l.Sublist (plN n)
  | 0, l => by
    show l ∈ [[]] ↔ l.Sublist []
    rw [List.mem_singleton, List.sublist_nil]
  | n + 1, l => by
    rw [plN_succ, lotsPF_snoc, List.mem_append, List.mem_map]
    constructor
    · rintro (h | ⟨x, h, rfl⟩)
      · exact ((lots_iff n l).mp h).trans (List.sublist_append_left _ _)
      · exact ((lots_iff n x).mp h).append (List.Sublist.refl _)
    · intro h
      obtain ⟨l1, l2, rfl, h1, h2⟩ := List.sublist_append_iff.mp h
      cases h2 with
      | cons _ h2 =>
        rw [List.sublist_nil.mp h2, List.append_nil]
        exact .inl ((lots_iff n l1).mpr h1)
      | cons_cons _ h2 =>
        rw [List.sublist_nil.mp h2]
        exact .inr ⟨l1, (lots_iff n l1).mpr h1, rfl⟩
theorem plN_nodup (n : Nat) : (plN n).Nodup := List.pairwise_map.mpr (List.nodup_range.imp fun h z => h (by omega))
theorem sub_filter {L l : List Int} (h : l.Sublist L) : L.Nodup → (L.filter fun x => decide (x ∉ l)).length + l.length = L.length := by
  induction h with
  | slnil => intro _; rfl
  | cons a h ih =>
    rename_i l L
    intro hn
    have hn := List.nodup_cons.mp hn
    have ha : a ∉ l := fun z => hn.1 (h.mem z)
    rw [List.filter_cons, if_pos (decide_eq_true ha), List.length_cons, List.length_cons]
    have := ih hn.2
    omega
  | cons_cons a h ih =>
    rename_i l L
    intro hn
    have hn := List.nodup_cons.mp hn
    rw [List.filter_cons, if_neg (by simp), List.length_cons, List.length_cons]
    have e : (L.filter fun x => decide (x ∉ a :: l)) = L.filter fun x => decide (x ∉ l) := by
      refine List.filter_congr fun x hx => ?_
      have : x ≠ a := fun z => hn.1 (z ▸ hx)
      simp [this]
    rw [e]
    have := ih hn.2
    omega
theorem fm_len {α β : Type} (p : α → Bool) (g : α → Option β) : ∀ l : List α, (∀ x ∈ l, (g x).isSome = p x) → (l.filterMap g).length = (l.filter p).length
  | [], _ => rfl
  | x :: r, h => by
    have ih := fm_len p g r fun y hy => h y (List.mem_cons_of_mem _ hy)
    have h0 := h x List.mem_cons_self
    rw [List.filterMap_cons, List.filter_cons]
    cases e : g x with
    | none =>
      rw [e] at h0
      rw [← h0]
      exact ih
    | some y =>
      rw [e] at h0
      rw [← h0]
      show (_ :: _).length = (_ :: _).length
      rw [List.length_cons, List.length_cons, ih]
theorem rem_len {cs lot : List Int} (h : lot ∈ lotsPF (placesF cs)) : (remF cs lot).length + lot.length = cs.length := by
  have hs := (lots_iff cs.length lot).mp h
  have q := sub_filter hs (plN_nodup _)
  have e : (remF cs lot).length = ((List.range cs.length).filter fun (i : Nat) => decide ((i : Int) ∉ lot)).length := fm_len _ _ _ fun i hi => by
    have hi := List.mem_range.mp hi
    by_cases c : (i : Int) ∈ lot
    · rw [if_pos c, decide_eq_false (fun z => z c)]
      rfl
    · rw [if_neg c, decide_eq_true c, List.getElem?_eq_getElem hi]
      rfl
  have e2 : ((plN cs.length).filter fun x => decide (x ∉ lot)).length = ((List.range cs.length).filter fun (i : Nat) => decide ((i : Int) ∉ lot)).length := by
    show (((List.range cs.length).map fun (i : Nat) => (i : Int)).filter fun x => decide (x ∉ lot)).length = _
    rw [List.filter_map, List.length_map]
    rfl
  have e3 : (plN cs.length).length = cs.length := by
    show ((List.range cs.length).map _).length = _
    rw [List.length_map, List.length_range]
  omega
theorem rem_mask {R cs : List Int} (h : R.Sublist cs) : ∃ p : Nat → Bool, ((List.range cs.length).filterMap fun i => if p i = true then none else cs[i]?) = R := by
  induction h with
  | slnil => exact ⟨fun _ => true, rfl⟩
  | cons a h ih =>
    rename_i R cs
    obtain ⟨p, e⟩ := ih
    refine ⟨fun i => match i with | 0 => true | j + 1 => p j, ?_⟩
    rw [List.length_cons, List.range_succ_eq_map, List.filterMap_cons, List.filterMap_map]
    show (List.range cs.length).filterMap (fun i => if p i = true then none else cs[i]?) = _
    exact e
  | cons_cons a h ih =>
    rename_i R cs
    obtain ⟨p, e⟩ := ih
    refine ⟨fun i => match i with | 0 => false | j + 1 => p j, ?_⟩
    rw [List.length_cons, List.range_succ_eq_map, List.filterMap_cons, List.filterMap_map]
    show a :: (List.range cs.length).filterMap (fun i => if p i = true then none else cs[i]?) = _
    rw [e]
theorem fm_congr {α β : Type} {f g : α → Option β} : ∀ l : List α, (∀ x ∈ l, f x = g x) → l.filterMap f = l.filterMap g
  | [], _ => rfl
  | x :: r, h => by
    rw [List.filterMap_cons, List.filterMap_cons, h x List.mem_cons_self, fm_congr r fun y hy => h y (List.mem_cons_of_mem _ hy)]
theorem rem_is {R cs : List Int} (h : R.Sublist cs) : ∃ lot, lot ∈ lotsPF (placesF cs) ∧ remF cs lot = R := by
  obtain ⟨p, e⟩ := rem_mask h
  refine ⟨(plN cs.length).filter fun x => p x.toNat, (lots_iff _ _).mpr List.filter_sublist, ?_⟩
  rw [← e]
  refine fm_congr _ fun i hi => ?_
  have hi := List.mem_range.mp hi
  by_cases c : p i = true
  · rw [if_pos c, if_pos]
    refine List.mem_filter.mpr ⟨List.mem_map.mpr ⟨i, List.mem_range.mpr hi, rfl⟩, ?_⟩
    rw [Int.toNat_natCast]
    exact c
  · rw [if_neg c, if_neg]
    intro z
    have z := (List.mem_filter.mp z).2
    rw [Int.toNat_natCast] at z
    exact c z
theorem spared_mem {cs ds : List Int} {r : Int × List Int} (h : r ∈ sparedF cs ds) : r.2 ∈ lotsPF (placesF cs) ∧ can (remF cs r.2) ds = true ∧ r.1 = -(r.2.length : Int) := by
  obtain ⟨lot, hl, e⟩ := List.mem_filterMap.mp h
  unfold rowOf at e
  by_cases c : can (remF cs lot) ds = true
  · rw [if_pos c] at e
    cases Option.some.inj e
    exact ⟨hl, c, rfl⟩
  · rw [if_neg c] at e
    cases e
theorem spared_other {cs cs' ds ds' : List Int} (h : cs.Perm cs') (g : ds.Perm ds') {r : Int × List Int} (hr : r ∈ sparedF cs ds) : ∃ r' ∈ sparedF cs' ds', r'.1 = r.1 := by
  obtain ⟨h1, h2, h3⟩ := spared_mem hr
  obtain ⟨R', hp, hR⟩ := List.exists_perm_sublist (rem_sub cs r.2) h
  obtain ⟨lot, hl, e⟩ := rem_is hR
  have c : can (remF cs' lot) ds' = true := by
    rw [e, ← h2]
    exact can_perm hp g.symm
  refine ⟨(-(lot.length : Int), lot), List.mem_filterMap.mpr ⟨lot, hl, if_pos c⟩, ?_⟩
  have l1 := rem_len h1
  have l2 := rem_len hl
  rw [e, hp.length_eq, ← h.length_eq] at l2
  rw [h3]
  show -(lot.length : Int) = _
  omega
/-- as many can be spared in other orders -/
theorem spared_perm {cs cs' ds ds' : List Int} (h : cs.Perm cs') (g : ds.Perm ds') {r r' : Int × List Int} (c : can cs ds = true) (hr : rowD r = best (sparedF cs ds)) (hr' : rowD r' = best (sparedF cs' ds')) : r.2.length = r'.2.length := by
  have c' : can cs' ds' = true := by
    rw [← can_perm h g]
    exact c
  obtain ⟨m1, b1⟩ := best_min (spared_can c) hr
  obtain ⟨m2, b2⟩ := best_min (spared_can c') hr'
  obtain ⟨q, hq, e⟩ := spared_other h g m1
  obtain ⟨q', hq', e'⟩ := spared_other h.symm g.symm m2
  have i1 := b2 q hq
  have i2 := b1 q' hq'
  have i3 := (spared_mem m1).2.2
  have i4 := (spared_mem m2).2.2
  omega
end LF
/-! ### la_judge: places, ticks, rows, among any data -/
namespace LF
open PySem PySem.Spec PyProof.Rows L2
noncomputable def cd (P : Prop) : Bool := @decide P (Classical.propDecidable P)
theorem cd_t {P : Prop} (h : P) : cd P = true := @decide_eq_true P (Classical.propDecidable P) h
theorem cd_f {P : Prop} (h : ¬P) : cd P = false := @decide_eq_false P (Classical.propDecidable P) h
theorem cd_of {P : Prop} (h : cd P = true) : P := @of_decide_eq_true P (Classical.propDecidable P) h
theorem cd_no {P : Prop} (h : cd P = false) : ¬P := @of_decide_eq_false P (Classical.propDecidable P) h
theorem cd_iff {P Q : Prop} (h : P ↔ Q) : cd P = cd Q := by rw [propext h]
theorem cd_and {P Q : Prop} (h : P) : cd (P ∧ Q) = cd Q := cd_iff ⟨fun z => z.2, fun z => ⟨h, z⟩⟩
theorem cd_b {P : Prop} {b : Bool} (h : b = true ↔ P) : b = cd P := by
  cases b with
  | true => exact (cd_t (h.mp rfl)).symm
  | false => exact (cd_f fun z => by cases h.mpr z).symm
def IsWithin (lo hi : Int) (d : PyData) : Prop := ∃ i, d = .int i ∧ lo ≤ i ∧ i ≤ hi
def Rise (l : List Int) : Prop := ∀ (i : Nat) (x y : Int), l[i]? = some x → l[i + 1]? = some y → x < y
/-- places of n candles -/
def Pl (n : Nat) (l : List Int) : Prop := (∀ i ∈ l, 0 ≤ i ∧ i ≤ (n : Int) - 1) ∧ Rise l
def IsPlaces (n : Nat) (d : PyData) : Prop := ∃ l, d = .tuple (di l) ∧ Pl n l
/-- lit and put out -/
structure TickOk (cs : List Int) (k : Int) (lit out : List Int) : Prop where
  pl : Pl cs.length lit
  po : Pl cs.length out
  wax : ∀ j : Nat, (j : Int) ∈ lit → cs[j]? ≠ some 0
  few : (out.length : Int) ≤ k
  sub : ∀ i ∈ out, i ∈ lit
abbrev tickD (t : List Int × List Int) : PyData := .tuple [.tuple (di t.1), .tuple (di t.2)]
def IsTick (cs : List Int) (k : Int) (d : PyData) : Prop := ∃ lit out, d = tickD (lit, out) ∧ TickOk cs k lit out
def RowOk : List Int → Bool → List Int → List (List Int × List Int) → Prop
  | _, _, _, [] => True
  | _, _, [], _ :: _ => False
  | cs, fl, d :: r, t :: ts => fl = true ∧ TickOk cs d t.1 t.2 ∧ RowOk (burntF cs t.1 t.2) (decide (t.2.length < t.1.length)) r ts
def IsRow (cs ds : List Int) (d : PyData) : Prop := ∃ ts, d = .list (ts.map tickD) ∧ RowOk cs true ds ts
theorem all_within {lo hi : Int} : ∀ {ds : List PyData}, (∀ d ∈ ds, IsWithin lo hi d) → ∃ l, ds = di l ∧ ∀ i ∈ l, lo ≤ i ∧ i ≤ hi
  | [], _ => ⟨[], rfl, fun i h => nomatch h⟩
  | d :: r, h => by
    obtain ⟨l, e, hl⟩ := all_within fun x hx => h x (List.mem_cons_of_mem _ hx)
    obtain ⟨i, rfl, h1, h2⟩ := h d List.mem_cons_self
    refine ⟨i :: l, by rw [e]; rfl, fun j hj => ?_⟩
    rcases List.mem_cons.mp hj with rfl | hj
    · exact ⟨h1, h2⟩
    · exact hl j hj
theorem dp_int {K : PySem.W.Frag} {H : Hp} {v : V} {i : Int} (h : Dp K H v (.int i)) : v = .int i := by
  cases h
  rfl
theorem dpall_ints {K : PySem.W.Frag} {H : Hp} : ∀ {vs : List V} {l : List Int}, DpAll K H vs (di l) → vs = vi l
  | [], [], _ => rfl
  | [], _ :: _, h => by cases h
  | _ :: _, [], h => by cases h
  | v :: vs, i :: l, h => by
    cases h with
    | cons h t =>
      rw [dp_int h, dpall_ints t]
      rfl
theorem dp_tup_get {K : PySem.W.Frag} {H : Hp} {v : V} {ds : List PyData} (h : Dp K H v (.tuple ds)) : ∃ p vs, v = .ref p ∧ SqT K H p vs ∧ DpAll K H vs ds := by
  cases h with
  | tup h a => exact ⟨_, _, rfl, h, a⟩
theorem dp_lst_get {K : PySem.W.Frag} {H : Hp} {v : V} {ds : List PyData} (h : Dp K H v (.list ds)) : ∃ p vs, v = .ref p ∧ SqL K H p vs ∧ DpAll K H vs ds := by
  cases h with
  | lst h a => exact ⟨_, _, rfl, h, a⟩
theorem dp_tints {K : PySem.W.Frag} {H : Hp} {v : V} {l : List Int} (h : Dp K H v (.tuple (di l))) : ∃ p, v = .ref p ∧ SqT K H p (vi l) := by
  obtain ⟨p, vs, e, hs, ha⟩ := dp_tup_get h
  rw [dpall_ints ha] at hs
  exact ⟨p, e, hs⟩
theorem dpall_get1 {K : PySem.W.Frag} {H : Hp} : ∀ {vs : List V} {ds : List PyData} {i : Nat} {v : V}, DpAll K H vs ds → vs[i]? = some v → ∃ d, ds[i]? = some d ∧ Dp K H v d
  | _, _, i, d, .nil, e => by simp at e
  | _, _, 0, d, .cons h _, e => by
    cases Option.some.inj e
    exact ⟨_, rfl, h⟩
  | _, _, i + 1, d, .cons _ t, e => dpall_get1 (i := i) t e
theorem dpall_app {K : PySem.W.Frag} {H : Hp} : ∀ {vs ws : List V} {ds es : List PyData}, DpAll K H vs ds → DpAll K H ws es → DpAll K H (vs ++ ws) (ds ++ es)
  | _, _, _, _, .nil, h => h
  | _, _, _, _, .cons h t, g => .cons h (dpall_app t g)
theorem is_tup {d : PyData} (h : dis "tuple" d = true) : ∃ ds, d = .tuple ds := by
  cases d with
  | tuple ds => exact ⟨ds, rfl⟩
  | _ => cases h
theorem is_lst {d : PyData} (h : dis "list" d = true) : ∃ ds, d = .list ds := by
  cases d with
  | list ds => exact ⟨ds, rfl⟩
  | _ => cases h
theorem is_int {d : PyData} (h1 : dis "int" d = true) (h2 : dis "bool" d = false) : ∃ i, d = .int i := by
  cases d with
  | int i => exact ⟨i, rfl⟩
  | bool _ => cases h2
  | _ => cases h1
theorem sat_map {α : Type} (p : α → Bool) (l : List α) : (l.map p).all id = true ↔ ∀ x ∈ l, p x = true := by
  rw [List.all_map, List.all_eq_true]
  exact Iff.rfl
/-- so many numbers, none beyond -/
def IsAre (least most top : Int) (d : PyData) : Prop := ∃ l : List Int, d = .tuple (di l) ∧ least ≤ l.length ∧ (l.length : Int) ≤ most ∧ ∀ i ∈ l, 0 ≤ i ∧ i ≤ top
theorem are_iff {least most top : Int} {ds : List PyData} (h1 : least ≤ ds.length) (h2 : (ds.length : Int) ≤ most) : IsAre least most top (.tuple ds) ↔ ∀ d ∈ ds, IsWithin 0 top d := by
  constructor
  · rintro ⟨l, e, _, _, h⟩ d hd
    have e := PyData.tuple.inj e
    rw [e] at hd
    obtain ⟨i, hi, rfl⟩ := List.mem_map.mp hd
    exact ⟨i, rfl, h i hi⟩
  · intro h
    obtain ⟨l, rfl, hl⟩ := all_within h
    rw [List.length_map] at h1 h2
    exact ⟨l, rfl, h1, h2, hl⟩
theorem are_len {least most top : Int} {ds : List PyData} (h : IsAre least most top (.tuple ds)) : least ≤ ds.length ∧ (ds.length : Int) ≤ most := by
  obtain ⟨l, e, h1, h2, _⟩ := h
  rw [PyData.tuple.inj e, List.length_map]
  exact ⟨h1, h2⟩
theorem are_all {least most top : Int} {ds : List PyData} (h1 : least ≤ ds.length) (h2 : (ds.length : Int) ≤ most) : (ds.map fun x => cd (IsWithin 0 top x)).all id = cd (IsAre least most top (.tuple ds)) :=
  cd_b (by rw [sat_map, are_iff h1 h2]; exact ⟨fun h x hx => cd_of (h x hx), fun h x hx => cd_t (h x hx)⟩)
end LF
/-! ### la_drawn: data that is drawn from the tape, whatever it be -/
namespace LF
open PySem PySem.Spec PyProof.Rows L2
/-- the heap without what is written yet -/
noncomputable def hid (B : Addr → Prop) (H : Hp) : Hp := fun a => @ite _ (B a) (Classical.propDecidable _) none (H a)
theorem hid_get {B : Addr → Prop} {H : Hp} {a : Addr} {u : HO} (h : H a = some u) (n : ¬B a) : hid B H a = some u := by
  unfold hid
  rw [if_neg n]
  exact h
theorem hid_of {B : Addr → Prop} {H : Hp} {a : Addr} {u : HO} (h : hid B H a = some u) : H a = some u ∧ ¬B a := by
  unfold hid at h
  by_cases c : B a
  · rw [if_pos c] at h
    cases h
  · rw [if_neg c] at h
    exact ⟨h, c⟩
theorem hid_same {B B' : Addr → Prop} {H H' : Hp} (h : ∀ a u, H a = some u → ¬B a → H' a = some u ∧ ¬B' a) : Same (hid B H) (hid B' H') := fun a u e => by
  obtain ⟨e1, n1⟩ := hid_of e
  obtain ⟨e2, n2⟩ := h a u e1 n1
  exact hid_get e2 n2
theorem hid_le {B : Addr → Prop} {H : Hp} : Same (hid B H) H := fun a u e => (hid_of e).1
theorem hid_smt {B : Addr → Prop} {H H' : Hp} {t : Addr} (s : Smt t H H') (b : B t) : Same (hid B H) (hid B H') := hid_same fun a u e n => ⟨s a u e fun z => n (z ▸ b), n⟩
theorem hid_s {B : Addr → Prop} {H H' : Hp} (s : Same H H') : Same (hid B H) (hid B H') := hid_same fun a u e n => ⟨s a u e, n⟩
def addB (B : Addr → Prop) (r : Addr) : Addr → Prop := fun a => B a ∨ a = r
theorem hid_add {B : Addr → Prop} {H H' : Hp} {t r : Addr} (s : Smt t H H') (b : B t) (n : H r = none) : Same (hid B H) (hid (addB B r) H') := hid_same fun a u e na => ⟨s a u e fun z => na (z ▸ b), fun z => by
  rcases z with z | z
  · exact na z
  · rw [z, n] at e
    cases e⟩
theorem hid_drop {B : Addr → Prop} {H : Hp} {r : Addr} : Same (hid (addB B r) H) (hid B H) := hid_same fun a u e n => ⟨e, fun z => n (.inl z)⟩
theorem hid_mut {B : Addr → Prop} {H : Hp} {r : Addr} {o : HO} (b : B r) : Same (hid B H) (hid B (upd H r o)) := hid_same fun a u e n => ⟨by have c : a ≠ r := (fun z => by subst z; exact n b); rw [upd_ne c]; exact e, n⟩
/-- what is hidden stands -/
def Bk (B : Addr → Prop) (H : Hp) : Prop := ∀ a, B a → ∃ u, H a = some u
theorem Bk.fresh {B : Addr → Prop} {H : Hp} {p : Addr} (h : Bk B H) (n : H p = none) : ¬B p := fun b => by
  obtain ⟨u, e⟩ := h p b
  rw [n] at e
  cases e
theorem Bk.same {B : Addr → Prop} {H H' : Hp} (h : Bk B H) (s : Same H H') : Bk B H' := fun a b => by
  obtain ⟨u, e⟩ := h a b
  exact ⟨u, s a u e⟩
theorem Bk.smt {B : Addr → Prop} {H H' : Hp} {t l : Addr} (h : Bk B H) (s : Smt t H H') (hT : TapeAt H' t l) : Bk B H' := fun a b => by
  obtain ⟨u, e⟩ := h a b
  by_cases c : a = t
  · subst c
    obtain ⟨xs, e⟩ := hT.ex
    exact ⟨_, e⟩
  · exact ⟨u, s a u e c⟩
theorem Bk.upd {B : Addr → Prop} {H : Hp} {r : Addr} {o : HO} (h : Bk B H) : Bk B (upd H r o) := fun a b => by
  by_cases c : a = r
  · subst c
    exact ⟨o, upd_same⟩
  · rw [upd_ne c]
    exact h a b
theorem Bk.add {B : Addr → Prop} {H : Hp} {r : Addr} {o : HO} (h : Bk B H) (e : H r = some o) : Bk (addB B r) H := fun a b => by
  rcases b with b | b
  · exact h a b
  · rw [b]
    exact ⟨o, e⟩
/-- data less than n deep, none longer than m -/
def Fz (m : Nat) : Nat → PyData → Prop
  | 0, _ => False
  | n + 1, .list ds => ds.length ≤ m ∧ ∀ d ∈ ds, Fz m n d
  | n + 1, .tuple ds => ds.length ≤ m ∧ ∀ d ∈ ds, Fz m n d
  | _ + 1, .dict _ => False
  | _ + 1, .str x => x.length ≤ m
  | _ + 1, _ => True
theorem Fz.mono {m m' : Nat} (hm : m ≤ m') : ∀ {n n' : Nat} {d : PyData}, n ≤ n' → Fz m n d → Fz m' n' d
  | 0, _, _, _, h => h.elim
  | n + 1, 0, _, hn, _ => absurd hn (by omega)
  | n + 1, n' + 1, .list ds, hn, h => ⟨Nat.le_trans h.1 hm, fun d hd => Fz.mono hm (by omega) (h.2 d hd)⟩
  | n + 1, n' + 1, .tuple ds, hn, h => ⟨Nat.le_trans h.1 hm, fun d hd => Fz.mono hm (by omega) (h.2 d hd)⟩
  | n + 1, n' + 1, .dict _, hn, h => h.elim
  | n + 1, n' + 1, .str _, hn, h => Nat.le_trans h hm
  | n + 1, n' + 1, .none, hn, h => True.intro
  | n + 1, n' + 1, .bool _, hn, h => True.intro
  | n + 1, n' + 1, .int _, hn, h => True.intro
theorem Fz.fit {m : Nat} (hm : m ≤ 1000) : ∀ {n : Nat} {d : PyData}, Fz m n d → Fit n d
  | 0, _, h => h.elim
  | n + 1, .list ds, h => ⟨Nat.le_trans h.1 hm, fun d hd => Fz.fit hm (h.2 d hd)⟩
  | n + 1, .tuple ds, h => ⟨Nat.le_trans h.1 hm, fun d hd => Fz.fit hm (h.2 d hd)⟩
  | n + 1, .dict _, h => h.elim
  | n + 1, .str _, h => True.intro
  | n + 1, .none, h => True.intro
  | n + 1, .bool _, h => True.intro
  | n + 1, .int _, h => True.intro
theorem fz_ints {m n : Nat} {l : List Int} (h : l.length ≤ m) : Fz m (n + 2) (.tuple (di l)) := ⟨by rw [List.length_map]; exact h, fun d hd => by
  obtain ⟨i, _, rfl⟩ := List.mem_map.mp hd
  exact True.intro⟩
theorem fz_lints {m n : Nat} {l : List Int} (h : l.length ≤ m) : Fz m (n + 2) (.list (di l)) := ⟨by rw [List.length_map]; exact h, fun d hd => by
  obtain ⟨i, _, rfl⟩ := List.mem_map.mp hd
  exact True.intro⟩
theorem dpall_set {K : PySem.W.Frag} {H : Hp} {v : V} {d : PyData} (hv : Dp K H v d) : ∀ {vs : List V} {ds : List PyData} (i : Nat), DpAll K H vs ds → DpAll K H (vs.set i v) (ds.set i d)
  | _, _, _, .nil => .nil
  | _, _, 0, .cons _ t => .cons hv t
  | _, _, i + 1, .cons h t => .cons h (dpall_set hv i t)
theorem dpall_take {K : PySem.W.Frag} {H : Hp} : ∀ {vs : List V} {ds : List PyData} (i : Nat), DpAll K H vs ds → DpAll K H (vs.take i) (ds.take i)
  | _, _, 0, _ => .nil
  | _, _, _ + 1, .nil => .nil
  | _, _, i + 1, .cons h t => .cons h (dpall_take i t)
theorem dpall_drop {K : PySem.W.Frag} {H : Hp} : ∀ {vs : List V} {ds : List PyData} (i : Nat), DpAll K H vs ds → DpAll K H (vs.drop i) (ds.drop i)
  | _, _, 0, h => h
  | _, _, _ + 1, .nil => .nil
  | _, _, i + 1, .cons _ t => dpall_drop i t
theorem dpall_erase {K : PySem.W.Frag} {H : Hp} : ∀ {vs : List V} {ds : List PyData} (i : Nat), DpAll K H vs ds → DpAll K H (vs.eraseIdx i) (ds.eraseIdx i)
  | _, _, _, .nil => .nil
  | _, _, 0, .cons _ t => t
  | _, _, i + 1, .cons h t => .cons h (dpall_erase i t)
theorem dpall_rev {K : PySem.W.Frag} {H : Hp} : ∀ {vs : List V} {ds : List PyData}, DpAll K H vs ds → DpAll K H vs.reverse ds.reverse
  | _, _, .nil => .nil
  | _, _, .cons h t => by
    rw [List.reverse_cons, List.reverse_cons]
    exact dpall_app (dpall_rev t) (.cons h .nil)
section
variable {X : Cx}
theorem lenA (K : PySem.W.Frag) (h : X.K = K := by rfl) : CallR X (.builtin "len") (fun xs H Q => ∃ x n, xs = [x] ∧ LenV K x H n ∧ Q (.int n) H) := by subst h; exact call_len
end
theorem str_len (x : Str) : x.length = x.cps.toList.length := (Array.length_toList).symm
theorem slice_to_len (x : Str) {i : Int} (h : 0 ≤ i) : (Txt.slice x none (some i)).length ≤ x.length := by
  have e : x = SX.S x.cps.toList := by
    cases x
    rfl
  rw [e, SX.slice_to h, SX.S_len, SX.S_len, List.length_take]
  exact Nat.min_le_right _ _
theorem slice_from_len (x : Str) {i : Int} (h : 0 ≤ i) : (Txt.slice x (some i) none).length ≤ x.length := by
  have e : x = SX.S x.cps.toList := by
    cases x
    rfl
  rw [e, SX.slice_from h, SX.S_len, SX.S_len, List.length_drop]
  exact Nat.sub_le _ _
theorem str_app_len (x y : Str) : (x ++ y).length = x.length + y.length := by
  show (x.cps ++ y.cps).size = _
  rw [Array.size_append]
  rfl
theorem at_in {xs : List V} {i : Int} (h0 : 0 ≤ i) (h1 : i < xs.length) : ∃ v, atI xs i = some v ∧ v ∈ xs := by
  obtain ⟨k, rfl⟩ := Int.eq_ofNat_of_zero_le h0
  have hk : k < xs.length := by omega
  exact ⟨xs[k], atI_nat (List.getElem?_eq_getElem hk), List.getElem_mem hk⟩
theorem fz_pair {m n : Nat} (h : 2 ≤ m) (a b : Int) : Fz m (n + 2) (.tuple [.int a, .int b]) := ⟨h, fun d hd => by
  rcases List.mem_cons.mp hd with rfl | hd
  · exact True.intro
  · rcases List.mem_cons.mp hd with rfl | hd
    · exact True.intro
    · cases hd⟩
theorem slice_both (x : Str) {i : Int} (h : 0 ≤ i) : (Txt.slice x none (some i)).length + (Txt.slice x (some i) none).length = x.length := by
  have e : x = SX.S x.cps.toList := by
    cases x
    rfl
  rw [e, SX.slice_to h, SX.slice_from h, SX.S_len, SX.S_len, SX.S_len, List.length_take, List.length_drop]
  omega
def seqD (tp : Bool) (ds : List PyData) : PyData := if tp = true then .tuple ds else .list ds
theorem seq_get {K : PySem.W.Frag} {H : Hp} {v : V} {d : PyData} (h : Dp K H v d) (hs : isSeq d = true) : ∃ (tp : Bool) (p : Addr) (xs : List V) (ds : List PyData), v = .ref p ∧ SqB K tp H p xs ∧ DpAll K H xs ds ∧ d = seqD tp ds := by
  cases h with
  | lst h a => exact ⟨false, _, _, _, rfl, h, a, rfl⟩
  | tup h a => exact ⟨true, _, _, _, rfl, h, a, rfl⟩
  | _ => cases hs
theorem seqD_dis (tp : Bool) (ds : List PyData) : dis "tuple" (seqD tp ds) = tp := by
  cases tp <;> rfl
theorem seqD_fz {m n : Nat} {tp : Bool} {ds : List PyData} : Fz m (n + 1) (seqD tp ds) ↔ ds.length ≤ m ∧ ∀ d ∈ ds, Fz m n d := by
  cases tp <;> exact Iff.rfl
theorem seqD_dp {K : PySem.W.Frag} {H : Hp} {p : Addr} {xs : List V} {ds : List PyData} {tp : Bool} (h : SqB K tp H p xs) (a : DpAll K H xs ds) : Dp K H (.ref p) (seqD tp ds) := by
  cases tp with
  | false => exact .lst h a
  | true => exact .tup h a
theorem lenV_b {K : PySem.W.Frag} {H : Hp} {p : Addr} {xs : List V} {tp : Bool} (h : SqB K tp H p xs) : LenV K (.ref p) H xs.length := by
  cases tp with
  | false => exact .inl ⟨xs, h, rfl⟩
  | true => exact .inr ⟨xs, h, rfl⟩
theorem kit_names_str (d : PyData) {K : PySem.W.Frag} : PySem.W.kitOne K (.type (dty d)) (.type "str") = some (dis "str" d) := kit_d d (by simp)
theorem is_str {d : PyData} (h : dis "str" d = true) : ∃ x, d = .str x := by
  cases d with
  | str x => exact ⟨x, rfl⟩
  | _ => cases h
theorem dp_str {K : PySem.W.Frag} {H : Hp} {v : V} {x : Str} (h : Dp K H v (.str x)) : v = .str x := by
  cases h
  rfl
theorem not_seq_of {d : PyData} (h : dis "tuple" d = true) : isSeq d = true := by
  obtain ⟨ds, rfl⟩ := is_tup h
  rfl
theorem ix_nat {n j : Nat} (hj : j < n) : ixN n (j : Int) = some j := by
  unfold ixN
  rw [if_pos (by omega), if_pos (by omega)]
  rfl
theorem tup_ne {H : Hp} {t l a : Addr} {xs : List V} (hT : TapeAt H t l) (h : H a = some (.tup xs)) : ¬ a = t := fun z => by
  obtain ⟨ys, e⟩ := hT.ex
  rw [z, e] at h
  cases h
theorem bk_t {H : Hp} {t l : Addr} (hT : TapeAt H t l) : Bk (fun a => a = t) H := fun a b => by
  obtain ⟨ys, e⟩ := hT.ex
  exact ⟨_, b ▸ e⟩
/-- data that stand apart from the tape -/
def Apart (K : PySem.W.Frag) (t : Addr) (H : Hp) (v : V) : Prop := ∃ e, Dp K (hid (fun a => a = t) H) v e ∧ Fz 27 8 e
theorem Apart.same {K : PySem.W.Frag} {t : Addr} {H H' : Hp} {v : V} (s : Same H H') (h : Apart K t H v) : Apart K t H' v := by
  obtain ⟨e, h, f⟩ := h
  exact ⟨e, h.same (hid_s s), f⟩
theorem apart_all {K : PySem.W.Frag} {t : Addr} {H : Hp} : ∀ {vs : List V}, (∀ v ∈ vs, Apart K t H v) → ∃ es, DpAll K (hid (fun a => a = t) H) vs es ∧ ∀ e ∈ es, Fz 27 8 e
  | [], _ => ⟨[], .nil, fun e h => nomatch h⟩
  | v :: r, h => by
    obtain ⟨e, h1, f1⟩ := h v List.mem_cons_self
    obtain ⟨es, h2, f2⟩ := apart_all fun x hx => h x (List.mem_cons_of_mem _ hx)
    refine ⟨e :: es, .cons h1 h2, fun x hx => ?_⟩
    rcases List.mem_cons.mp hx with rfl | hx
    · exact f1
    · exact f2 x hx
theorem apart_tup {K : PySem.W.Frag} {H : Hp} {t l a : Addr} {ns : List Int} (hT : TapeAt H t l) (h : H a = some (.tup (vi ns))) (hl : ns.length ≤ 27) : Apart K t H (.ref a) := ⟨.tuple (di ns), dp_tup (SqT.of (hid_get h (tup_ne hT h))), fz_ints hl⟩
theorem apart_lst {K : PySem.W.Frag} {H : Hp} {t a : Addr} {ns : List Int} (n : a ≠ t) (h : H a = some (.lst (vi ns))) (hl : ns.length ≤ 27) : Apart K t H (.ref a) := ⟨.list (di ns), dp_list (SqL.of (hid_get h n)), fz_lints hl⟩
theorem apart_one {K : PySem.W.Frag} {H : Hp} {t l a : Addr} {v : V} {d : PyData} (hT : TapeAt H t l) (h : H a = some (.tup [v])) (hv : Dp K (hid (fun a => a = t) H) v d) (hf : Fz 27 7 d) : Apart K t H (.ref a) := ⟨.tuple [d], .tup (SqT.of (hid_get h (tup_ne hT h))) (.cons hv .nil), ⟨by show 1 ≤ 27; decide, fun x hx => by
  rw [List.mem_singleton.mp hx]
  exact hf⟩⟩
theorem mem_app_all {α : Type} {P : α → Prop} {a b : List α} (h : ∀ x ∈ a, P x) (g : ∀ x ∈ b, P x) : ∀ x ∈ a ++ b, P x := fun x hx => by
  rcases List.mem_append.mp hx with hx | hx
  · exact h x hx
  · exact g x hx
/-- one thing more in a list o, on the way the tape t is read -/
theorem grow_keep {H H' : Hp} {t o : Addr} {u : HO} (s : Smt t H H') {a : Addr} {x : HO} (h : H a = some x) (ht : a ≠ t) (ho : a ≠ o) : (upd H' o u) a = some x := by
  rw [upd_ne ho]
  exact s _ _ h ht
theorem lst_ne {H : Hp} {o a : Addr} {xs ys : List V} (hO : H o = some (.lst ys)) (h : H a = some (.tup xs)) : a ≠ o := fun z => by
  rw [z, hO] at h
  cases h
theorem grow_data {K : PySem.W.Frag} {H H' : Hp} {t o : Addr} {ws : List V} {es : List PyData} {w : V} {e : PyData} (s : Smt t H H') (he : DpAll K (hid (addB (fun a => a = t) o) H) ws es) (hf : ∀ e ∈ es, Fz 27 8 e) (hw : Dp K (hid (addB (fun a => a = t) o) H') w e) (hwf : Fz 27 8 e) :
    DpAll K (hid (addB (fun a => a = t) o) (upd H' o (.lst (ws ++ [w])))) (ws ++ [w]) (es ++ [e]) ∧ (∀ x ∈ es ++ [e], Fz 27 8 x) := by
  have hm : Same (hid (addB (fun a => a = t) o) H') (hid (addB (fun a => a = t) o) (upd H' o (.lst (ws ++ [w])))) := hid_mut (.inr rfl)
  exact ⟨dpall_app (DpAll.same ((hid_smt s (.inl rfl)).trans hm) he) (.cons (hw.same hm) .nil), all_snoc hf hwf⟩
end LF
/-! ### la_kw: calls by names alone -/
namespace LF
open PySem PySem.Spec PyProof.Rows L2
def tCallK0 (m : Nat) (sp : Sp) (gV : List V → List V → List V) (E : XK) (tk : TA) : TE := fun σ H Q => tk σ H fun zs H2 => zs.length = m ∧ sp (gV [] zs) H2 Q E
section
variable {X : Cx} {CX : CXT} {k : Nat} {f : Addr} {fd : FuncData} {ps ks : List Str} {sp : Sp} {E : XK} {x : Str} {p pos : Pos} {kws : List Keyword} {tk : TA} {g : List Value → List Value → List Value} {gV : List V → List V → List V}
theorem pe_callK0 (F : FnOk X.prog X.w X.K X.mg X.base CX k f fd ps sp) (hr : Room k X.A) (hg : Gl X x) (hm : X.mg x = some (.ref f)) (hk : PySem.W.keepIn X.K (.ref f) = true) (hb : KBn X.K fd ps 0 ks g gV) (hx : Passes CX X E)
    (hkw : PK X kws tk) (hall : (backToKw pos (keywordEach kws X.env)).all (·.1.isSome) = true := by rfl) (hks : (backToKw pos (keywordEach kws X.env)).filterMap (·.1) = ks := by rfl)
    (hdb : (x == ("__debug__" : Str)) = false := by decide) (hpl : ((backTo pos (starEach [] X.env)).any (·.1) || (backToKw pos (keywordEach kws X.env)).any (·.1.isNone)) = false := by rfl) :
    PE X (.Call (.Name x p) [] kws pos) (tCallK0 ks.length sp gV E tk) := by
  refine ⟨fun pins s σ H Q I h => ?_⟩
  refine wpAny_Call_Name_kw (ld_glob I hg hm ?_ hdb)
  refine PySem.W.callWith_KW0 (h₀ := X.base) I.ok.mod.kin hk hall (thn (hkw.run pos pins s σ H _ I h) fun ws s2 ⟨zs, H2, I2, rz, l2, q2⟩ => ⟨I2.kIn, ?_⟩) hpl
  rw [hks]
  exact run_fnN F hr hb hx I2 .nil rz rfl l2 q2
end
section
variable {K : PySem.W.Frag} {x qual : Str} {st : Stmt} {f : Addr} {fd : FuncData} {ps ks : List Str}
/-- the names in the parameters' order -/
theorem kb_same (F : Fun K x qual st f fd) (h : ∀ (kV doc pm : Value) (an : Option Addr) (cdv ct : Value) (us ws : List Value), us.length = 0 → ws.length = ks.length → bindArgs (PySem.W.fnOf x qual (defArgs st) (defBody st) (defScope st) .none kV doc pm an cdv ct) ⟨us, ks.zip ws⟩ = pure (ps.zip ws)) : KBn K fd ps 0 ks (fun _ ws => ws) (fun _ zs => zs) := by
  obtain ⟨oc, od, kV, doc, pm, an, cdv, ct, osl, rfl, lk, hcd⟩ := F.ex
  exact ⟨fun s us ws _ l1 l2 => .of_eq (h kV doc pm an cdv ct us ws l1 l2), fun _ r => r⟩
theorem vals_rev : ∀ {vs : List V} {us : List Value}, Vals vs us → Vals vs.reverse us.reverse := fun h => by
  induction h with
  | nil => exact .nil
  | cons r t ih =>
    rw [List.reverse_cons, List.reverse_cons]
    exact paired_app ih (.cons r .nil)
/-- the last first -/
theorem kb_rev (F : Fun K x qual st f fd) (h : ∀ (kV doc pm : Value) (an : Option Addr) (cdv ct : Value) (us ws : List Value), us.length = 0 → ws.length = ks.length → bindArgs (PySem.W.fnOf x qual (defArgs st) (defBody st) (defScope st) .none kV doc pm an cdv ct) ⟨us, ks.zip ws⟩ = pure (ps.zip ws.reverse)) : KBn K fd ps 0 ks (fun _ ws => ws.reverse) (fun _ zs => zs.reverse) := by
  obtain ⟨oc, od, kV, doc, pm, an, cdv, ct, osl, rfl, lk, hcd⟩ := F.ex
  exact ⟨fun s us ws _ l1 l2 => .of_eq (h kV doc pm an cdv ct us ws l1 l2), fun _ r => vals_rev r⟩
end
end LF
/-! ### la_case: written cases, by a sorting that can be gone through -/
namespace LF
open PySem PySem.Spec PyProof.Rows L2
def insI (x : Int) : List Int → List Int
  | [] => [x]
  | y :: r => if x ≤ y then x :: y :: r else y :: insI x r
def srtI : List Int → List Int
  | [] => []
  | x :: r => insI x (srtI r)
theorem insI_perm (x : Int) : ∀ l, (insI x l).Perm (x :: l)
  | [] => List.Perm.refl _
  | y :: r => by
    unfold insI
    by_cases h : x ≤ y
    · rw [if_pos h]
    · rw [if_neg h]
      exact ((insI_perm x r).cons y).trans (List.Perm.swap x y r)
theorem insI_up (x : Int) : ∀ l : List Int, l.Pairwise (· ≤ ·) → (insI x l).Pairwise (· ≤ ·)
  | [], _ => List.pairwise_singleton _ _
  | y :: r, h => by
    unfold insI
    obtain ⟨h1, h2⟩ := List.pairwise_cons.mp h
    by_cases c : x ≤ y
    · rw [if_pos c]
      refine List.pairwise_cons.mpr ⟨fun z hz => ?_, h⟩
      rcases List.mem_cons.mp hz with rfl | hz
      · exact c
      · exact Int.le_trans c (h1 z hz)
    · rw [if_neg c]
      refine List.pairwise_cons.mpr ⟨fun z hz => ?_, insI_up x r h2⟩
      rcases List.mem_cons.mp ((insI_perm x r).mem_iff.mp hz) with rfl | hz
      · omega
      · exact h1 z hz
theorem srtI_perm : ∀ l, (srtI l).Perm l
  | [] => List.Perm.refl _
  | x :: r => (insI_perm x (srtI r)).trans ((srtI_perm r).cons x)
theorem srtI_up : ∀ l, (srtI l).Pairwise (· ≤ ·)
  | [] => .nil
  | x :: r => insI_up x _ (srtI_up r)
theorem srt_I (l : List Int) : srt l = srtI l := (srt_is (srtI_perm l) (srtI_up l)).symm
def insP (x : Int × Int) : List (Int × Int) → List (Int × Int)
  | [] => [x]
  | y :: r => if leP x y = true then x :: y :: r else y :: insP x r
def srtPI : List (Int × Int) → List (Int × Int)
  | [] => []
  | x :: r => insP x (srtPI r)
theorem insP_perm (x : Int × Int) : ∀ l, (insP x l).Perm (x :: l)
  | [] => List.Perm.refl _
  | y :: r => by
    unfold insP
    by_cases h : leP x y = true
    · rw [if_pos h]
    · rw [if_neg h]
      exact ((insP_perm x r).cons y).trans (List.Perm.swap x y r)
theorem leP_or (x y : Int × Int) (h : ¬ leP x y = true) : leP y x = true := by
  rw [leP_iff] at *
  omega
theorem leP_tr {x y z : Int × Int} (h1 : leP x y = true) (h2 : leP y z = true) : leP x z = true := by
  rw [leP_iff] at *
  omega
theorem insP_up (x : Int × Int) : ∀ l : List (Int × Int), l.Pairwise (fun p q => leP p q = true) → (insP x l).Pairwise (fun p q => leP p q = true)
  | [], _ => List.pairwise_singleton _ _
  | y :: r, h => by
    unfold insP
    obtain ⟨h1, h2⟩ := List.pairwise_cons.mp h
    by_cases c : leP x y = true
    · rw [if_pos c]
      refine List.pairwise_cons.mpr ⟨fun z hz => ?_, h⟩
      rcases List.mem_cons.mp hz with rfl | hz
      · exact c
      · exact leP_tr c (h1 z hz)
    · rw [if_neg c]
      refine List.pairwise_cons.mpr ⟨fun z hz => ?_, insP_up x r h2⟩
      rcases List.mem_cons.mp ((insP_perm x r).mem_iff.mp hz) with rfl | hz
      · exact leP_or _ _ c
      · exact h1 z hz
theorem srtPI_perm : ∀ l, (srtPI l).Perm l
  | [] => List.Perm.refl _
  | x :: r => (insP_perm x (srtPI r)).trans ((srtPI_perm r).cons x)
theorem srtPI_up : ∀ l, (srtPI l).Pairwise (fun p q => leP p q = true)
  | [] => .nil
  | x :: r => insP_up x _ (srtPI_up r)
theorem srtP_I (l : List (Int × Int)) : srtP l = srtPI l := (srtP_is (srtPI_perm l) (srtPI_up l)).symm
def wntI (ds : List Int) (k : Nat) : Int := (((srtI ds).drop (ds.length - k)).map fun d => d + 1).sum
theorem wnt_I (ds : List Int) (k : Nat) : wnt ds k = wntI ds k := by
  unfold wnt wntI
  rw [srt_I]
def sprI (cs ds : List Int) : List Int := (List.range ds.length).map fun (i : Nat) => cnt cs ((i : Int) + 1) - wntI ds (i + 1)
theorem spr_I (cs ds : List Int) : spr cs ds = sprI cs ds := by
  unfold spr sprI
  exact congrArg (fun f => (List.range ds.length).map f) (funext fun i => by rw [wnt_I])
def canI (cs ds : List Int) : Bool := (sprI cs ds).all fun s => decide (0 ≤ s)
theorem can_I (cs ds : List Int) : can cs ds = canI cs ds := by
  unfold can canI
  rw [spr_I]
def failsI (cs ds : List Int) : List Int := (List.range (sprI cs ds).length).filterMap fun (i : Nat) => (sprI cs ds)[i]?.bind fun s => if s < 0 then some ((i : Int) + 1) else none
theorem fails_I (cs ds : List Int) : fails cs ds = failsI cs ds := by
  unfold fails failsI
  rw [spr_I]
def lightsI (cs : List Int) (d : Int) : Option (List Int) := if ((rowsOf cs).length : Int) ≤ d then none else some (srtI (((srtPI (rowsOf cs)).take (d + 1).toNat).map Prod.snd))
theorem lights_I (cs : List Int) (d : Int) : lightsF cs d = lightsI cs d := by
  unfold lightsF lightsI
  rw [srt_I, srtP_I]
def lotsI (cs : List Int) : List Int → Option (List (List Int × List Int))
  | [] => some []
  | d :: r => match lightsI cs d with
    | none => none
    | some lit => (lotsI (burntF cs lit []) r).map fun l => (lit, burntF cs lit []) :: l
theorem lots_I : ∀ (ds cs : List Int), lotsF cs ds = lotsI cs ds
  | [], _ => rfl
  | d :: r, cs => by
    rw [lotsF_cons]
    unfold lotsI
    rw [lights_I]
    cases lightsI cs d with
    | none => rfl
    | some lit =>
      show Option.map _ (lotsF _ r) = Option.map _ (lotsI _ r)
      rw [lots_I r]
end LF
namespace LF
open PySem PySem.Spec PyProof.Rows L2
def rowOfI (cs ds lot : List Int) : Option (Int × List Int) := if canI (remF cs lot) ds = true then some (-(lot.length : Int), lot) else none
theorem rowOf_I (cs ds lot : List Int) : rowOf cs ds lot = rowOfI cs ds lot := by
  unfold rowOf rowOfI
  rw [can_I]
def sparedI (cs ds : List Int) : List (Int × List Int) := (lotsPF (placesF cs)).filterMap (rowOfI cs ds)
theorem spared_I (cs ds : List Int) : sparedF cs ds = sparedI cs ds := by
  unfold sparedF sparedI rowsP
  exact fm_congr _ fun lot _ => rowOf_I cs ds lot
end LF
/-! ### la_revt: t[::-1] of a tuple -/
namespace HT
open PySem PySem.Spec PyProof.Rows
section
variable {prog : Program} {w : World} {A : Around} {E : Value → Shared → Prop} {s : Shared}
theorem bounds_back (n : Nat) : Builtin.Slice.sliceAdjust none none (-1) (n : Int) = ((n : Int) - 1, -1) := rfl
theorem places_back (n : Nat) : Builtin.Slice.slicePlaces ((n : Int) - 1) (-1) (-1) = n := by
  unfold Builtin.Slice.slicePlaces
  rw [if_neg (show ¬ (-1 : Int) > 0 by decide)]
  by_cases c : (n : Int) - 1 > -1
  · rw [if_pos c, show (- -1 : Int) = 1 by decide, Int.ediv_one]
    omega
  · rw [if_neg c]
    omega
theorem back_list (items : Array Value) : (List.range items.size).filterMap (fun (k : Nat) => items[((items.size : Int) - 1 + (k : Int) * -1).toNat]?) = items.toList.reverse := by
  have e : items.toList.reverse = (List.range items.size).filterMap (fun (k : Nat) => items.toList.reverse[k]?) := by
    have q := LF.fm_get (fun x : Value => some x) items.toList.reverse
    rw [List.filterMap_some, List.length_reverse, Array.length_toList] at q
    refine q.symm.trans ?_
    exact LF.fm_congr _ fun k _ => by cases items.toList.reverse[k]? <;> rfl
  rw [e]
  refine LF.fm_congr _ fun k hk => ?_
  have hk := List.mem_range.mp hk
  have ek : ((items.size : Int) - 1 + (k : Int) * -1).toNat = items.size - 1 - k := by omega
  rw [ek, List.getElem?_reverse (by rw [Array.length_toList]; exact hk), Array.length_toList, Array.getElem?_toList]
theorem applied_back {sl : Addr} {v1 v2 v3 : Value} {n : Nat} {Q : Int × Int × Nat → Shared → Prop} (hsl : s.heap.IsSliceOf sl v1 v2 v3) (p1 : IsPart v1 none) (p2 : IsPart v2 none) (p3 : IsPart v3 (some (-1)))
    (h : Q ((n : Int) - 1, -1, n) s) : wpAny (model prog w) A (Builtin.Slice.sliceApplied (.ref sl) (pure (n : Int))) Q E s := by
  obtain ⟨ob, hob, hcl, hdat⟩ := id hsl
  unfold Builtin.Slice.sliceApplied Builtin.Slice.sliceFields
  refine wpAny_bind (wpAny_bind (wpAny_field hob hdat (x := v1) rfl (wpAny_bind (wpAny_field hob hdat (x := v2) rfl (wpAny_bind (wpAny_field hob hdat (x := v3) rfl (wpAny_pure ?_)))))))
  refine wpAny_bind (slicePart_ p3 ?_)
  show wpAny _ _ (if ((-1 : Int) == 0) = true then _ else _) _ _ s
  rw [if_neg (show ¬ ((-1 : Int) == 0) = true by decide)]
  refine wpAny_bind (slicePart_ p1 (wpAny_bind (slicePart_ p2 (wpAny_bind (wpAny_pure ?_)))))
  show wpAny _ _ (match Builtin.Slice.sliceAdjust none none (-1) (n : Int) with | (lo, hi) => pure (lo, (-1 : Int), Builtin.Slice.slicePlaces lo hi (-1))) _ _ s
  rw [bounds_back n]
  show wpAny _ _ (pure ((n : Int) - 1, (-1 : Int), Builtin.Slice.slicePlaces ((n : Int) - 1) (-1) (-1))) _ _ s
  rw [places_back]
  exact wpAny_pure h
theorem tuple_back {t sl : Addr} {items : Array Value} {v1 v2 v3 : Value} {Q : Value → Shared → Prop} (ht : IsTup s.heap t items) (hsl : s.heap.IsSliceOf sl v1 v2 v3) (p1 : IsPart v1 none) (p2 : IsPart v2 none) (p3 : IsPart v3 (some (-1)))
    (h : Q (.ref s.heap.objs.size) { s with heap := s.heap.push { cls := .type "tuple", data := .seq items.toList.reverse.toArray } }) (hsz : items.size ≤ sizeLine) : wpAny (model prog w) A (getItem (.ref t) (.ref sl)) Q E s := by
  have hok : sizeOk (.seq items.toList.reverse.toArray) := by
    show items.toList.reverse.toArray.size ≤ sizeLine
    rw [List.size_toArray, List.length_reverse, Array.length_toList]
    exact hsz
  obtain ⟨ob, hob, hcl, hdat⟩ := id hsl
  have hty : s.TypeIs (.ref sl) "slice" := ⟨ob, hob, hcl⟩
  unfold getItem
  try with_reducible refine wpAny_holding ?_
  first | refine wpAny_bind (wpAny_pure ?_) | skip
  refine wpAny_bind (wpAny_sequenceKey ht.typeIs (by decide) ?_)
  refine wpAny_bind (wpAny_callSpecial?_slot (name := Str.ofString "__getitem__") ht.typeIs PyProof.Rows.slot_tuple_getitem (wpAny_call_entry PyProof.Rows.slot_tuple_getitem ht.typeIs entry_tuple_getitem ?_ (args_tuple_getitem _ _)))
  show wpAny _ _ (Builtin.Tuple.tupleItemsOf (.ref t) >>= _) _ _ s
  refine wpAny_bind (tupleItemsOf_ ht (wpAny_bind (wpAny_typeOf hty ?_)))
  rw [if_pos (by decide)]
  refine wpAny_bind (applied_back hsl p1 p2 p3 ?_)
  have hno : ¬ ((((items.size : Int) - 1) == 0 && (-1 : Int) == 1 && items.size == items.size) = true) := by
    rw [show ((-1 : Int) == 1) = false by decide, Bool.and_false, Bool.false_and]
    exact Bool.false_ne_true
  show wpAny _ _ (if ((((items.size : Int) - 1) == 0 && (-1 : Int) == 1 && items.size == items.size) = true) then _ else _) _ _ s
  rw [if_neg hno, back_list]
  first
    | exact wpAny_bind (m := Builtin.Tuple.tupleExact _) (wpAny_newObj_type (wpAny_pure ⟨_, rfl, wpAny_pure h⟩) hok)
    | exact wpAny_bind (m := Builtin.Tuple.tupleExact _) (wpAny_newObj_type (wpAny_bind (wpAny_pure (wpAny_pure ⟨_, rfl, wpAny_pure h⟩))) hok)
    | exact wpAny_bind (wpAny_bind (m := Builtin.Tuple.tupleExact _) (wpAny_newObj_type (wpAny_pure (wpAny_pure ⟨_, rfl, wpAny_pure h⟩)) hok))
    | exact wpAny_bind (wpAny_bind (m := Builtin.Tuple.tupleExact _) (wpAny_newObj_type (wpAny_pure ⟨_, rfl, wpAny_pure h⟩) hok))
end
end HT
namespace LF
open PySem PySem.Spec PyProof.Rows L2
def tRevT (K : PySem.W.Frag) (te : TE) : TE := fun σ H Q => te σ H fun x H1 => ∃ a xs, x = .ref a ∧ SqT K H1 a xs ∧ ∀ p, H1 p = none → Q (.ref p) (upd H1 p (.tup xs.reverse))
section
variable {X : Cx}
theorem pe_revT {e : Expr} {te : TE} {k : Nat} {p1 p2 p3 pos : Pos} (he : PE X e te) : PE X (.Subscript e (.Slice none none (some (.UnaryOp .USub (.Constant (.int 1) k p1) p2)) p3) pos) (tRevT X.K te) := by
  refine ⟨fun pins s σ H Q I h => Subscript_ (thn (he.run pins s σ H _ I h) fun v s1 ⟨x, H1, I1, r1, q1⟩ => ?_)⟩
  obtain ⟨a, xs, ex, hx, q⟩ := q1
  subst ex
  cases r1
  have minus : PO X (some (.UnaryOp .USub (.Constant (.int 1) k p1) p2)) (tPart (tUn (rU fun i => .int (-i)) (tC (.int 1)))) := po_some (pe_un un_neg pe_int)
  refine wpAny_Slice (thn (po_none.run pins s1 σ H1 (fun o H2 => o = none ∧ H2 = H1) I1 ⟨rfl, rfl⟩) fun vl s2 ⟨l, H2, I2, pl, el, e2⟩ => ?_)
  subst el e2
  refine thn (po_none.run pins s2 σ H2 (fun o H3 => o = none ∧ H3 = H2) I2 ⟨rfl, rfl⟩) fun vu s3 ⟨u, H3, I3, pu, eu, e3⟩ => ?_
  subst eu e3
  refine thn (minus.run pins s3 σ H3 (fun o H4 => o = some (-1) ∧ H4 = H3) I3 ⟨1, rfl, -1, rfl, rfl, rfl⟩) fun vs s4 ⟨o, H4, I4, ps, eo, e4⟩ => ?_
  subst eo e4
  have I5 : Inv X pins σ H4 { s4 with heap := s4.heap.push { cls := .type "slice", data := .fields #[vl, vu, vs] } } := I4.kept (t' := s4.toks) fun b ob q => Heap.get?_push_of_some _ q
  obtain ⟨its, r, ht, hz⟩ := I5.tuple hx
  have hlen := r.length
  show wpAny (model X.prog X.w) X.A (subscriptTail e (.Slice none none (some (.UnaryOp .USub (.Constant (.int 1) k p1) p2)) p3) (.ref a) (.ref s4.heap.objs.size)) (EP X pins σ Q) X.xe { s4 with heap := s4.heap.push { cls := .type "slice", data := .fields #[vl, vu, vs] } }
  refine tail_any (ops := [.ref a, .ref s4.heap.objs.size]) ht.typeIs (PyProof.Rows.slot_tuple_getitem.lookup) ?_ (by with_unfolding_all rfl)
  refine HT.tuple_back ht (Heap.IsSliceOf.new _ vl vu vs) pl pu ps ?_ (by rw [List.size_toArray]; omega)
  refine ⟨.ref _, _, I5.laid (t' := s4.toks) (o := .tup xs.reverse) (fun b ob q => Heap.get?_push_of_some _ q) (Nat.le_refl _) ?_, rfl, q _ (I5.hok.fresh (Nat.le_refl _))⟩
  exact ⟨by rw [List.length_reverse]; exact hz, _, r.reverse, IsTup.new _ _⟩
theorem pe_revTK (K : PySem.W.Frag) {e : Expr} {te : TE} {k : Nat} {p1 p2 p3 pos : Pos} (he : PE X e te) (h : X.K = K := by rfl) : PE X (.Subscript e (.Slice none none (some (.UnaryOp .USub (.Constant (.int 1) k p1) p2)) p3) pos) (tRevT K te) := by subst h; exact pe_revT he
end
end LF
namespace LF
open PySem PySem.Spec PyProof.Rows L2
def topS (i : Nat) : Stmt := PySem.Challenge.pw_lastflame_k02_rows_of_ticks_judged.main.body.getD i (.Pass ⟨0, 0, 0, 0⟩)
section
variable {P : Program} {w : World} {K : PySem.W.Frag} {mg : Str → Option Value} {base : Heap}
/-! def is_within -/
abbrev s_is_within : Stmt := topS 1
theorem sc_is_within : FnScope ["thing", "low", "high"] ["thing", "low", "high"] (defScope s_is_within) := ⟨rfl, rfl, rfl, by decide +kernel, rfl, by decide +kernel, by decide +kernel⟩
def spWithin (K : PySem.W.Frag) : Sp := fun vs H Q _ => ∃ (v : V) (lo hi : Int) (d : PyData), vs = [v, .int lo, .int hi] ∧ Dp K H v d ∧ Q (.bl (cd (IsWithin lo hi d))) H
theorem ok_is_within {f : Addr} {fd : FuncData} (T : Bl mg) (F : Fun K "is_within" "is_within" s_is_within f fd) : FnOk P w K mg base CX0 1 f fd ["thing", "low", "high"] (spWithin K) := by
  refine F.ok sc_is_within (fun vs H Q E h => ?_) (fun cdv A outer s H vs Q E hr h => ?_)
  · obtain ⟨v, lo, hi, d, rfl, _⟩ := h
    rfl
  obtain ⟨v, lo, hi, d, rfl, hv, q⟩ := h
  refine ⟨_, (pss_one (ps_ret (pe_and (pe_callB (isiK K) rfl T.isinstance (by decide +kernel) (pa_cons (pv 0) (pa_cons (pe_bltn (v := .ty "int") (u := .type "int") rfl T.int (by decide +kernel) rfl) pa_nil))) (pe_and (pe_not (pe_callB (isiK K) rfl T.isinstance (by decide +kernel) (pa_cons (pv 0) (pa_cons (pe_bltn (v := .ty "bool") (u := .type "bool") rfl T.bool (by decide +kernel) rfl) pa_nil)))) (pe_one (pe_chain op_le op_le (pv 1) (pv 0) (pv 2))))))), ?_⟩
  refine ⟨_, rfl, v, _, _, _, _, rfl, .ty _, dp_ty hv, kit_d d (by simp), _, rfl, if_b (fun c => ?_) (fun c => ?_)⟩
  · refine ⟨_, rfl, v, _, _, _, _, rfl, .ty _, dp_ty hv, kit_d d (by simp), _, rfl, _, rfl, if_b (fun c2 => ?_) (fun c2 => ?_)⟩
    · obtain ⟨i, rfl⟩ := is_int c (by cases h : dis "bool" d <;> simp_all)
      cases dp_int hv
      refine ⟨_, rfl, _, rfl, _, _, rfl, rfl, _, rfl, if_b (fun c3 => ?_) (fun c3 => ?_)⟩
      · refine ⟨_, rfl, _, _, rfl, rfl, ?_⟩
        have e : decide (i ≤ hi) = cd (IsWithin lo hi (.int i)) := cd_b ⟨fun z => ⟨i, rfl, of_decide_eq_true c3, of_decide_eq_true z⟩, fun ⟨j, e, _, h2⟩ => by cases e; exact decide_eq_true h2⟩
        show Q (.bl (decide (i ≤ hi))) H
        rw [e]
        exact q
      · rw [cd_f (fun ⟨j, e, h1, _⟩ => by cases e; exact of_decide_eq_false c3 h1)] at q
        exact q
    · rw [cd_f (fun ⟨j, e, _, _⟩ => by subst e; cases c2)] at q
      exact q
  · rw [cd_f (fun ⟨j, e, _, _⟩ => by subst e; cases c)] at q
    exact q
/-! def are_places -/
abbrev s_are_places : Stmt := topS 2
theorem sc_are_places : FnScope ["candles", "thing", "part", "one", "two"] ["candles", "thing"] (defScope s_are_places) := ⟨rfl, rfl, rfl, by decide +kernel, rfl, by decide +kernel, by decide +kernel⟩
def spPlaces (K : PySem.W.Frag) : Sp := fun vs H Q _ => ∃ (a : Addr) (v : V) (cs : List Int) (d : PyData) (n : Nat), vs = [.ref a, v] ∧ SqT K H a (vi cs) ∧ Dp K H v d ∧ Fit (n + 1) d ∧ ∀ H', Same H H' → Q (.bl (cd (IsPlaces cs.length d))) H'
theorem ok_are_places {f : Addr} {fd : FuncData} (T : Bl mg) (F : Fun K "are_places" "are_places" s_are_places f fd) {f_is_within : Addr} {fd_is_within : FuncData} (D_is_within : FnAt K mg "is_within" "is_within" s_is_within ["thing", "low", "high"] f_is_within fd_is_within) : FnOk P w K mg base CX0 2 f fd ["candles", "thing"] (spPlaces K) := by
  have G_is_within : FnOk P w K mg base CX0 1 f_is_within fd_is_within _ (spWithin K) := ok_is_within T D_is_within.F
  refine F.ok sc_are_places (fun vs H Q E h => ?_) (fun cdv A outer s H vs Q E hr h => ?_)
  · obtain ⟨a, v, cs, d, n, rfl, _⟩ := h
    rfl
  obtain ⟨a, v, cs, d, n, rfl, hS, hv, hfit, q⟩ := h
  refine ⟨_, (pss_cons (ps_if (PW.pt (pw_or (pt_not (pt_val (pe_callB (isiK K) rfl T.isinstance (by decide +kernel) (pa_cons (pv 1) (pa_cons (pe_bltn (v := .ty "tuple") (u := .type "tuple") rfl T.tuple (by decide +kernel) rfl) pa_nil))))) (pw_or1 (pt_not (pt_val (pe_callB (allK K) rfl T.all (by decide +kernel) (pa_cons (pe_lc (own := [("part", 2)]) rfl sc_are_places.nd (piT K (pv 1)) (blkOk_by (N := ["candles", "thing", "part", "one", "two"]) (sc := defScope s_are_places) (own := [("part", 2)]) (by decide +kernel)) (fun _ _ _ _ _ => (pg_name (i := 2) sc_are_places.nd rfl (.inl rfl))) (fun _ _ _ _ _ => pts_nil) (fun _ _ _ _ _ => (pe_call G_is_within hr rfl D_is_within.g D_is_within.F.kp D_is_within.b .nil pass0 (pa_cons (pv 2) (pa_cons pe_int (pa_cons (pe_op op_sub (pe_callB (lenK K) rfl T.len (by decide +kernel) (pa_cons (pv 0) pa_nil)) pe_int) pa_nil)))))) pa_nil))))))) (pss_one (ps_ret pe_bl)) pss_nil)
  (pss_one (ps_ret (pe_callB (allK K) rfl T.all (by decide +kernel) (pa_cons (pe_lc (own := [("one", 3), ("two", 4)]) rfl sc_are_places.nd (zipK K true true rfl T.zip (pa_cons (pv 1) (pa_cons (pe_slice (slT K) (pv 1) (po_some pe_int) po_none) pa_nil))) (blkOk_by (N := ["candles", "thing", "part", "one", "two"]) (sc := defScope s_are_places) (own := [("one", 3), ("two", 4)]) (by decide +kernel)) (fun _ _ _ _ _ => (pgT K 2 rfl (pgs_cons (pg_name (i := 3) sc_are_places.nd rfl (.inl rfl)) (pgs_cons (pg_name (i := 4) sc_are_places.nd rfl (.inl rfl)) pgs_nil)))) (fun _ _ _ _ _ => pts_nil) (fun _ _ _ _ _ => (pe_cmpR op_lt (pv 3) (pv 4) (nomark _)))) pa_nil))))), ?_⟩
  refine ⟨_, rfl, v, _, _, _, _, rfl, .ty _, dp_ty hv, kit_d d (by simp), _, rfl, if_b (fun c => ?_) (fun c => ?_)⟩
  · rw [cd_f (fun ⟨l, e, _⟩ => by subst e; cases c)] at q
    exact if_t rfl (q H (Same.refl _))
  obtain ⟨ds, rfl⟩ := is_tup (by cases h : dis "tuple" d <;> simp_all)
  obtain ⟨p, xs, rfl, hp, ha⟩ := dp_tup_get hv
  have hlen : xs.length = ds.length := dpall_len ha
  have hsz : ds.length ≤ 1000 := hfit.1
  refine ⟨_, rfl, p, rfl, ⟨_, hp⟩, fun D hD => lc_bls (walk_tup (xs := xs)) hD (by omega) (fun i => ds[i]?.bind fun x => some (cd (IsWithin 0 ((cs.length : Nat) - 1 : Int) x))) (fun H' s => s.sqt hp) (fun i x H1 H' kn ky hi sm y h1 h2 => ?_) (fun H1 sm e => ?_)⟩
  · obtain ⟨rfl, hx⟩ := y
    obtain ⟨dx, hdx, hvx⟩ := dpall_get1 ha hx
    refine ⟨rfl, lc_yes ⟨_, rfl, _, rfl, a, vi cs, rfl, .inr (sm.sqt hS), _, _, rfl, rfl, x, 0, ((vi cs).length : Nat) - 1, dx, rfl, hvx.same sm, h2 _ _ (Same.refl _) ?_⟩⟩
    rw [hdx, vi_len]
    rfl
  rw [hlen, fm_at] at e
  refine ⟨D, _, rfl, SqL.of e, _, rfl, if_b (fun c2 => ?_) (fun c2 => ?_)⟩
  · have hno : ¬ IsPlaces cs.length (.tuple ds) := fun ⟨l, e, hl, _⟩ => by
      have e := PyData.tuple.inj e
      have : ((ds.map fun x => cd (IsWithin 0 ((cs.length : Nat) - 1 : Int) x)).all id) = true := by
        rw [sat_map]
        intro x hx
        rw [e] at hx
        obtain ⟨i, hi, rfl⟩ := List.mem_map.mp hx
        exact cd_t ⟨i, rfl, hl i hi⟩
      rw [this] at c2
      cases c2
    rw [cd_f hno] at q
    exact q _ sm
  have hall : ∀ x ∈ ds, IsWithin 0 ((cs.length : Nat) - 1 : Int) x := by
    have c2 : (!((ds.map fun x => cd (IsWithin 0 ((cs.length : Nat) - 1 : Int) x)).all id)) = false := c2
    have c3 : ((ds.map fun x => cd (IsWithin 0 ((cs.length : Nat) - 1 : Int) x)).all id) = true := by
      cases h : ((ds.map fun x => cd (IsWithin 0 ((cs.length : Nat) - 1 : Int) x)).all id) with
      | true => rfl
      | false =>
        rw [h] at c2
        cases c2
    exact fun x hx => cd_of ((sat_map _ _).mp c3 x hx)
  obtain ⟨l, rfl, hl⟩ := all_within hall
  have hxs := dpall_ints ha
  subst hxs
  rw [List.length_map] at hsz
  -- all([one < two for one, two in zip(thing, thing[1:])])
  have hp1 := sm.sqt hp
  refine ⟨_, rfl, _, rfl, _, rfl, noPart (sl_any hp1 fun H2 g s2 hg => ?_)⟩
  rw [show (1 : Int) = ((1 : Nat) : Int) from rfl] at hg
  have hcut : cutV (vi l) (some ((1 : Nat) : Int)) none = vi (l.drop 1) := by
    by_cases h : 1 ≤ l.length
    · exact cut_drop l 1 h
    · have : l = [] := List.length_eq_zero_iff.mp (by omega)
      subst this
      rfl
  rw [hcut] at hg
  have hp2 := s2.sqt hp1
  have q1 : SqB K true H2 p (vi l) := hp2
  have q2 : SqB K true H2 g (vi (l.drop 1)) := hg
  refine ⟨p, g, vi l, vi (l.drop 1), rfl, q1, q2, fun D2 hD2 => lc_bls (walk_zipB (ka := true) (kb := true) (xs := vi l) (ys := vi (l.drop 1)) (n := l.length - 1) (by rw [vi_len, vi_len, List.length_drop]; omega)) hD2 (by omega) (fun i => l[i]?.bind fun x => l[i + 1]?.bind fun y => some (decide (x < y))) (fun H' s => ⟨s.sqb q1, s.sqb q2⟩) (fun i x H3 H' kn ky hi sm3 y h1 h2 => ?_) (fun H3 sm3 e => ?_)⟩
  · obtain ⟨tt, x1, x2, rfl, nT, rfl, e1, e2⟩ := y
    obtain ⟨z1, hz1, rfl⟩ := vi_get e1
    obtain ⟨z2, hz2, rfl⟩ := vi_get e2
    rw [List.getElem?_drop, Nat.add_comm] at hz2
    refine ⟨tt, _, rfl, SqT.of upd_same, rfl, _, _, rfl, _, _, rfl, rfl, rfl, lc_yes ⟨_, rfl, _, rfl, _, _, rfl, rfl, h2 _ _ (Same.new nT) ?_⟩⟩
    rw [hz1]
    show (l[i + 1]?.bind fun y => some (decide (z1 < y))) = _
    rw [hz2]
    rfl
  · have er : (((List.range (l.length - 1)).filterMap fun i => l[i]?.bind fun x => l[i + 1]?.bind fun y => some (decide (x < y))).all id) = cd (IsPlaces cs.length (.tuple (di l))) := by
      refine cd_b ⟨fun h => ⟨l, rfl, hl, fun i x y hx hy => ?_⟩, fun ⟨l', e, _, hr⟩ => ?_⟩
      · have hi := (List.getElem?_eq_some_iff.mp hy).1
        have hm : decide (x < y) ∈ (List.range (l.length - 1)).filterMap fun i => l[i]?.bind fun x => l[i + 1]?.bind fun y => some (decide (x < y)) := List.mem_filterMap.mpr ⟨i, List.mem_range.mpr (by omega), by rw [hx]; show (l[i + 1]?.bind fun y => some (decide (x < y))) = _; rw [hy]; rfl⟩
        exact of_decide_eq_true (List.all_eq_true.mp h _ hm)
      · have e := di_inj (PyData.tuple.inj e)
        subst e
        refine List.all_eq_true.mpr fun b hb => ?_
        obtain ⟨i, _, hi⟩ := List.mem_filterMap.mp hb
        obtain ⟨x, hx, hi⟩ := Option.bind_eq_some_iff.mp hi
        obtain ⟨y, hy, hi⟩ := Option.bind_eq_some_iff.mp hi
        cases hi
        exact decide_eq_true (hr i x y hx hy)
    refine ⟨D2, _, rfl, SqL.of e, ?_⟩
    rw [er]
    exact q _ ((sm.trans s2).trans sm3)
/-! def is_tick -/
abbrev s_is_tick : Stmt := topS 3
theorem sc_is_tick : FnScope ["candles", "draught", "thing", "lit", "out", "part", "place"] ["candles", "draught", "thing"] (defScope s_is_tick) := ⟨rfl, rfl, rfl, by decide +kernel, rfl, by decide +kernel, by decide +kernel⟩
def spTick (K : PySem.W.Frag) : Sp := fun vs H Q _ => ∃ (a : Addr) (k : Int) (v : V) (cs : List Int) (d : PyData) (n : Nat), vs = [.ref a, .int k, v] ∧ SqT K H a (vi cs) ∧ Dp K H v d ∧ Fit (n + 2) d ∧ ∀ H', Same H H' → Q (.bl (cd (IsTick cs k d))) H'
theorem tick_inj {t u : List Int × List Int} (h : tickD t = tickD u) : t = u := by
  obtain ⟨a, b⟩ := t
  obtain ⟨c, d⟩ := u
  injection h with h
  injection h with h1 h2
  injection h2 with h2 _
  injection h1 with h1
  injection h2 with h2
  have e1 : a = c := di_inj h1
  have e2 : b = d := di_inj h2
  rw [e1, e2]
theorem ok_is_tick {f : Addr} {fd : FuncData} (T : Bl mg) (F : Fun K "is_tick" "is_tick" s_is_tick f fd) {f_are_places : Addr} {fd_are_places : FuncData} (D_are_places : FnAt K mg "are_places" "are_places" s_are_places ["candles", "thing"] f_are_places fd_are_places) {f_is_within : Addr} {fd_is_within : FuncData} (D_is_within : FnAt K mg "is_within" "is_within" s_is_within ["thing", "low", "high"] f_is_within fd_is_within) : FnOk P w K mg base CX0 3 f fd ["candles", "draught", "thing"] (spTick K) := by
  have G_are_places : FnOk P w K mg base CX0 2 f_are_places fd_are_places _ (spPlaces K) := ok_are_places T D_are_places.F D_is_within
  refine F.ok sc_is_tick (fun vs H Q E h => ?_) (fun cdv A outer s H vs Q E hr h => ?_)
  · obtain ⟨a, k, v, cs, d, n, rfl, _⟩ := h
    rfl
  obtain ⟨a, k, v, cs, d, n, rfl, hS, hv, hfit, q⟩ := h
  refine ⟨_, (pss_cons (ps_if (PW.pt (pw_or (pt_not (pt_val (pe_callB (isiK K) rfl T.isinstance (by decide +kernel) (pa_cons (pv 2) (pa_cons (pe_bltn (v := .ty "tuple") (u := .type "tuple") rfl T.tuple (by decide +kernel) rfl) pa_nil))))) (pw_or (pt_cmpR op_ne (pe_callB (lenK K) rfl T.len (by decide +kernel) (pa_cons (pv 2) pa_nil)) pe_int (nomark _)) (pw_or1 (pt_not (pt_val (pe_callB (allK K) rfl T.all (by decide +kernel) (pa_cons (pe_lc (own := [("part", 5)]) rfl sc_is_tick.nd (piT K (pv 2)) (blkOk_by (N := ["candles", "draught", "thing", "lit", "out", "part", "place"]) (sc := defScope s_is_tick) (own := [("part", 5)]) (by decide +kernel)) (fun _ _ _ _ _ => (pg_name (i := 5) sc_is_tick.nd rfl (.inl rfl))) (fun _ _ _ _ _ => pts_nil) (fun _ _ _ _ _ => (pe_call G_are_places hr rfl D_are_places.g D_are_places.F.kp D_are_places.b .nil pass0 (pa_cons (pv 0) (pa_cons (pv 5) pa_nil))))) pa_nil)))))))) (pss_one (ps_ret pe_bl)) pss_nil)
  (pss_cons (ps_asg (pv 2) (pgT K 2 rfl (pgs_cons (pg_name (i := 3) sc_is_tick.nd rfl (.inr rfl)) (pgs_cons (pg_name (i := 4) sc_is_tick.nd rfl (.inl rfl)) pgs_nil))))
  (pss_cons (ps_if (PW.pt (pw_or (pt_val (pe_callB (anyK K) rfl T.any (by decide +kernel) (pa_cons (pe_lc (own := [("place", 6)]) rfl sc_is_tick.nd (piT K (pv 3)) (blkOk_by (N := ["candles", "draught", "thing", "lit", "out", "part", "place"]) (sc := defScope s_is_tick) (own := [("place", 6)]) (by decide +kernel)) (fun _ _ _ _ _ => (pg_name (i := 6) sc_is_tick.nd rfl (.inl rfl))) (fun _ _ _ _ _ => pts_nil) (fun _ _ _ _ _ => (pe_cmpR op_eq (pe_ix (ixT K) (pv 0) (pv 6) (fun _ _ => rfl)) pe_int (nomark _)))) pa_nil))) (pw_or1 (pt_cmpR op_gt (pe_callB (lenK K) rfl T.len (by decide +kernel) (pa_cons (pv 4) pa_nil)) (pv 1) (nomark _))))) (pss_one (ps_ret pe_bl)) pss_nil)
  (pss_one (ps_ret (pe_callB (allK K) rfl T.all (by decide +kernel) (pa_cons (pe_lc (own := [("place", 6)]) rfl sc_is_tick.nd (piT K (pv 4)) (blkOk_by (N := ["candles", "draught", "thing", "lit", "out", "part", "place"]) (sc := defScope s_is_tick) (own := [("place", 6)]) (by decide +kernel)) (fun _ _ _ _ _ => (pg_name (i := 6) sc_is_tick.nd rfl (.inl rfl))) (fun _ _ _ _ _ => pts_nil) (fun _ _ _ _ _ => (pe_cmpR (inK K) (pv 6) (pv 3) rfl))) pa_nil))))))), ?_⟩
  refine ⟨_, rfl, v, _, _, _, _, rfl, .ty _, dp_ty hv, kit_d d (by simp), _, rfl, if_b (fun c => ?_) (fun c => ?_)⟩
  · rw [cd_f (fun ⟨l, o, e, _⟩ => by subst e; cases c)] at q
    exact if_t rfl (q H (Same.refl _))
  obtain ⟨ds, rfl⟩ := is_tup (by cases h : dis "tuple" d <;> simp_all)
  obtain ⟨p, xs, rfl, hp, ha⟩ := dp_tup_get hv
  have hlen : xs.length = ds.length := dpall_len ha
  refine ⟨_, rfl, p, xs, rfl, .inr hp, rfl, _, rfl, if_b (fun c2 => ?_) (fun c2 => ?_)⟩
  · have hno : ¬ IsTick cs k (.tuple ds) := fun ⟨l, o, e, _⟩ => by
      have e := PyData.tuple.inj e
      rw [hlen, e] at c2
      cases c2
    rw [cd_f hno] at q
    exact if_t rfl (q H (Same.refl _))
  have hl2 : ds.length = 2 := by
    have c2 : (!decide (V.int ((xs.length : Nat) : Int) = V.int 2)) = false := c2
    cases h : decide (V.int ((xs.length : Nat) : Int) = V.int 2) with
    | true =>
      have := V.int.inj (of_decide_eq_true h)
      omega
    | false =>
      rw [h] at c2
      cases c2
  obtain ⟨x, y, rfl⟩ : ∃ x y, ds = [x, y] := by
    match ds, hl2 with
    | [x, y], _ => exact ⟨x, y, rfl⟩
  have hf1 : Fit (n + 1) x := hfit.2 x List.mem_cons_self
  have hf2 : Fit (n + 1) y := hfit.2 y (List.mem_cons_of_mem _ List.mem_cons_self)
  have hfa : ∀ z ∈ [x, y], Fit (n + 1) z := hfit.2
  refine ⟨_, rfl, p, rfl, ⟨_, hp⟩, fun D hD => lc_bls (walk_tup (xs := xs)) hD (by rw [hlen]; show 2 ≤ 1000; decide) (fun i => [x, y][i]?.bind fun z => some (cd (IsPlaces cs.length z))) (fun H' s => s.sqt hp) (fun i z H1 H' kn ky hi sm yy h1 h2 => ?_) (fun H1 sm e => ?_)⟩
  · obtain ⟨rfl, hx⟩ := yy
    obtain ⟨dx, hdx, hvx⟩ := dpall_get1 ha hx
    refine ⟨rfl, lc_yes ⟨_, rfl, _, rfl, a, z, cs, dx, n, rfl, sm.sqt hS, hvx.same sm, hfa dx (List.mem_of_getElem? hdx), fun H2 s2 => h2 _ _ s2 ?_⟩⟩
    rw [hdx]
    rfl
  rw [hlen] at e
  have e : H1 D = some (.lst ([cd (IsPlaces cs.length x), cd (IsPlaces cs.length y)].map V.bl)) := e
  refine ⟨D, _, rfl, SqL.of e, _, rfl, if_b (fun c3 => ?_) (fun c3 => ?_)⟩
  · have hno : ¬ IsTick cs k (.tuple [x, y]) := fun ⟨l, o, e, ht⟩ => by
      have e := PyData.tuple.inj e
      injection e with e1 e2
      injection e2 with e2 _
      rw [e1, e2, cd_t ⟨l, rfl, ht.pl⟩, cd_t ⟨o, rfl, ht.po⟩] at c3
      cases c3
    rw [cd_f hno] at q
    exact q _ sm
  have hb : cd (IsPlaces cs.length x) = true ∧ cd (IsPlaces cs.length y) = true := by
    have c3 : (!(cd (IsPlaces cs.length x) && (cd (IsPlaces cs.length y) && true))) = false := c3
    cases h1 : cd (IsPlaces cs.length x) <;> cases h2 : cd (IsPlaces cs.length y) <;> simp_all
  obtain ⟨lit, rfl, pl⟩ := cd_of hb.1
  obtain ⟨out, rfl, po⟩ := cd_of hb.2
  obtain ⟨w1, w2, rfl⟩ : ∃ w1 w2, xs = [w1, w2] := by
    match xs, hlen with
    | [w1, w2], _ => exact ⟨w1, w2, rfl⟩
  have hl1 : lit.length ≤ 1000 := by
    have := hf1.1
    rw [List.length_map] at this
    exact this
  have hl2 : out.length ≤ 1000 := by
    have := hf2.1
    rw [List.length_map] at this
    exact this
  cases ha with
  | cons ha1 ha2 =>
  cases ha2 with
  | cons ha2 _ =>
  obtain ⟨u1, rfl, hu1⟩ := dp_tints ha1
  obtain ⟨u2, rfl, hu2⟩ := dp_tints ha2
  -- lit, out = thing
  refine ⟨_, rfl, p, _, rfl, sm.sqt hp, rfl, _, _, rfl, _, _, rfl, rfl, ?_⟩
  -- any([candles[place] == 0 for place in lit])
  have hl3 := sm.sqt hu1
  have hS1 := sm.sqt hS
  have pin : ∀ z ∈ lit, ∃ j : Nat, z = (j : Int) ∧ j < cs.length := fun z hz => by
    have := pl.1 z hz
    exact ⟨z.toNat, by omega, by omega⟩
  refine ⟨_, rfl, u1, rfl, ⟨_, hl3⟩, fun D2 hD2 => lc_bls (walk_tup (xs := vi lit)) hD2 (by rw [vi_len]; exact hl1) (fun i => lit[i]?.bind fun z => some (decide (cs[z.toNat]? = some 0))) (fun H' s => s.sqt hl3) (fun i z H2 H' kn ky hi sm2 yy h1 h2 => ?_) (fun H2 sm2 e2 => ?_)⟩
  · obtain ⟨rfl, hx⟩ := yy
    obtain ⟨z, hz, rfl⟩ := vi_get hx
    obtain ⟨j, rfl, hj⟩ := pin z (List.mem_of_getElem? hz)
    refine ⟨rfl, lc_yes ⟨_, rfl, _, rfl, a, _, _, _, rfl, rfl, sm2.sqt hS1, atI_nat (vi_at hj), rfl, h2 _ _ (Same.refl _) ?_⟩⟩
    rw [hz]
    show some (decide (cs[((j : Nat) : Int).toNat]? = some 0)) = _
    rw [Int.toNat_natCast, List.getElem?_eq_getElem hj]
    congr 1
    by_cases h0 : cs[j] = 0
    · rw [h0, decide_eq_true rfl]
      exact (decide_eq_true rfl).symm
    · rw [decide_eq_false (fun z => h0 (Option.some.inj z))]
      exact (decide_eq_false fun z => h0 (V.int.inj z)).symm
  rw [vi_len, fm_at] at e2
  have sm12 := sm.trans sm2
  have hw : ((lit.map fun z => decide (cs[z.toNat]? = some 0)).any id) = true ↔ ∃ j : Nat, (j : Int) ∈ lit ∧ cs[j]? = some 0 := by
    rw [List.any_eq_true]
    constructor
    · rintro ⟨b, hb, hb2⟩
      obtain ⟨z, hz, rfl⟩ := List.mem_map.mp hb
      obtain ⟨j, rfl, hj⟩ := pin z hz
      have hb2 := of_decide_eq_true hb2
      rw [Int.toNat_natCast] at hb2
      exact ⟨j, hz, hb2⟩
    · rintro ⟨j, hj, h0⟩
      exact ⟨true, List.mem_map.mpr ⟨(j : Int), hj, decide_eq_true (by rw [Int.toNat_natCast]; exact h0)⟩, rfl⟩
  refine ⟨D2, _, rfl, SqL.of e2, _, rfl, if_b (fun c4 => ?_) (fun c4 => ?_)⟩
  · have hno : ¬ IsTick cs k (tickD (lit, out)) := fun ⟨l, o, e, ht⟩ => by
      have e := tick_inj e
      injection e with e1 e2
      subst e1
      obtain ⟨j, hj, h0⟩ := hw.mp c4
      exact ht.wax j hj h0
    rw [cd_f hno] at q
    exact if_t rfl (q _ sm12)
  have hwax : ∀ j : Nat, (j : Int) ∈ lit → cs[j]? ≠ some 0 := fun j hj h0 => by
    rw [hw.mpr ⟨j, hj, h0⟩] at c4
    cases c4
  refine ⟨_, rfl, u2, vi out, rfl, .inr (sm12.sqt hu2), _, rfl, _, _, rfl, rfl, _, rfl, if_b (fun c5 => ?_) (fun c5 => ?_)⟩
  · have c5 := of_decide_eq_true c5
    rw [vi_len] at c5
    have hno : ¬ IsTick cs k (tickD (lit, out)) := fun ⟨l, o, e, ht⟩ => by
      have e := tick_inj e
      injection e with e1 e2
      subst e2
      have := ht.few
      omega
    rw [cd_f hno] at q
    exact q _ sm12
  have c5 := of_decide_eq_false c5
  rw [vi_len] at c5
  -- all([place in lit for place in out])
  have hu22 := sm12.sqt hu2
  have hu12 := sm12.sqt hu1
  refine ⟨_, rfl, u2, rfl, ⟨_, hu22⟩, fun D3 hD3 => lc_bls (walk_tup (xs := vi out)) hD3 (by rw [vi_len]; exact hl2) (fun i => out[i]?.bind fun z => some (decide (z ∈ lit))) (fun H' s => s.sqt hu22) (fun i z H3 H' kn ky hi sm3 yy h1 h2 => ?_) (fun H3 sm3 e3 => ?_)⟩
  · obtain ⟨rfl, hx⟩ := yy
    obtain ⟨z, hz, rfl⟩ := vi_get hx
    refine ⟨rfl, lc_yes ⟨_, rfl, _, rfl, u1, vi lit, rfl, .inr (sm3.sqt hu12), rfl, vi_flat _, h2 _ _ (Same.refl _) ?_⟩⟩
    rw [hz]
    show some (decide (z ∈ lit)) = some (inV (.int z) (vi lit))
    rw [inV_ints]
  rw [vi_len, fm_at] at e3
  have er : ((out.map fun z => decide (z ∈ lit)).all id) = cd (IsTick cs k (tickD (lit, out))) := by
    refine cd_b ⟨fun h => ⟨lit, out, rfl, pl, po, hwax, by show (out.length : Int) ≤ k; omega, fun i hi => of_decide_eq_true ((sat_map _ _).mp h i hi)⟩, fun ⟨l, o, e, ht⟩ => ?_⟩
    have e := tick_inj e
    injection e with e1 e2
    subst e1
    subst e2
    exact (sat_map _ _).mpr fun i hi => decide_eq_true (ht.sub i hi)
  refine ⟨D3, _, rfl, SqL.of e3, ?_⟩
  rw [er]
  exact q _ (sm12.trans sm3)
/-! def burnt -/
abbrev s_burnt : Stmt := topS 4
theorem sc_burnt : FnScope ["candles", "lit", "out", "place", "wax"] ["candles", "lit", "out"] (defScope s_burnt) := ⟨rfl, rfl, rfl, by decide +kernel, rfl, by decide +kernel, by decide +kernel⟩
def spBurnt (K : PySem.W.Frag) : Sp := fun vs H Q _ => ∃ (a l o : Addr) (cs lit out : List Int) (t1 t2 : Bool), vs = [.ref a, .ref l, .ref o] ∧ SqT K H a (vi cs) ∧ SqB K t1 H l (vi lit) ∧ SqB K t2 H o (vi out) ∧ cs.length ≤ 1000 ∧
  ∀ H' p, Same H H' → H p = none → H' p = some (.tup (vi (burntF cs lit out))) → Q (.ref p) H'
theorem ok_burnt {f : Addr} {fd : FuncData} (T : Bl mg) (F : Fun K "burnt" "burnt" s_burnt f fd) : FnOk P w K mg base CX0 1 f fd ["candles", "lit", "out"] (spBurnt K) := by
  refine F.ok sc_burnt (fun vs H Q E h => ?_) (fun cdv A outer s H vs Q E hr h => ?_)
  · obtain ⟨a, l, o, cs, lit, out, t1, t2, rfl, _⟩ := h
    rfl
  obtain ⟨a, l, o, cs, lit, out, t1, t2, rfl, hS, hL, hO, hl, q⟩ := h
  refine ⟨_, (pss_one (ps_ret (pe_callTy (tupleK K) rfl T.tuple (by decide +kernel) (pa_cons (pe_lc (own := [("place", 3), ("wax", 4)]) rfl sc_burnt.nd (enumK K true rfl T.enumerate (pa_cons (pv 0) pa_nil)) (blkOk_by (N := ["candles", "lit", "out", "place", "wax"]) (sc := defScope s_burnt) (own := [("place", 3), ("wax", 4)]) (by decide +kernel)) (fun _ _ _ _ _ => (pgT K 2 rfl (pgs_cons (pg_name (i := 3) sc_burnt.nd rfl (.inl rfl)) (pgs_cons (pg_name (i := 4) sc_burnt.nd rfl (.inl rfl)) pgs_nil)))) (fun _ _ _ _ _ => pts_nil) (fun _ _ _ _ _ => (pe_op op_sub (pv 4) (pe_callTy call_int1 rfl T.int (by decide +kernel) (pa_cons (pe_and (pe_cmpR (inK K) (pv 3) (pv 1) rfl) (pe_one (pe_cmpR (notinK K) (pv 3) (pv 2) rfl))) pa_nil))))) pa_nil)))), ?_⟩
  refine ⟨_, rfl, a, vi cs, rfl, hS, fun D hD => lc_ints (walk_enumB (tp := true) (xs := vi cs)) hD (by rw [vi_len]; exact hl) (fun i => cs[i]?.bind fun w => some (w - bit lit out i)) (fun H' s => s.sqt hS) (fun i x H1 H' kn ky hi sm y h1 h2 => ?_) (fun H1 sm e => ?_)⟩
  · obtain ⟨tt, x1, x2, rfl, nT, rfl, e1, e2⟩ := y
    cases Option.some.inj e1
    obtain ⟨z, hz, rfl⟩ := vi_get e2
    have sn : Same H1 (upd H1 tt (.tup [.int (i : Nat), .int z])) := Same.new nT
    have sm' := sm.trans sn
    refine ⟨tt, _, rfl, SqT.of upd_same, rfl, _, _, rfl, _, _, rfl, rfl, rfl, lc_yes ⟨_, rfl, _, rfl, _, rfl, l, vi lit, rfl, sqb_or (sm'.sqb hL), rfl, vi_flat _, _, rfl, if_b (fun c => ?_) (fun c => ?_)⟩⟩
    · have c1 : (i : Int) ∈ lit := of_decide_eq_true (by rw [← inV_ints]; exact c)
      refine ⟨_, rfl, _, rfl, o, vi out, rfl, sqb_or (sm'.sqb hO), rfl, vi_flat _, .inr ⟨_, rfl, _, _, rfl, rfl, h2 _ _ sn ?_⟩⟩
      rw [hz, inV_ints]
      show some (z - bit lit out i) = _
      unfold bit
      by_cases c2 : (i : Int) ∈ out
      · rw [if_neg (fun q => q.2 c2), decide_eq_true c2]
        rfl
      · rw [if_pos ⟨c1, c2⟩, decide_eq_false c2]
        rfl
    · have c1 : ¬ (i : Int) ∈ lit := of_decide_eq_false (by rw [← inV_ints]; exact c)
      refine .inr ⟨_, rfl, _, _, rfl, rfl, h2 _ _ sn ?_⟩
      rw [hz]
      show some (z - bit lit out i) = _
      unfold bit
      rw [if_neg (fun q => c1 q.1)]
      rfl
  · rw [vi_len, fm_idx] at e
    exact ⟨D, _, rfl, .inl ⟨SqL.of e, fun p np => q _ p (sm.trans (Same.new np)) (sm.free np) upd_same⟩⟩
/-! def is_row -/
abbrev s_is_row : Stmt := topS 5
theorem sc_is_row : FnScope ["candles", "draughts", "thing", "flame", "draught", "tick", "lit", "out"] ["candles", "draughts", "thing"] (defScope s_is_row) := ⟨rfl, rfl, rfl, by decide +kernel, rfl, by decide +kernel, by decide +kernel⟩
def spRow (K : PySem.W.Frag) : Sp := fun vs H Q _ => ∃ (a b : Addr) (v : V) (cs ds : List Int) (d : PyData) (n : Nat), vs = [.ref a, .ref b, v] ∧ SqT K H a (vi cs) ∧ SqT K H b (vi ds) ∧ cs.length ≤ 1000 ∧ Dp K H v d ∧ Fit (n + 3) d ∧ ∀ H', Same H H' → Q (.bl (cd (IsRow cs ds d))) H'
theorem row_len : ∀ {ts : List (List Int × List Int)} {cs ds : List Int} {fl : Bool}, RowOk cs fl ds ts → ts.length ≤ ds.length
  | [], _, _, _, _ => Nat.zero_le _
  | t :: ts, cs, [], fl, h => h.elim
  | t :: ts, cs, d :: r, fl, h => Nat.succ_le_succ (row_len h.2.2)
theorem map_tick : ∀ {ts us : List (List Int × List Int)}, ts.map tickD = us.map tickD → ts = us
  | [], [], _ => rfl
  | [], _ :: _, h => by cases h
  | _ :: _, [], h => by cases h
  | t :: ts, u :: us, h => by
    injection h with h1 h2
    rw [tick_inj h1, map_tick h2]
/-- what is left to be judged: the candles, the flame, the draughts, the ticks -/
def RowD (cs : List Int) (fl : Bool) (ds : List Int) (es : List PyData) : Prop := ∃ ts, es = ts.map tickD ∧ RowOk cs fl ds ts
theorem rowD_cons {cs : List Int} {fl : Bool} {d : Int} {r : List Int} {e : PyData} {es : List PyData} {lit out : List Int} (h1 : fl = true) (h2 : e = tickD (lit, out)) (h3 : TickOk cs d lit out) : RowD cs fl (d :: r) (e :: es) ↔ RowD (burntF cs lit out) (decide (out.length < lit.length)) r es := by
  constructor
  · rintro ⟨ts, e1, ho⟩
    cases ts with
    | nil => cases e1
    | cons t ts =>
      injection e1 with e1 e2
      rw [h2] at e1
      have e1 := tick_inj e1
      subst e1
      exact ⟨ts, e2, ho.2.2⟩
  · rintro ⟨ts, e1, ho⟩
    exact ⟨(lit, out) :: ts, by rw [h2, e1]; rfl, h1, h3, ho⟩
theorem rowD_no {cs : List Int} {fl : Bool} {d : Int} {r : List Int} {e : PyData} {es : List PyData} (h : ¬ (fl = true ∧ IsTick cs d e)) : ¬ RowD cs fl (d :: r) (e :: es) := by
  rintro ⟨ts, e1, ho⟩
  cases ts with
  | nil => cases e1
  | cons t ts =>
    injection e1 with e1 e2
    exact h ⟨ho.1, t.1, t.2, e1, ho.2.1⟩
theorem ok_is_row {f : Addr} {fd : FuncData} (T : Bl mg) (F : Fun K "is_row" "is_row" s_is_row f fd) {f_is_tick : Addr} {fd_is_tick : FuncData} (D_is_tick : FnAt K mg "is_tick" "is_tick" s_is_tick ["candles", "draught", "thing"] f_is_tick fd_is_tick) {f_burnt : Addr} {fd_burnt : FuncData} (D_burnt : FnAt K mg "burnt" "burnt" s_burnt ["candles", "lit", "out"] f_burnt fd_burnt) {f_are_places : Addr} {fd_are_places : FuncData} (D_are_places : FnAt K mg "are_places" "are_places" s_are_places ["candles", "thing"] f_are_places fd_are_places) {f_is_within : Addr} {fd_is_within : FuncData} (D_is_within : FnAt K mg "is_within" "is_within" s_is_within ["thing", "low", "high"] f_is_within fd_is_within) : FnOk P w K mg base CX0 4 f fd ["candles", "draughts", "thing"] (spRow K) := by
  have G_is_tick : FnOk P w K mg base CX0 3 f_is_tick fd_is_tick _ (spTick K) := ok_is_tick T D_is_tick.F D_are_places D_is_within
  have G_burnt : FnOk P w K mg base CX0 3 f_burnt fd_burnt _ (spBurnt K) := (ok_burnt T D_burnt.F).mono (by decide)
  refine F.ok sc_is_row (fun vs H Q E h => ?_) (fun cdv A outer s H vs Q E hr h => ?_)
  · obtain ⟨a, b, v, cs, ds, d, n, rfl, _⟩ := h
    rfl
  obtain ⟨a, b, v, cs, ds, d, n, rfl, hS, hB, hcl, hv, hfit, q⟩ := h
  refine ⟨_, (pss_cons (ps_if (PW.pt (pw_or (pt_not (pt_val (pe_callB (isiK K) rfl T.isinstance (by decide +kernel) (pa_cons (pv 2) (pa_cons (pe_bltn (v := .ty "list") (u := .type "list") rfl T.list (by decide +kernel) rfl) pa_nil))))) (pw_or1 (pt_cmpR op_gt (pe_callB (lenK K) rfl T.len (by decide +kernel) (pa_cons (pv 2) pa_nil)) (pe_callB (lenK K) rfl T.len (by decide +kernel) (pa_cons (pv 1) pa_nil)) (nomark _))))) (pss_one (ps_ret pe_bl)) pss_nil)
  (pss_cons (ps_set (i := 3) sc_is_row.nd rfl (.inl rfl) pe_bl)
  (pss_cons (ps_for PassesOwn.never rfl (zipK K true false rfl T.zip (pa_cons (pv 1) (pa_cons (pv 2) pa_nil))) (pgT K 2 rfl (pgs_cons (pg_name (i := 4) sc_is_row.nd rfl (.inl rfl)) (pgs_cons (pg_name (i := 5) sc_is_row.nd rfl (.inl rfl)) pgs_nil))) (pss_cons (ps_if (PW.pt (pw_or (pt_not (pt_val (pv 3))) (pw_or1 (pt_not (pt_val (pe_call G_is_tick hr rfl D_is_tick.g D_is_tick.F.kp D_is_tick.b .nil pass0 (pa_cons (pv 0) (pa_cons (pv 4) (pa_cons (pv 5) pa_nil))))))))) (pss_one (ps_ret pe_bl)) pss_nil)
  (pss_cons (ps_asg (pv 5) (pgT K 2 rfl (pgs_cons (pg_name (i := 6) sc_is_row.nd rfl (.inl rfl)) (pgs_cons (pg_name (i := 7) sc_is_row.nd rfl (.inl rfl)) pgs_nil))))
  (pss_one (ps_par (i := 0) (j := 3) rfl sc_is_row.nd rfl rfl (by decide) rfl rfl (pa_cons (pe_call G_burnt hr rfl D_burnt.g D_burnt.F.kp D_burnt.b .nil pass0 (pa_cons (pv 0) (pa_cons (pv 6) (pa_cons (pv 7) pa_nil)))) (pa_cons (pe_cmpR op_lt (pe_callB (lenK K) rfl T.len (by decide +kernel) (pa_cons (pv 7) pa_nil)) (pe_callB (lenK K) rfl T.len (by decide +kernel) (pa_cons (pv 6) pa_nil)) (nomark _)) pa_nil)) (by rfl))))))
  (pss_one (ps_ret pe_bl))))), ?_⟩
  refine ⟨_, rfl, v, _, _, _, _, rfl, .ty _, dp_ty hv, kit_d d (by simp), _, rfl, if_b (fun c => ?_) (fun c => ?_)⟩
  · rw [cd_f (fun ⟨ts, e, _⟩ => by subst e; cases c)] at q
    exact if_t rfl (q H (Same.refl _))
  obtain ⟨es, rfl⟩ := is_lst (by cases h : dis "list" d <;> simp_all)
  obtain ⟨p, xs, rfl, hp, ha⟩ := dp_lst_get hv
  have hlen : xs.length = es.length := dpall_len ha
  have hfa : ∀ z ∈ es, Fit (n + 2) z := hfit.2
  refine ⟨_, rfl, p, xs, rfl, .inl hp, _, rfl, b, vi ds, rfl, .inr hB, _, _, rfl, rfl, _, rfl, if_b (fun c2 => ?_) (fun c2 => ?_)⟩
  · have c2 := of_decide_eq_true c2
    rw [vi_len, hlen] at c2
    have hno : ¬ IsRow cs ds (.list es) := fun ⟨ts, e, ho⟩ => by
      have e := PyData.list.inj e
      have := row_len ho
      rw [e, List.length_map] at c2
      omega
    rw [cd_f hno] at q
    exact q H (Same.refl _)
  have c2 := of_decide_eq_false c2
  rw [vi_len, hlen] at c2
  have hle : es.length ≤ ds.length := by omega
  have e0 : IsRow cs ds (.list es) ↔ RowD cs true ds es := ⟨fun ⟨ts, e, h⟩ => ⟨ts, PyData.list.inj e, h⟩, fun ⟨ts, e, h⟩ => ⟨ts, by rw [e], h⟩⟩
  rw [cd_iff e0] at q
  -- flame = True; for draught, tick in zip(draughts, thing)
  have q1 : SqB K true H b (vi ds) := hB
  have q2 : SqB K false H p xs := hp
  refine ⟨_, rfl, _, rfl, b, p, vi ds, xs, rfl, q1, q2, for_it (walk_zipB (ka := true) (kb := false) (xs := vi ds) (ys := xs) (n := es.length) (by rw [vi_len, hlen]; omega)) (fun i σ H' => ∃ (ca : Addr) (c : List Int) (fl : Bool) (y4 y5 y6 y7 : Option V), σ = [some (.ref ca), some (.ref b), some (.ref p), some (.bl fl), y4, y5, y6, y7] ∧ Same H H' ∧ SqT K H' ca (vi c) ∧ c.length = cs.length ∧ (RowD cs true ds es ↔ RowD c fl (ds.drop i) (es.drop i))) ⟨a, cs, true, none, none, none, none, rfl, Same.refl _, hS, rfl, Iff.rfl⟩ (fun i σ H' _ ⟨_, _, _, _, _, _, _, _, sm, _⟩ => ⟨sm.sqb q1, sm.sqb q2⟩) (fun i x σ H1 H' hi hW hy => ?_) (fun σ H1 hW => ?_)⟩
  · obtain ⟨ca, c, fl, y4, y5, y6, y7, rfl, sm, hC, hcl', hiff⟩ := hW
    obtain ⟨tt, x1, x2, rfl, nT, rfl, e1, e2⟩ := hy
    obtain ⟨k, hk, rfl⟩ := vi_get e1
    obtain ⟨dx, hdx, hvx⟩ := dpall_get1 ha e2
    have hfx := hfa dx (List.mem_of_getElem? hdx)
    rw [drop_next hk, drop_next hdx] at hiff
    have s2 : Same H1 (upd H1 tt (.tup [.int k, x2])) := Same.new nT
    have sm2 := sm.trans s2
    refine ⟨tt, _, rfl, SqT.of upd_same, rfl, _, _, rfl, _, _, rfl, rfl, ?_⟩
    refine ⟨_, rfl, _, rfl, if_b (fun c3 => ?_) (fun c3 => ?_)⟩
    · have hno : ¬ RowD cs true ds es := fun z => rowD_no (fun z2 => by rw [z2.1] at c3; cases c3) (hiff.mp z)
      rw [cd_f hno] at q
      exact if_t rfl (q _ sm2)
    have hfl : fl = true := by
      cases fl with
      | true => rfl
      | false => cases c3
    refine ⟨_, rfl, _, rfl, _, rfl, ca, k, x2, c, dx, n, rfl, s2.sqt hC, hvx.same sm2, hfx, fun H3 s3 => ⟨_, rfl, if_b (fun c4 => ?_) (fun c4 => ?_)⟩⟩
    · have c4 : (!cd (IsTick c k dx)) = true := c4
      have hno : ¬ RowD cs true ds es := fun z => rowD_no (fun z2 => by rw [cd_t z2.2] at c4; cases c4) (hiff.mp z)
      rw [cd_f hno] at q
      exact q _ (sm2.trans s3)
    have c4 : (!cd (IsTick c k dx)) = false := c4
    have ht : IsTick c k dx := by
      cases h : cd (IsTick c k dx) with
      | true => exact cd_of h
      | false =>
        rw [h] at c4
        cases c4
    obtain ⟨lit, out, rfl, ht⟩ := ht
    have sm3 := sm2.trans s3
    obtain ⟨pt, ws, rfl, hpt, hat⟩ := dp_tup_get (hvx.same sm3)
    obtain ⟨w1, w2, rfl⟩ : ∃ w1 w2, ws = [w1, w2] := by
      have := dpall_len hat
      match ws, this with
      | [w1, w2], _ => exact ⟨w1, w2, rfl⟩
    cases hat with
    | cons ha1 ha2 =>
    cases ha2 with
    | cons ha2 _ =>
    obtain ⟨u1, rfl, hu1⟩ := dp_tints ha1
    obtain ⟨u2, rfl, hu2⟩ := dp_tints ha2
    -- lit, out = tick; candles, flame = burnt(candles, lit, out), len(out) < len(lit)
    refine ⟨_, rfl, pt, _, rfl, hpt, rfl, _, _, rfl, _, _, rfl, rfl, ?_⟩
    refine ⟨_, rfl, _, rfl, _, rfl, ca, u1, u2, c, lit, out, true, true, rfl, (s2.trans s3).sqt hC, hu1, hu2, by omega, fun H4 ca' s4 nca hca => ?_⟩
    refine ⟨_, rfl, u2, vi out, rfl, .inr (s4.sqt hu2), _, rfl, u1, vi lit, rfl, .inr (s4.sqt hu1), _, _, rfl, rfl, _, _, rfl, ?_⟩
    refine ⟨ca', burntF c lit out, _, _, _, _, _, rfl, sm3.trans s4, SqT.of hca, (burntF_len _ _ _).trans hcl', ?_⟩
    rw [hiff, rowD_cons hfl rfl ht]
    have ed : decide ((((vi out).length : Nat) : Int) < (((vi lit).length : Nat) : Int)) = decide (out.length < lit.length) := by
      rw [vi_len, vi_len]
      by_cases h : out.length < lit.length
      · rw [decide_eq_true h, decide_eq_true (by omega)]
      · rw [decide_eq_false h, decide_eq_false (by omega)]
    rw [ed]
  · obtain ⟨ca, c, fl, y4, y5, y6, y7, rfl, sm, hC, hcl', hiff⟩ := hW
    rw [List.drop_length] at hiff
    rw [cd_t (hiff.mpr ⟨[], rfl, by cases ds.drop es.length <;> exact True.intro⟩)] at q
    exact q _ sm
/-! def behind -/
abbrev s_behind : Stmt := topS 6
theorem sc_behind : FnScope ["candles", "draughts", "row", "flame", "lit", "out"] ["candles", "draughts", "row"] (defScope s_behind) := ⟨rfl, rfl, rfl, by decide +kernel, rfl, by decide +kernel, by decide +kernel⟩
/-- the candles behind a row, and whether a flame is there -/
def behindF (cs : List Int) (fl : Bool) : List (List Int × List Int) → List Int × Bool
  | [] => (cs, fl)
  | t :: ts => behindF (burntF cs t.1 t.2) (decide (t.2.length < t.1.length)) ts
def spBehind (K : PySem.W.Frag) : Sp := fun vs H Q _ => ∃ (a b : Addr) (v : V) (cs : List Int) (ts : List (List Int × List Int)), vs = [.ref a, .ref b, v] ∧ SqT K H a (vi cs) ∧ cs.length ≤ 1000 ∧ Dp K H v (.list (ts.map tickD)) ∧ ∀ H' p c, Same H H' → H' p = some (.tup [.ref c, .bl (behindF cs true ts).2]) → SqT K H' c (vi (behindF cs true ts).1) → Q (.ref p) H'
theorem ok_behind {f : Addr} {fd : FuncData} (T : Bl mg) (F : Fun K "behind" "behind" s_behind f fd) {f_burnt : Addr} {fd_burnt : FuncData} (D_burnt : FnAt K mg "burnt" "burnt" s_burnt ["candles", "lit", "out"] f_burnt fd_burnt) : FnOk P w K mg base CX0 2 f fd ["candles", "draughts", "row"] (spBehind K) := by
  have G_burnt : FnOk P w K mg base CX0 1 f_burnt fd_burnt _ (spBurnt K) := ok_burnt T D_burnt.F
  refine F.ok sc_behind (fun vs H Q E h => ?_) (fun cdv A outer s H vs Q E hr h => ?_)
  · obtain ⟨a, b, v, cs, ts, rfl, _⟩ := h
    rfl
  obtain ⟨a, b, v, cs, ts, rfl, hS, hcl, hv, q⟩ := h
  refine ⟨_, (pss_cons (ps_set (i := 3) sc_behind.nd rfl (.inl rfl) pe_bl)
  (pss_cons (ps_for PassesOwn.never rfl (piL K (pv 2)) (pgT K 2 rfl (pgs_cons (pg_name (i := 4) sc_behind.nd rfl (.inl rfl)) (pgs_cons (pg_name (i := 5) sc_behind.nd rfl (.inl rfl)) pgs_nil))) (pss_one (ps_par (i := 0) (j := 3) rfl sc_behind.nd rfl rfl (by decide) rfl rfl (pa_cons (pe_call G_burnt hr rfl D_burnt.g D_burnt.F.kp D_burnt.b .nil pass0 (pa_cons (pv 0) (pa_cons (pv 4) (pa_cons (pv 5) pa_nil)))) (pa_cons (pe_cmpR op_lt (pe_callB (lenK K) rfl T.len (by decide +kernel) (pa_cons (pv 5) pa_nil)) (pe_callB (lenK K) rfl T.len (by decide +kernel) (pa_cons (pv 4) pa_nil)) (nomark _)) pa_nil)) (by rfl))))
  (pss_one (ps_ret (pe_tup (pa_cons (pv 0) (pa_cons (pv 3) pa_nil))))))), ?_⟩
  obtain ⟨p, xs, rfl, hp, ha⟩ := dp_lst_get hv
  have hlen : xs.length = ts.length := by rw [dpall_len ha, List.length_map]
  refine ⟨_, rfl, p, rfl, ⟨_, hp⟩, for_list (K := K) (a := p) (xs := xs) (fun i σ H' => ∃ (ca : Addr) (c : List Int) (fl : Bool) (y4 y5 : Option V), σ = [some (.ref ca), some (.ref b), some (.ref p), some (.bl fl), y4, y5] ∧ Same H H' ∧ SqT K H' ca (vi c) ∧ c.length = cs.length ∧ behindF cs true ts = behindF c fl (ts.drop i)) ⟨a, cs, true, none, none, rfl, Same.refl _, hS, rfl, rfl⟩ (fun i σ H' _ ⟨_, _, _, _, _, _, sm, _⟩ => sm.seq hp) (fun i x σ H1 hx hW => ?_) (fun σ H1 hW => ?_)⟩
  · obtain ⟨ca, c, fl, y4, y5, rfl, sm, hC, hcl', he⟩ := hW
    obtain ⟨dx, hdx, hvx⟩ := dpall_get1 ha hx
    rw [List.getElem?_map] at hdx
    obtain ⟨t, ht, rfl⟩ := Option.map_eq_some_iff.mp hdx
    obtain ⟨lit, out⟩ := t
    rw [drop_next ht] at he
    obtain ⟨pt, ws, rfl, hpt, hat⟩ := dp_tup_get (hvx.same sm)
    obtain ⟨w1, w2, rfl⟩ : ∃ w1 w2, ws = [w1, w2] := by
      have := dpall_len hat
      match ws, this with
      | [w1, w2], _ => exact ⟨w1, w2, rfl⟩
    cases hat with
    | cons ha1 ha2 =>
    cases ha2 with
    | cons ha2 _ =>
    obtain ⟨u1, rfl, hu1⟩ := dp_tints ha1
    obtain ⟨u2, rfl, hu2⟩ := dp_tints ha2
    refine ⟨pt, _, rfl, hpt, rfl, _, _, rfl, _, _, rfl, rfl, ?_⟩
    refine ⟨_, rfl, _, rfl, _, rfl, ca, u1, u2, c, lit, out, true, true, rfl, hC, hu1, hu2, by omega, fun H4 ca' s4 nca hca => ?_⟩
    refine ⟨_, rfl, u2, vi out, rfl, .inr (s4.sqt hu2), _, rfl, u1, vi lit, rfl, .inr (s4.sqt hu1), _, _, rfl, rfl, _, _, rfl, ?_⟩
    refine ⟨ca', burntF c lit out, _, _, _, rfl, sm.trans s4, SqT.of hca, (burntF_len _ _ _).trans hcl', ?_⟩
    have ed : decide ((((vi out).length : Nat) : Int) < (((vi lit).length : Nat) : Int)) = decide (out.length < lit.length) := by
      rw [vi_len, vi_len]
      by_cases h : out.length < lit.length
      · rw [decide_eq_true h, decide_eq_true (by omega)]
      · rw [decide_eq_false h, decide_eq_false (by omega)]
    rw [ed, he]
    rfl
  · obtain ⟨ca, c, fl, y4, y5, rfl, sm, hC, hcl', he⟩ := hW
    rw [hlen, List.drop_length] at he
    have he : behindF cs true ts = (c, fl) := he
    refine ⟨_, rfl, _, rfl, by show 2 ≤ sizeLine; decide, fun g ng => q _ g ca (sm.trans (Same.new ng)) ?_ ?_⟩
    · rw [upd_same, he]
    · rw [he]
      exact (Same.new ng).sqt hC
/-! def _law_draw -/
abbrev s__law_draw : Stmt := topS 8
theorem sc__law_draw : FnScope ["tape", "many", "prime", "cell", "found"] ["tape", "many"] (defScope s__law_draw) := ⟨rfl, rfl, rfl, by decide +kernel, rfl, by decide +kernel, by decide +kernel⟩
theorem draw_nn (x : Int) : 0 ≤ x % 2305843009213693951 ∧ x % 2305843009213693951 < 2305843009213693951 := ⟨Int.emod_nonneg x (by decide), Int.emod_lt_of_pos x (by decide)⟩
def spDraw : Sp := fun vs H Q _ => ∃ (t a : Addr) (many : Int), vs = [.ref t, .int many] ∧ TapeAt H t a ∧ 0 < many ∧ many < 2 ^ 100 ∧
  ∀ (r : Int) (H' : Hp), 0 ≤ r → r < many → TapeAt H' t a → Smt t H H' → Q (.int r) H'
theorem ok__law_draw {f : Addr} {fd : FuncData} (T : Bl mg) (F : Fun K "_law_draw" "_law_draw" s__law_draw f fd) : FnOk P w K mg base CX0 1 f fd ["tape", "many"] spDraw := by
  refine F.ok sc__law_draw (fun vs H Q E h => ?_) (fun cdv A outer s H vs Q E hr h => ?_)
  · obtain ⟨t, a, many, rfl, _⟩ := h
    rfl
  obtain ⟨t, a, many, rfl, hT, hm, hm2, q⟩ := h
  refine ⟨_, (pss_cons (ps_set (i := 2) sc__law_draw.nd rfl (.inl rfl) pe_int)
  (C8.pss_cut (ps_if (pt_cmpR op_lt (pe_ix (ixL K) (pv 0) pe_int (fun _ _ => rfl)) (pv 1) (nomark _)) (pss_cons (ps_set (i := 3) sc__law_draw.nd rfl (.inl rfl) pe_int)
  (C8.pss_cut (ps_if (pt_cmpR op_gt (pe_callB (lenK K) rfl T.len (by decide +kernel) (pa_cons (pe_ix (ixL K) (pv 0) pe_int (fun _ _ => rfl)) pa_nil)) pe_int (nomark _)) (pss_one (ps_set (i := 3) sc__law_draw.nd rfl (.inl rfl) (pe_ix (ixL K) (pe_ix (ixL K) (pv 0) pe_int (fun _ _ => rfl)) (pe_op op_mod (pe_ix (ixL K) (pv 0) pe_int (fun _ _ => rfl)) (pe_callB (lenK K) rfl T.len (by decide +kernel) (pa_cons (pe_ix (ixL K) (pv 0) pe_int (fun _ _ => rfl)) pa_nil))) (fun _ _ => rfl)))) pss_nil)
  (C8.pss_cut (ps_if (PW.pt (pw_or (pt_cmpR op_ge (pe_ix (ixL K) (pv 0) pe_int (fun _ _ => rfl)) (pe_callB (lenK K) rfl T.len (by decide +kernel) (pa_cons (pe_ix (ixL K) (pv 0) pe_int (fun _ _ => rfl)) pa_nil)) (nomark _)) (pw_or1 (pt_cmpR op_lt (pv 3) (pe_op op_pow pe_int pe_int) (nomark _))))) (pss_cons (ps_set (i := 3) sc__law_draw.nd rfl (.inl rfl) (pe_op op_mod (pe_op op_add (pv 3) (pe_op op_mul pe_int (pe_ix (ixL K) (pv 0) pe_int (fun _ _ => rfl)))) (pv 2)))
  (pss_cons (ps_set (i := 3) sc__law_draw.nd rfl (.inl rfl) (pe_op op_mod (pe_op op_add (pe_op op_add (pe_op op_mul (pv 3) (pv 3)) (pe_op op_mul pe_int (pv 3))) pe_int) (pv 2)))
  (pss_one (ps_set (i := 3) sc__law_draw.nd rfl (.inl rfl) (pe_op op_mod (pe_op op_add (pe_op op_mul (pv 3) (pv 3)) pe_int) (pv 2)))))) pss_nil)
  (pss_cons (ps_asg (pe_op op_add (pe_ix (ixL K) (pv 0) pe_int (fun _ _ => rfl)) pe_int) (pg_sub (pv 0) pe_int set_list))
  (pss_one (ps_asg (pv 3) (pg_sub (pv 0) pe_int set_list))))))) pss_nil)
  (pss_cons (ps_set (i := 4) sc__law_draw.nd rfl (.inl rfl) (pe_op op_mod (pe_ix (ixL K) (pv 0) pe_int (fun _ _ => rfl)) (pv 1)))
  (pss_cons (ps_asg (pe_op op_fdivW (pe_ix (ixL K) (pv 0) pe_int (fun _ _ => rfl)) (pv 1)) (pg_sub (pv 0) pe_int set_list))
  (pss_one (ps_ret (pv 4))))))), ?_⟩
  have hta : a ≠ t := hT.ta
  obtain ⟨ns, i, c, ht, ha, hc⟩ := hT
  -- if tape[2] < many
  refine ⟨fun σ' H' => ∃ (i' c' : Int) (y : Option V), σ' = [some (.ref t), some (.int many), some (.int 2305843009213693951), y, none] ∧ H' t = some (.lst [.ref a, .int i', .int c']) ∧ H' a = some (.lst (vi ns)) ∧ 0 ≤ c' ∧ Smt t H H', ?_, ?_⟩
  · refine ⟨_, rfl, t, _, 2, _, rfl, rfl, SqL.of ht, rfl, _, rfl, _, _, rfl, rfl, _, rfl, if_b (fun _ => ?_) (fun _ => ?_)⟩
    · -- cell = 0; if len(tape[0]) > 0
      refine ⟨fun σ' H' => ∃ z : Int, σ' = [some (.ref t), some (.int many), some (.int 2305843009213693951), some (.int z), none] ∧ H' = H, ?_, ?_⟩
      · refine ⟨_, rfl, t, _, 0, _, rfl, rfl, SqL.of ht, rfl, a, vi ns, rfl, .inl (SqL.of ha), _, _, rfl, rfl, _, rfl, if_b (fun e => ?_) (fun _ => ?_)⟩
        · have e1 : (0 : Int) < (((vi ns).length : Nat) : Int) := of_decide_eq_true e
          have e2 : 0 < ns.length := by
            rw [vi_len] at e1
            omega
          obtain ⟨z, hz⟩ := atI_mod e2 i
          refine ⟨_, rfl, t, _, 0, _, rfl, rfl, SqL.of ht, rfl, _, rfl, t, _, 1, _, rfl, rfl, SqL.of ht, rfl, _, rfl, t, _, 0, _, rfl, rfl, SqL.of ht, rfl, a, vi ns, rfl, .inl (SqL.of ha), _, _, rfl, rfl, e1, a, _, _, _, rfl, rfl, SqL.of ha, hz, z, rfl, rfl⟩
        · exact ⟨0, rfl, rfl⟩
      rintro σ' H' ⟨z, rfl, rfl⟩
      -- if tape[1] >= len(tape[0]) or cell < 10 ** 18
      refine ⟨fun σ' H1 => ∃ z : Int, σ' = [some (.ref t), some (.int many), some (.int 2305843009213693951), some (.int z), none] ∧ H1 = H' ∧ 0 ≤ z, ?_, ?_⟩
      · have body : ∀ D : Ends, D.nx [some (.ref t), some (.int many), some (.int 2305843009213693951), some (.int (((((z + 1000003 * i) % 2305843009213693951) * ((z + 1000003 * i) % 2305843009213693951) + 1181783497276652981 * ((z + 1000003 * i) % 2305843009213693951) + 2049848353892358983) % 2305843009213693951 * (((((z + 1000003 * i) % 2305843009213693951) * ((z + 1000003 * i) % 2305843009213693951) + 1181783497276652981 * ((z + 1000003 * i) % 2305843009213693951) + 2049848353892358983) % 2305843009213693951)) + 1442695040888963407) % 2305843009213693951)), none] H' → _ := fun D hD => by
          have n1 := draw_nn (z + 1000003 * i)
          have n2 := draw_nn (((z + 1000003 * i) % 2305843009213693951) * ((z + 1000003 * i) % 2305843009213693951) + 1181783497276652981 * ((z + 1000003 * i) % 2305843009213693951) + 2049848353892358983)
          refine (?_ : tSeq (tAsg (tOp (rI (fun _ j => 0 < j) fun i j => .int (i % j)) (tOp (rI0 fun i j => .int (i + j)) (tVar 3) (tOp (rI CMul fun i j => .int (i * j)) (tC (.int 1000003)) (tOp (rIxL K) (tVar 0) (tC (.int 1))))) (tVar 2)) (gName 3))
            (tSeq (tAsg (tOp (rI (fun _ j => 0 < j) fun i j => .int (i % j)) (tOp (rI0 fun i j => .int (i + j)) (tOp (rI0 fun i j => .int (i + j)) (tOp (rI CMul fun i j => .int (i * j)) (tVar 3) (tVar 3)) (tOp (rI CMul fun i j => .int (i * j)) (tC (.int 1181783497276652981)) (tVar 3))) (tC (.int 2049848353892358983))) (tVar 2)) (gName 3))
            (tAsg (tOp (rI (fun _ j => 0 < j) fun i j => .int (i % j)) (tOp (rI0 fun i j => .int (i + j)) (tOp (rI CMul fun i j => .int (i * j)) (tVar 3) (tVar 3)) (tC (.int 1442695040888963407))) (tVar 2)) (gName 3))) D [some (.ref t), some (.int many), some (.int 2305843009213693951), some (.int z), none] H')
          refine ⟨_, rfl, _, rfl, t, _, 1, _, rfl, rfl, SqL.of ht, rfl, _, _, rfl, rfl, .inl ⟨by omega, by omega⟩, _, _, rfl, rfl, _, rfl, _, _, rfl, rfl, by omega, ?_⟩
          refine ⟨_, rfl, _, rfl, _, _, rfl, rfl, .inl (by omega), _, rfl, _, _, rfl, rfl, .inl ⟨by omega, by omega⟩, _, _, rfl, rfl, _, _, rfl, rfl, _, rfl, _, _, rfl, rfl, by omega, ?_⟩
          refine ⟨_, rfl, _, rfl, _, _, rfl, rfl, .inl (by omega), _, _, rfl, rfl, _, rfl, _, _, rfl, rfl, by omega, hD⟩
        refine ⟨_, rfl, t, _, 1, _, rfl, rfl, SqL.of ht, rfl, _, rfl, t, _, 0, _, rfl, rfl, SqL.of ht, rfl, a, vi ns, rfl, .inl (SqL.of ha), _, _, rfl, rfl, _, rfl, if_b (fun _ => ?_) (fun _ => ?_)⟩
        · refine if_t rfl (body _ ⟨_, rfl, rfl, (draw_nn _).1⟩)
        · refine ⟨_, rfl, _, _, rfl, rfl, ⟨by decide, by decide, by decide⟩, _, _, rfl, rfl, _, rfl, if_b (fun _ => body _ ⟨_, rfl, rfl, (draw_nn _).1⟩) (fun e => ?_)⟩
          refine ⟨z, rfl, rfl, ?_⟩
          have e1 : ¬ z < (10 : Int) ^ (18 : Int).toNat := of_decide_eq_false e
          have e2 : (0 : Int) ≤ (10 : Int) ^ (18 : Int).toNat := by decide
          omega
      rintro σ' H1 ⟨z, rfl, rfl, hz⟩
      -- tape[1] = tape[1] + 1; tape[2] = cell
      refine ⟨_, rfl, t, _, 1, _, rfl, rfl, SqL.of ht, rfl, _, _, rfl, rfl, _, rfl, t, _, 1, 1, rfl, rfl, ht, rfl, ?_⟩
      refine ⟨_, rfl, _, rfl, t, _, 2, 2, rfl, rfl, upd_same, rfl, ?_⟩
      refine ⟨i + 1, z, some (.int z), rfl, upd_same, ?_, hz, ?_⟩
      · rw [upd_ne hta, upd_ne hta]
        exact ha
      · exact Smt.upd.trans Smt.upd
    · exact ⟨i, c, none, rfl, ht, ha, hc, Smt.refl _ _⟩
  rintro σ' H' ⟨i', c', y, rfl, ht', ha', hc', sm⟩
  refine ⟨_, rfl, t, _, 2, _, rfl, rfl, SqL.of ht', rfl, _, rfl, _, _, rfl, rfl, hm, ?_⟩
  refine ⟨_, rfl, t, _, 2, _, rfl, rfl, SqL.of ht', rfl, _, rfl, _, _, rfl, rfl, wide_div (b := 100) hm (by omega) (by decide) (by decide), _, rfl, t, _, 2, 2, rfl, rfl, ht', rfl, ?_⟩
  refine ⟨_, rfl, q _ _ (Int.emod_nonneg _ (by omega)) (Int.emod_lt_of_pos _ hm) ⟨ns, i', c' / many, upd_same, ?_, ?_⟩ (sm.trans Smt.upd)⟩
  · rw [upd_ne hta]
    exact ha'
  · exact Int.ediv_nonneg hc' (by omega)
/-! def _law_whole -/
abbrev s__law_whole : Stmt := topS 9
theorem sc__law_whole : FnScope ["item"] ["item"] (defScope s__law_whole) := ⟨rfl, rfl, rfl, by decide +kernel, rfl, by decide +kernel, by decide +kernel⟩
def spWhole (K : PySem.W.Frag) : Sp := fun vs H Q _ => ∃ (v : V) (d : PyData), vs = [v] ∧ Dp K H v d ∧ Q (.bl (dis "int" d && !dis "bool" d)) H
theorem ok__law_whole {f : Addr} {fd : FuncData} (T : Bl mg) (F : Fun K "_law_whole" "_law_whole" s__law_whole f fd) : FnOk P w K mg base CX0 1 f fd ["item"] (spWhole K) := by
  refine F.ok sc__law_whole (fun vs H Q E h => ?_) (fun cdv A outer s H vs Q E hr h => ?_)
  · obtain ⟨v, d, rfl, _⟩ := h
    rfl
  obtain ⟨v, d, rfl, hv, q⟩ := h
  refine ⟨_, (pss_one (ps_ret (pe_and (pe_callB (isiK K) rfl T.isinstance (by decide +kernel) (pa_cons (pv 0) (pa_cons (pe_bltn (v := .ty "int") (u := .type "int") rfl T.int (by decide +kernel) rfl) pa_nil))) (pe_one (pe_not (pe_callB (isiK K) rfl T.isinstance (by decide +kernel) (pa_cons (pv 0) (pa_cons (pe_bltn (v := .ty "bool") (u := .type "bool") rfl T.bool (by decide +kernel) rfl) pa_nil)))))))), ?_⟩
  refine ⟨_, rfl, v, _, _, _, _, rfl, .ty _, dp_ty hv, kit_d d (by simp), _, rfl, if_b (fun c => ?_) (fun c => ?_)⟩
  · rw [c] at q
    exact ⟨_, rfl, v, _, _, _, _, rfl, .ty _, dp_ty hv, kit_d d (by simp), _, rfl, q⟩
  · rw [c] at q
    exact q
/-! def _law_within -/
abbrev s__law_within : Stmt := topS 10
theorem sc__law_within : FnScope ["item", "low", "high"] ["item", "low", "high"] (defScope s__law_within) := ⟨rfl, rfl, rfl, by decide +kernel, rfl, by decide +kernel, by decide +kernel⟩
theorem ok__law_within {f : Addr} {fd : FuncData} (T : Bl mg) (F : Fun K "_law_within" "_law_within" s__law_within f fd) {f__law_whole : Addr} {fd__law_whole : FuncData} (D__law_whole : FnAt K mg "_law_whole" "_law_whole" s__law_whole ["item"] f__law_whole fd__law_whole) : FnOk P w K mg base CX0 2 f fd ["item", "low", "high"] (spWithin K) := by
  have G__law_whole : FnOk P w K mg base CX0 1 f__law_whole fd__law_whole _ (spWhole K) := ok__law_whole T D__law_whole.F
  refine F.ok sc__law_within (fun vs H Q E h => ?_) (fun cdv A outer s H vs Q E hr h => ?_)
  · obtain ⟨v, lo, hi, d, rfl, _⟩ := h
    rfl
  obtain ⟨v, lo, hi, d, rfl, hv, q⟩ := h
  refine ⟨_, (pss_one (ps_ret (pe_and (pe_call G__law_whole hr rfl D__law_whole.g D__law_whole.F.kp D__law_whole.b .nil pass0 (pa_cons (pv 0) pa_nil)) (pe_one (pe_chain op_le op_le (pv 1) (pv 0) (pv 2)))))), ?_⟩
  refine ⟨_, rfl, v, d, rfl, hv, _, rfl, if_b (fun c => ?_) (fun c => ?_)⟩
  · have c1 : dis "int" d = true := by cases h : dis "int" d <;> simp_all
    have c2 : dis "bool" d = false := by cases h : dis "bool" d <;> simp_all
    obtain ⟨i, rfl⟩ := is_int c1 c2
    cases dp_int hv
    refine ⟨_, rfl, _, rfl, _, _, rfl, rfl, _, rfl, if_b (fun c3 => ?_) (fun c3 => ?_)⟩
    · refine ⟨_, rfl, _, _, rfl, rfl, ?_⟩
      have e : decide (i ≤ hi) = cd (IsWithin lo hi (.int i)) := cd_b ⟨fun z => ⟨i, rfl, of_decide_eq_true c3, of_decide_eq_true z⟩, fun ⟨j, e, _, h2⟩ => by cases e; exact decide_eq_true h2⟩
      show Q (.bl (decide (i ≤ hi))) H
      rw [e]
      exact q
    · rw [cd_f (fun ⟨j, e, h1, _⟩ => by cases e; exact of_decide_eq_false c3 h1)] at q
      exact q
  · rw [cd_f (fun ⟨j, e, _, _⟩ => by subst e; cases c)] at q
    exact q
/-! def _law_like -/
abbrev s__law_like : Stmt := topS 11
theorem sc__law_like : FnScope ["one", "two", "k"] ["one", "two"] (defScope s__law_like) := ⟨rfl, rfl, rfl, by decide +kernel, rfl, by decide +kernel, by decide +kernel⟩
/-- the same data on both sides: the answer is True -/
def spLike (K : PySem.W.Frag) (n : Nat) : Sp := fun vs H Q _ => ∃ (x y : V) (d : PyData), vs = [x, y] ∧ Dp K H x d ∧ Dp K H y d ∧ Fit n d ∧ ∀ H', Same H H' → Q (.bl true) H'
theorem like_none {f : Addr} {fd : FuncData} : FnOk P w K mg base CX0 0 f fd ["one", "two"] (spLike K 0) := by
  have no : ∀ vs H Q E, ¬ spLike K 0 vs H Q E := fun vs H Q E h => by
    obtain ⟨x, y, d, _, _, _, h1, _⟩ := h
    exact h1.elim
  exact ⟨fun vs H Q E h => absurd h (no vs H Q E), fun A outer s H args us vs Q E _ _ _ _ h => absurd h (no vs H Q E)⟩
theorem cls2 {a b : String} : Paired ClsV [.ty a, .ty b] [.type a, .type b] := .cons (.ty a) (.cons (.ty b) .nil)
theorem like_step {n : Nat} {f : Addr} {fd : FuncData} (T : Bl mg) (D__law_like : FnAt K mg "_law_like" "_law_like" s__law_like ["one", "two"] f fd) (G__law_like : FnOk P w K mg base CX0 n f fd ["one", "two"] (spLike K n)) : FnOk P w K mg base CX0 (n + 1) f fd ["one", "two"] (spLike K (n + 1)) := by
  refine D__law_like.F.ok sc__law_like (fun vs H Q E h => ?_) (fun cdv A outer s H vs Q E hr h => ?_)
  · obtain ⟨x, y, d, rfl, _⟩ := h
    rfl
  obtain ⟨x, y, d, rfl, hx, hy, hfit, q⟩ := h
  refine ⟨_, (pss_cons (ps_if (pt_val (pe_callB (isiTK K) rfl T.isinstance (by decide +kernel) (pa_cons (pv 0) (pa_cons (pe_tup (pa_cons (pe_bltn (v := .ty "list") (u := .type "list") rfl T.list (by decide +kernel) rfl) (pa_cons (pe_bltn (v := .ty "tuple") (u := .type "tuple") rfl T.tuple (by decide +kernel) rfl) pa_nil))) pa_nil)))) (pss_cons (ps_if (PW.pt (pw_or (pt_cmpR op_ne (pe_callB (isiK K) rfl T.isinstance (by decide +kernel) (pa_cons (pv 0) (pa_cons (pe_bltn (v := .ty "list") (u := .type "list") rfl T.list (by decide +kernel) rfl) pa_nil))) (pe_callB (isiK K) rfl T.isinstance (by decide +kernel) (pa_cons (pv 1) (pa_cons (pe_bltn (v := .ty "list") (u := .type "list") rfl T.list (by decide +kernel) rfl) pa_nil))) (nomark _)) (pw_or1 (pt_cmpR op_ne (pe_callB (isiK K) rfl T.isinstance (by decide +kernel) (pa_cons (pv 0) (pa_cons (pe_bltn (v := .ty "tuple") (u := .type "tuple") rfl T.tuple (by decide +kernel) rfl) pa_nil))) (pe_callB (isiK K) rfl T.isinstance (by decide +kernel) (pa_cons (pv 1) (pa_cons (pe_bltn (v := .ty "tuple") (u := .type "tuple") rfl T.tuple (by decide +kernel) rfl) pa_nil))) (nomark _))))) (pss_one (ps_ret pe_bl)) pss_nil)
  (pss_cons (ps_if (pt_cmpR op_ne (pe_callB (lenK K) rfl T.len (by decide +kernel) (pa_cons (pv 0) pa_nil)) (pe_callB (lenK K) rfl T.len (by decide +kernel) (pa_cons (pv 1) pa_nil)) (nomark _)) (pss_one (ps_ret pe_bl)) pss_nil)
  (pss_one (ps_ret (pe_cmpR (eqDK K hr.units) (pe_lc (own := [("k", 2)]) rfl sc__law_like.nd (pi_range1 rfl T.range (pa_cons (pe_callB (lenK K) rfl T.len (by decide +kernel) (pa_cons (pv 0) pa_nil)) pa_nil)) (blkOk_by (N := ["one", "two", "k"]) (sc := defScope s__law_like) (own := [("k", 2)]) (by decide +kernel)) (fun _ _ _ _ _ => (pg_name (i := 2) sc__law_like.nd rfl (.inl rfl))) (fun _ _ _ _ _ => (pts_one (pt_not (pt_val (pe_call G__law_like hr rfl D__law_like.g D__law_like.F.kp D__law_like.b .nil pass0 (pa_cons (pe_ix (ixA K) (pv 0) (pv 2) (fun _ _ => rfl)) (pa_cons (pe_ix (ixA K) (pv 1) (pv 2) (fun _ _ => rfl)) pa_nil))))))) (fun _ _ _ _ _ => (pv 2))) (pe_lst pa_nil) (nomark _)))))) pss_nil)
  (pss_cons (ps_if (pt_val (pe_callB (isiTK K) rfl T.isinstance (by decide +kernel) (pa_cons (pv 1) (pa_cons (pe_tup (pa_cons (pe_bltn (v := .ty "list") (u := .type "list") rfl T.list (by decide +kernel) rfl) (pa_cons (pe_bltn (v := .ty "tuple") (u := .type "tuple") rfl T.tuple (by decide +kernel) rfl) pa_nil))) pa_nil)))) (pss_one (ps_ret pe_bl)) pss_nil)
  (pss_one (ps_ret (pe_and (pe_cmpR op_eq (pe_callB (isiK K) rfl T.isinstance (by decide +kernel) (pa_cons (pv 0) (pa_cons (pe_bltn (v := .ty "bool") (u := .type "bool") rfl T.bool (by decide +kernel) rfl) pa_nil))) (pe_callB (isiK K) rfl T.isinstance (by decide +kernel) (pa_cons (pv 1) (pa_cons (pe_bltn (v := .ty "bool") (u := .type "bool") rfl T.bool (by decide +kernel) rfl) pa_nil))) (nomark _)) (pe_one (pe_cmpR op_eq (pv 0) (pv 1) (nomark _)))))))), ?_⟩
  -- isinstance(one, (list, tuple))
  refine ⟨_, rfl, by show 2 ≤ sizeLine; decide, fun tp ntp => ?_⟩
  have s0 : Same H (upd H tp (.tup [.ty "list", .ty "tuple"])) := Same.new ntp
  refine ⟨x, tp, _, _, _, _, rfl, upd_same, cls2, dp_ty (hx.same s0), kit_lt d, _, rfl, if_b (fun hq => ?_) (fun hq => ?_)⟩
  · -- lists, tuples
    have hx0 := hx.same s0
    have hy0 := hy.same s0
    refine ⟨_, rfl, x, _, _, _, _, rfl, .ty _, dp_ty hx0, kit_d d (by simp), _, rfl, y, _, _, _, _, rfl, .ty _, dp_ty hy0, kit_d d (by simp), rfl, _, rfl, ?_⟩
    refine if_f (by rw [decide_eq_true rfl]; rfl) ?_
    refine ⟨_, rfl, x, _, _, _, _, rfl, .ty _, dp_ty hx0, kit_d d (by simp), _, rfl, y, _, _, _, _, rfl, .ty _, dp_ty hy0, kit_d d (by simp), rfl, _, rfl, ?_⟩
    refine if_f (by rw [decide_eq_true rfl]; rfl) ?_
    have both : ∃ (a b : Addr) (xs ys : List V) (ds : List PyData) (tp1 : Bool), x = .ref a ∧ y = .ref b ∧ SqB K tp1 (upd H tp (.tup [.ty "list", .ty "tuple"])) a xs ∧ SqB K tp1 (upd H tp (.tup [.ty "list", .ty "tuple"])) b ys ∧ DpAll K (upd H tp (.tup [.ty "list", .ty "tuple"])) xs ds ∧ DpAll K (upd H tp (.tup [.ty "list", .ty "tuple"])) ys ds ∧ ds.length ≤ 1000 ∧ ∀ d ∈ ds, Fit n d := by
      cases hx0 with
      | lst h1 a1 =>
        cases hy0 with
        | lst h2 a2 =>
          exact ⟨_, _, _, _, _, false, rfl, rfl, h1, h2, a1, a2, hfit.1, hfit.2⟩
      | tup h1 a1 =>
        cases hy0 with
        | tup h2 a2 =>
          exact ⟨_, _, _, _, _, true, rfl, rfl, h1, h2, a1, a2, hfit.1, hfit.2⟩
      | _ => cases hq
    obtain ⟨a, b, xs, ys, ds, tp1, rfl, rfl, hA, hB, dA, dB, hsz, hall⟩ := both
    have lA := dpall_len dA
    have lB := dpall_len dB
    -- len(one) != len(two)
    refine ⟨_, rfl, a, xs, rfl, sqb_or hA, _, rfl, b, ys, rfl, sqb_or hB, rfl, _, rfl, ?_⟩
    refine if_f (by rw [lA, lB, decide_eq_true rfl]; rfl) ?_
    refine ⟨_, rfl, a, xs, rfl, sqb_or hA, _, rfl, by omega, by omega, fun D hD => ?_⟩
    have en : ((xs.length : Nat) : Int).toNat = xs.length := Int.toNat_natCast _
    rw [en]
    refine lc_ints walk_range hD (by omega) (fun _ => none) (fun _ _ => trivial) (fun i v H1 H' kn ky hi sm y h1 h2 => ?_) (fun H1 sm e => ?_)
    · obtain ⟨rfl, rfl⟩ := y
      have e0 : (0 : Int) + (i : Int) = (i : Int) := Int.zero_add _
      have hid : ds[i]? = some ds[i] := List.getElem?_eq_getElem (by omega)
      obtain ⟨u, hu, du⟩ := dpall_get dA hid
      obtain ⟨v, hv, dv⟩ := dpall_get dB hid
      refine ⟨rfl, _, rfl, _, rfl, ix_b (sm.sqb hA) (at_of e0 hu) ⟨_, rfl, _, rfl, ix_b (sm.sqb hB) (at_of e0 hv) ⟨u, v, ds[i], rfl, du.same sm, dv.same sm, hall _ (List.getElem_mem _), fun H2 s2 => ⟨_, rfl, if_f rfl (h1 _ s2 rfl)⟩⟩⟩⟩
    · have e1 : (List.range xs.length).filterMap (fun _ => (none : Option Int)) = [] := by simp
      rw [e1] at e
      refine ⟨Nat.zero_le _, fun c nc => ?_⟩
      have s3 : Same H1 (upd H1 c (.lst [])) := Same.new nc
      refine ⟨.list (di []), .list (di []), dp_list (s3.seq (SqL.of e)), dp_list (SqL.of upd_same), shaped_ints _, shaped_ints _, ?_⟩
      rw [eqv_lists, decide_eq_true rfl]
      exact q _ ((s0.trans sm).trans s3)
  · -- none of these
    have hx0 := hx.same s0
    have hy0 := hy.same s0
    refine ⟨_, rfl, by show 2 ≤ sizeLine; decide, fun tp2 ntp2 => ?_⟩
    have s1 : Same (upd H tp (.tup [.ty "list", .ty "tuple"])) (upd (upd H tp (.tup [.ty "list", .ty "tuple"])) tp2 (.tup [.ty "list", .ty "tuple"])) := Same.new ntp2
    refine ⟨y, tp2, _, _, _, _, rfl, upd_same, cls2, dp_ty (hy0.same s1), kit_lt d, _, rfl, if_f hq ?_⟩
    refine ⟨_, rfl, x, _, _, _, _, rfl, .ty _, dp_ty (hx0.same s1), kit_d d (by simp), _, rfl, y, _, _, _, _, rfl, .ty _, dp_ty (hy0.same s1), kit_d d (by simp), rfl, _, rfl, ?_⟩
    refine if_t (decide_eq_true rfl) ⟨_, rfl, _, rfl, ?_⟩
    have e : x = y ∧ scal x y = true := by
      cases hx <;> cases hy <;> first | exact ⟨rfl, rfl⟩ | cases hq
    obtain ⟨rfl, hs⟩ := e
    refine ⟨hs, ?_⟩
    rw [decide_eq_true rfl]
    exact q _ (s0.trans s1)
theorem ok__law_like {f : Addr} {fd : FuncData} (T : Bl mg) (D : FnAt K mg "_law_like" "_law_like" s__law_like ["one", "two"] f fd) : ∀ n : Nat, FnOk P w K mg base CX0 n f fd ["one", "two"] (spLike K n)
  | 0 => like_none
  | n + 1 => like_step T D (ok__law_like T D n)
/-! def _law_any -/
abbrev s__law_any : Stmt := topS 14
theorem sc__law_any : FnScope ["tape", "deep", "course", "some", "k"] ["tape", "deep"] (defScope s__law_any) := ⟨rfl, rfl, rfl, by decide +kernel, rfl, by decide +kernel, by decide +kernel⟩
/-- anything, drawn: data that share nothing with what is hidden -/
def spAny (K : PySem.W.Frag) (n : Nat) : Sp := fun vs H Q _ => ∃ (t l : Addr) (deep : Int) (B : Addr → Prop), vs = [.ref t, .int deep] ∧ TapeAt H t l ∧ B t ∧ Bk B H ∧ 0 ≤ deep ∧ deep < n ∧ ∀ H' w e, TapeAt H' t l → Smt t H H' → Dp K (hid B H') w e → Fz 8 (n + 1) e → Q w H'
theorem any_none {f : Addr} {fd : FuncData} : FnOk P w K mg base CX0 1 f fd ["tape", "deep"] (spAny K 0) := by
  have no : ∀ vs H Q E, ¬ spAny K 0 vs H Q E := fun vs H Q E h => by
    obtain ⟨t, l, deep, B, _, _, _, _, h0, h1, _⟩ := h
    omega
  exact ⟨fun vs H Q E h => absurd h (no vs H Q E), fun A outer s H args us vs Q E _ _ _ _ h => absurd h (no vs H Q E)⟩
theorem any_step {n : Nat} (T : Bl mg) {f__law_any : Addr} {fd__law_any : FuncData} (D__law_any : FnAt K mg "_law_any" "_law_any" s__law_any ["tape", "deep"] f__law_any fd__law_any) {f__law_draw : Addr} {fd__law_draw : FuncData} (D__law_draw : FnAt K mg "_law_draw" "_law_draw" s__law_draw ["tape", "many"] f__law_draw fd__law_draw) (G__law_any : FnOk P w K mg base CX0 (n + 1) f__law_any fd__law_any ["tape", "deep"] (spAny K n)) : FnOk P w K mg base CX0 (n + 2) f__law_any fd__law_any ["tape", "deep"] (spAny K (n + 1)) := by
  have G__law_draw : FnOk P w K mg base CX0 (n + 1) f__law_draw fd__law_draw _ spDraw := (ok__law_draw T D__law_draw.F).mono (by omega)
  refine D__law_any.F.ok sc__law_any (fun vs H Q E h => ?_) (fun cdv A outer s H vs Q E hr h => ?_)
  · obtain ⟨t, l, deep, B, rfl, _⟩ := h
    rfl
  obtain ⟨t, l, deep, B, rfl, hT, hBt, hBk, h0, h1, q⟩ := h
  refine ⟨_, (pss_cons (ps_set (i := 2) sc__law_any.nd rfl (.inl rfl) (pe_call G__law_draw hr rfl D__law_draw.g D__law_draw.F.kp D__law_draw.b .nil pass0 (pa_cons (pv 0) (pa_cons pe_int pa_nil))))
  (C8.pss_cut (ps_if (PW.pt (pw_and (pt_cmpR op_lt (pv 2) pe_int (nomark _)) (pw_and1 (pt_cmpR op_gt (pv 1) pe_int (nomark _))))) (pss_cons (ps_setLc (i := 3) (own := [("k", 4)]) rfl sc__law_any.nd rfl rfl (sw_true rfl rfl rfl (by decide +kernel)) (pi_range1 rfl T.range (pa_cons (pe_call G__law_draw hr rfl D__law_draw.g D__law_draw.F.kp D__law_draw.b .nil pass0 (pa_cons (pv 0) (pa_cons pe_int pa_nil))) pa_nil)) (blkOk_by (N := ["tape", "deep", "course", "some", "k"]) (sc := defScope s__law_any) (own := [("k", 4)]) (by decide +kernel)) (fun _ _ _ _ _ => (pg_name (i := 4) sc__law_any.nd rfl (.inl rfl))) (fun _ _ _ _ _ => pts_nil) (fun _ _ _ _ _ => (pe_call G__law_any hr rfl D__law_any.g D__law_any.F.kp D__law_any.b .nil pass0 (pa_cons (pv 0) (pa_cons (pe_op op_sub (pv 1) pe_int) pa_nil)))))
  (pss_one (ps_ret (pe_ix (ixL K) (pe_lst (pa_cons (pv 3) (pa_cons (pe_callTy (tupleK K) rfl T.tuple (by decide +kernel) (pa_cons (pv 3) pa_nil)) (pa_cons (pe_callTy (tupleK K) rfl T.tuple (by decide +kernel) (pa_cons (pv 3) pa_nil)) (pa_cons (pe_callTy (tupleK K) rfl T.tuple (by decide +kernel) (pa_cons (pv 3) pa_nil)) pa_nil))))) (pv 2) (fun _ _ => rfl))))) pss_nil)
  (pss_cons (ps_if (pt_cmpR op_lt (pv 2) pe_int (nomark _)) (pss_one (ps_ret (pe_ix (ixL K) (pe_lst (pa_cons (pe_op op_sub (pe_call G__law_draw hr rfl D__law_draw.g D__law_draw.F.kp D__law_draw.b .nil pass0 (pa_cons (pv 0) (pa_cons pe_int pa_nil))) pe_int) (pa_cons (pe_call G__law_draw hr rfl D__law_draw.g D__law_draw.F.kp D__law_draw.b .nil pass0 (pa_cons (pv 0) (pa_cons (pe_op op_pow pe_int pe_int) pa_nil))) (pa_cons pe_int (pa_cons pe_int pa_nil))))) (pe_callB (call_max2 rfl) rfl T.max (by decide +kernel) (pa_cons pe_int (pa_cons (pe_op op_sub (pv 2) pe_int) pa_nil))) (fun _ _ => rfl)))) pss_nil)
  (pss_cons (ps_set (i := 3) sc__law_any.nd rfl (.inl rfl) (pe_lst (pa_cons pe_str (pa_cons pe_str (pa_cons pe_str (pa_cons pe_str (pa_cons pe_str (pa_cons pe_str (pa_cons pe_str pa_nil)))))))))
  (pss_one (ps_ret (pe_ix (ixL K) (pe_lst (pa_cons pe_bl (pa_cons pe_bl (pa_cons pe_non (pa_cons (pe_ix (ixL K) (pv 3) (pe_call G__law_draw hr rfl D__law_draw.g D__law_draw.F.kp D__law_draw.b .nil pass0 (pa_cons (pv 0) (pa_cons pe_int pa_nil))) (fun _ _ => rfl)) (pa_cons (pe_tup (pa_cons pe_int (pa_cons pe_int pa_nil))) pa_nil)))))) (pe_op op_sub (pv 2) pe_int) (fun _ _ => rfl)))))))), ?_⟩
  -- course = _law_draw(tape, 13)
  refine ⟨_, rfl, t, l, 13, rfl, hT, by decide, by decide, fun r H1 r0 r1 hT1 s1 => ?_⟩
  have hBk1 := hBk.smt s1 hT1
  -- if course < 4 and deep > 0
  refine ⟨fun σ' H' => σ' = [some (.ref t), some (.int deep), some (.int r), none, none] ∧ H' = H1, ?_, ?_⟩
  · refine ⟨_, rfl, _, _, rfl, rfl, _, rfl, if_b (fun c1 => ?_) (fun _ => if_f rfl ⟨rfl, rfl⟩)⟩
    have c1 : r < 4 := of_decide_eq_true c1
    refine ⟨_, rfl, _, _, rfl, rfl, _, rfl, if_b (fun c2 => ?_) (fun _ => ⟨rfl, rfl⟩)⟩
    have c2 : 0 < deep := of_decide_eq_true c2
    -- some = [_law_any(tape, deep - 1) for k in range(..)]
    refine ⟨_, rfl, t, l, 4, rfl, hT1, by decide, by decide, fun m H2 m0 m1 hT2 s2 => ⟨_, rfl, by omega, by omega, fun D hD => ?_⟩⟩
    have hBk2 := hBk1.smt s2 hT2
    have hDt : D ≠ t := fun z => hT2.ne_none hD z.symm
    have hDl : D ≠ l := fun z => hT2.ne_none2 hD z.symm
    have hnB : ¬B D := hBk2.fresh hD
    refine lc_gen walk_range (fun i acc H => i ≤ m.toNat ∧ TapeAt H t l ∧ Smt t H2 H ∧ acc.length = i ∧ ∃ ds, DpAll K (hid (addB B D) H) acc ds ∧ ∀ d ∈ ds, Fz 8 (n + 1) d) ⟨Nat.zero_le _, hT2.upd hD, Smt.of (Same.new hD), rfl, [], .nil, fun d hd => nomatch hd⟩ (fun _ _ _ _ _ => trivial) (fun i acc H s => ?_) (fun i x H3 H' acc kn ky hi s hacc y h1 h2 => ?_) (fun acc H3 s e => ?_)
    · rw [s.2.2.2.1]
      exact small1000 (by have := s.1; omega)
    · obtain ⟨_, hT3, sm, hal, ds, hds, hfz⟩ := s
      obtain ⟨rfl, rfl⟩ := y
      have hBk3 : Bk (addB B D) H' := (hBk2.smt sm hT3).add hacc
      refine ⟨rfl, lc_yes ⟨_, rfl, _, rfl, _, _, rfl, rfl, t, l, deep - 1, addB B D, rfl, hT3, .inl hBt, hBk3, by omega, by omega, fun H4 w e hT4 s4 hw hf => ?_⟩⟩
      have hD4 := s4 _ _ hacc hDt
      refine h2 w H4 hD4 ⟨hi, hT4.but Smt.upd hDt.symm hDl.symm, (sm.trans s4).new hD, by rw [List.length_append, hal]; rfl, ds ++ [e], ?_, all_snoc hfz hf⟩
      have hm : Same (hid (addB B D) H4) (hid (addB B D) (upd H4 D (.lst (acc ++ [w])))) := hid_mut (.inr rfl)
      exact dpall_app (DpAll.same ((hid_smt s4 (.inl hBt)).trans hm) hds) (.cons (Dp.same hm hw) .nil)
    · obtain ⟨_, hT3, sm, hal, ds, hds, hfz⟩ := s
      have sm3 := (s1.trans s2).trans sm
      have hal3 : acc.length ≤ 8 := by omega
      have hdl := dpall_len hds
      have hdsB : DpAll K (hid B H3) acc ds := DpAll.same hid_drop hds
      -- [some, tuple(some), tuple(some), tuple(some)][course]
      refine ⟨_, rfl, _, rfl, D, acc, rfl, .inl ⟨SqL.of e, fun g1 n1 => ?_⟩⟩
      have t1 : Same H3 (upd H3 g1 (.tup acc)) := Same.new n1
      have e1 := t1 _ _ e
      have b1 : (upd H3 g1 (.tup acc)) g1 = some (.tup acc) := upd_same
      generalize upd H3 g1 (.tup acc) = H4 at t1 e1 b1
      refine ⟨_, rfl, D, acc, rfl, .inl ⟨SqL.of e1, fun g2 n2 => ?_⟩⟩
      have t2 : Same H4 (upd H4 g2 (.tup acc)) := Same.new n2
      have e2 := t2 _ _ e1
      have b2 : (upd H4 g2 (.tup acc)) g2 = some (.tup acc) := upd_same
      have b12 := t2 _ _ b1
      generalize upd H4 g2 (.tup acc) = H5 at t2 e2 b2 b12
      refine ⟨_, rfl, D, acc, rfl, .inl ⟨SqL.of e2, fun g3 n3 => ?_⟩⟩
      have t3 : Same H5 (upd H5 g3 (.tup acc)) := Same.new n3
      have e3 := t3 _ _ e2
      have b3 : (upd H5 g3 (.tup acc)) g3 = some (.tup acc) := upd_same
      have b13 := t3 _ _ b12
      have b23 := t3 _ _ b2
      generalize upd H5 g3 (.tup acc) = H6 at t3 e3 b3 b13 b23
      refine ⟨by show 4 ≤ sizeLine; decide, fun ls nls => ?_⟩
      have t4 : Same H6 (upd H6 ls (.lst [.ref D, .ref g1, .ref g2, .ref g3])) := Same.new nls
      have t14 := ((t1.trans t2).trans t3).trans t4
      have hT6 := hT3.same t14
      have hB6 := DpAll.same (hid_s t14) hdsB
      obtain ⟨v, hv, hm⟩ := at_in (xs := [V.ref D, V.ref g1, V.ref g2, V.ref g3]) (i := r) r0 (by show r < 4; exact c1)
      refine ⟨_, rfl, ls, _, r, v, rfl, rfl, SqL.of upd_same, hv, ?_⟩
      have fr : ∀ g, H3 g = none → ¬B g := fun g hg => ((hBk2.smt sm hT3).fresh hg)
      have tupOk : ∀ g, H3 g = none → (upd H6 ls (.lst [.ref D, .ref g1, .ref g2, .ref g3])) g = some (.tup acc) → Dp K (hid B (upd H6 ls (.lst [.ref D, .ref g1, .ref g2, .ref g3]))) (.ref g) (.tuple ds) := fun g hg hb => .tup (SqT.of (hid_get hb (fr g hg))) hB6
      rcases List.mem_cons.mp hm with rfl | hm
      · exact q _ _ (.list ds) hT6 (sm3.trans (Smt.of t14)) (.lst (SqL.of (hid_get (t4 _ _ e3) hnB)) hB6) ⟨by omega, fun d hd => hfz d hd⟩
      · rcases List.mem_cons.mp hm with rfl | hm
        · exact q _ _ (.tuple ds) hT6 (sm3.trans (Smt.of t14)) (tupOk g1 n1 (t4 _ _ b13)) ⟨by omega, fun d hd => hfz d hd⟩
        · rcases List.mem_cons.mp hm with rfl | hm
          · exact q _ _ (.tuple ds) hT6 (sm3.trans (Smt.of t14)) (tupOk g2 (t1.free n2) (t4 _ _ b23)) ⟨by omega, fun d hd => hfz d hd⟩
          · rcases List.mem_cons.mp hm with rfl | hm
            · exact q _ _ (.tuple ds) hT6 (sm3.trans (Smt.of t14)) (tupOk g3 ((t1.trans t2).free n3) (t4 _ _ b3)) ⟨by omega, fun d hd => hfz d hd⟩
            · cases hm
  rintro σ' H' ⟨rfl, rfl⟩
  -- if course < 8
  refine ⟨_, rfl, _, _, rfl, rfl, _, rfl, if_b (fun c1 => ?_) (fun c1 => ?_)⟩
  · have c1 : r < 8 := of_decide_eq_true c1
    refine ⟨_, rfl, t, l, 12, rfl, hT1, by decide, by decide, fun z1 H2 _ _ hT2 s2 => ⟨_, _, rfl, rfl, ?_⟩⟩
    refine ⟨_, rfl, _, _, rfl, rfl, ⟨by decide, by decide, by decide⟩, t, l, (10 : Int) ^ (12 : Int).toNat, rfl, hT2, by decide, by decide, fun z2 H3 _ _ hT3 s3 => ?_⟩
    refine ⟨by show 4 ≤ sizeLine; decide, fun ls nls => ?_⟩
    have s4 : Same H3 (upd H3 ls (.lst [.int (z1 - 2), .int z2, .int 0, .int 13])) := Same.new nls
    have hix : 0 ≤ (if r - 4 > 0 then r - 4 else 0) ∧ (if r - 4 > 0 then r - 4 else 0) < 4 := by
      by_cases h : r - 4 > 0
      · rw [if_pos h]
        omega
      · rw [if_neg h]
        omega
    obtain ⟨v, hv, hm⟩ := at_in (xs := [V.int (z1 - 2), V.int z2, V.int 0, V.int 13]) hix.1 (by show _ < 4; exact hix.2)
    refine ⟨_, rfl, _, _, rfl, rfl, _, _, rfl, ls, _, _, v, rfl, rfl, SqL.of upd_same, hv, ?_⟩
    have hint : ∃ z, v = .int z := by
      rcases List.mem_cons.mp hm with rfl | hm
      · exact ⟨_, rfl⟩
      · rcases List.mem_cons.mp hm with rfl | hm
        · exact ⟨_, rfl⟩
        · rcases List.mem_cons.mp hm with rfl | hm
          · exact ⟨_, rfl⟩
          · rcases List.mem_cons.mp hm with rfl | hm
            · exact ⟨_, rfl⟩
            · cases hm
    obtain ⟨z, rfl⟩ := hint
    exact q _ _ (.int z) (hT3.same s4) (((s1.trans s2).trans s3).trans (Smt.of s4)) (.int z) True.intro
  · have c1 : ¬ r < 8 := of_decide_eq_false c1
    refine ⟨by show 7 ≤ sizeLine; decide, fun ls nls => ?_⟩
    have s2 : Same H' (upd H' ls (.lst [.str (Str.ofString ""), .str (Str.ofString " "), .str (Str.ofString "a"), .str (Str.ofString "out"), .str (Str.ofString "1"), .str (Str.ofString "A"), .str (Str.ofString "a\nb")])) := Same.new nls
    have hT2 := hT1.same s2
    have hlt : ls ≠ t := fun z => hT1.ne_none nls z.symm
    refine ⟨_, rfl, _, rfl, t, l, 7, rfl, hT2, by decide, by decide, fun z1 H3 z0 z7 hT3 s3 => ?_⟩
    obtain ⟨v, hv, hm⟩ := at_in (xs := [V.str (Str.ofString ""), V.str (Str.ofString " "), V.str (Str.ofString "a"), V.str (Str.ofString "out"), V.str (Str.ofString "1"), V.str (Str.ofString "A"), V.str (Str.ofString "a\nb")]) z0 (by show z1 < 7; exact z7)
    refine ⟨ls, _, _, v, rfl, rfl, SqL.of (s3 _ _ upd_same hlt), hv, ?_⟩
    have hstr : ∃ x : Str, v = .str x ∧ x.length ≤ 8 := by
      rcases List.mem_cons.mp hm with rfl | hm
      · exact ⟨_, rfl, by decide⟩
      · rcases List.mem_cons.mp hm with rfl | hm
        · exact ⟨_, rfl, by decide⟩
        · rcases List.mem_cons.mp hm with rfl | hm
          · exact ⟨_, rfl, by decide⟩
          · rcases List.mem_cons.mp hm with rfl | hm
            · exact ⟨_, rfl, by decide⟩
            · rcases List.mem_cons.mp hm with rfl | hm
              · exact ⟨_, rfl, by decide⟩
              · rcases List.mem_cons.mp hm with rfl | hm
                · exact ⟨_, rfl, by decide⟩
                · rcases List.mem_cons.mp hm with rfl | hm
                  · exact ⟨_, rfl, by decide⟩
                  · cases hm
    obtain ⟨x, rfl, hx⟩ := hstr
    refine ⟨by show 2 ≤ sizeLine; decide, fun tp ntp => ⟨by show 5 ≤ sizeLine; decide, fun l2 nl2 => ?_⟩⟩
    have s4 : Same H3 (upd H3 tp (.tup [.int 1, .int 2])) := Same.new ntp
    have htB : ¬B tp := by
      have hBk3 : Bk B H3 := ((hBk1.same s2).smt s3 hT3)
      exact hBk3.fresh ntp
    have s5 : Same (upd H3 tp (.tup [.int 1, .int 2])) (upd (upd H3 tp (.tup [.int 1, .int 2])) l2 (.lst [.bl true, .bl false, .non, .str x, .ref tp])) := Same.new nl2
    obtain ⟨v2, hv2, hm2⟩ := at_in (xs := [V.bl true, V.bl false, V.non, V.str x, V.ref tp]) (i := r - 8) (by omega) (by show r - 8 < 5; omega)
    have s15 := ((s1.trans (Smt.of s2)).trans s3).trans (Smt.of (s4.trans s5))
    have hT5 := hT3.same (s4.trans s5)
    refine ⟨_, rfl, _, _, rfl, rfl, l2, _, _, v2, rfl, rfl, SqL.of upd_same, hv2, ?_⟩
    rcases List.mem_cons.mp hm2 with rfl | hm2
    · exact q _ _ (.bool true) hT5 s15 (.bl true) True.intro
    · rcases List.mem_cons.mp hm2 with rfl | hm2
      · exact q _ _ (.bool false) hT5 s15 (.bl false) True.intro
      · rcases List.mem_cons.mp hm2 with rfl | hm2
        · exact q _ _ .none hT5 s15 .non True.intro
        · rcases List.mem_cons.mp hm2 with rfl | hm2
          · exact q _ _ (.str x) hT5 s15 (.str x) hx
          · rcases List.mem_cons.mp hm2 with rfl | hm2
            · exact q _ _ (.tuple [.int 1, .int 2]) hT5 s15 (.tup (SqT.of (hid_get (s5 _ _ upd_same) htB)) (.cons (.int 1) (.cons (.int 2) .nil))) (fz_pair (by decide) 1 2)
            · cases hm2
theorem ok__law_any (T : Bl mg) {f__law_any : Addr} {fd__law_any : FuncData} (D__law_any : FnAt K mg "_law_any" "_law_any" s__law_any ["tape", "deep"] f__law_any fd__law_any) {f__law_draw : Addr} {fd__law_draw : FuncData} (D__law_draw : FnAt K mg "_law_draw" "_law_draw" s__law_draw ["tape", "many"] f__law_draw fd__law_draw) : ∀ n, FnOk P w K mg base CX0 (n + 1) f__law_any fd__law_any ["tape", "deep"] (spAny K n)
  | 0 => any_none
  | n + 1 => any_step T D__law_any D__law_draw (ok__law_any T D__law_any D__law_draw n)
/-! def _law_spoilt -/
abbrev s__law_spoilt : Stmt := topS 12
theorem sc__law_spoilt : FnScope ["tape", "item", "k", "rest", "course", "at"] ["tape", "item"] (defScope s__law_spoilt) := ⟨rfl, rfl, rfl, by decide +kernel, rfl, by decide +kernel, by decide +kernel⟩
/-- data spoilt at a drawn place -/
def spSpoilt (K : PySem.W.Frag) (n : Nat) : Sp := fun vs H Q _ => ∃ (t l : Addr) (v : V) (d : PyData) (B : Addr → Prop) (m : Nat), vs = [.ref t, v] ∧ TapeAt H t l ∧ B t ∧ Bk B H ∧ Dp K (hid B H) v d ∧ Fz m n d ∧ m ≤ 900 ∧ ∀ H' w e, TapeAt H' t l → Smt t H H' → Dp K (hid B H') w e → Fz (m + 8) (n + 3) e → Q w H'
theorem spoilt_none {f : Addr} {fd : FuncData} : FnOk P w K mg base CX0 4 f fd ["tape", "item"] (spSpoilt K 0) := by
  have no : ∀ vs H Q E, ¬ spSpoilt K 0 vs H Q E := fun vs H Q E h => by
    obtain ⟨t, l, v, d, B, m, _, _, _, _, _, h0, _⟩ := h
    exact h0.elim
  exact ⟨fun vs H Q E h => absurd h (no vs H Q E), fun A outer s H args us vs Q E _ _ _ _ h => absurd h (no vs H Q E)⟩
theorem spoilt_step {n : Nat} (T : Bl mg) {f__law_spoilt : Addr} {fd__law_spoilt : FuncData} (D__law_spoilt : FnAt K mg "_law_spoilt" "_law_spoilt" s__law_spoilt ["tape", "item"] f__law_spoilt fd__law_spoilt) {f__law_draw : Addr} {fd__law_draw : FuncData} (D__law_draw : FnAt K mg "_law_draw" "_law_draw" s__law_draw ["tape", "many"] f__law_draw fd__law_draw) {f__law_any : Addr} {fd__law_any : FuncData} (D__law_any : FnAt K mg "_law_any" "_law_any" s__law_any ["tape", "deep"] f__law_any fd__law_any) {f__law_whole : Addr} {fd__law_whole : FuncData} (D__law_whole : FnAt K mg "_law_whole" "_law_whole" s__law_whole ["item"] f__law_whole fd__law_whole) (G__law_spoilt : FnOk P w K mg base CX0 (n + 4) f__law_spoilt fd__law_spoilt ["tape", "item"] (spSpoilt K n)) : FnOk P w K mg base CX0 (n + 5) f__law_spoilt fd__law_spoilt ["tape", "item"] (spSpoilt K (n + 1)) := by
  have G__law_draw : FnOk P w K mg base CX0 (n + 4) f__law_draw fd__law_draw _ spDraw := (ok__law_draw T D__law_draw.F).mono (by omega)
  have G__law_any : FnOk P w K mg base CX0 (n + 4) f__law_any fd__law_any _ (spAny K 3) := (ok__law_any T D__law_any D__law_draw 3).mono (by omega)
  have G__law_whole : FnOk P w K mg base CX0 (n + 4) f__law_whole fd__law_whole _ (spWhole K) := (ok__law_whole T D__law_whole.F).mono (by omega)
  refine D__law_spoilt.F.ok sc__law_spoilt (fun vs H Q E h => ?_) (fun cdv A outer s H vs Q E hr h => ?_)
  · obtain ⟨t, l, v, d, B, m, rfl, _⟩ := h
    rfl
  obtain ⟨t, l, v, d, B, m, rfl, hT, hBt, hBk, hv, hfz, hm9, q⟩ := h
  refine ⟨_, (C8.pss_cut (ps_if (PW.pt (pw_and (pt_val (pe_callB (isiTK K) rfl T.isinstance (by decide +kernel) (pa_cons (pv 1) (pa_cons (pe_tup (pa_cons (pe_bltn (v := .ty "tuple") (u := .type "tuple") rfl T.tuple (by decide +kernel) rfl) (pa_cons (pe_bltn (v := .ty "list") (u := .type "list") rfl T.list (by decide +kernel) rfl) pa_nil))) pa_nil)))) (pw_and (pt_cmpR op_gt (pe_callB (lenA K) rfl T.len (by decide +kernel) (pa_cons (pv 1) pa_nil)) pe_int (nomark _)) (pw_and1 (pt_cmpR op_gt (pe_call G__law_draw hr rfl D__law_draw.g D__law_draw.F.kp D__law_draw.b .nil pass0 (pa_cons (pv 0) (pa_cons pe_int pa_nil))) pe_int (nomark _)))))) (pss_cons (ps_set (i := 2) sc__law_spoilt.nd rfl (.inl rfl) (pe_call G__law_draw hr rfl D__law_draw.g D__law_draw.F.kp D__law_draw.b .nil pass0 (pa_cons (pv 0) (pa_cons (pe_callB (lenA K) rfl T.len (by decide +kernel) (pa_cons (pv 1) pa_nil)) pa_nil))))
  (pss_cons (ps_set (i := 3) sc__law_spoilt.nd rfl (.inl rfl) (pe_callTy (listK K) rfl T.list (by decide +kernel) (pa_cons (pv 1) pa_nil)))
  (pss_cons (ps_set (i := 4) sc__law_spoilt.nd rfl (.inl rfl) (pe_call G__law_draw hr rfl D__law_draw.g D__law_draw.F.kp D__law_draw.b .nil pass0 (pa_cons (pv 0) (pa_cons pe_int pa_nil))))
  (C8.pss_cut (ps_if (pt_cmpR op_lt (pv 4) pe_int (nomark _)) (pss_one (ps_asg (pe_call G__law_spoilt hr rfl D__law_spoilt.g D__law_spoilt.F.kp D__law_spoilt.b .nil pass0 (pa_cons (pv 0) (pa_cons (pe_ix (ixL K) (pv 3) (pv 2) (fun _ _ => rfl)) pa_nil))) (pg_sub (pv 3) (pv 2) set_list))) (pss_one (ps_if (pt_cmpR op_eq (pv 4) pe_int (nomark _)) (pss_one (ps_expr (pe_bm PySem.F.plainAttrs_list PySem.F.slot_list_pop PySem.F.type_list_pop mt_popAt (pv 3) (pa_cons (pv 2) pa_nil)))) (pss_one (ps_if (pt_cmpR op_eq (pv 4) pe_int (nomark _)) (pss_one (ps_expr (pe_bm PySem.F.plainAttrs_list PySem.F.slot_list_insert PySem.F.type_list_insert mt_insert (pv 3) (pa_cons (pv 2) (pa_cons (pe_ix (ixL K) (pv 3) (pe_call G__law_draw hr rfl D__law_draw.g D__law_draw.F.kp D__law_draw.b .nil pass0 (pa_cons (pv 0) (pa_cons (pe_callB (lenK K) rfl T.len (by decide +kernel) (pa_cons (pv 3) pa_nil)) pa_nil))) (fun _ _ => rfl)) pa_nil))))) (pss_one (ps_if (pt_cmpR op_eq (pv 4) pe_int (nomark _)) (pss_one (ps_set (i := 3) sc__law_spoilt.nd rfl (.inl rfl) (pe_revK K (pv 3)))) (pss_one (ps_expr (pe_bm PySem.F.plainAttrs_list PySem.F.slot_list_insert PySem.F.type_list_insert mt_insert (pv 3) (pa_cons (pv 2) (pa_cons (pe_call G__law_any hr rfl D__law_any.g D__law_any.F.kp D__law_any.b .nil pass0 (pa_cons (pv 0) (pa_cons pe_int pa_nil))) pa_nil))))))))))))
  (pss_one (ps_ret (pe_ifExp (pt_val (pe_callB (isiK K) rfl T.isinstance (by decide +kernel) (pa_cons (pv 1) (pa_cons (pe_bltn (v := .ty "tuple") (u := .type "tuple") rfl T.tuple (by decide +kernel) rfl) pa_nil)))) (pe_callTy (tupleK K) rfl T.tuple (by decide +kernel) (pa_cons (pv 3) pa_nil)) (pv 3)))))))) pss_nil)
  (C8.pss_cut (ps_if (PW.pt (pw_and (pt_val (pe_call G__law_whole hr rfl D__law_whole.g D__law_whole.F.kp D__law_whole.b .nil pass0 (pa_cons (pv 1) pa_nil))) (pw_and1 (pt_cmpR op_gt (pe_call G__law_draw hr rfl D__law_draw.g D__law_draw.F.kp D__law_draw.b .nil pass0 (pa_cons (pv 0) (pa_cons pe_int pa_nil))) pe_int (nomark _))))) (pss_one (ps_ret (pe_op op_add (pv 1) (pe_ix (ixL K) (pe_lst (pa_cons pe_int (pa_cons (pe_un un_neg pe_int) (pa_cons pe_int (pa_cons (pe_un un_neg pe_int) (pa_cons pe_int (pa_cons pe_int pa_nil))))))) (pe_call G__law_draw hr rfl D__law_draw.g D__law_draw.F.kp D__law_draw.b .nil pass0 (pa_cons (pv 0) (pa_cons pe_int pa_nil))) (fun _ _ => rfl))))) pss_nil)
  (C8.pss_cut (ps_if (PW.pt (pw_and (pt_val (pe_callB (isiK K) rfl T.isinstance (by decide +kernel) (pa_cons (pv 1) (pa_cons (pe_bltn (v := .ty "str") (u := .type "str") rfl T.str (by decide +kernel) rfl) pa_nil)))) (pw_and1 (pt_cmpR op_gt (pe_call G__law_draw hr rfl D__law_draw.g D__law_draw.F.kp D__law_draw.b .nil pass0 (pa_cons (pv 0) (pa_cons pe_int pa_nil))) pe_int (nomark _))))) (pss_cons (ps_set (i := 5) sc__law_spoilt.nd rfl (.inl rfl) (pe_call G__law_draw hr rfl D__law_draw.g D__law_draw.F.kp D__law_draw.b .nil pass0 (pa_cons (pv 0) (pa_cons (pe_op op_add (pe_callB (lenA K) rfl T.len (by decide +kernel) (pa_cons (pv 1) pa_nil)) pe_int) pa_nil))))
  (pss_one (ps_ret (pe_op op_add_str (pe_op op_add_str (pe_slice C8.sl_txt (pv 1) po_none (po_some (pv 5))) (pe_ix (ixL K) (pe_lst (pa_cons pe_str (pa_cons pe_str (pa_cons pe_str (pa_cons pe_str (pa_cons pe_str (pa_cons pe_str pa_nil))))))) (pe_call G__law_draw hr rfl D__law_draw.g D__law_draw.F.kp D__law_draw.b .nil pass0 (pa_cons (pv 0) (pa_cons pe_int pa_nil))) (fun _ _ => rfl))) (pe_slice C8.sl_txt (pv 1) (po_some (pv 5)) po_none))))) pss_nil)
  (C8.pss_cut (ps_if (PW.pt (pw_and (pt_val (pe_callB (isiTK K) rfl T.isinstance (by decide +kernel) (pa_cons (pv 1) (pa_cons (pe_tup (pa_cons (pe_bltn (v := .ty "tuple") (u := .type "tuple") rfl T.tuple (by decide +kernel) rfl) (pa_cons (pe_bltn (v := .ty "list") (u := .type "list") rfl T.list (by decide +kernel) rfl) pa_nil))) pa_nil)))) (pw_and1 (pt_cmpR op_eq (pe_call G__law_draw hr rfl D__law_draw.g D__law_draw.F.kp D__law_draw.b .nil pass0 (pa_cons (pv 0) (pa_cons pe_int pa_nil))) pe_int (nomark _))))) (pss_one (ps_ret (pe_ifExp (pt_val (pe_callB (isiK K) rfl T.isinstance (by decide +kernel) (pa_cons (pv 1) (pa_cons (pe_bltn (v := .ty "tuple") (u := .type "tuple") rfl T.tuple (by decide +kernel) rfl) pa_nil)))) (pe_callTy (listK K) rfl T.list (by decide +kernel) (pa_cons (pv 1) pa_nil)) (pe_callTy (tupleK K) rfl T.tuple (by decide +kernel) (pa_cons (pv 1) pa_nil))))) pss_nil)
  (pss_one (ps_ret (pe_call G__law_any hr rfl D__law_any.g D__law_any.F.kp D__law_any.b .nil pass0 (pa_cons (pv 0) (pa_cons pe_int pa_nil))))))))), ?_⟩
  -- if isinstance(item, (tuple, list)) and len(item) > 0 and _law_draw(tape, 7) > 0
  refine ⟨fun σ' H' => σ' = [some (.ref t), some v, none, none, none, none] ∧ TapeAt H' t l ∧ Smt t H H', ?_, ?_⟩
  · refine ⟨_, rfl, by show 2 ≤ sizeLine; decide, fun tp ntp => ?_⟩
    have s1 : Same H (upd H tp (.tup [.ty "tuple", .ty "list"])) := Same.new ntp
    have hv1 := hv.same (hid_s (B := B) s1)
    have hT1 := hT.same s1
    refine ⟨v, tp, _, _, _, _, rfl, upd_same, .cons (.ty "tuple") (.cons (.ty "list") .nil), dp_ty (hv1.same hid_le), kit_tl d, _, rfl, if_b (fun hq => ?_) (fun _ => if_f rfl ⟨rfl, hT1, Smt.of s1⟩)⟩
    generalize upd H tp (.tup [.ty "tuple", .ty "list"]) = H1 at s1 hv1 hT1
    obtain ⟨tp1, p, xs, ds, rfl, hS, ha, rfl⟩ := seq_get hv1 hq
    obtain ⟨hdl, hdf⟩ := seqD_fz.mp hfz
    have hxl := dpall_len ha
    have hS1 : SqB K tp1 H1 p xs := hid_le.sqb hS
    have hBk1 := hBk.same s1
    refine ⟨_, rfl, .ref p, xs.length, rfl, lenV_b hS1, _, _, rfl, rfl, _, rfl, if_b (fun c1 => ?_) (fun _ => if_f rfl ⟨rfl, hT1, Smt.of s1⟩)⟩
    have c1 : ((xs.length : Nat) : Int) > 0 := of_decide_eq_true c1
    refine ⟨_, rfl, t, l, 7, rfl, hT1, by decide, by decide, fun r2 H2 _ _ hT2 s2 => ⟨_, _, rfl, rfl, _, rfl, if_b (fun _ => ?_) (fun _ => ⟨rfl, hT2, (Smt.of s1).trans s2⟩)⟩⟩
    have hS2 := (hid_smt s2 hBt).sqb hS
    have ha2 := DpAll.same (hid_smt s2 hBt) ha
    have hBk2 := hBk1.smt s2 hT2
    -- k = _law_draw(tape, len(item))
    refine ⟨_, rfl, _, rfl, .ref p, xs.length, rfl, lenV_b (hid_le.sqb hS2), t, l, xs.length, rfl, hT2, by omega, by omega, fun k H3 k0 k1 hT3 s3 => ?_⟩
    obtain ⟨j, rfl⟩ := Int.eq_ofNat_of_zero_le k0
    have hj : j < xs.length := by omega
    have hjd : j < ds.length := by omega
    have hn1 : 1 ≤ n := by
      cases n with
      | zero => exact (hdf ds[j] (List.getElem_mem hjd)).elim
      | succ n => omega
    have hS3 := (hid_smt s3 hBt).sqb hS2
    have ha3 := DpAll.same (hid_smt s3 hBt) ha2
    have hBk3 := hBk2.smt s3 hT3
    -- rest = list(item)
    refine ⟨_, rfl, p, xs, rfl, sqb_or (hid_le.sqb hS3), fun r nr => ?_⟩
    have s4 : Same H3 (upd H3 r (.lst xs)) := Same.new nr
    have hrt : r ≠ t := fun z => hT3.ne_none nr z.symm
    have hrl : r ≠ l := fun z => hT3.ne_none2 nr z.symm
    have hrB : ¬B r := hBk3.fresh nr
    have hT4 := hT3.same s4
    have hr4 : (upd H3 r (.lst xs)) r = some (.lst xs) := upd_same
    -- course = _law_draw(tape, 12)
    refine ⟨_, rfl, t, l, 12, rfl, hT4, by decide, by decide, fun cr H5 _ _ hT5 s5 => ?_⟩
    have hr5 := s5 _ _ hr4 hrt
    have s35 : Smt t H3 H5 := (Smt.of s4).trans s5
    have ha5 : DpAll K (hid (addB B r) H5) xs ds := DpAll.same (hid_add s35 hBt nr) ha3
    have hBk5 : Bk (addB B r) H5 := (hBk3.smt s35 hT5).add hr5
    have s05 : Smt t H H5 := (((Smt.of s1).trans s2).trans s3).trans s35
    have hS5 := (hid_smt s35 hBt).sqb hS3
    have s0r : H r = none := by
      refine (((Smt.of s1).trans s2).trans s3).free nr hrt
    have fz1 : ∀ e ∈ ds, Fz (m + 8) (n + 3) e := fun e he => (hdf e he).mono (by omega) (by omega)
    -- the course
    refine ⟨fun σ' H' => ∃ (r' : Addr) (ws : List V) (es : List PyData), σ' = [some (.ref t), some (.ref p), some (.int (j : Nat)), some (.ref r'), some (.int cr), none] ∧ TapeAt H' t l ∧ Smt t H H' ∧ ¬B r' ∧ H' r' = some (.lst ws) ∧ DpAll K (hid B H') ws es ∧ es.length ≤ m + 8 ∧ (∀ e ∈ es, Fz (m + 8) (n + 3) e) ∧ Smt t H3 H' ∧ Bk B H', ?_, ?_⟩
    · have hBkB5 : Bk B H5 := hBk3.smt s35 hT5
      refine ⟨_, rfl, _, _, rfl, rfl, _, rfl, if_b (fun _ => ?_) (fun _ => ?_)⟩
      · -- rest[k] = _law_spoilt(tape, rest[k])
        have hat : atI xs ((j : Nat) : Int) = some xs[j] := atI_nat (List.getElem?_eq_getElem hj)
        obtain ⟨dj, hdj, hvj⟩ := dpall_get1 ha5 (List.getElem?_eq_getElem hj)
        refine ⟨_, rfl, _, rfl, _, rfl, r, _, _, _, rfl, rfl, SqL.of hr5, hat, t, l, xs[j], dj, addB B r, m, rfl, hT5, .inl hBt, hBk5, hvj, hdf dj (List.mem_of_getElem? hdj), hm9, fun H6 w e hT6 s6 hw hf => ?_⟩
        have hr6 := s6 _ _ hr5 hrt
        refine ⟨_, rfl, _, rfl, r, xs, _, j, rfl, rfl, hr6, ix_nat hj, ?_⟩
        have sm : Smt t H3 (upd H6 r (.lst (xs.set j w))) := (s35.trans s6).new nr
        have hmu : Same (hid (addB B r) H6) (hid (addB B r) (upd H6 r (.lst (xs.set j w)))) := hid_mut (.inr rfl)
        refine ⟨r, xs.set j w, ds.set j e, rfl, hT6.but Smt.upd hrt.symm hrl.symm, (s05.trans s6).new s0r, hrB, upd_same, ?_, by rw [List.length_set]; omega, fun z hz => ?_, sm, (hBkB5.smt s6 hT6).upd⟩
        · exact DpAll.same (hmu.trans hid_drop) (dpall_set hw j (DpAll.same (hid_smt s6 (.inl hBt)) ha5))
        · rcases List.mem_or_eq_of_mem_set hz with h | h
          · exact fz1 z h
          · rw [h]
            exact hf
      refine ⟨_, rfl, rfl, _, rfl, if_b (fun _ => ?_) (fun _ => ?_)⟩
      · -- rest.pop(k)
        refine ⟨_, rfl, .inl ⟨rfl, _, SqL.of hr5⟩, _, rfl, r, xs, _, j, xs[j], rfl, rfl, hr5, by omega, by omega, ?_, List.getElem?_eq_getElem hj, ?_⟩
        · rw [seqIndex_of (by omega) (by omega)]
          rfl
        have hmu : Same (hid (addB B r) H5) (hid (addB B r) (upd H5 r (.lst (xs.eraseIdx j)))) := hid_mut (.inr rfl)
        refine ⟨r, xs.eraseIdx j, ds.eraseIdx j, rfl, hT5.but Smt.upd hrt.symm hrl.symm, s05.new s0r, hrB, upd_same, DpAll.same (hmu.trans hid_drop) (dpall_erase j ha5), ?_, fun z hz => fz1 z (List.mem_of_mem_eraseIdx hz), s35.new nr, hBkB5.upd⟩
        have := List.length_eraseIdx_le ds j
        omega
      refine ⟨_, rfl, rfl, _, rfl, if_b (fun _ => ?_) (fun _ => ?_)⟩
      · -- rest.insert(k, rest[_law_draw(tape, len(rest))])
        refine ⟨_, rfl, .inl ⟨rfl, _, SqL.of hr5⟩, _, rfl, _, rfl, _, rfl, _, rfl, r, xs, rfl, .inl (SqL.of hr5), t, l, xs.length, rfl, hT5, by omega, by omega, fun i H6 i0 i1 hT6 s6 => ?_⟩
        obtain ⟨i, rfl⟩ := Int.eq_ofNat_of_zero_le i0
        have hi : i < xs.length := by omega
        have hr6 := s6 _ _ hr5 hrt
        have ha6 : DpAll K (hid (addB B r) H6) xs ds := DpAll.same (hid_smt s6 (.inl hBt)) ha5
        obtain ⟨di', hdi, hvi⟩ := dpall_get1 ha6 (List.getElem?_eq_getElem hi)
        refine ⟨r, xs, _, xs[i], rfl, rfl, SqL.of hr6, atI_nat (List.getElem?_eq_getElem hi), r, xs, _, xs[i], rfl, rfl, hr6, small1000 (by omega), by omega, by omega, ?_⟩
        rw [Int.toNat_natCast]
        have hmu : Same (hid (addB B r) H6) (hid (addB B r) (upd H6 r (.lst (xs.take j ++ [xs[i]] ++ xs.drop j)))) := hid_mut (.inr rfl)
        refine ⟨r, xs.take j ++ [xs[i]] ++ xs.drop j, ds.take j ++ [di'] ++ ds.drop j, rfl, hT6.but Smt.upd hrt.symm hrl.symm, (s05.trans s6).new s0r, hrB, upd_same, DpAll.same (hmu.trans hid_drop) (dpall_app (dpall_app (dpall_take j ha6) (.cons hvi .nil)) (dpall_drop j ha6)), ?_, fun z hz => ?_, (s35.trans s6).new nr, (hBkB5.smt s6 hT6).upd⟩
        · rw [List.length_append, List.length_append, List.length_take, List.length_drop]
          show _ + 1 + _ ≤ _
          omega
        · rcases List.mem_append.mp hz with hz | hz
          · rcases List.mem_append.mp hz with hz | hz
            · exact fz1 z (List.mem_of_mem_take hz)
            · rw [List.mem_singleton.mp hz]
              exact fz1 di' (List.mem_of_getElem? hdi)
          · exact fz1 z (List.mem_of_mem_drop hz)
      refine ⟨_, rfl, rfl, _, rfl, if_b (fun _ => ?_) (fun _ => ?_)⟩
      · -- rest = rest[::-1]
        refine ⟨_, rfl, r, xs, rfl, SqL.of hr5, fun r2 nr2 => ?_⟩
        have s6 : Same H5 (upd H5 r2 (.lst xs.reverse)) := Same.new nr2
        have hr2B : ¬B r2 := hBkB5.fresh nr2
        exact ⟨r2, xs.reverse, ds.reverse, rfl, hT5.same s6, s05.trans (Smt.of s6), hr2B, upd_same, DpAll.same (hid_drop.trans (hid_s s6)) (dpall_rev ha5), by rw [List.length_reverse]; omega, (fun z hz => fz1 z (List.mem_reverse.mp hz)), s35.trans (Smt.of s6), hBkB5.same s6⟩
      · -- rest.insert(k, _law_any(tape, 1))
        refine ⟨_, rfl, .inl ⟨rfl, _, SqL.of hr5⟩, _, rfl, _, rfl, t, l, 1, addB B r, rfl, hT5, .inl hBt, hBk5, by decide, by decide, fun H6 w e hT6 s6 hw hf => ?_⟩
        have hr6 := s6 _ _ hr5 hrt
        have ha6 : DpAll K (hid (addB B r) H6) xs ds := DpAll.same (hid_smt s6 (.inl hBt)) ha5
        refine ⟨r, xs, _, w, rfl, rfl, hr6, small1000 (by omega), by omega, by omega, ?_⟩
        rw [Int.toNat_natCast]
        have hmu : Same (hid (addB B r) H6) (hid (addB B r) (upd H6 r (.lst (xs.take j ++ [w] ++ xs.drop j)))) := hid_mut (.inr rfl)
        refine ⟨r, xs.take j ++ [w] ++ xs.drop j, ds.take j ++ [e] ++ ds.drop j, rfl, hT6.but Smt.upd hrt.symm hrl.symm, (s05.trans s6).new s0r, hrB, upd_same, DpAll.same (hmu.trans hid_drop) (dpall_app (dpall_app (dpall_take j ha6) (.cons hw .nil)) (dpall_drop j ha6)), ?_, fun z hz => ?_, (s35.trans s6).new nr, (hBkB5.smt s6 hT6).upd⟩
        · rw [List.length_append, List.length_append, List.length_take, List.length_drop]
          show _ + 1 + _ ≤ _
          omega
        · rcases List.mem_append.mp hz with hz | hz
          · rcases List.mem_append.mp hz with hz | hz
            · exact fz1 z (List.mem_of_mem_take hz)
            · rw [List.mem_singleton.mp hz]
              exact hf.mono (by omega) (by omega)
          · exact fz1 z (List.mem_of_mem_drop hz)
    rintro σ' H6 ⟨r', ws, es, rfl, hT6, s06, hr'B, hr', hes, hel, hef, s36, hBk6⟩
    have hS6 := hid_le.sqb ((hid_smt s36 hBt).sqb hS3)
    have hd6 : Dp K H6 (.ref p) (seqD tp1 ds) := seqD_dp hS6 (DpAll.same hid_le (DpAll.same (hid_smt s36 hBt) ha3))
    refine ⟨_, rfl, .ref p, _, _, _, _, rfl, .ty _, dp_ty hd6, kit_d _ (by simp), _, rfl, if_b (fun _ => ?_) (fun _ => ?_)⟩
    · refine ⟨_, rfl, r', ws, rfl, .inl ⟨SqL.of hr', fun g ng => ?_⟩⟩
      have s7 : Same H6 (upd H6 g (.tup ws)) := Same.new ng
      exact q _ _ (.tuple es) (hT6.same s7) (s06.trans (Smt.of s7)) (.tup (SqT.of (hid_get upd_same (hBk6.fresh ng))) (DpAll.same (hid_s s7) hes)) ⟨hel, hef⟩
    · exact ⟨_, rfl, q _ _ (.list es) hT6 s06 (.lst (SqL.of (hid_get hr' hr'B)) hes) ⟨hel, hef⟩⟩
  rintro σ' H1 ⟨rfl, hT1, s1⟩
  have hv1 := hv.same (hid_smt s1 hBt)
  have hBk1 := hBk.smt s1 hT1
  -- if _law_whole(item) and _law_draw(tape, 6) > 0
  refine ⟨fun σ' H' => σ' = [some (.ref t), some v, none, none, none, none] ∧ TapeAt H' t l ∧ Smt t H H', ?_, ?_⟩
  · refine ⟨_, rfl, v, d, rfl, hv1.same hid_le, _, rfl, if_b (fun c => ?_) (fun _ => if_f rfl ⟨rfl, hT1, s1⟩)⟩
    have c1 : dis "int" d = true := by cases h : dis "int" d <;> simp_all
    have c2 : dis "bool" d = false := by cases h : dis "bool" d <;> simp_all
    obtain ⟨i, rfl⟩ := is_int c1 c2
    cases dp_int hv1
    refine ⟨_, rfl, t, l, 6, rfl, hT1, by decide, by decide, fun r2 H2 _ _ hT2 s2 => ⟨_, _, rfl, rfl, _, rfl, if_b (fun _ => ?_) (fun _ => ⟨rfl, hT2, s1.trans s2⟩)⟩⟩
    refine ⟨_, rfl, _, rfl, _, rfl, by show 6 ≤ sizeLine; decide, fun ls nls => ?_⟩
    have s3 : Same H2 (upd H2 ls (.lst (vi [1, -1, 2, -2, 9, 1000]))) := Same.new nls
    have hlt : ls ≠ t := fun z => hT2.ne_none nls z.symm
    refine ⟨_, rfl, t, l, 6, rfl, hT2.same s3, by decide, by decide, fun z H4 z0 z1 hT4 s4 => ?_⟩
    obtain ⟨zn, rfl⟩ := Int.eq_ofNat_of_zero_le z0
    have hzn : zn < [(1 : Int), -1, 2, -2, 9, 1000].length := by show zn < 6; omega
    refine ⟨ls, _, _, _, rfl, rfl, SqL.of (s4 _ _ upd_same hlt), atI_nat (vi_at hzn), _, _, rfl, rfl, ?_⟩
    exact q _ _ (.int _) hT4 ((s1.trans s2).trans ((Smt.of s3).trans s4)) (.int _) True.intro
  rintro σ' H2 ⟨rfl, hT2, s2⟩
  have hv2 := hv.same (hid_smt s2 hBt)
  have hBk2 := hBk.smt s2 hT2
  -- if isinstance(item, str) and _law_draw(tape, 3) > 0
  refine ⟨fun σ' H' => σ' = [some (.ref t), some v, none, none, none, none] ∧ TapeAt H' t l ∧ Smt t H H', ?_, ?_⟩
  · refine ⟨_, rfl, v, _, _, _, _, rfl, .ty _, dp_ty (hv2.same hid_le), kit_d d (by simp), _, rfl, if_b (fun c => ?_) (fun _ => if_f rfl ⟨rfl, hT2, s2⟩)⟩
    obtain ⟨x, rfl⟩ := is_str c
    cases dp_str hv2
    have hxm : x.length ≤ m := hfz
    have hsl : sizeLine = 16777216 := sizeLine_eq
    refine ⟨_, rfl, t, l, 3, rfl, hT2, by decide, by decide, fun r2 H3 _ _ hT3 s3 => ⟨_, _, rfl, rfl, _, rfl, if_b (fun _ => ?_) (fun _ => ⟨rfl, hT3, s2.trans s3⟩)⟩⟩
    refine ⟨_, rfl, _, rfl, .str x, x.length, rfl, ⟨by omega, rfl⟩, _, _, rfl, rfl, t, l, (x.length : Int) + 1, rfl, hT3, by omega, by omega, fun at' H4 a0 a1 hT4 s4 => ?_⟩
    refine ⟨_, rfl, _, rfl, _, rfl, x, rfl, by omega, by show 6 ≤ sizeLine; decide, fun ls nls => ?_⟩
    have s5 : Same H4 (upd H4 ls (.lst [.str (Str.ofString " "), .str (Str.ofString "z"), .str (Str.ofString "A"), .str (Str.ofString "|"), .str (Str.ofString "abcdefgh"), .str (Str.ofString "")])) := Same.new nls
    have hlt : ls ≠ t := fun z => hT4.ne_none nls z.symm
    refine ⟨_, rfl, t, l, 6, rfl, hT4.same s5, by decide, by decide, fun z H6 z0 z1 hT6 s6 => ?_⟩
    obtain ⟨w, hw, hm⟩ := at_in (xs := [V.str (Str.ofString " "), V.str (Str.ofString "z"), V.str (Str.ofString "A"), V.str (Str.ofString "|"), V.str (Str.ofString "abcdefgh"), V.str (Str.ofString "")]) z0 (by show z < 6; exact z1)
    have hstr : ∃ y : Str, w = .str y ∧ y.length ≤ 8 := by
      rcases List.mem_cons.mp hm with rfl | hm
      · exact ⟨_, rfl, by decide⟩
      · rcases List.mem_cons.mp hm with rfl | hm
        · exact ⟨_, rfl, by decide⟩
        · rcases List.mem_cons.mp hm with rfl | hm
          · exact ⟨_, rfl, by decide⟩
          · rcases List.mem_cons.mp hm with rfl | hm
            · exact ⟨_, rfl, by decide⟩
            · rcases List.mem_cons.mp hm with rfl | hm
              · exact ⟨_, rfl, by decide⟩
              · rcases List.mem_cons.mp hm with rfl | hm
                · exact ⟨_, rfl, by decide⟩
                · cases hm
    obtain ⟨y, rfl, hy⟩ := hstr
    have hb := slice_both x a0
    refine ⟨ls, _, _, _, rfl, rfl, SqL.of (s6 _ _ upd_same hlt), hw, _, _, rfl, rfl, by omega, ?_⟩
    refine ⟨_, rfl, _, rfl, _, rfl, noPart ⟨x, rfl, by omega, _, _, rfl, rfl, by rw [str_app_len]; omega, ?_⟩⟩
    refine q _ _ (.str _) hT6 (((s2.trans s3).trans s4).trans ((Smt.of s5).trans s6)) (.str _) ?_
    show (_ ++ _ ++ _ : Str).length ≤ m + 8
    rw [str_app_len, str_app_len]
    omega
  rintro σ' H3 ⟨rfl, hT3, s3⟩
  have hv3 := hv.same (hid_smt s3 hBt)
  have hBk3 := hBk.smt s3 hT3
  -- if isinstance(item, (tuple, list)) and _law_draw(tape, 2) == 0
  refine ⟨fun σ' H' => σ' = [some (.ref t), some v, none, none, none, none] ∧ TapeAt H' t l ∧ Smt t H H', ?_, ?_⟩
  · refine ⟨_, rfl, by show 2 ≤ sizeLine; decide, fun tp ntp => ?_⟩
    have s4 : Same H3 (upd H3 tp (.tup [.ty "tuple", .ty "list"])) := Same.new ntp
    have hv4 := hv3.same (hid_s (B := B) s4)
    have hT4 := hT3.same s4
    refine ⟨v, tp, _, _, _, _, rfl, upd_same, .cons (.ty "tuple") (.cons (.ty "list") .nil), dp_ty (hv4.same hid_le), kit_tl d, _, rfl, if_b (fun hq => ?_) (fun _ => if_f rfl ⟨rfl, hT4, s3.trans (Smt.of s4)⟩)⟩
    have hBk4 := hBk3.same s4
    generalize upd H3 tp (.tup [.ty "tuple", .ty "list"]) = H4 at s4 hv4 hT4 hBk4
    obtain ⟨tp1, p, xs, ds, rfl, hS, ha, rfl⟩ := seq_get hv4 hq
    obtain ⟨hdl, hdf⟩ := seqD_fz.mp hfz
    refine ⟨_, rfl, t, l, 2, rfl, hT4, by decide, by decide, fun r2 H5 _ _ hT5 s5 => ⟨rfl, _, rfl, if_b (fun _ => ?_) (fun _ => ⟨rfl, hT5, (s3.trans (Smt.of s4)).trans s5⟩)⟩⟩
    have hS5 := (hid_smt s5 hBt).sqb hS
    have ha5 := DpAll.same (hid_smt s5 hBt) ha
    have hd5 : Dp K H5 (.ref p) (seqD tp1 ds) := seqD_dp (hid_le.sqb hS5) (DpAll.same hid_le ha5)
    have hBk5 := hBk4.smt s5 hT5
    have s05 := (s3.trans (Smt.of s4)).trans s5
    have hf : ∀ e ∈ ds, Fz (m + 8) (n + 3) e := fun e he => (hdf e he).mono (by omega) (by omega)
    refine ⟨_, rfl, .ref p, _, _, _, _, rfl, .ty _, dp_ty hd5, kit_d _ (by simp), _, rfl, if_b (fun c => ?_) (fun c => ?_)⟩
    · refine ⟨_, rfl, p, xs, rfl, sqb_or (hid_le.sqb hS5), fun g ng => ?_⟩
      have s6 : Same H5 (upd H5 g (.lst xs)) := Same.new ng
      exact q _ _ (.list ds) (hT5.same s6) (s05.trans (Smt.of s6)) (.lst (SqL.of (hid_get upd_same (hBk5.fresh ng))) (DpAll.same (hid_s s6) ha5)) ⟨by omega, hf⟩
    · rw [seqD_dis] at c
      subst c
      refine ⟨_, rfl, p, xs, rfl, .inl ⟨hid_le.seq hS5, fun g ng => ?_⟩⟩
      have s6 : Same H5 (upd H5 g (.tup xs)) := Same.new ng
      exact q _ _ (.tuple ds) (hT5.same s6) (s05.trans (Smt.of s6)) (.tup (SqT.of (hid_get upd_same (hBk5.fresh ng))) (DpAll.same (hid_s s6) ha5)) ⟨by omega, hf⟩
  rintro σ' H4 ⟨rfl, hT4, s4⟩
  -- return _law_any(tape, 2)
  exact ⟨_, rfl, t, l, 2, B, rfl, hT4, hBt, hBk.smt s4 hT4, by decide, by decide, fun H5 w e hT5 s5 hw hf => q _ _ e hT5 (s4.trans s5) hw (hf.mono (by omega) (by omega))⟩
theorem ok__law_spoilt (T : Bl mg) {f__law_spoilt : Addr} {fd__law_spoilt : FuncData} (D__law_spoilt : FnAt K mg "_law_spoilt" "_law_spoilt" s__law_spoilt ["tape", "item"] f__law_spoilt fd__law_spoilt) {f__law_draw : Addr} {fd__law_draw : FuncData} (D__law_draw : FnAt K mg "_law_draw" "_law_draw" s__law_draw ["tape", "many"] f__law_draw fd__law_draw) {f__law_any : Addr} {fd__law_any : FuncData} (D__law_any : FnAt K mg "_law_any" "_law_any" s__law_any ["tape", "deep"] f__law_any fd__law_any) {f__law_whole : Addr} {fd__law_whole : FuncData} (D__law_whole : FnAt K mg "_law_whole" "_law_whole" s__law_whole ["item"] f__law_whole fd__law_whole) : ∀ n, FnOk P w K mg base CX0 (n + 4) f__law_spoilt fd__law_spoilt ["tape", "item"] (spSpoilt K n)
  | 0 => spoilt_none
  | n + 1 => spoilt_step T D__law_spoilt D__law_draw D__law_any D__law_whole (ok__law_spoilt T D__law_spoilt D__law_draw D__law_any D__law_whole n)
/-- the same, however deep, up to N -/
def spSpoiltU (K : PySem.W.Frag) (N : Nat) : Sp := fun vs H Q E => ∃ n, n ≤ N ∧ spSpoilt K n vs H Q E
theorem spoilt_u {f : Addr} {fd : FuncData} {L N : Nat} (h : ∀ n, n ≤ N → FnOk P w K mg base CX0 L f fd ["tape", "item"] (spSpoilt K n)) : FnOk P w K mg base CX0 L f fd ["tape", "item"] (spSpoiltU K N) :=
  ⟨fun vs H Q E ⟨n, hn, g⟩ => (h n hn).1 vs H Q E g, fun A outer s H args us vs Q E a b c d ⟨n, hn, g⟩ => (h n hn).2 A outer s H args us vs Q E a b c d g⟩
/-! def _law_rises -/
abbrev s__law_rises : Stmt := topS 13
theorem sc__law_rises : FnScope ["some", "k"] ["some"] (defScope s__law_rises) := ⟨rfl, rfl, rfl, by decide +kernel, rfl, by decide +kernel, by decide +kernel⟩
def spRises (K : PySem.W.Frag) : Sp := fun vs H Q _ => ∃ (a : Addr) (l : List Int), vs = [.ref a] ∧ SqT K H a (vi l) ∧ l.length ≤ 1000 ∧ ∀ H', Same H H' → Q (.bl (cd (Rise l))) H'
theorem ok__law_rises {f : Addr} {fd : FuncData} (T : Bl mg) (F : Fun K "_law_rises" "_law_rises" s__law_rises f fd) : FnOk P w K mg base CX0 1 f fd ["some"] (spRises K) := by
  refine F.ok sc__law_rises (fun vs H Q E h => ?_) (fun cdv A outer s H vs Q E hr h => ?_)
  · obtain ⟨a, l, rfl, _⟩ := h
    rfl
  obtain ⟨a, l, rfl, hS, hl, q⟩ := h
  refine ⟨_, (pss_one (ps_ret (pe_cmpR (eqDK K hr.units) (pe_lc (own := [("k", 1)]) rfl sc__law_rises.nd (pi_range2 rfl T.range (pa_cons pe_int (pa_cons (pe_callB (lenK K) rfl T.len (by decide +kernel) (pa_cons (pv 0) pa_nil)) pa_nil))) (blkOk_by (N := ["some", "k"]) (sc := defScope s__law_rises) (own := [("k", 1)]) (by decide +kernel)) (fun _ _ _ _ _ => (pg_name (i := 1) sc__law_rises.nd rfl (.inl rfl))) (fun _ _ _ _ _ => (pts_one (pt_not (pt_cmpR op_lt (pe_ix (ixT K) (pv 0) (pe_op op_sub (pv 1) pe_int) (fun _ _ => rfl)) (pe_ix (ixT K) (pv 0) (pv 1) (fun _ _ => rfl)) (nomark _))))) (fun _ _ _ _ _ => (pv 1))) (pe_lst pa_nil) (nomark _)))), ?_⟩
  refine ⟨_, rfl, a, vi l, rfl, .inr hS, _, _, rfl, ⟨by omega, by omega, by rw [vi_len]; omega, by rw [vi_len]; omega⟩, fun D hD => ?_⟩
  have en : ((((vi l).length : Nat) : Int) - 1).toNat = l.length - 1 := by
    rw [vi_len]
    omega
  rw [en]
  refine lc_ints walk_range hD (by omega) (fun i => l[i]?.bind fun x => l[i + 1]?.bind fun y => if x < y then none else some ((1 : Int) + (i : Int))) (fun _ _ => trivial) (fun i x H1 H' kn ky hi sm y h1 h2 => ?_) (fun H1 sm e => ?_)
  · obtain ⟨rfl, rfl⟩ := y
    have hi1 : i < l.length := by omega
    have hi2 : i + 1 < l.length := by omega
    have e1 : (1 : Int) + (i : Int) - 1 = ((i : Nat) : Int) := by omega
    have e2 : (1 : Int) + (i : Int) = ((i + 1 : Nat) : Int) := by omega
    have hR : (l[i]?.bind fun x => l[i + 1]?.bind fun y => if x < y then none else some ((1 : Int) + (i : Int))) = if l[i] < l[i + 1] then none else some ((1 : Int) + (i : Int)) := by
      rw [List.getElem?_eq_getElem hi1, List.getElem?_eq_getElem hi2]
      rfl
    refine ⟨rfl, _, rfl, _, rfl, _, _, rfl, rfl, a, _, _, _, rfl, rfl, sm.sqt hS, (by rw [e1]; exact atI_nat (vi_at hi1)), _, rfl, _, rfl, a, _, _, _, rfl, rfl, sm.sqt hS, (by rw [e2]; exact atI_nat (vi_at hi2)), _, _, rfl, rfl, _, rfl, ?_⟩
    by_cases c : l[i] < l[i + 1]
    · refine if_f (by show (!decide (l[i] < l[i + 1])) = false; rw [decide_eq_true c]; rfl) (h1 _ (Same.refl _) ?_)
      rw [hR, if_pos c]
    · refine if_t (by show (!decide (l[i] < l[i + 1])) = true; rw [decide_eq_false c]; rfl) ⟨_, rfl, h2 _ _ (Same.refl _) ?_⟩
      rw [hR, if_neg c]
  · refine ⟨Nat.zero_le _, fun g ng => ?_⟩
    have s2 : Same H1 (upd H1 g (.lst [])) := Same.new ng
    refine ⟨.list (di _), .list (di []), dp_list (SqL.of (s2 _ _ e)), dp_list (SqL.of upd_same), shaped_ints _, shaped_ints _, ?_⟩
    rw [eqv_lists]
    have er : decide (((List.range (l.length - 1)).filterMap fun (i : Nat) => l[i]?.bind fun x => l[i + 1]?.bind fun y => if x < y then none else some ((1 : Int) + (i : Int))) = []) = cd (Rise l) := by
      refine cd_b ⟨fun h => ?_, fun h => decide_eq_true (List.filterMap_eq_nil_iff.mpr fun i _ => ?_)⟩
      · have h := List.filterMap_eq_nil_iff.mp (of_decide_eq_true h)
        intro i x y hx hy
        have hi := (List.getElem?_eq_some_iff.mp hy).1
        have q := h i (List.mem_range.mpr (by omega))
        rw [hx] at q
        have q : (l[i + 1]?.bind fun y => if x < y then none else some ((1 : Int) + (i : Int))) = none := q
        rw [hy] at q
        have q : (if x < y then none else some ((1 : Int) + (i : Int))) = none := q
        by_cases c : x < y
        · exact c
        · rw [if_neg c] at q
          cases q
      · cases hx : l[i]? with
        | none => rfl
        | some x =>
          cases hy : l[i + 1]? with
          | none => rfl
          | some y => exact if_pos (h i x y hx hy)
    rw [er]
    exact q _ (sm.trans s2)
/-! def _law_candles -/
abbrev s__law_candles : Stmt := topS 15
theorem sc__law_candles : FnScope ["tape", "size", "wax", "top", "k"] ["tape", "size", "wax"] (defScope s__law_candles) := ⟨rfl, rfl, rfl, by decide +kernel, rfl, by decide +kernel, by decide +kernel⟩
def CandOk (size wax : Int) (cs : List Int) : Prop := 1 ≤ cs.length ∧ (cs.length : Int) ≤ size ∧ ∀ c ∈ cs, 0 ≤ c ∧ c ≤ wax
def spLCand : Sp := fun vs H Q _ => ∃ (t a : Addr) (size wax : Int), vs = [.ref t, .int size, .int wax] ∧ TapeAt H t a ∧ 0 < size ∧ size ≤ 100 ∧ 0 < wax ∧ wax ≤ 100 ∧
  ∀ (p : Addr) (cs : List Int) (H' : Hp), CandOk size wax cs → TapeAt H' t a → Smt t H H' → H p = none → H' p = some (.tup (vi cs)) → Q (.ref p) H'
theorem ok__law_candles {f fD : Addr} {fd fdD : FuncData} (T : Bl mg) (F : Fun K "_law_candles" "_law_candles" s__law_candles f fd) (D__law_draw : FnAt K mg "_law_draw" "_law_draw" s__law_draw ["tape", "many"] fD fdD) : FnOk P w K mg base CX0 2 f fd ["tape", "size", "wax"] spLCand := by
  have G__law_draw : FnOk P w K mg base CX0 1 fD fdD ["tape", "many"] spDraw := ok__law_draw T D__law_draw.F
  refine F.ok sc__law_candles (fun vs H Q E h => ?_) (fun cdv A outer s H vs Q E hr h => ?_)
  · obtain ⟨t, a, size, wax, rfl, _⟩ := h
    rfl
  obtain ⟨t, a, size, wax, rfl, hT, hs0, hs1, hw0, hw1, q⟩ := h
  refine ⟨_, (pss_cons (ps_set (i := 3) sc__law_candles.nd rfl (.inr rfl) (pe_op op_add pe_int (pe_call G__law_draw hr rfl D__law_draw.g D__law_draw.F.kp D__law_draw.b .nil pass0 (pa_cons (pv 0) (pa_cons (pv 2) pa_nil)))))
  (pss_one (ps_ret (pe_callTy (tupleK K) rfl T.tuple (by decide +kernel) (pa_cons (pe_lc (own := [("k", 4)]) rfl sc__law_candles.nd (pi_range1 rfl T.range (pa_cons (pe_op op_add pe_int (pe_call G__law_draw hr rfl D__law_draw.g D__law_draw.F.kp D__law_draw.b .nil pass0 (pa_cons (pv 0) (pa_cons (pv 1) pa_nil)))) pa_nil)) (blkOk_by (N := ["tape", "size", "wax", "top", "k"]) (sc := defScope s__law_candles) (own := [("k", 4)]) (by decide +kernel)) (fun _ _ _ _ _ => (pg_name (i := 4) sc__law_candles.nd rfl (.inl rfl))) (fun _ _ _ _ _ => pts_nil) (fun _ _ _ _ _ => (pe_call G__law_draw hr rfl D__law_draw.g D__law_draw.F.kp D__law_draw.b .nil pass0 (pa_cons (pv 0) (pa_cons (pe_op op_add (pv 3) pe_int) pa_nil))))) pa_nil))))), ?_⟩
  refine ⟨_, rfl, _, rfl, t, a, wax, rfl, hT, hw0, by omega, fun r H1 r0 r1 hT1 s1 => ⟨_, _, rfl, rfl, ?_⟩⟩
  refine ⟨_, rfl, _, rfl, t, a, size, rfl, hT1, hs0, by omega, fun r' H2 q0 q1 hT2 s2 => ⟨_, _, rfl, rfl, _, rfl, by omega, by omega, fun D hD => ?_⟩⟩
  refine lc_tape walk_range hT2 hD (by omega) (fun i zs => zs.length = i ∧ ∀ c ∈ zs, 0 ≤ c ∧ c ≤ wax) ⟨rfl, fun c hc => nomatch hc⟩ (fun i zs h => Nat.le_of_eq h.1) (fun _ _ => trivial) (fun i x H3 H' zs kn ky hi sm hT3 hI y h1 h2 => ?_) (fun zs H3 sm hT3 e hI => ?_)
  · obtain ⟨rfl, rfl⟩ := y
    refine ⟨rfl, lc_yes ⟨_, rfl, _, rfl, _, _, rfl, rfl, t, a, 1 + r + 1, rfl, hT3, by omega, by omega, fun z H4 z0 z1 hT4 s4 => h2 z H4 s4 hT4 ⟨?_, all_snoc hI.2 ⟨z0, by omega⟩⟩⟩⟩
    rw [List.length_append, hI.1]
    rfl
  · refine ⟨D, _, rfl, .inl ⟨SqL.of e, fun l hl => ?_⟩⟩
    have hn : zs.length = (1 + r').toNat := hI.1
    have sm' := (s1.trans s2).trans sm
    have hlt : l ≠ t := fun z => hT3.ne_none hl z.symm
    exact q l zs _ ⟨by omega, by omega, hI.2⟩ (hT3.upd hl) (sm'.trans (Smt.of (Same.new hl))) (sm'.free hl hlt) upd_same
/-! def _law_draughts -/
abbrev s__law_draughts : Stmt := topS 16
theorem sc__law_draughts : FnScope ["tape", "size", "top", "wide", "k"] ["tape", "size", "top"] (defScope s__law_draughts) := ⟨rfl, rfl, rfl, by decide +kernel, rfl, by decide +kernel, by decide +kernel⟩
def DrOk (size top : Int) (ds : List Int) : Prop := (ds.length : Int) ≤ size ∧ ∀ c ∈ ds, 0 ≤ c ∧ c ≤ top
def spLDr : Sp := fun vs H Q _ => ∃ (t a : Addr) (size top : Int), vs = [.ref t, .int size, .int top] ∧ TapeAt H t a ∧ 0 ≤ size ∧ size ≤ 100 ∧ 0 ≤ top ∧ top ≤ 100 ∧
  ∀ (p : Addr) (ds : List Int) (H' : Hp), DrOk size top ds → TapeAt H' t a → Smt t H H' → H p = none → H' p = some (.tup (vi ds)) → Q (.ref p) H'
theorem ok__law_draughts {f fD : Addr} {fd fdD : FuncData} (T : Bl mg) (F : Fun K "_law_draughts" "_law_draughts" s__law_draughts f fd) (D__law_draw : FnAt K mg "_law_draw" "_law_draw" s__law_draw ["tape", "many"] fD fdD) : FnOk P w K mg base CX0 2 f fd ["tape", "size", "top"] spLDr := by
  have G__law_draw : FnOk P w K mg base CX0 1 fD fdD ["tape", "many"] spDraw := ok__law_draw T D__law_draw.F
  refine F.ok sc__law_draughts (fun vs H Q E h => ?_) (fun cdv A outer s H vs Q E hr h => ?_)
  · obtain ⟨t, a, size, top, rfl, _⟩ := h
    rfl
  obtain ⟨t, a, size, top, rfl, hT, hs0, hs1, hw0, hw1, q⟩ := h
  refine ⟨_, (pss_cons (ps_set (i := 3) sc__law_draughts.nd rfl (.inr rfl) (pe_call G__law_draw hr rfl D__law_draw.g D__law_draw.F.kp D__law_draw.b .nil pass0 (pa_cons (pv 0) (pa_cons (pe_op op_add (pv 2) pe_int) pa_nil))))
  (pss_one (ps_ret (pe_callTy (tupleK K) rfl T.tuple (by decide +kernel) (pa_cons (pe_lc (own := [("k", 4)]) rfl sc__law_draughts.nd (pi_range1 rfl T.range (pa_cons (pe_call G__law_draw hr rfl D__law_draw.g D__law_draw.F.kp D__law_draw.b .nil pass0 (pa_cons (pv 0) (pa_cons (pe_op op_add (pv 1) pe_int) pa_nil))) pa_nil)) (blkOk_by (N := ["tape", "size", "top", "wide", "k"]) (sc := defScope s__law_draughts) (own := [("k", 4)]) (by decide +kernel)) (fun _ _ _ _ _ => (pg_name (i := 4) sc__law_draughts.nd rfl (.inl rfl))) (fun _ _ _ _ _ => pts_nil) (fun _ _ _ _ _ => (pe_call G__law_draw hr rfl D__law_draw.g D__law_draw.F.kp D__law_draw.b .nil pass0 (pa_cons (pv 0) (pa_cons (pe_op op_add (pv 3) pe_int) pa_nil))))) pa_nil))))), ?_⟩
  refine ⟨_, rfl, _, rfl, _, _, rfl, rfl, t, a, top + 1, rfl, hT, by omega, by omega, fun r H1 r0 r1 hT1 s1 => ?_⟩
  refine ⟨_, rfl, _, rfl, _, _, rfl, rfl, t, a, size + 1, rfl, hT1, by omega, by omega, fun r' H2 q0 q1 hT2 s2 => ⟨_, rfl, by omega, by omega, fun D hD => ?_⟩⟩
  refine lc_tape walk_range hT2 hD (by omega) (fun i zs => zs.length = i ∧ ∀ c ∈ zs, 0 ≤ c ∧ c ≤ top) ⟨rfl, fun c hc => nomatch hc⟩ (fun i zs h => Nat.le_of_eq h.1) (fun _ _ => trivial) (fun i x H3 H' zs kn ky hi sm hT3 hI y h1 h2 => ?_) (fun zs H3 sm hT3 e hI => ?_)
  · obtain ⟨rfl, rfl⟩ := y
    refine ⟨rfl, lc_yes ⟨_, rfl, _, rfl, _, _, rfl, rfl, t, a, r + 1, rfl, hT3, by omega, by omega, fun z H4 z0 z1 hT4 s4 => h2 z H4 s4 hT4 ⟨?_, all_snoc hI.2 ⟨z0, by omega⟩⟩⟩⟩
    rw [List.length_append, hI.1]
    rfl
  · refine ⟨D, _, rfl, .inl ⟨SqL.of e, fun l hl => ?_⟩⟩
    have hn : zs.length = r'.toNat := hI.1
    have sm' := (s1.trans s2).trans sm
    have hlt : l ≠ t := fun z => hT3.ne_none hl z.symm
    exact q l zs _ ⟨by omega, hI.2⟩ (hT3.upd hl) (sm'.trans (Smt.of (Same.new hl))) (sm'.free hl hlt) upd_same
/-! def _law_near -/
abbrev s__law_near : Stmt := topS 17
theorem sc__law_near : FnScope ["tape", "candles", "size", "top", "found", "left", "k", "draught"] ["tape", "candles", "size", "top"] (defScope s__law_near) := ⟨rfl, rfl, rfl, by decide +kernel, rfl, by decide +kernel, by decide +kernel⟩
def spNear (K : PySem.W.Frag) : Sp := fun vs H Q _ => ∃ (t a c : Addr) (cs : List Int) (size top : Int), vs = [.ref t, .ref c, .int size, .int top] ∧ TapeAt H t a ∧ SqT K H c (vi cs) ∧ 0 ≤ size ∧ size ≤ 100 ∧ 0 ≤ top ∧ top ≤ 100 ∧
  ∀ (p : Addr) (ds : List Int) (H' : Hp), DrOk size top ds → TapeAt H' t a → Smt t H H' → H p = none → H' p = some (.tup (vi ds)) → Q (.ref p) H'
theorem ok__law_near {f fD : Addr} {fd fdD : FuncData} (T : Bl mg) (F : Fun K "_law_near" "_law_near" s__law_near f fd) (D__law_draw : FnAt K mg "_law_draw" "_law_draw" s__law_draw ["tape", "many"] fD fdD) : FnOk P w K mg base CX0 2 f fd ["tape", "candles", "size", "top"] (spNear K) := by
  have G__law_draw : FnOk P w K mg base CX0 1 fD fdD ["tape", "many"] spDraw := ok__law_draw T D__law_draw.F
  refine F.ok sc__law_near (fun vs H Q E h => ?_) (fun cdv A outer s H vs Q E hr h => ?_)
  · obtain ⟨t, a, c, cs, size, top, rfl, _⟩ := h
    rfl
  obtain ⟨t, a, c, cs, size, top, rfl, hT, hC, hs0, hs1, hw0, hw1, q⟩ := h
  refine ⟨_, (pss_cons (ps_par (i := 4) (j := 5) rfl sc__law_near.nd rfl rfl (by decide) rfl rfl (pa_cons (pe_lst pa_nil) (pa_cons (pe_op op_sub (pe_op op_add (pe_callB (sumTK K) rfl T.sum (by decide +kernel) (pa_cons (pv 1) pa_nil)) (pe_call G__law_draw hr rfl D__law_draw.g D__law_draw.F.kp D__law_draw.b .nil pass0 (pa_cons (pv 0) (pa_cons pe_int pa_nil)))) pe_int) pa_nil)) (by rfl))
  (pss_cons (ps_for PassesOwn.never rfl (pi_range1 rfl T.range (pa_cons (pv 2) pa_nil)) (pg_name (i := 6) sc__law_near.nd rfl (.inl rfl)) (pss_cons (ps_set (i := 7) sc__law_near.nd rfl (.inl rfl) (pe_callB (call_min2 rfl) rfl T.min (by decide +kernel) (pa_cons (pe_call G__law_draw hr rfl D__law_draw.g D__law_draw.F.kp D__law_draw.b .nil pass0 (pa_cons (pv 0) (pa_cons (pe_op op_add (pv 3) pe_int) pa_nil))) (pa_cons (pe_callB (call_max2 rfl) rfl T.max (by decide +kernel) (pa_cons pe_int (pa_cons (pe_op op_sub (pe_callB (lenK K) rfl T.len (by decide +kernel) (pa_cons (pv 1) pa_nil)) pe_int) pa_nil))) pa_nil))))
  (pss_one (ps_if (pt_cmpR op_le (pe_op op_add (pv 7) pe_int) (pv 5) (nomark _)) (pss_cons (ps_expr (pe_bm PySem.F.plainAttrs_list PySem.F.slot_list_append PySem.F.type_list_append mt_append (pv 4) (pa_cons (pv 7) pa_nil)))
  (pss_one (ps_set (i := 5) sc__law_near.nd rfl (.inl rfl) (pe_op op_sub (pe_op op_sub (pv 5) (pv 7)) pe_int)))) pss_nil))))
  (pss_one (ps_ret (pe_callTy (tupleK K) rfl T.tuple (by decide +kernel) (pa_cons (pv 4) pa_nil)))))), ?_⟩
  -- found, left = [], sum(candles) + draw - 1
  refine ⟨Nat.zero_le _, fun l hl => ?_⟩
  have s0 : Same H (upd H l (.lst [])) := Same.new hl
  have hT0 := hT.same s0
  have hlt : l ≠ t := fun z => hT.ne_none hl z.symm
  have hla : l ≠ a := fun z => hT.ne_none2 hl z.symm
  refine ⟨_, rfl, c, cs, rfl, s0.sqt hC, _, rfl, t, a, 4, rfl, hT0, by omega, by omega, fun r H1 r0 r1 hT1 s1 => ⟨_, _, rfl, rfl, _, _, rfl, rfl, _, _, rfl, ?_⟩⟩
  have hL1 : H1 l = some (.lst (vi [])) := s1 _ _ upd_same hlt
  have sm1 : Smt t H H1 := (Smt.of s0).trans s1
  -- the loop
  refine ⟨_, rfl, size, rfl, by omega, by omega, for_range (lo := 0) (n := size.toNat) (fun i σ H' => ∃ (zs : List Int) (left : Int) (y1 y2 : Option V), σ = [some (.ref t), some (.ref c), some (.int size), some (.int top), some (.ref l), some (.int left), y1, y2] ∧
    zs.length ≤ i ∧ (∀ z ∈ zs, 0 ≤ z ∧ z ≤ top) ∧ H' l = some (.lst (vi zs)) ∧ TapeAt H' t a ∧ Smt t H H') ⟨[], _, none, none, rfl, Nat.le_refl _, (fun z hz => nomatch hz), hL1, hT1, sm1⟩ (fun i σ H2 hi hW => ?_) (fun σ H2 hW => ?_)⟩
  · obtain ⟨zs, left, y1, y2, rfl, hzl, hz, hL, hT2, sm⟩ := hW
    have hC2 : SqT K H2 c (vi cs) := sm.sqt hT hC
    -- draught = min(draw(top + 1), max(0, len(candles) - 1))
    refine ⟨_, rfl, _, rfl, _, _, rfl, rfl, t, a, top + 1, rfl, hT2, by omega, by omega, fun r' H3 q0 q1 hT3 s3 => ⟨_, rfl, c, vi cs, rfl, .inr (s3.sqt hT2 hC2), _, _, rfl, rfl, _, _, rfl, _, _, rfl, ?_⟩⟩
    have hd : ∃ d : Int, (if (if (((vi cs).length : Nat) : Int) - 1 > 0 then (((vi cs).length : Nat) : Int) - 1 else 0) < r' then (if (((vi cs).length : Nat) : Int) - 1 > 0 then (((vi cs).length : Nat) : Int) - 1 else 0) else r') = d ∧ 0 ≤ d ∧ d ≤ top := by
      by_cases e1 : (((vi cs).length : Nat) : Int) - 1 > 0
      · rw [if_pos e1]
        by_cases e2 : (((vi cs).length : Nat) : Int) - 1 < r'
        · exact ⟨_, if_pos e2, by omega, by omega⟩
        · exact ⟨_, if_neg e2, by omega, by omega⟩
      · rw [if_neg e1]
        by_cases e2 : (0 : Int) < r'
        · exact ⟨_, if_pos e2, by omega, by omega⟩
        · exact ⟨_, if_neg e2, by omega, by omega⟩
    obtain ⟨d, ed, d0, d1⟩ := hd
    rw [ed]
    have hL3 : H3 l = some (.lst (vi zs)) := s3 _ _ hL hlt
    have sm3 : Smt t H H3 := sm.trans s3
    refine ⟨_, rfl, _, _, rfl, rfl, _, rfl, _, _, rfl, rfl, _, rfl, if_b (fun _ => ?_) (fun _ => ?_)⟩
    · refine ⟨_, rfl, .inl ⟨rfl, _, SqL.of hL3⟩, _, rfl, l, _, _, rfl, rfl, hL3, ?_, _, rfl, _, rfl, _, _, rfl, rfl, _, _, rfl, rfl, zs ++ [d], _, _, _, rfl, ?_, all_snoc hz ⟨d0, d1⟩, ?_, hT3.but Smt.upd hlt.symm hla.symm, sm3.new hl⟩
      · rw [vi_len]
        exact small1000 (by omega)
      · rw [List.length_append]
        exact Nat.succ_le_succ hzl
      · rw [vi_snoc]
        exact upd_same
    · exact ⟨zs, left, _, _, rfl, Nat.le_succ_of_le hzl, hz, hL3, hT3, sm3⟩
  · obtain ⟨zs, left, y1, y2, rfl, hzl, hz, hL, hT2, sm⟩ := hW
    refine ⟨_, rfl, l, _, rfl, .inl ⟨SqL.of hL, fun p hp => ?_⟩⟩
    have hpt : p ≠ t := fun z => hT2.ne_none hp z.symm
    exact q p zs _ ⟨by omega, hz⟩ (hT2.upd hp) (sm.trans (Smt.of (Same.new hp))) (sm.free hp hpt) upd_same
/-! def _law_night -/
abbrev s__law_night : Stmt := topS 18
theorem sc__law_night : FnScope ["tape", "size", "wax", "ticks", "top", "candles"] ["tape", "size", "wax", "ticks", "top"] (defScope s__law_night) := ⟨rfl, rfl, rfl, by decide +kernel, rfl, by decide +kernel, by decide +kernel⟩
def spNight : Sp := fun vs H Q _ => ∃ (t a : Addr) (size wax ticks top : Int), vs = [.ref t, .int size, .int wax, .int ticks, .int top] ∧ TapeAt H t a ∧ 0 < size ∧ size ≤ 100 ∧ 0 < wax ∧ wax ≤ 100 ∧ 0 ≤ ticks ∧ ticks ≤ 100 ∧ 0 ≤ top ∧ top ≤ 100 ∧
  ∀ (p b c : Addr) (cs ds : List Int) (H' : Hp), CandOk size wax cs → DrOk ticks top ds → TapeAt H' t a → Smt t H H' → H' p = some (.tup [.ref b, .ref c]) → H' b = some (.tup (vi cs)) → H' c = some (.tup (vi ds)) → Q (.ref p) H'
theorem ok__law_night {f fD fC fR fN : Addr} {fd fdD fdC fdR fdN : FuncData} (T : Bl mg) (F : Fun K "_law_night" "_law_night" s__law_night f fd) (D__law_draw : FnAt K mg "_law_draw" "_law_draw" s__law_draw ["tape", "many"] fD fdD)
    (D__law_candles : FnAt K mg "_law_candles" "_law_candles" s__law_candles ["tape", "size", "wax"] fC fdC) (D__law_draughts : FnAt K mg "_law_draughts" "_law_draughts" s__law_draughts ["tape", "size", "top"] fR fdR) (D__law_near : FnAt K mg "_law_near" "_law_near" s__law_near ["tape", "candles", "size", "top"] fN fdN) :
    FnOk P w K mg base CX0 3 f fd ["tape", "size", "wax", "ticks", "top"] spNight := by
  have G__law_draw : FnOk P w K mg base CX0 2 fD fdD ["tape", "many"] spDraw := (ok__law_draw T D__law_draw.F).mono (by decide)
  have G__law_candles : FnOk P w K mg base CX0 2 fC fdC ["tape", "size", "wax"] spLCand := ok__law_candles T D__law_candles.F D__law_draw
  have G__law_draughts : FnOk P w K mg base CX0 2 fR fdR ["tape", "size", "top"] spLDr := ok__law_draughts T D__law_draughts.F D__law_draw
  have G__law_near : FnOk P w K mg base CX0 2 fN fdN ["tape", "candles", "size", "top"] (spNear K) := ok__law_near T D__law_near.F D__law_draw
  refine F.ok sc__law_night (fun vs H Q E h => ?_) (fun cdv A outer s H vs Q E hr h => ?_)
  · obtain ⟨t, a, size, wax, ticks, top, rfl, _⟩ := h
    rfl
  obtain ⟨t, a, size, wax, ticks, top, rfl, hT, hs0, hs1, hw0, hw1, ht0, ht1, hp0, hp1, q⟩ := h
  refine ⟨_, (pss_cons (ps_set (i := 5) sc__law_night.nd rfl (.inl rfl) (pe_call G__law_candles hr rfl D__law_candles.g D__law_candles.F.kp D__law_candles.b .nil pass0 (pa_cons (pv 0) (pa_cons (pv 1) (pa_cons (pv 2) pa_nil)))))
  (pss_cons (ps_if (pt_cmpR op_eq (pe_call G__law_draw hr rfl D__law_draw.g D__law_draw.F.kp D__law_draw.b .nil pass0 (pa_cons (pv 0) (pa_cons pe_int pa_nil))) pe_int (nomark _)) (pss_one (ps_ret (pe_tup (pa_cons (pv 5) (pa_cons (pe_call G__law_draughts hr rfl D__law_draughts.g D__law_draughts.F.kp D__law_draughts.b .nil pass0 (pa_cons (pv 0) (pa_cons (pv 3) (pa_cons (pv 4) pa_nil)))) pa_nil))))) pss_nil)
  (pss_one (ps_ret (pe_tup (pa_cons (pv 5) (pa_cons (pe_call G__law_near hr rfl D__law_near.g D__law_near.F.kp D__law_near.b .nil pass0 (pa_cons (pv 0) (pa_cons (pv 5) (pa_cons (pv 3) (pa_cons (pv 4) pa_nil))))) pa_nil))))))), ?_⟩
  refine ⟨_, rfl, _, rfl, _, rfl, t, a, size, wax, rfl, hT, hs0, hs1, hw0, hw1, fun b cs H1 hcs hT1 s1 _ hb => ?_⟩
  refine ⟨_, rfl, t, a, 3, rfl, hT1, by omega, by omega, fun r H2 r0 r1 hT2 s2 => ⟨rfl, _, rfl, if_b (fun _ => ?_) (fun _ => ?_)⟩⟩
  · have hb2 := s2.tup hT1 hb
    refine ⟨_, rfl, _, rfl, _, rfl, _, rfl, t, a, ticks, top, rfl, hT2, ht0, ht1, hp0, hp1, fun c ds H3 hds hT3 s3 _ hc => ⟨by show 2 ≤ sizeLine; decide, fun p hp => ?_⟩⟩
    have hb3 := s3.tup hT2 hb2
    have sn : Same H3 (upd H3 p (.tup [.ref b, .ref c])) := Same.new hp
    exact q p b c cs ds _ hcs hds (hT3.same sn) (((s1.trans s2).trans s3).trans (Smt.of sn)) upd_same (sn _ _ hb3) (sn _ _ hc)
  · have hb2 := s2.tup hT1 hb
    refine ⟨_, rfl, _, rfl, _, rfl, _, rfl, _, rfl, t, a, b, cs, ticks, top, rfl, hT2, SqT.of hb2, ht0, ht1, hp0, hp1, fun c ds H3 hds hT3 s3 _ hc => ⟨by show 2 ≤ sizeLine; decide, fun p hp => ?_⟩⟩
    have hb3 := s3.tup hT2 hb2
    have sn : Same H3 (upd H3 p (.tup [.ref b, .ref c])) := Same.new hp
    exact q p b c cs ds _ hcs hds (hT3.same sn) (((s1.trans s2).trans s3).trans (Smt.of sn)) upd_same (sn _ _ hb3) (sn _ _ hc)
/-! def _law_burnt -/
abbrev s__law_burnt : Stmt := topS 19
theorem sc__law_burnt : FnScope ["candles", "lit", "out", "found", "place"] ["candles", "lit", "out"] (defScope s__law_burnt) := ⟨rfl, rfl, rfl, by decide +kernel, rfl, by decide +kernel, by decide +kernel⟩
def spLBurnt (K : PySem.W.Frag) : Sp := fun vs H Q _ => ∃ (a l o : Addr) (cs lit out : List Int) (t1 t2 : Bool), vs = [.ref a, .ref l, .ref o] ∧ SqT K H a (vi cs) ∧ SqB K t1 H l (vi lit) ∧ SqB K t2 H o (vi out) ∧ cs.length ≤ 1000 ∧ lit.Nodup ∧ (∀ i ∈ lit, 0 ≤ i ∧ i < (cs.length : Int)) ∧
  ∀ H' p, Same H H' → H p = none → H' p = some (.tup (vi (burntF cs lit out))) → Q (.ref p) H'
theorem ok__law_burnt {f : Addr} {fd : FuncData} (T : Bl mg) (F : Fun K "_law_burnt" "_law_burnt" s__law_burnt f fd) : FnOk P w K mg base CX0 1 f fd ["candles", "lit", "out"] (spLBurnt K) := by
  refine F.ok sc__law_burnt (fun vs H Q E h => ?_) (fun cdv A outer s H vs Q E hr h => ?_)
  · obtain ⟨a, l, o, cs, lit, out, tp, t2, rfl, _⟩ := h
    rfl
  obtain ⟨a, l, o, cs, lit, out, tp, t2, rfl, hS, hL, hO, hl, hn, hr2, q⟩ := h
  refine ⟨_, (pss_cons (ps_set (i := 3) sc__law_burnt.nd rfl (.inl rfl) (pe_callTy (listK K) rfl T.list (by decide +kernel) (pa_cons (pv 0) pa_nil)))
  (pss_cons (ps_for PassesOwn.never rfl (piB K tp (pv 1)) (pg_name (i := 4) sc__law_burnt.nd rfl (.inl rfl)) (pss_one (ps_if (pt_cmpR (notinK K) (pv 4) (pv 2) rfl) (pss_one (ps_asg (pe_op op_sub (pe_ix (ixL K) (pv 3) (pv 4) (fun _ _ => rfl)) pe_int) (pg_sub (pv 3) (pv 4) set_list))) pss_nil)))
  (pss_one (ps_ret (pe_callTy (tupleK K) rfl T.tuple (by decide +kernel) (pa_cons (pv 3) pa_nil)))))), ?_⟩
  refine ⟨_, rfl, a, vi cs, rfl, .inr hS, fun g ng => ?_⟩
  have s0 : Same H (upd H g (.lst (vi cs))) := Same.new ng
  refine ⟨_, rfl, l, rfl, ⟨_, s0.sqb hL⟩, for_it (walk_B (K := K) (tp := tp) (a := l) (xs := vi lit)) (fun i σ H' => ∃ (y4 : Option V), σ = [some (.ref a), some (.ref l), some (.ref o), some (.ref g), y4] ∧ Same H H' ∧ H' g = some (.lst (vi (burntF cs (lit.take i) out)))) ⟨none, rfl, s0, ?_⟩ (fun i σ H' _ ⟨_, _, sm, _⟩ => sm.sqb hL) (fun i x σ H1 H' hi hW hy => ?_) (fun σ H1 hW => ?_)⟩
  · rw [List.take_zero, burnt_none]
    exact upd_same
  · obtain ⟨y4, rfl, sm, hg⟩ := hW
    obtain ⟨rfl, hx⟩ := hy
    obtain ⟨z, hz, rfl⟩ := vi_get hx
    have hzm := hr2 z (List.mem_of_getElem? hz)
    refine ⟨_, rfl, _, rfl, o, vi out, rfl, sqb_or (sm.sqb hO), rfl, vi_flat _, _, rfl, if_b (fun c => ?_) (fun c => ?_)⟩
    · have c1 : z ∉ out := fun hm => by
        have c : (!inV (.int z) (vi out)) = true := c
        rw [inV_ints, decide_eq_true hm] at c
        cases c
      have ek : z = ((z.toNat : Nat) : Int) := (Int.toNat_of_nonneg hzm.1).symm
      have hkl : z.toNat < cs.length := by omega
      have hk : cs[z.toNat]? = some cs[z.toNat] := List.getElem?_eq_getElem hkl
      have hcur : (burntF cs (lit.take i) out)[z.toNat]? = some cs[z.toNat] := by
        rw [burntF_get hk]
        unfold bit
        rw [if_neg (fun q => nodup_next hn hz (by rw [← ek] at q; exact q.1)), Int.sub_zero]
      refine ⟨_, rfl, _, rfl, g, _, _, .int cs[z.toNat], rfl, rfl, SqL.of hg, at_of ek ?_, _, _, rfl, rfl, _, rfl, _, rfl, g, _, z, z.toNat, rfl, rfl, hg, ?_, _, rfl, sm.mut ng, ?_⟩
      · rw [List.getElem?_map, hcur]
        rfl
      · unfold ixN
        rw [vi_len, burntF_len, if_pos hzm.1, if_pos hzm.2]
      · rw [upd_same, take_next hz, ← burnt_step (nodup_next hn hz) c1 ek hk]
        exact congrArg (fun l => some (HO.lst l)) List.map_set.symm
    · have c1 : z ∈ out := by
        have c : (!inV (.int z) (vi out)) = false := c
        rw [inV_ints] at c
        by_cases hm : z ∈ out
        · exact hm
        · rw [decide_eq_false hm] at c
          cases c
      refine ⟨_, rfl, sm, ?_⟩
      rw [take_next hz, burnt_same c1]
      exact hg
  · obtain ⟨y4, rfl, sm, hg⟩ := hW
    rw [vi_len, List.take_length] at hg
    exact ⟨_, rfl, g, _, rfl, .inl ⟨SqL.of hg, fun p np => q _ p (sm.trans (Same.new np)) (sm.free np) upd_same⟩⟩
/-! def _law_is_tick -/
abbrev s__law_is_tick : Stmt := topS 20
theorem sc__law_is_tick : FnScope ["candles", "draught", "item", "part", "place"] ["candles", "draught", "item"] (defScope s__law_is_tick) := ⟨rfl, rfl, rfl, by decide +kernel, rfl, by decide +kernel, by decide +kernel⟩
theorem ok__law_is_tick {f : Addr} {fd : FuncData} (T : Bl mg) (F : Fun K "_law_is_tick" "_law_is_tick" s__law_is_tick f fd) {f__law_within : Addr} {fd__law_within : FuncData} (D__law_within : FnAt K mg "_law_within" "_law_within" s__law_within ["item", "low", "high"] f__law_within fd__law_within) {f__law_rises : Addr} {fd__law_rises : FuncData} (D__law_rises : FnAt K mg "_law_rises" "_law_rises" s__law_rises ["some"] f__law_rises fd__law_rises) {f__law_whole : Addr} {fd__law_whole : FuncData} (D__law_whole : FnAt K mg "_law_whole" "_law_whole" s__law_whole ["item"] f__law_whole fd__law_whole) : FnOk P w K mg base CX0 3 f fd ["candles", "draught", "item"] (spTick K) := by
  have G__law_within : FnOk P w K mg base CX0 2 f__law_within fd__law_within _ (spWithin K) := ok__law_within T D__law_within.F D__law_whole
  have G__law_rises : FnOk P w K mg base CX0 2 f__law_rises fd__law_rises _ (spRises K) := (ok__law_rises T D__law_rises.F).mono (by decide)
  refine F.ok sc__law_is_tick (fun vs H Q E h => ?_) (fun cdv A outer s H vs Q E hr h => ?_)
  · obtain ⟨a, k, v, cs, d, n, rfl, _⟩ := h
    rfl
  obtain ⟨a, k, v, cs, d, n, rfl, hS, hv, hfit, q⟩ := h
  refine ⟨_, (pss_cons (ps_if (PW.pt (pw_or (pt_not (pt_val (pe_callB (isiK K) rfl T.isinstance (by decide +kernel) (pa_cons (pv 2) (pa_cons (pe_bltn (v := .ty "tuple") (u := .type "tuple") rfl T.tuple (by decide +kernel) rfl) pa_nil))))) (pw_or1 (pt_cmpR op_ne (pe_callB (lenK K) rfl T.len (by decide +kernel) (pa_cons (pv 2) pa_nil)) pe_int (nomark _))))) (pss_one (ps_ret pe_bl)) pss_nil)
  (pss_cons (ps_for PassesOwn.never rfl (piT K (pv 2)) (pg_name (i := 3) sc__law_is_tick.nd rfl (.inl rfl)) (pss_cons (ps_if (pt_not (pt_val (pe_callB (isiK K) rfl T.isinstance (by decide +kernel) (pa_cons (pv 3) (pa_cons (pe_bltn (v := .ty "tuple") (u := .type "tuple") rfl T.tuple (by decide +kernel) rfl) pa_nil))))) (pss_one (ps_ret pe_bl)) pss_nil)
  (pss_one (ps_if (PW.pt (pw_or (pt_cmpR (neDK K hr.units) (pe_lc (own := [("place", 4)]) rfl sc__law_is_tick.nd (piT K (pv 3)) (blkOk_by (N := ["candles", "draught", "item", "part", "place"]) (sc := defScope s__law_is_tick) (own := [("place", 4)]) (by decide +kernel)) (fun _ _ _ _ _ => (pg_name (i := 4) sc__law_is_tick.nd rfl (.inl rfl))) (fun _ _ _ _ _ => (pts_one (pt_not (pt_val (pe_call G__law_within hr rfl D__law_within.g D__law_within.F.kp D__law_within.b .nil pass0 (pa_cons (pv 4) (pa_cons pe_int (pa_cons (pe_op op_sub (pe_callB (lenK K) rfl T.len (by decide +kernel) (pa_cons (pv 0) pa_nil)) pe_int) pa_nil)))))))) (fun _ _ _ _ _ => pe_int)) (pe_lst pa_nil) (nomark _)) (pw_or1 (pt_not (pt_val (pe_call G__law_rises hr rfl D__law_rises.g D__law_rises.F.kp D__law_rises.b .nil pass0 (pa_cons (pv 3) pa_nil))))))) (pss_one (ps_ret pe_bl)) pss_nil))))
  (pss_cons (ps_if (PW.pt (pw_or (pt_cmpR (neDK K hr.units) (pe_lc (own := [("place", 4)]) rfl sc__law_is_tick.nd (piT K (pe_ix (ixT K) (pv 2) pe_int (fun _ _ => rfl))) (blkOk_by (N := ["candles", "draught", "item", "part", "place"]) (sc := defScope s__law_is_tick) (own := [("place", 4)]) (by decide +kernel)) (fun _ _ _ _ _ => (pg_name (i := 4) sc__law_is_tick.nd rfl (.inl rfl))) (fun _ _ _ _ _ => (pts_one (pt_cmpR op_eq (pe_ix (ixT K) (pv 0) (pv 4) (fun _ _ => rfl)) pe_int (nomark _)))) (fun _ _ _ _ _ => (pv 4))) (pe_lst pa_nil) (nomark _)) (pw_or1 (pt_cmpR op_gt (pe_callB (lenK K) rfl T.len (by decide +kernel) (pa_cons (pe_ix (ixT K) (pv 2) pe_int (fun _ _ => rfl)) pa_nil)) (pv 1) (nomark _))))) (pss_one (ps_ret pe_bl)) pss_nil)
  (pss_one (ps_ret (pe_cmpR (eqDK K hr.units) (pe_lc (own := [("place", 4)]) rfl sc__law_is_tick.nd (piT K (pe_ix (ixT K) (pv 2) pe_int (fun _ _ => rfl))) (blkOk_by (N := ["candles", "draught", "item", "part", "place"]) (sc := defScope s__law_is_tick) (own := [("place", 4)]) (by decide +kernel)) (fun _ _ _ _ _ => (pg_name (i := 4) sc__law_is_tick.nd rfl (.inl rfl))) (fun _ _ _ _ _ => (pts_one (pt_cmpR (notinK K) (pv 4) (pe_ix (ixT K) (pv 2) pe_int (fun _ _ => rfl)) rfl))) (fun _ _ _ _ _ => (pv 4))) (pe_lst pa_nil) (nomark _))))))), ?_⟩
  refine ⟨_, rfl, v, _, _, _, _, rfl, .ty _, dp_ty hv, kit_d d (by simp), _, rfl, if_b (fun c => ?_) (fun c => ?_)⟩
  · rw [cd_f (fun ⟨l, o, e, _⟩ => by subst e; cases c)] at q
    exact if_t rfl (q H (Same.refl _))
  obtain ⟨ds, rfl⟩ := is_tup (by cases h : dis "tuple" d <;> simp_all)
  obtain ⟨p, xs, rfl, hp, ha⟩ := dp_tup_get hv
  have hlen : xs.length = ds.length := dpall_len ha
  refine ⟨_, rfl, p, xs, rfl, .inr hp, rfl, _, rfl, if_b (fun c2 => ?_) (fun c2 => ?_)⟩
  · have hno : ¬ IsTick cs k (.tuple ds) := fun ⟨l, o, e, _⟩ => by
      have e := PyData.tuple.inj e
      rw [hlen, e] at c2
      cases c2
    rw [cd_f hno] at q
    exact q H (Same.refl _)
  have hl2 : ds.length = 2 := by
    have c2 : (!decide (V.int ((xs.length : Nat) : Int) = V.int 2)) = false := c2
    cases h : decide (V.int ((xs.length : Nat) : Int) = V.int 2) with
    | true =>
      have := V.int.inj (of_decide_eq_true h)
      omega
    | false =>
      rw [h] at c2
      cases c2
  obtain ⟨x, y, rfl⟩ : ∃ x y, ds = [x, y] := by
    match ds, hl2 with
    | [x, y], _ => exact ⟨x, y, rfl⟩
  have hfa : ∀ z ∈ [x, y], Fit (n + 1) z := hfit.2
  -- for part in item
  refine ⟨_, rfl, p, rfl, ⟨_, hp⟩, for_tup (K := K) (a := p) (xs := xs) (fun i σ H' => ∃ (y3 y4 : Option V), σ = [some (.ref a), some (.int k), some (.ref p), y3, y4] ∧ Same H H' ∧ ∀ z ∈ [x, y].take i, IsPlaces cs.length z) ⟨none, none, rfl, Same.refl _, fun z h => nomatch h⟩ (fun i σ H' _ ⟨_, _, _, sm, _⟩ => sm.sqt hp) (fun i v σ H1 hx hW => ?_) (fun σ H1 hW => ?_)⟩
  · obtain ⟨y3, y4, rfl, sm, hdone⟩ := hW
    obtain ⟨dx, hdx, hvx⟩ := dpall_get1 ha hx
    have hfx := hfa dx (List.mem_of_getElem? hdx)
    have hvx1 := hvx.same sm
    have hnot : ¬ IsPlaces cs.length dx → cd (IsTick cs k (.tuple [x, y])) = false := fun hno => cd_f fun ⟨l, o, e, ht⟩ => by
      have e := PyData.tuple.inj e
      have hm := List.mem_of_getElem? hdx
      rw [e] at hm
      rcases List.mem_cons.mp hm with rfl | hm
      · exact hno ⟨l, rfl, ht.pl⟩
      · rcases List.mem_cons.mp hm with rfl | hm
        · exact hno ⟨o, rfl, ht.po⟩
        · cases hm
    refine ⟨_, rfl, v, _, _, _, _, rfl, .ty _, dp_ty hvx1, kit_d dx (by simp), _, rfl, if_b (fun c3 => ?_) (fun c3 => ?_)⟩
    · rw [hnot (fun ⟨l, e, _⟩ => by subst e; cases c3)] at q
      exact q _ sm
    obtain ⟨es, rfl⟩ := is_tup (by cases h : dis "tuple" dx <;> simp_all)
    obtain ⟨u, ws, rfl, hu, hau⟩ := dp_tup_get hvx1
    have hwl : ws.length = es.length := dpall_len hau
    have hes : es.length ≤ 1000 := hfx.1
    refine ⟨_, rfl, u, rfl, ⟨_, hu⟩, fun D hD => lc_ints (walk_tup (xs := ws)) hD (by omega) (fun i => es[i]?.bind fun z => if cd (IsWithin 0 ((cs.length : Nat) - 1 : Int) z) = true then none else some 1) (fun H' s => s.sqt hu) (fun j z H2 H' kn ky hj sm2 yy h1 h2 => ?_) (fun H2 sm2 e => ?_)⟩
    · obtain ⟨rfl, hz⟩ := yy
      obtain ⟨dz, hdz, hvz⟩ := dpall_get1 hau hz
      refine ⟨rfl, _, rfl, _, rfl, a, vi cs, rfl, .inr ((sm.trans sm2).sqt hS), _, _, rfl, rfl, z, 0, ((vi cs).length : Nat) - 1, dz, rfl, hvz.same sm2, _, rfl, if_b (fun c4 => ?_) (fun c4 => ?_)⟩
      · rw [vi_len] at c4
        refine h2 _ _ (Same.refl _) ?_
        rw [hdz]
        exact if_neg (by simpa using c4)
      · rw [vi_len] at c4
        refine h1 _ (Same.refl _) ?_
        rw [hdz]
        exact if_pos (by simpa using c4)
    rw [hwl, fm_get] at e
    refine ⟨Nat.zero_le _, fun g ng => ?_⟩
    have s3 : Same H2 (upd H2 g (.lst [])) := Same.new ng
    have sm3 := (sm.trans sm2).trans s3
    refine ⟨.list (di _), .list (di []), dp_list (SqL.of (s3 _ _ e)), dp_list (SqL.of upd_same), shaped_ints _, shaped_ints _, _, rfl, ?_⟩
    rw [eqv_lists]
    refine if_b (fun c4 => ?_) (fun c4 => ?_)
    · rw [hnot (fun ⟨l, e, hl, _⟩ => ?_)] at q
      · exact q _ sm3
      · have e := PyData.tuple.inj e
        subst e
        rw [decide_eq_true] at c4
        · cases c4
        · refine List.filterMap_eq_nil_iff.mpr fun z hz => ?_
          obtain ⟨i, hi, rfl⟩ := List.mem_map.mp hz
          exact if_pos (cd_t ⟨i, rfl, hl i hi⟩)
    have hall : ∀ z ∈ es, IsWithin 0 ((cs.length : Nat) - 1 : Int) z := by
      have c5 : es.filterMap (fun z => if cd (IsWithin 0 ((cs.length : Nat) - 1 : Int) z) = true then none else some (1 : Int)) = [] := by
        cases h : decide (es.filterMap (fun z => if cd (IsWithin 0 ((cs.length : Nat) - 1 : Int) z) = true then none else some (1 : Int)) = []) with
        | true => exact of_decide_eq_true h
        | false =>
          rw [h] at c4
          cases c4
      intro z hz
      have q := List.filterMap_eq_nil_iff.mp c5 z hz
      by_cases c : cd (IsWithin 0 ((cs.length : Nat) - 1 : Int) z) = true
      · exact cd_of c
      · rw [if_neg c] at q
        cases q
    obtain ⟨l, rfl, hl⟩ := all_within hall
    have hws := dpall_ints hau
    subst hws
    rw [List.length_map] at hes
    refine ⟨_, rfl, u, l, rfl, (sm2.trans s3).sqt hu, hes, fun H4 s4 => ⟨_, rfl, if_b (fun c5 => ?_) (fun c5 => ?_)⟩⟩
    · have c5 : (!cd (Rise l)) = true := c5
      have hr : ¬ Rise l := fun z => by
        rw [cd_t z] at c5
        cases c5
      rw [hnot (fun ⟨l', e, _, hr'⟩ => hr (by rw [di_inj (PyData.tuple.inj e)]; exact hr'))] at q
      exact q _ (sm3.trans s4)
    · have c5 : (!cd (Rise l)) = false := c5
      have hr : Rise l := by
        cases h : cd (Rise l) with
        | true => exact cd_of h
        | false =>
          rw [h] at c5
          cases c5
      refine ⟨_, _, rfl, sm3.trans s4, fun z hz => ?_⟩
      rw [take_next hdx] at hz
      rcases List.mem_append.mp hz with hz | hz
      · exact hdone z hz
      · rw [List.mem_singleton.mp hz]
        exact ⟨l, rfl, hl, hr⟩
  obtain ⟨y3, y4, rfl, sm, hdone⟩ := hW
  rw [hlen] at hdone
  have hdone : ∀ z ∈ [x, y], IsPlaces cs.length z := hdone
  obtain ⟨lit, rfl, pl⟩ := hdone x List.mem_cons_self
  obtain ⟨out, rfl, po⟩ := hdone y (List.mem_cons_of_mem _ List.mem_cons_self)
  obtain ⟨w1, w2, rfl⟩ : ∃ w1 w2, xs = [w1, w2] := by
    match xs, hlen with
    | [w1, w2], _ => exact ⟨w1, w2, rfl⟩
  have hl1 : lit.length ≤ 1000 := by
    have := (hfa _ List.mem_cons_self).1
    rw [List.length_map] at this
    exact this
  have hl2 : out.length ≤ 1000 := by
    have := (hfa _ (List.mem_cons_of_mem _ List.mem_cons_self)).1
    rw [List.length_map] at this
    exact this
  cases ha with
  | cons ha1 ha2 =>
  cases ha2 with
  | cons ha2 _ =>
  obtain ⟨u1, rfl, hu1⟩ := dp_tints ha1
  obtain ⟨u2, rfl, hu2⟩ := dp_tints ha2
  have hp1 := sm.sqt hp
  have hu11 := sm.sqt hu1
  have hS1 := sm.sqt hS
  have pin : ∀ z ∈ lit, ∃ j : Nat, z = (j : Int) ∧ j < cs.length := fun z hz => by
    have := pl.1 z hz
    exact ⟨z.toNat, by omega, by omega⟩
  -- [place for place in item[0] if candles[place] == 0] != []
  refine ⟨_, rfl, p, _, 0, _, rfl, rfl, hp1, rfl, u1, rfl, ⟨_, hu11⟩, fun D2 hD2 => lc_ints (walk_tup (xs := vi lit)) hD2 (by rw [vi_len]; exact hl1) (fun i => lit[i]?.bind fun z => if cs[z.toNat]? = some 0 then some z else none) (fun H' s => s.sqt hu11) (fun i z H2 H' kn ky hi sm2 yy h1 h2 => ?_) (fun H2 sm2 e2 => ?_)⟩
  · obtain ⟨rfl, hx⟩ := yy
    obtain ⟨z, hz, rfl⟩ := vi_get hx
    obtain ⟨j, rfl, hj⟩ := pin z (List.mem_of_getElem? hz)
    have hR : (lit[i]?.bind fun z => if cs[z.toNat]? = some 0 then some z else none) = if cs[j] = 0 then some ((j : Nat) : Int) else none := by
      rw [hz]
      show (if cs[((j : Nat) : Int).toNat]? = some 0 then some ((j : Nat) : Int) else none) = _
      rw [Int.toNat_natCast, List.getElem?_eq_getElem hj]
      by_cases h0 : cs[j] = 0
      · rw [if_pos h0, if_pos (by rw [h0])]
      · rw [if_neg h0, if_neg (fun z => h0 (Option.some.inj z))]
    refine ⟨rfl, _, rfl, _, rfl, a, _, _, _, rfl, rfl, sm2.sqt hS1, atI_nat (vi_at hj), rfl, _, rfl, if_b (fun c => ?_) (fun c => ?_)⟩
    · exact ⟨_, rfl, h2 _ _ (Same.refl _) (by rw [hR, if_pos (V.int.inj (of_decide_eq_true c))])⟩
    · exact h1 _ (Same.refl _) (by rw [hR, if_neg (fun z => of_decide_eq_false c (by rw [z]))])
  rw [vi_len, fm_get] at e2
  have sm12 := sm.trans sm2
  refine ⟨Nat.zero_le _, fun g ng => ?_⟩
  have s3 : Same H2 (upd H2 g (.lst [])) := Same.new ng
  have sm3 := sm12.trans s3
  refine ⟨.list (di _), .list (di []), dp_list (SqL.of (s3 _ _ e2)), dp_list (SqL.of upd_same), shaped_ints _, shaped_ints _, _, rfl, ?_⟩
  rw [eqv_lists]
  refine if_b (fun c4 => ?_) (fun c4 => ?_)
  · have hno : ¬ IsTick cs k (tickD (lit, out)) := fun ⟨l, o, e, ht⟩ => by
      have e := tick_inj e
      injection e with e1 e2
      subst e1
      rw [decide_eq_true] at c4
      · cases c4
      · refine List.filterMap_eq_nil_iff.mpr fun z hz => ?_
        obtain ⟨j, rfl, hj⟩ := pin z hz
        exact if_neg fun z2 => ht.wax j hz (by rw [Int.toNat_natCast] at z2; exact z2)
    rw [cd_f hno] at q
    exact if_t rfl (q _ sm3)
  have hwax : ∀ j : Nat, (j : Int) ∈ lit → cs[j]? ≠ some 0 := fun j hj h0 => by
    have hm : ((j : Nat) : Int) ∈ lit.filterMap fun z => if cs[z.toNat]? = some 0 then some z else none := List.mem_filterMap.mpr ⟨(j : Int), hj, if_pos (by rw [Int.toNat_natCast]; exact h0)⟩
    rw [decide_eq_false (fun z => by rw [z] at hm; cases hm)] at c4
    cases c4
  have hp3 := sm3.sqt hp
  have hu13 := sm3.sqt hu1
  have hu23 := sm3.sqt hu2
  refine ⟨_, rfl, p, _, 1, _, rfl, rfl, hp3, rfl, u2, vi out, rfl, .inr hu23, _, rfl, _, _, rfl, rfl, _, rfl, if_b (fun c5 => ?_) (fun c5 => ?_)⟩
  · have c5 := of_decide_eq_true c5
    rw [vi_len] at c5
    have hno : ¬ IsTick cs k (tickD (lit, out)) := fun ⟨l, o, e, ht⟩ => by
      have e := tick_inj e
      injection e with e1 e2
      subst e2
      have := ht.few
      omega
    rw [cd_f hno] at q
    exact q _ sm3
  have c5 := of_decide_eq_false c5
  rw [vi_len] at c5
  -- [place for place in item[1] if place not in item[0]] == []
  refine ⟨_, rfl, p, _, 1, _, rfl, rfl, hp3, rfl, u2, rfl, ⟨_, hu23⟩, fun D3 hD3 => lc_ints (walk_tup (xs := vi out)) hD3 (by rw [vi_len]; exact hl2) (fun i => out[i]?.bind fun z => if z ∈ lit then none else some z) (fun H' s => s.sqt hu23) (fun i z H4 H' kn ky hi sm4 yy h1 h2 => ?_) (fun H4 sm4 e4 => ?_)⟩
  · obtain ⟨rfl, hx⟩ := yy
    obtain ⟨z, hz, rfl⟩ := vi_get hx
    refine ⟨rfl, _, rfl, _, rfl, p, _, 0, _, rfl, rfl, sm4.sqt hp3, rfl, u1, vi lit, rfl, .inr (sm4.sqt hu13), rfl, vi_flat _, _, rfl, if_b (fun c => ?_) (fun c => ?_)⟩
    · have c : (!inV (.int z) (vi lit)) = true := c
      rw [inV_ints] at c
      exact ⟨_, rfl, h2 _ _ (Same.refl _) (by rw [hz]; exact if_neg (by simpa using c))⟩
    · have c : (!inV (.int z) (vi lit)) = false := c
      rw [inV_ints] at c
      exact h1 _ (Same.refl _) (by rw [hz]; exact if_pos (by simpa using c))
  rw [vi_len, fm_get] at e4
  refine ⟨Nat.zero_le _, fun g5 ng5 => ?_⟩
  have s5 : Same H4 (upd H4 g5 (.lst [])) := Same.new ng5
  refine ⟨.list (di _), .list (di []), dp_list (SqL.of (s5 _ _ e4)), dp_list (SqL.of upd_same), shaped_ints _, shaped_ints _, ?_⟩
  rw [eqv_lists]
  have er : decide ((out.filterMap fun z => if z ∈ lit then none else some z) = []) = cd (IsTick cs k (tickD (lit, out))) := by
    refine cd_b ⟨fun h => ⟨lit, out, rfl, pl, po, hwax, by show (out.length : Int) ≤ k; omega, fun i hi => ?_⟩, fun ⟨l, o, e, ht⟩ => decide_eq_true ?_⟩
    · have q := List.filterMap_eq_nil_iff.mp (of_decide_eq_true h) i hi
      by_cases c : i ∈ lit
      · exact c
      · rw [if_neg c] at q
        cases q
    · have e := tick_inj e
      injection e with e1 e2
      subst e1
      subst e2
      exact List.filterMap_eq_nil_iff.mpr fun z hz => if_pos (ht.sub z hz)
  rw [er]
  exact q _ ((sm3.trans sm4).trans s5)
/-! def _law_is_row -/
abbrev s__law_is_row : Stmt := topS 21
theorem sc__law_is_row : FnScope ["candles", "draughts", "item", "at", "tick"] ["candles", "draughts", "item"] (defScope s__law_is_row) := ⟨rfl, rfl, rfl, by decide +kernel, rfl, by decide +kernel, by decide +kernel⟩
theorem nodup_le {a : List Int} : ∀ {b : List Int}, a.Nodup → (∀ x ∈ a, x ∈ b) → a.length ≤ b.length := by
  induction a with
  | nil => exact fun _ _ => Nat.zero_le _
  | cons x r ih =>
    intro b hn hs
    obtain ⟨h1, h2⟩ := List.nodup_cons.mp hn
    have hx := hs x List.mem_cons_self
    have q := ih (b := b.erase x) h2 fun y hy => (List.mem_erase_of_ne (fun z => by rw [z] at hy; exact h1 hy)).mpr (hs y (List.mem_cons_of_mem _ hy))
    rw [List.length_erase_of_mem hx] at q
    have := List.length_pos_of_mem hx
    show r.length + 1 ≤ _
    omega
theorem rise_nd {l : List Int} (h : Rise l) : l.Nodup := by
  have key : ∀ (k i : Nat) (x y : Int), l[i]? = some x → l[i + k + 1]? = some y → x < y := by
    intro k
    induction k with
    | zero => exact fun i x y hx hy => h i x y hx hy
    | succ k ih =>
      intro i x y hx hy
      have hi := (List.getElem?_eq_some_iff.mp hy).1
      have hz : l[i + k + 1]? = some (l[i + k + 1]'(by omega)) := List.getElem?_eq_getElem (by omega)
      have h1 := ih i x _ hx hz
      have h2 := h (i + k + 1) _ y hz hy
      omega
  refine List.pairwise_iff_getElem.mpr fun i j hi hj hij => ?_
  have q := key (j - i - 1) i l[i] l[j] (List.getElem?_eq_getElem hi) (by rw [show i + (j - i - 1) + 1 = j by omega]; exact List.getElem?_eq_getElem hj)
  omega
theorem tick_le {cs lit out : List Int} {d : Int} (h : TickOk cs d lit out) : out.length ≤ lit.length := nodup_le (rise_nd h.po.2) h.sub
theorem tick_in {cs lit out : List Int} {d : Int} (h : TickOk cs d lit out) : ∀ i ∈ lit, 0 ≤ i ∧ i < (cs.length : Int) := fun i hi => by
  have := h.pl.1 i hi
  omega
theorem ok__law_is_row {f : Addr} {fd : FuncData} (T : Bl mg) (F : Fun K "_law_is_row" "_law_is_row" s__law_is_row f fd) {f__law_is_tick : Addr} {fd__law_is_tick : FuncData} (D__law_is_tick : FnAt K mg "_law_is_tick" "_law_is_tick" s__law_is_tick ["candles", "draught", "item"] f__law_is_tick fd__law_is_tick) {f__law_burnt : Addr} {fd__law_burnt : FuncData} (D__law_burnt : FnAt K mg "_law_burnt" "_law_burnt" s__law_burnt ["candles", "lit", "out"] f__law_burnt fd__law_burnt) {f__law_within : Addr} {fd__law_within : FuncData} (D__law_within : FnAt K mg "_law_within" "_law_within" s__law_within ["item", "low", "high"] f__law_within fd__law_within) {f__law_rises : Addr} {fd__law_rises : FuncData} (D__law_rises : FnAt K mg "_law_rises" "_law_rises" s__law_rises ["some"] f__law_rises fd__law_rises) {f__law_whole : Addr} {fd__law_whole : FuncData} (D__law_whole : FnAt K mg "_law_whole" "_law_whole" s__law_whole ["item"] f__law_whole fd__law_whole) : FnOk P w K mg base CX0 4 f fd ["candles", "draughts", "item"] (spRow K) := by
  have G__law_is_tick : FnOk P w K mg base CX0 3 f__law_is_tick fd__law_is_tick _ (spTick K) := ok__law_is_tick T D__law_is_tick.F D__law_within D__law_rises D__law_whole
  have G__law_burnt : FnOk P w K mg base CX0 3 f__law_burnt fd__law_burnt _ (spLBurnt K) := (ok__law_burnt T D__law_burnt.F).mono (by decide)
  refine F.ok sc__law_is_row (fun vs H Q E h => ?_) (fun cdv A outer s H vs Q E hr h => ?_)
  · obtain ⟨a, b, v, cs, ds, d, n, rfl, _⟩ := h
    rfl
  obtain ⟨a, b, v, cs, ds, d, n, rfl, hS, hB, hcl, hv, hfit, q⟩ := h
  refine ⟨_, (pss_cons (ps_if (PW.pt (pw_or (pt_not (pt_val (pe_callB (isiK K) rfl T.isinstance (by decide +kernel) (pa_cons (pv 2) (pa_cons (pe_bltn (v := .ty "list") (u := .type "list") rfl T.list (by decide +kernel) rfl) pa_nil))))) (pw_or1 (pt_cmpR op_gt (pe_callB (lenK K) rfl T.len (by decide +kernel) (pa_cons (pv 2) pa_nil)) (pe_callB (lenK K) rfl T.len (by decide +kernel) (pa_cons (pv 1) pa_nil)) (nomark _))))) (pss_one (ps_ret pe_bl)) pss_nil)
  (pss_cons (ps_for PassesOwn.never rfl (enumK K false rfl T.enumerate (pa_cons (pv 2) pa_nil)) (pgT K 2 rfl (pgs_cons (pg_name (i := 3) sc__law_is_row.nd rfl (.inl rfl)) (pgs_cons (pg_name (i := 4) sc__law_is_row.nd rfl (.inl rfl)) pgs_nil))) (pss_cons (ps_if (pt_not (pt_val (pe_call G__law_is_tick hr rfl D__law_is_tick.g D__law_is_tick.F.kp D__law_is_tick.b .nil pass0 (pa_cons (pv 0) (pa_cons (pe_ix (ixT K) (pv 1) (pv 3) (fun _ _ => rfl)) (pa_cons (pv 4) pa_nil)))))) (pss_one (ps_ret pe_bl)) pss_nil)
  (pss_cons (ps_set (i := 0) sc__law_is_row.nd rfl (.inl rfl) (pe_call G__law_burnt hr rfl D__law_burnt.g D__law_burnt.F.kp D__law_burnt.b .nil pass0 (pa_cons (pv 0) (pa_cons (pe_ix (ixT K) (pv 4) pe_int (fun _ _ => rfl)) (pa_cons (pe_ix (ixT K) (pv 4) pe_int (fun _ _ => rfl)) pa_nil)))))
  (pss_one (ps_if (PW.pt (pw_and (pt_cmpR op_eq (pe_callB (lenK K) rfl T.len (by decide +kernel) (pa_cons (pe_ix (ixT K) (pv 4) pe_int (fun _ _ => rfl)) pa_nil)) (pe_callB (lenK K) rfl T.len (by decide +kernel) (pa_cons (pe_ix (ixT K) (pv 4) pe_int (fun _ _ => rfl)) pa_nil)) (nomark _)) (pw_and1 (pt_cmpR op_lt (pv 3) (pe_op op_sub (pe_callB (lenK K) rfl T.len (by decide +kernel) (pa_cons (pv 2) pa_nil)) pe_int) (nomark _))))) (pss_one (ps_ret pe_bl)) pss_nil)))))
  (pss_one (ps_ret pe_bl)))), ?_⟩
  refine ⟨_, rfl, v, _, _, _, _, rfl, .ty _, dp_ty hv, kit_d d (by simp), _, rfl, if_b (fun c => ?_) (fun c => ?_)⟩
  · rw [cd_f (fun ⟨ts, e, _⟩ => by subst e; cases c)] at q
    exact if_t rfl (q H (Same.refl _))
  obtain ⟨es, rfl⟩ := is_lst (by cases h : dis "list" d <;> simp_all)
  obtain ⟨p, xs, rfl, hp, ha⟩ := dp_lst_get hv
  have hlen : xs.length = es.length := dpall_len ha
  have hfa : ∀ z ∈ es, Fit (n + 2) z := hfit.2
  refine ⟨_, rfl, p, xs, rfl, .inl hp, _, rfl, b, vi ds, rfl, .inr hB, _, _, rfl, rfl, _, rfl, if_b (fun c2 => ?_) (fun c2 => ?_)⟩
  · have c2 := of_decide_eq_true c2
    rw [vi_len, hlen] at c2
    have hno : ¬ IsRow cs ds (.list es) := fun ⟨ts, e, ho⟩ => by
      have e := PyData.list.inj e
      have := row_len ho
      rw [e, List.length_map] at c2
      omega
    rw [cd_f hno] at q
    exact q H (Same.refl _)
  have c2 := of_decide_eq_false c2
  rw [vi_len, hlen] at c2
  have hle : es.length ≤ ds.length := by omega
  have e0 : IsRow cs ds (.list es) ↔ RowD cs true ds es := ⟨fun ⟨ts, e, h⟩ => ⟨ts, PyData.list.inj e, h⟩, fun ⟨ts, e, h⟩ => ⟨ts, by rw [e], h⟩⟩
  rw [cd_iff e0] at q
  have q2 : SqB K false H p xs := hp
  -- for at, tick in enumerate(item)
  refine ⟨_, rfl, p, xs, rfl, q2, for_it (walk_enumB (tp := false) (xs := xs)) (fun i σ H' => ∃ (ca : Addr) (c : List Int) (fl : Bool) (y3 y4 : Option V), σ = [some (.ref ca), some (.ref b), some (.ref p), y3, y4] ∧ Same H H' ∧ SqT K H' ca (vi c) ∧ c.length = cs.length ∧ (i < es.length → fl = true) ∧ (RowD cs true ds es ↔ RowD c fl (ds.drop i) (es.drop i))) ⟨a, cs, true, none, none, rfl, Same.refl _, hS, rfl, fun _ => rfl, Iff.rfl⟩ (fun i σ H' _ ⟨_, _, _, _, _, _, sm, _⟩ => sm.sqb q2) (fun i x σ H1 H' hi hW hy => ?_) (fun σ H1 hW => ?_)⟩
  · obtain ⟨ca, c, fl, y3, y4, rfl, sm, hC, hcl', hflt, hiff⟩ := hW
    obtain ⟨tt, x1, x2, rfl, nT, rfl, e1, e2⟩ := hy
    cases Option.some.inj e1
    obtain ⟨dx, hdx, hvx⟩ := dpall_get1 ha e2
    have hie : i < es.length := by omega
    have hfl := hflt hie
    subst hfl
    have hk : ds[i]? = some ds[i] := List.getElem?_eq_getElem (by omega)
    generalize ds[i] = k at hk
    have hfx := hfa dx (List.mem_of_getElem? hdx)
    rw [drop_next hk, drop_next hdx] at hiff
    have s2 : Same H1 (upd H1 tt (.tup [.int (i : Nat), x2])) := Same.new nT
    have sm2 := sm.trans s2
    refine ⟨tt, _, rfl, SqT.of upd_same, rfl, _, _, rfl, _, _, rfl, rfl, ?_⟩
    -- if not _law_is_tick(candles, draughts[at], tick)
    refine ⟨_, rfl, _, rfl, _, rfl, b, _, _, _, rfl, rfl, sm2.sqt hB, atI_nat (by show (ds.map V.int)[i]? = _; rw [List.getElem?_map, hk]; rfl), _, rfl, ca, k, x2, c, dx, n, rfl, s2.sqt hC, hvx.same sm2, hfx, fun H3 s3 => ⟨_, rfl, if_b (fun c4 => ?_) (fun c4 => ?_)⟩⟩
    · have c4 : (!cd (IsTick c k dx)) = true := c4
      have hno : ¬ RowD cs true ds es := fun z => rowD_no (fun z2 => by rw [cd_t z2.2] at c4; cases c4) (hiff.mp z)
      rw [cd_f hno] at q
      exact q _ (sm2.trans s3)
    have c4 : (!cd (IsTick c k dx)) = false := c4
    have ht : IsTick c k dx := by
      cases h : cd (IsTick c k dx) with
      | true => exact cd_of h
      | false =>
        rw [h] at c4
        cases c4
    obtain ⟨lit, out, rfl, ht⟩ := ht
    have sm3 := sm2.trans s3
    obtain ⟨pt, ws, rfl, hpt, hat⟩ := dp_tup_get (hvx.same sm3)
    obtain ⟨w1, w2, rfl⟩ : ∃ w1 w2, ws = [w1, w2] := by
      have := dpall_len hat
      match ws, this with
      | [w1, w2], _ => exact ⟨w1, w2, rfl⟩
    cases hat with
    | cons ha1 ha2 =>
    cases ha2 with
    | cons ha2 _ =>
    obtain ⟨u1, rfl, hu1⟩ := dp_tints ha1
    obtain ⟨u2, rfl, hu2⟩ := dp_tints ha2
    -- candles = _law_burnt(candles, tick[0], tick[1])
    refine ⟨_, rfl, _, rfl, pt, _, 0, _, rfl, rfl, hpt, rfl, _, rfl, pt, _, 1, _, rfl, rfl, hpt, rfl, ca, u1, u2, c, lit, out, true, true, rfl, (s2.trans s3).sqt hC, hu1, hu2, by omega, rise_nd ht.pl.2, tick_in ht, fun H4 ca' s4 nca hca => ?_⟩
    have sm4 := sm3.trans s4
    have hpt4 := s4.sqt hpt
    -- if len(tick[0]) == len(tick[1]) and at < len(item) - 1
    refine ⟨_, rfl, pt, _, 0, _, rfl, rfl, hpt4, rfl, u1, vi lit, rfl, .inr (s4.sqt hu1), _, rfl, pt, _, 1, _, rfl, rfl, hpt4, rfl, u2, vi out, rfl, .inr (s4.sqt hu2), rfl, _, rfl, if_b (fun c5 => ?_) (fun c5 => ?_)⟩
    · have hee : lit.length = out.length := by
        have := V.int.inj (of_decide_eq_true c5)
        rw [vi_len, vi_len] at this
        omega
      have ed : decide (out.length < lit.length) = false := decide_eq_false (by omega)
      have hiff2 := hiff.trans (rowD_cons rfl rfl ht)
      rw [ed] at hiff2
      refine ⟨_, rfl, _, rfl, p, xs, rfl, .inl (sm4.seq hp), _, _, rfl, rfl, _, _, rfl, rfl, _, rfl, if_b (fun c6 => ?_) (fun c6 => ?_)⟩
      · have c6 := of_decide_eq_true c6
        rw [hlen] at c6
        have hno : ¬ RowD cs true ds es := fun z => by
          obtain ⟨ts, ets, ho⟩ := hiff2.mp z
          have hl2 := congrArg List.length ets
          rw [List.length_drop, List.length_map] at hl2
          match ts, ho with
          | [], _ =>
            have : es.length - (i + 1) = 0 := hl2
            omega
          | t :: ts, ho =>
            have hd : i + 1 < ds.length := by omega
            rw [show ds.drop (i + 1) = ds[i + 1] :: ds.drop (i + 1 + 1) from List.drop_eq_getElem_cons hd] at ho
            cases ho.1
        rw [cd_f hno] at q
        exact q _ sm4
      · have c6 := of_decide_eq_false c6
        rw [hlen] at c6
        exact ⟨ca', burntF c lit out, false, _, _, rfl, sm4, SqT.of hca, (burntF_len _ _ _).trans hcl', fun z => by omega, hiff2⟩
    · have hne : ¬ lit.length = out.length := fun z => by
        have c5 := of_decide_eq_false c5
        exact c5 (by rw [vi_len, vi_len, z])
      have hlo := tick_le ht
      have ed : decide (out.length < lit.length) = true := decide_eq_true (by omega)
      have hiff2 := hiff.trans (rowD_cons rfl rfl ht)
      rw [ed] at hiff2
      exact ⟨ca', burntF c lit out, true, _, _, rfl, sm4, SqT.of hca, (burntF_len _ _ _).trans hcl', fun _ => rfl, hiff2⟩
  · obtain ⟨ca, c, fl, y3, y4, rfl, sm, hC, hcl', hflt, hiff⟩ := hW
    rw [hlen, List.drop_length] at hiff
    rw [cd_t (hiff.mpr ⟨[], rfl, by cases ds.drop es.length <;> exact True.intro⟩)] at q
    exact q _ sm
/-! def _law_drawn_row -/
abbrev s__law_drawn_row : Stmt := topS 22
theorem sc__law_drawn_row : FnScope ["tape", "candles", "draughts", "found", "flame", "draught", "some", "gone", "place", "wax"] ["tape", "candles", "draughts"] (defScope s__law_drawn_row) := ⟨rfl, rfl, rfl, by decide +kernel, rfl, by decide +kernel, by decide +kernel⟩
/-- a tick: whom is lit, who is put out -/
def LD (H : Hp) (v : V) (x : List Int × List Int) : Prop := ∃ t u c, v = V.ref t ∧ H t = some (.tup [.ref u, .ref c]) ∧ H u = some (.tup (vi x.1)) ∧ H c = some (.tup (vi x.2))
theorem LD.keep {H H' : Hp} {D : Addr} {acc : List V} {v : V} {x : List Int × List Int} (h : H D = some (.lst acc)) (s : Smt D H H') (r : LD H v x) : LD H' v x := by
  obtain ⟨t, u, c, e, h1, h2, h3⟩ := r
  exact ⟨t, u, c, e, s t _ h1 (lst_ne h h1), s u _ h2 (lst_ne h h2), s c _ h3 (lst_ne h h3)⟩
theorem LD.same {H H' : Hp} {v : V} {x : List Int × List Int} (s : Same H H') (r : LD H v x) : LD H' v x := by
  obtain ⟨t, u, c, e, h1, h2, h3⟩ := r
  exact ⟨t, u, c, e, s t _ h1, s u _ h2, s c _ h3⟩
theorem LD.smt {H H' : Hp} {t a : Addr} {v : V} {x : List Int × List Int} (s : Smt t H H') (hT : TapeAt H t a) (r : LD H v x) : LD H' v x := by
  obtain ⟨p, u, c, e, h1, h2, h3⟩ := r
  exact ⟨p, u, c, e, s.tup hT h1, s.tup hT h2, s.tup hT h3⟩
/-- rows of drawn ticks -/
def spDrawnRow (K : PySem.W.Frag) : Sp := fun vs H Q _ => ∃ (t l b c : Addr) (cs ds : List Int), vs = [.ref t, .ref b, .ref c] ∧ TapeAt H t l ∧ SqT K H b (vi cs) ∧ H c = some (.tup (vi ds)) ∧ cs.length ≤ 100 ∧ ds.length ≤ 100 ∧ (∀ d ∈ ds, 0 ≤ d) ∧
  ∀ (H' : Hp) (p : Addr) (xs : List V) (ts : List (List Int × List Int)), TapeAt H' t l → Smt t H H' → H p = none → H' p = some (.lst xs) → Paired (LD H') xs ts → ts.length ≤ ds.length → (∀ u ∈ ts, u.1.length ≤ cs.length ∧ u.2.length ≤ cs.length) → Q (.ref p) H'
theorem ok__law_drawn_row {f : Addr} {fd : FuncData} (T : Bl mg) (F : Fun K "_law_drawn_row" "_law_drawn_row" s__law_drawn_row f fd) {f__law_draw : Addr} {fd__law_draw : FuncData} (D__law_draw : FnAt K mg "_law_draw" "_law_draw" s__law_draw ["tape", "many"] f__law_draw fd__law_draw) {f__law_burnt : Addr} {fd__law_burnt : FuncData} (D__law_burnt : FnAt K mg "_law_burnt" "_law_burnt" s__law_burnt ["candles", "lit", "out"] f__law_burnt fd__law_burnt) : FnOk P w K mg base CX0 2 f fd ["tape", "candles", "draughts"] (spDrawnRow K) := by
  have G__law_draw : FnOk P w K mg base CX0 1 f__law_draw fd__law_draw _ spDraw := ok__law_draw T D__law_draw.F
  have G__law_burnt : FnOk P w K mg base CX0 1 f__law_burnt fd__law_burnt _ (spLBurnt K) := ok__law_burnt T D__law_burnt.F
  refine F.ok sc__law_drawn_row (fun vs H Q E h => ?_) (fun cdv A outer s H vs Q E hr h => ?_)
  · obtain ⟨t, l, b, c, cs, ds, rfl, _⟩ := h
    rfl
  obtain ⟨t, l, b, c, cs, ds, rfl, hT, hb, hc, hcl, hdl, d0, q⟩ := h
  refine ⟨_, (pss_cons (ps_par (i := 3) (j := 4) rfl sc__law_drawn_row.nd rfl rfl (by decide) rfl rfl (pa_cons (pe_lst pa_nil) (pa_cons pe_bl pa_nil)) (by rfl))
  (pss_cons (ps_for PassesOwn.never rfl (piT K (pv 2)) (pg_name (i := 5) sc__law_drawn_row.nd rfl (.inl rfl)) (pss_cons (ps_setLc (i := 6) (own := [("place", 8), ("wax", 9)]) rfl sc__law_drawn_row.nd rfl rfl (sw_true rfl rfl rfl (by decide +kernel)) (enumK K true rfl T.enumerate (pa_cons (pv 1) pa_nil)) (blkOk_by (N := ["tape", "candles", "draughts", "found", "flame", "draught", "some", "gone", "place", "wax"]) (sc := defScope s__law_drawn_row) (own := [("place", 8), ("wax", 9)]) (by decide +kernel)) (fun _ _ _ _ _ => (pgT K 2 rfl (pgs_cons (pg_name (i := 8) sc__law_drawn_row.nd rfl (.inl rfl)) (pgs_cons (pg_name (i := 9) sc__law_drawn_row.nd rfl (.inl rfl)) pgs_nil)))) (fun _ _ _ _ _ => (pts_one (PW.pt (pw_and (pt_cmpR op_gt (pv 9) pe_int (nomark _)) (pw_and1 (pt_cmpR op_gt (pe_call G__law_draw hr rfl D__law_draw.g D__law_draw.F.kp D__law_draw.b .nil pass0 (pa_cons (pv 0) (pa_cons pe_int pa_nil))) pe_int (nomark _))))))) (fun _ _ _ _ _ => (pv 8)))
  (pss_cons (ps_set (i := 7) sc__law_drawn_row.nd rfl (.inl rfl) (pe_slice (slL K) (pe_lc (own := [("place", 8)]) rfl sc__law_drawn_row.nd (piL K (pv 6)) (blkOk_by (N := ["tape", "candles", "draughts", "found", "flame", "draught", "some", "gone", "place", "wax"]) (sc := defScope s__law_drawn_row) (own := [("place", 8)]) (by decide +kernel)) (fun _ _ _ _ _ => (pg_name (i := 8) sc__law_drawn_row.nd rfl (.inl rfl))) (fun _ _ _ _ _ => (pts_one (pt_cmpR op_eq (pe_call G__law_draw hr rfl D__law_draw.g D__law_draw.F.kp D__law_draw.b .nil pass0 (pa_cons (pv 0) (pa_cons pe_int pa_nil))) pe_int (nomark _)))) (fun _ _ _ _ _ => (pv 8))) po_none (po_some (pv 5))))
  (pss_one (ps_if (PW.pt (pw_and (pt_val (pv 4)) (pw_and1 (pt_cmpR op_gt (pe_call G__law_draw hr rfl D__law_draw.g D__law_draw.F.kp D__law_draw.b .nil pass0 (pa_cons (pv 0) (pa_cons pe_int pa_nil))) pe_int (nomark _))))) (pss_cons (ps_expr (pe_bm PySem.F.plainAttrs_list PySem.F.slot_list_append PySem.F.type_list_append mt_append (pv 3) (pa_cons (pe_tup (pa_cons (pe_callTy (tupleK K) rfl T.tuple (by decide +kernel) (pa_cons (pv 6) pa_nil)) (pa_cons (pe_callTy (tupleK K) rfl T.tuple (by decide +kernel) (pa_cons (pv 7) pa_nil)) pa_nil))) pa_nil)))
  (pss_one (ps_par (i := 1) (j := 4) rfl sc__law_drawn_row.nd rfl rfl (by decide) rfl rfl (pa_cons (pe_call G__law_burnt hr rfl D__law_burnt.g D__law_burnt.F.kp D__law_burnt.b .nil pass0 (pa_cons (pv 1) (pa_cons (pv 6) (pa_cons (pv 7) pa_nil)))) (pa_cons (pe_cmpR op_lt (pe_callB (lenK K) rfl T.len (by decide +kernel) (pa_cons (pv 7) pa_nil)) (pe_callB (lenK K) rfl T.len (by decide +kernel) (pa_cons (pv 6) pa_nil)) (nomark _)) pa_nil)) (by rfl)))) (pss_one (ps_set (i := 4) sc__law_drawn_row.nd rfl (.inl rfl) pe_bl)))))))
  (pss_one (ps_ret (pv 3))))), ?_⟩
  -- found, flame = [], True
  refine ⟨Nat.zero_le _, fun o no => ⟨_, _, rfl, ?_⟩⟩
  have s0 : Same H (upd H o (.lst [])) := Same.new no
  have xot : o ≠ t := fun z => hT.ne_none no z.symm
  have xol : o ≠ l := fun z => hT.ne_none2 no z.symm
  refine ⟨_, rfl, c, rfl, ⟨_, SqT.of (s0 _ _ hc)⟩, for_tup (K := K) (a := c) (xs := vi ds) (fun i σ H' => ∃ (ca : Addr) (cc : List Int) (fl : Bool) (ts : List (List Int × List Int)) (xs : List V) (y5 y6 y7 y8 y9 : Option V), σ = [some (.ref t), some (.ref ca), some (.ref c), some (.ref o), some (.bl fl), y5, y6, y7, y8, y9] ∧ TapeAt H' t l ∧ Smt t H H' ∧ H' c = some (.tup (vi ds)) ∧ SqT K H' ca (vi cc) ∧ cc.length = cs.length ∧ H' o = some (.lst xs) ∧ Paired (LD H') xs ts ∧ ts.length ≤ i ∧ (∀ u ∈ ts, u.1.length ≤ cs.length ∧ u.2.length ≤ cs.length))
    ⟨b, cs, true, [], [], none, none, none, none, none, rfl, hT.same s0, Smt.of s0, s0 _ _ hc, s0.sqt hb, rfl, upd_same, .nil, Nat.le_refl _, fun u hu => nomatch hu⟩ (fun i σ H' _ hW => ?_) (fun i x σ H1 hx hW => ?_) (fun σ H1 hW => ?_)⟩
  · obtain ⟨_, _, _, _, _, _, _, _, _, _, _, _, _, h, _⟩ := hW
    exact SqT.of h
  · obtain ⟨ca, cc, fl, ts, xs, y5, y6, y7, y8, y9, rfl, hT1, sm, hc1, hC, hccl, hO, hpr, htl, hbd⟩ := hW
    obtain ⟨d, hd, rfl⟩ := vi_get hx
    have hd0 := d0 d (List.mem_of_getElem? hd)
    have hi : i < ds.length := (List.getElem?_eq_some_iff.mp hd).1
    obtain ⟨dn, rfl⟩ := Int.eq_ofNat_of_zero_le hd0
    have hCB : SqB K true H1 ca (vi cc) := hC
    -- some = [place for place, wax in enumerate(candles) if wax > 0 and _law_draw(tape, 4) > 0]
    refine ⟨_, rfl, ca, vi cc, rfl, hCB, fun D hD => ?_⟩
    refine lc_tape (walk_enumB (tp := true) (xs := vi cc)) hT1 hD (by rw [vi_len]; omega) (fun j zs => zs.length ≤ j ∧ zs.Nodup ∧ ∀ z ∈ zs, 0 ≤ z ∧ z < (j : Int)) ⟨Nat.le_refl _, .nil, fun z hz => nomatch hz⟩ (fun j zs h => h.1) (fun H s => s.sqt hT1 hC) (fun j x H2 H' zs kn ky hj sm2 hT2 hI y h1 h2 => ?_) (fun zs H2 sm2 hT2 e hI => ?_)
    · obtain ⟨tt, x1, x2, rfl, nT, rfl, e1, e2⟩ := y
      cases Option.some.inj e1
      obtain ⟨z, hz, rfl⟩ := vi_get e2
      have sn : Same H2 (upd H2 tt (.tup [.int (j : Nat), .int z])) := Same.new nT
      have hT3 := hT2.same sn
      have up : zs.length ≤ j + 1 ∧ zs.Nodup ∧ ∀ z ∈ zs, 0 ≤ z ∧ z < ((j + 1 : Nat) : Int) := ⟨Nat.le_succ_of_le hI.1, hI.2.1, fun z hz => by have := hI.2.2 z hz; omega⟩
      refine ⟨tt, _, rfl, SqT.of upd_same, rfl, _, _, rfl, _, _, rfl, rfl, rfl, _, rfl, _, _, rfl, rfl, _, rfl, if_b (fun _ => ?_) (fun _ => if_f rfl (h1 _ (Smt.of sn) hT3 up))⟩
      refine ⟨_, rfl, t, l, 4, rfl, hT3, by decide, by decide, fun r H4 r0 r1 hT4 s4 => ⟨_, _, rfl, rfl, _, rfl, if_b (fun _ => ?_) (fun _ => ?_)⟩⟩
      · refine ⟨_, rfl, h2 _ _ ((Smt.of sn).trans s4) hT4 ⟨?_, ?_, ?_⟩⟩
        · rw [List.length_append]
          show zs.length + 1 ≤ j + 1
          omega
        · refine List.nodup_append.mpr ⟨hI.2.1, List.pairwise_singleton _ _, fun u hu v hv => ?_⟩
          rw [List.mem_singleton.mp hv]
          have := hI.2.2 u hu
          omega
        · exact all_snoc up.2.2 (by omega)
      · exact h1 _ ((Smt.of sn).trans s4) hT4 up
    rw [vi_len] at hI
    have xDt : D ≠ t := fun z => hT1.ne_none hD z.symm
    have hO2 := sm2 _ _ hO xot
    have hC2 := sm2.sqt hT1 hC
    have hc2 := sm2.tup hT1 hc1
    have hpr2 := paired_mono (fun v x (r : LD _ v x) => r.smt sm2 hT1) hpr
    -- gone = [place for place in some if _law_draw(tape, 2) == 0][:draught]
    refine ⟨_, rfl, D, rfl, ⟨_, SqL.of e⟩, fun D2 hD2 => ?_⟩
    refine lc_tape (walk_list (xs := vi zs)) hT2 hD2 (by rw [vi_len]; omega) (fun j us => us.Sublist (zs.take j)) (List.Sublist.refl _) (fun j us h => Nat.le_trans h.length_le (List.length_take_le _ _)) (fun H s => SqL.of (s _ _ e xDt)) (fun j x H3 H' us kn ky hj sm3 hT3 hJ y h1 h2 => ?_) (fun us H3 sm3 hT3 e3 hJ => ?_)
    · obtain ⟨rfl, hx⟩ := y
      obtain ⟨z, hz, rfl⟩ := vi_get hx
      refine ⟨rfl, _, rfl, t, l, 2, rfl, hT3, by decide, by decide, fun r H4 r0 r1 hT4 s4 => ⟨rfl, _, rfl, if_b (fun _ => ?_) (fun _ => ?_)⟩⟩
      · refine ⟨_, rfl, h2 z _ s4 hT4 ?_⟩
        rw [take_next hz]
        exact hJ.append (List.Sublist.refl _)
      · refine h1 _ s4 hT4 ?_
        rw [take_next hz]
        exact hJ.trans (List.sublist_append_left _ _)
    rw [vi_len, List.take_length] at hJ
    refine ⟨_, rfl, _, rfl, D2, vi us, rfl, SqL.of e3, fun g ng => ?_⟩
    have ecut : cutV (vi us) none (some ((dn : Nat) : Int)) = vi (us.take dn) := by
      unfold cutV
      rw [HT.sIx_nat, HT.sIx_none, vi_len, Nat.sub_zero, List.drop_zero]
      by_cases h : dn ≤ us.length
      · rw [Nat.min_eq_left h]
        exact List.map_take.symm
      · rw [Nat.min_eq_right (by omega), List.take_of_length_le (l := us) (by omega), ← vi_len, List.take_length]
    rw [ecut]
    have hsub : (us.take dn).Sublist zs := (List.take_sublist _ _).trans hJ
    generalize us.take dn = gone at hsub
    have s4 : Same H3 (upd H3 g (.lst (vi gone))) := Same.new ng
    have hg4 : (upd H3 g (.lst (vi gone))) g = some (.lst (vi gone)) := upd_same
    have xgt : g ≠ t := fun z => hT3.ne_none ng z.symm
    have sm24 := sm3.trans (Smt.of s4)
    have hT4 := hT3.same s4
    have hO4 := sm24 _ _ hO2 xot
    have hC4 := sm24.sqt hT2 hC2
    have hc4 := sm24.tup hT2 hc2
    have hD4 := sm24 _ _ e xDt
    have hpr4 := paired_mono (fun v x (r : LD _ v x) => r.smt sm24 hT2) hpr2
    have smA := (sm.trans sm2).trans sm24
    have hzl : zs.length ≤ cs.length := by omega
    have hgl : gone.length ≤ cs.length := Nat.le_trans hsub.length_le hzl
    generalize upd H3 g (.lst (vi gone)) = H4 at s4 hg4 sm24 hT4 hO4 hC4 hc4 hD4 hpr4 smA
    -- if flame and _law_draw(tape, 9) > 0
    refine ⟨_, rfl, _, rfl, if_b (fun _ => ?_) (fun _ => if_f rfl ⟨_, cc, _, ts, xs, _, _, _, _, _, rfl, hT4, smA, hc4, hC4, hccl, hO4, hpr4, by omega, hbd⟩)⟩
    refine ⟨_, rfl, t, l, 9, rfl, hT4, by decide, by decide, fun r H5 r0 r1 hT5 s5 => ⟨_, _, rfl, rfl, _, rfl, if_b (fun _ => ?_) (fun _ => ?_)⟩⟩
    · have hO5 := s5 _ _ hO4 xot
      have hC5 := s5.sqt hT4 hC4
      have hc5 := s5.tup hT4 hc4
      have hD5 := s5 _ _ hD4 xDt
      have hg5 := s5 _ _ hg4 xgt
      have hpr5 := paired_mono (fun v x (r : LD _ v x) => r.smt s5 hT4) hpr4
      -- found.append((tuple(some), tuple(gone)))
      refine ⟨_, rfl, .inl ⟨rfl, _, SqL.of hO5⟩, _, rfl, D, _, rfl, .inl ⟨SqL.of hD5, fun u nu => ?_⟩⟩
      have s6 : Same H5 (upd H5 u (.tup (vi zs))) := Same.new nu
      have hu6 : (upd H5 u (.tup (vi zs))) u = some (.tup (vi zs)) := upd_same
      have hg6 := s6 _ _ hg5
      generalize upd H5 u (.tup (vi zs)) = H6 at s6 hu6 hg6
      refine ⟨_, rfl, g, _, rfl, .inl ⟨SqL.of hg6, fun v nv => ?_⟩⟩
      have s7 : Same H6 (upd H6 v (.tup (vi gone))) := Same.new nv
      have hv7 : (upd H6 v (.tup (vi gone))) v = some (.tup (vi gone)) := upd_same
      have hu7 := s7 _ _ hu6
      generalize upd H6 v (.tup (vi gone)) = H7 at s7 hv7 hu7
      refine ⟨by show 2 ≤ sizeLine; decide, fun e2 ne2 => ?_⟩
      have s8 : Same H7 (upd H7 e2 (.tup [.ref u, .ref v])) := Same.new ne2
      have he8 : (upd H7 e2 (.tup [.ref u, .ref v])) e2 = some (.tup [.ref u, .ref v]) := upd_same
      have hu8 := s8 _ _ hu7
      have hv8 := s8 _ _ hv7
      generalize upd H7 e2 (.tup [.ref u, .ref v]) = H8 at s8 he8 hu8 hv8
      have s58 := s6.trans (s7.trans s8)
      have hO8 := s58 _ _ hO5
      refine ⟨o, _, _, rfl, rfl, hO8, small1000 (by rw [paired_len hpr5]; omega), ?_⟩
      have su : Smt o H8 (upd H8 o (.lst (xs ++ [.ref e2]))) := Smt.upd
      have kp : ∀ x zs, H8 x = some (.tup zs) → (upd H8 o (.lst (xs ++ [.ref e2]))) x = some (.tup zs) := fun x zs h => by
        rw [upd_ne (lst_ne hO8 h)]
        exact h
      have xDo : D ≠ o := fun z => by rw [z, hO] at hD; cases hD
      have xgo : g ≠ o := fun z => by
        have h3 := sm3 _ _ hO2 xot
        rw [z, h3] at ng
        cases ng
      have hT9 := (hT5.same s58).but su xot.symm xol.symm
      have hC9 := sqt_keep hO8 su (s58.sqt hC5)
      have hc9 := kp _ _ (s58 _ _ hc5)
      have hD9 := su _ _ (s58 _ _ hD5) xDo
      have hg9 := su _ _ (s58 _ _ hg5) xgo
      have hpr9 := paired_app (paired_mono (fun v x (r : LD _ v x) => (r.same s58).keep hO8 su) hpr5) (.cons (b := (zs, gone)) ⟨e2, u, v, rfl, kp _ _ he8, kp _ _ hu8, kp _ _ hv8⟩ .nil)
      have hO9 : (upd H8 o (.lst (xs ++ [.ref e2]))) o = some (.lst (xs ++ [.ref e2])) := upd_same
      have nHo : H o = none := no
      have smB : Smt t H (upd H8 o (.lst (xs ++ [.ref e2]))) := ((smA.trans s5).trans (Smt.of s58)).new nHo
      generalize upd H8 o (.lst (xs ++ [.ref e2])) = H9 at su kp hT9 hC9 hc9 hD9 hg9 hpr9 hO9 smB
      -- candles, flame = _law_burnt(candles, some, gone), len(gone) < len(some)
      refine ⟨_, rfl, _, rfl, _, rfl, ca, D, g, cc, zs, gone, false, false, rfl, hC9, SqL.of hD9, SqL.of hg9, by omega, hI.2.1, hI.2.2, fun H10 ca' s10 nca hca => ?_⟩
      refine ⟨_, rfl, g, vi gone, rfl, .inl (SqL.of (s10 _ _ hg9)), _, rfl, D, vi zs, rfl, .inl (SqL.of (s10 _ _ hD9)), _, _, rfl, rfl, _, _, rfl, ?_⟩
      refine ⟨ca', burntF cc zs gone, _, ts ++ [(zs, gone)], _, _, _, _, _, _, rfl, hT9.same s10, smB.trans (Smt.of s10), s10 _ _ hc9, SqT.of hca, (burntF_len _ _ _).trans hccl, s10 _ _ hO9, paired_mono (fun v x (r : LD _ v x) => r.same s10) hpr9, ?_, ?_⟩
      · rw [List.length_append]
        show ts.length + 1 ≤ i + 1
        omega
      · exact all_snoc hbd ⟨hzl, hgl⟩
    · exact ⟨ca, cc, _, ts, xs, _, _, _, _, _, rfl, hT5, smA.trans s5, s5.tup hT4 hc4, s5.sqt hT4 hC4, hccl, s5 _ _ hO4 xot, paired_mono (fun v x (r : LD _ v x) => r.smt s5 hT4) hpr4, by omega, hbd⟩
  · obtain ⟨ca, cc, fl, ts, xs, y5, y6, y7, y8, y9, rfl, hT1, sm, hc1, hC, hccl, hO, hpr, htl, hbd⟩ := hW
    rw [vi_len] at htl
    exact ⟨_, rfl, q H1 o xs ts hT1 sm no hO hpr htl hbd⟩
abbrev s_law : Stmt := topS 23
theorem sc_law : FnScope ["script", "tape", "turn", "candles", "draughts", "row", "places", "things", "at", "some", "other", "thing", "good", "left", "flame", "lit", "gone", "k"] ["script"] (defScope s_law) := ⟨rfl, rfl, rfl, by decide +kernel, rfl, by decide +kernel, by decide +kernel⟩

theorem ld_hid {K : PySem.W.Frag} {H : Hp} {B : Addr → Prop} (hB : ∀ x zs, H x = some (.tup zs) → ¬B x) : ∀ {xs : List V} {ts : List (List Int × List Int)}, Paired (LD H) xs ts → DpAll K (hid B H) xs (ts.map tickD)
  | _, _, .nil => .nil
  | _, _, .cons r q => by
    obtain ⟨p, u, c, e, h1, h2, h3⟩ := r
    subst e
    exact .cons (.tup (SqT.of (hid_get h1 (hB _ _ h1))) (.cons (dp_tup (SqT.of (hid_get h2 (hB _ _ h2)))) (.cons (dp_tup (SqT.of (hid_get h3 (hB _ _ h3)))) .nil))) (ld_hid hB q)
theorem fz_tick {t : List Int × List Int} {m n : Nat} (hm : 2 ≤ m) (h1 : t.1.length ≤ m) (h2 : t.2.length ≤ m) : Fz m (n + 3) (tickD t) := ⟨hm, fun d hd => by
  rcases List.mem_cons.mp hd with rfl | hd
  · exact fz_ints h1
  · rw [List.mem_singleton.mp hd]
    exact fz_ints h2⟩
theorem fz_ticks {ts : List (List Int × List Int)} (h : ∀ u ∈ ts, u.1.length ≤ 27 ∧ u.2.length ≤ 27) : ∀ d ∈ ts.map tickD, Fz 27 7 d := fun d hd => by
  obtain ⟨u, hu, rfl⟩ := List.mem_map.mp hd
  exact fz_tick (n := 4) (by decide) (h u hu).1 (h u hu).2
theorem apart_ts {K : PySem.W.Frag} {H : Hp} {t l a : Addr} {xs : List V} {ts : List (List Int × List Int)} (hT : TapeAt H t l) (n : a ≠ t) (h : H a = some (.lst xs)) (hp : Paired (LD H) xs ts) (h1 : ts.length ≤ 27) (h2 : ∀ u ∈ ts, u.1.length ≤ 27 ∧ u.2.length ≤ 27) : Apart K t H (.ref a) :=
  ⟨.list (ts.map tickD), .lst (SqL.of (hid_get h n)) (ld_hid (fun x zs q => tup_ne hT q) hp), ⟨by rw [List.length_map]; exact h1, fz_ticks h2⟩⟩
theorem apart_tt {K : PySem.W.Frag} {H : Hp} {t l a : Addr} {xs : List V} {ts : List (List Int × List Int)} (hT : TapeAt H t l) (h : H a = some (.tup xs)) (hp : Paired (LD H) xs ts) (h1 : ts.length ≤ 27) (h2 : ∀ u ∈ ts, u.1.length ≤ 27 ∧ u.2.length ≤ 27) : Apart K t H (.ref a) :=
  ⟨.tuple (ts.map tickD), .tup (SqT.of (hid_get h (tup_ne hT h))) (ld_hid (fun x zs q => tup_ne hT q) hp), ⟨by rw [List.length_map]; exact h1, fz_ticks h2⟩⟩
theorem ld_one {H : Hp} {p u v : Addr} {a b : List Int} (hp : H p = some (.tup [.ref u, .ref v])) (hu : H u = some (.tup (vi a))) (hv : H v = some (.tup (vi b))) : LD H (.ref p) (a, b) := ⟨p, u, v, rfl, hp, hu, hv⟩
theorem paired_rev {α β : Type} {F : α → β → Prop} : ∀ {a : List α} {b : List β}, Paired F a b → Paired F a.reverse b.reverse
  | _, _, .nil => .nil
  | _, _, .cons r t => by
    rw [List.reverse_cons, List.reverse_cons]
    exact paired_app (paired_rev t) (.cons r .nil)
theorem paired_drop {α β : Type} {F : α → β → Prop} : ∀ {a : List α} {b : List β} (n : Nat), Paired F a b → Paired F (a.drop n) (b.drop n)
  | _, _, 0, h => h
  | _, _, _ + 1, .nil => .nil
  | _, _, n + 1, .cons _ t => paired_drop n t
theorem paired_rep {α β : Type} {F : α → β → Prop} {a : α} {b : β} (h : F a b) : ∀ n : Nat, Paired F (List.replicate n a) (List.replicate n b)
  | 0 => .nil
  | n + 1 => .cons h (paired_rep h n)
theorem cutV_take (xs : List V) (n : Nat) : cutV xs none (some (n : Int)) = xs.take n := by
  unfold cutV
  rw [HT.sIx_nat, HT.sIx_none, Nat.sub_zero, List.drop_zero]
  by_cases h : n ≤ xs.length
  · rw [Nat.min_eq_left h]
  · rw [Nat.min_eq_right (by omega), List.take_of_length_le (Nat.le_refl _), List.take_of_length_le (by omega)]
theorem cutV_drop (xs : List V) (n : Nat) : cutV xs (some (n : Int)) none = xs.drop n := by
  unfold cutV
  rw [HT.sIx_nat, HT.sIx_none]
  by_cases h : n ≤ xs.length
  · rw [Nat.min_eq_left h, List.take_of_length_le (by rw [List.length_drop]; exact Nat.le_refl _)]
  · rw [Nat.min_eq_right (by omega), Nat.sub_self, List.take_zero, List.drop_of_length_le (by omega)]
theorem fz_true : Fz 27 8 (.list [.tuple [.tuple [.bool true], .tuple (di [])]]) := ⟨by show 1 ≤ 27; decide, fun d hd => by
  rw [List.mem_singleton.mp hd]
  refine ⟨by show 2 ≤ 27; decide, fun z hz => ?_⟩
  rcases List.mem_cons.mp hz with rfl | hz
  · refine ⟨by show 1 ≤ 27; decide, fun y hy => ?_⟩
    rw [List.mem_singleton.mp hy]
    exact True.intro
  · rw [List.mem_singleton.mp hz]
    exact fz_ints (n := 4) (by decide)⟩
theorem shaped_ticks (ts : List (List Int × List Int)) : SeqAt.shaped (.list (ts.map tickD)) = true := (okd_list (n := 2) fun d hd => by
  obtain ⟨u, _, rfl⟩ := List.mem_map.mp hd
  refine okd_tup (n := 1) fun z hz => ?_
  rcases List.mem_cons.mp hz with rfl | hz
  · exact okd_tup (okd_ints 0 _)
  · rw [List.mem_singleton.mp hz]
    exact okd_tup (okd_ints 0 _)).shaped (by decide)
theorem row_at : ∀ {ts : List (List Int × List Int)} {cs ds : List Int} {fl : Bool} {u : List Int × List Int}, RowOk cs fl ds (u :: ts) → ∃ d r, ds = d :: r ∧ TickOk cs d u.1 u.2 ∧ RowOk (burntF cs u.1 u.2) (decide (u.2.length < u.1.length)) r ts
  | _, _, [], _, _, h => h.elim
  | _, _, d :: r, _, _, h => ⟨d, r, rfl, h.2.1, h.2.2⟩
/-- what stands while things are gathered in o -/
structure KR (K : PySem.W.Frag) (t l b c rw pl o : Addr) (cs ds ps : List Int) (xs : List V) (ts : List (List Int × List Int)) (n : Nat) (H : Hp) : Prop where
  ot : o ≠ t
  ol : o ≠ l
  rt : rw ≠ t
  ro : rw ≠ o
  tape : TapeAt H t l
  hb : H b = some (.tup (vi cs))
  hc : H c = some (.tup (vi ds))
  hr : H rw = some (.lst xs)
  hp : H pl = some (.tup (vi ps))
  ppr : Paired (LD H) xs ts
  ex : ∃ ws es, H o = some (.lst ws) ∧ ws.length ≤ n ∧ DpAll K (hid (addB (fun a => a = t) o) H) ws es ∧ ∀ e ∈ es, Fz 27 8 e
section
variable {t l b c rw pl o : Addr} {cs ds ps : List Int} {xs : List V} {ts : List (List Int × List Int)} {n : Nat} {H H' : Hp}
theorem KR.smt (k : KR K t l b c rw pl o cs ds ps xs ts n H) (s : Smt t H H') (hT : TapeAt H' t l) : KR K t l b c rw pl o cs ds ps xs ts n H' := by
  obtain ⟨ws, es, h1, h2, h3, h4⟩ := k.ex
  exact ⟨k.ot, k.ol, k.rt, k.ro, hT, s.tup k.tape k.hb, s.tup k.tape k.hc, s _ _ k.hr k.rt, s.tup k.tape k.hp, paired_mono (fun v x r => r.smt s k.tape) k.ppr, ws, es, s _ _ h1 k.ot, h2, DpAll.same (hid_smt s (.inl rfl)) h3, h4⟩
theorem KR.same (k : KR K t l b c rw pl o cs ds ps xs ts n H) (s : Same H H') : KR K t l b c rw pl o cs ds ps xs ts n H' := k.smt (Smt.of s) (k.tape.same s)
theorem KR.nb (k : KR K t l b c rw pl o cs ds ps xs ts n H) : ∀ x zs, H x = some (.tup zs) → ¬ addB (fun a => a = t) o x := fun x zs h z => by
  obtain ⟨ws, es, h1, _⟩ := k.ex
  rcases z with z | z
  · exact tup_ne k.tape h z
  · rw [z, h1] at h
    cases h
theorem KR.bk (k : KR K t l b c rw pl o cs ds ps xs ts n H) : Bk (addB (fun a => a = t) o) H := by
  obtain ⟨ws, es, h1, _⟩ := k.ex
  exact (bk_t k.tape).add h1
theorem KR.mono {m : Nat} (k : KR K t l b c rw pl o cs ds ps xs ts n H) (h : n ≤ m) : KR K t l b c rw pl o cs ds ps xs ts m H := by
  obtain ⟨ws, es, h1, h2, h3⟩ := k.ex
  exact ⟨k.ot, k.ol, k.rt, k.ro, k.tape, k.hb, k.hc, k.hr, k.hp, k.ppr, ws, es, h1, Nat.le_trans h2 h, h3⟩
theorem KR.app (k : KR K t l b c rw pl o cs ds ps xs ts n H) {ws : List V} (hO : H o = some (.lst ws)) {w : V} {e : PyData} (hw : Dp K (hid (addB (fun a => a = t) o) H) w e) (hf : Fz 27 8 e) : KR K t l b c rw pl o cs ds ps xs ts (n + 1) (upd H o (.lst (ws ++ [w]))) := by
  obtain ⟨ws', es, h1, h2, h3, h4⟩ := k.ex
  rw [hO] at h1
  cases h1
  obtain ⟨g1, g2⟩ := grow_data (Smt.refl t H) h3 h4 hw hf
  have kp : ∀ x zs, H x = some (.tup zs) → (upd H o (.lst (ws ++ [w]))) x = some (.tup zs) := fun x zs h => by
    rw [upd_ne (lst_ne hO h)]
    exact h
  refine ⟨k.ot, k.ol, k.rt, k.ro, k.tape.but Smt.upd k.ot.symm k.ol.symm, kp _ _ k.hb, kp _ _ k.hc, ?_, kp _ _ k.hp, paired_mono (fun v x r => r.keep hO Smt.upd) k.ppr, _, _, upd_same, ?_, g1, g2⟩
  · rw [upd_ne k.ro]
    exact k.hr
  · rw [List.length_append]
    show _ + 1 ≤ _
    omega
theorem KR.cat (k : KR K t l b c rw pl o cs ds ps xs ts n H) {w : V} {e : PyData} (hw : Dp K (hid (addB (fun a => a = t) o) H) w e) (hf : Fz 27 7 e) (hl : ts.length ≤ 10) (h8 : ∀ u ∈ ts, u.1.length ≤ 27 ∧ u.2.length ≤ 27) {g : Addr} {m m' : Nat} (hg : H g = some (.lst (xs.take m ++ [w] ++ xs.drop m'))) (ng : ¬ addB (fun a => a = t) o g) :
    ∃ e', Dp K (hid (addB (fun a => a = t) o) H) (.ref g) e' ∧ Fz 27 8 e' := by
  have h1 := ld_hid (K := K) k.nb k.ppr
  refine ⟨.list ((ts.map tickD).take m ++ [e] ++ (ts.map tickD).drop m'), .lst (SqL.of (hid_get hg ng)) (dpall_app (dpall_app (dpall_take m h1) (.cons hw .nil)) (dpall_drop m' h1)), ?_, ?_⟩
  · rw [List.length_append, List.length_append, List.length_take, List.length_drop, List.length_map]
    show min m ts.length + 1 + (ts.length - m') ≤ 27
    omega
  · have hz := fz_ticks h8
    intro z hm
    rcases List.mem_append.mp hm with hm | hm
    · rcases List.mem_append.mp hm with hm | hm
      · exact hz z (List.mem_of_mem_take hm)
      · rw [List.mem_singleton.mp hm]
        exact hf
    · exact hz z (List.mem_of_mem_drop hm)
end
abbrev rowEnd (left : List Int) (fl : Bool) : PyData := .tuple [.tuple (di left), .bool fl]
def spLaw (K : PySem.W.Frag) : Sp := fun vs H Q _ => ∃ (a : Addr) (ns : List Int), vs = [.ref a] ∧ SqL K H a (vi ns) ∧ ns.length ≤ 63 ∧ ∀ H', Q (.bl true) H'
theorem ok_law {f : Addr} {fd : FuncData} (T : Bl mg) (F : Fun K "law" "law" s_law f fd) {f_is_within : Addr} {fd_is_within : FuncData} (D_is_within : FnAt K mg "is_within" "is_within" s_is_within ["thing", "low", "high"] f_is_within fd_is_within) {f_are_places : Addr} {fd_are_places : FuncData} (D_are_places : FnAt K mg "are_places" "are_places" s_are_places ["candles", "thing"] f_are_places fd_are_places) {f_is_tick : Addr} {fd_is_tick : FuncData} (D_is_tick : FnAt K mg "is_tick" "is_tick" s_is_tick ["candles", "draught", "thing"] f_is_tick fd_is_tick) {f_burnt : Addr} {fd_burnt : FuncData} (D_burnt : FnAt K mg "burnt" "burnt" s_burnt ["candles", "lit", "out"] f_burnt fd_burnt) {f_is_row : Addr} {fd_is_row : FuncData} (D_is_row : FnAt K mg "is_row" "is_row" s_is_row ["candles", "draughts", "thing"] f_is_row fd_is_row) {f_behind : Addr} {fd_behind : FuncData} (D_behind : FnAt K mg "behind" "behind" s_behind ["candles", "draughts", "row"] f_behind fd_behind) {f__law_draw : Addr} {fd__law_draw : FuncData} (D__law_draw : FnAt K mg "_law_draw" "_law_draw" s__law_draw ["tape", "many"] f__law_draw fd__law_draw) {f__law_whole : Addr} {fd__law_whole : FuncData} (D__law_whole : FnAt K mg "_law_whole" "_law_whole" s__law_whole ["item"] f__law_whole fd__law_whole) {f__law_within : Addr} {fd__law_within : FuncData} (D__law_within : FnAt K mg "_law_within" "_law_within" s__law_within ["item", "low", "high"] f__law_within fd__law_within) {f__law_like : Addr} {fd__law_like : FuncData} (D__law_like : FnAt K mg "_law_like" "_law_like" s__law_like ["one", "two"] f__law_like fd__law_like) {f__law_any : Addr} {fd__law_any : FuncData} (D__law_any : FnAt K mg "_law_any" "_law_any" s__law_any ["tape", "deep"] f__law_any fd__law_any) {f__law_spoilt : Addr} {fd__law_spoilt : FuncData} (D__law_spoilt : FnAt K mg "_law_spoilt" "_law_spoilt" s__law_spoilt ["tape", "item"] f__law_spoilt fd__law_spoilt) {f__law_rises : Addr} {fd__law_rises : FuncData} (D__law_rises : FnAt K mg "_law_rises" "_law_rises" s__law_rises ["some"] f__law_rises fd__law_rises) {f__law_candles : Addr} {fd__law_candles : FuncData} (D__law_candles : FnAt K mg "_law_candles" "_law_candles" s__law_candles ["tape", "size", "wax"] f__law_candles fd__law_candles) {f__law_draughts : Addr} {fd__law_draughts : FuncData} (D__law_draughts : FnAt K mg "_law_draughts" "_law_draughts" s__law_draughts ["tape", "size", "top"] f__law_draughts fd__law_draughts) {f__law_near : Addr} {fd__law_near : FuncData} (D__law_near : FnAt K mg "_law_near" "_law_near" s__law_near ["tape", "candles", "size", "top"] f__law_near fd__law_near) {f__law_night : Addr} {fd__law_night : FuncData} (D__law_night : FnAt K mg "_law_night" "_law_night" s__law_night ["tape", "size", "wax", "ticks", "top"] f__law_night fd__law_night) {f__law_burnt : Addr} {fd__law_burnt : FuncData} (D__law_burnt : FnAt K mg "_law_burnt" "_law_burnt" s__law_burnt ["candles", "lit", "out"] f__law_burnt fd__law_burnt) {f__law_is_tick : Addr} {fd__law_is_tick : FuncData} (D__law_is_tick : FnAt K mg "_law_is_tick" "_law_is_tick" s__law_is_tick ["candles", "draught", "item"] f__law_is_tick fd__law_is_tick) {f__law_is_row : Addr} {fd__law_is_row : FuncData} (D__law_is_row : FnAt K mg "_law_is_row" "_law_is_row" s__law_is_row ["candles", "draughts", "item"] f__law_is_row fd__law_is_row) {f__law_drawn_row : Addr} {fd__law_drawn_row : FuncData} (D__law_drawn_row : FnAt K mg "_law_drawn_row" "_law_drawn_row" s__law_drawn_row ["tape", "candles", "draughts"] f__law_drawn_row fd__law_drawn_row) : FnOk P w K mg base CX0 13 f fd ["script"] (spLaw K) := by
  have G__law_night : FnOk P w K mg base CX0 12 f__law_night fd__law_night _ spNight := (ok__law_night T D__law_night.F D__law_draw D__law_candles D__law_draughts D__law_near).mono (by decide)
  have G__law_draw : FnOk P w K mg base CX0 12 f__law_draw fd__law_draw _ spDraw := (ok__law_draw T D__law_draw.F).mono (by decide)
  have G__law_like : FnOk P w K mg base CX0 12 f__law_like fd__law_like _ (spLike K 4) := (ok__law_like T D__law_like 4).mono (by decide)
  have G__law_any : FnOk P w K mg base CX0 12 f__law_any fd__law_any _ (spAny K 3) := (ok__law_any T D__law_any D__law_draw 3).mono (by decide)
  have G__law_spoilt : FnOk P w K mg base CX0 12 f__law_spoilt fd__law_spoilt _ (spSpoiltU K 8) := spoilt_u fun n hn => (ok__law_spoilt T D__law_spoilt D__law_draw D__law_any D__law_whole n).mono (by omega)
  have G__law_burnt : FnOk P w K mg base CX0 12 f__law_burnt fd__law_burnt _ (spLBurnt K) := (ok__law_burnt T D__law_burnt.F).mono (by decide)
  have G__law_is_row : FnOk P w K mg base CX0 12 f__law_is_row fd__law_is_row _ (spRow K) := (ok__law_is_row T D__law_is_row.F D__law_is_tick D__law_burnt D__law_within D__law_rises D__law_whole).mono (by decide)
  have G__law_drawn_row : FnOk P w K mg base CX0 12 f__law_drawn_row fd__law_drawn_row _ (spDrawnRow K) := (ok__law_drawn_row T D__law_drawn_row.F D__law_draw D__law_burnt).mono (by decide)
  have G_is_row : FnOk P w K mg base CX0 12 f_is_row fd_is_row _ (spRow K) := (ok_is_row T D_is_row.F D_is_tick D_burnt D_are_places D_is_within).mono (by decide)
  have G_behind : FnOk P w K mg base CX0 12 f_behind fd_behind _ (spBehind K) := (ok_behind T D_behind.F D_burnt).mono (by decide)
  refine F.ok sc_law (fun vs H Q E h => ?_) (fun cdv A outer s H vs Q E hr h => ?_)
  · obtain ⟨a, ns, rfl, _⟩ := h
    rfl
  obtain ⟨a, ns, rfl, hS, hl, q⟩ := h
  refine ⟨_, (pss_cons (ps_set (i := 1) sc_law.nd rfl (.inr rfl) (pe_lst (pa_cons (pe_callTy (listK K) rfl T.list (by decide +kernel) (pa_cons (pv 0) pa_nil)) (pa_cons pe_int (pa_cons pe_int pa_nil)))))
  (pss_cons (ps_for PassesOwn.never rfl (pi_range1 rfl T.range (pa_cons pe_int pa_nil)) (pg_name (i := 2) sc_law.nd rfl (.inl rfl)) (pss_cons (ps_asg (pe_call G__law_night hr rfl D__law_night.g D__law_night.F.kp D__law_night.b .nil pass0 (pa_cons (pv 1) (pa_cons pe_int (pa_cons pe_int (pa_cons pe_int (pa_cons pe_int pa_nil)))))) (pgT K 2 rfl (pgs_cons (pg_name (i := 3) sc_law.nd rfl (.inl rfl)) (pgs_cons (pg_name (i := 4) sc_law.nd rfl (.inl rfl)) pgs_nil))))
  (pss_cons (ps_set (i := 5) sc_law.nd rfl (.inr rfl) (pe_call G__law_drawn_row hr rfl D__law_drawn_row.g D__law_drawn_row.F.kp D__law_drawn_row.b .nil pass0 (pa_cons (pv 1) (pa_cons (pv 3) (pa_cons (pv 4) pa_nil)))))
  (pss_cons (ps_set (i := 6) sc_law.nd rfl (.inl rfl) (pe_tupRg rfl rfl T.tuple (prg_1 rfl T.range (pe_callB (lenK K) rfl T.len (by decide +kernel) (pa_cons (pv 3) pa_nil)))))
  (pss_cons (ps_set (i := 7) sc_law.nd rfl (.inl rfl) (pe_lst (pa_cons (pv 5) (pa_cons (pe_callTy (tupleK K) rfl T.tuple (by decide +kernel) (pa_cons (pv 5) pa_nil)) (pa_cons (pe_slice (slL K) (pv 5) (po_some pe_int) po_none) (pa_cons (pe_revK K (pv 5)) (pa_cons (pe_op op_cat (pv 5) (pv 5)) (pa_cons (pe_op op_cat (pv 5) (pe_lst (pa_cons (pe_tup (pa_cons (pv 6) (pa_cons (pe_tup pa_nil) pa_nil))) pa_nil))) (pa_cons (pe_lst (pa_cons (pe_tup (pa_cons (pe_tup pa_nil) (pa_cons (pe_tup pa_nil) pa_nil))) pa_nil)) (pa_cons (pe_lst pa_nil) (pa_cons pe_non pa_nil)))))))))))
  (pss_cons (ps_set (i := 7) sc_law.nd rfl (.inl rfl) (pe_op op_cat (pv 7) (pe_lst (pa_cons (pe_op op_cat (pv 5) (pe_op op_rep (pe_lst (pa_cons (pe_tup (pa_cons (pe_tup pa_nil) (pa_cons (pe_tup pa_nil) pa_nil))) pa_nil)) pe_int)) (pa_cons (pe_lst (pa_cons (pe_tup (pa_cons (pv 6) (pa_cons (pv 6) pa_nil))) pa_nil)) (pa_cons (pe_lst (pa_cons (pe_tup (pa_cons (pe_tup (pa_cons pe_int (pa_cons pe_int pa_nil))) (pa_cons (pe_tup pa_nil) pa_nil))) pa_nil)) (pa_cons (pe_lst (pa_cons (pe_tup (pa_cons (pe_tup (pa_cons pe_bl pa_nil)) (pa_cons (pe_tup pa_nil) pa_nil))) pa_nil)) pa_nil)))))))
  (pss_cons (ps_expr (pe_bm PySem.F.plainAttrs_list PySem.F.slot_list_append PySem.F.type_list_append mt_append (pv 7) (pa_cons (pe_lst (pa_cons (pe_tup (pa_cons (pe_revTK K (pv 6)) (pa_cons (pe_tup pa_nil) pa_nil))) pa_nil)) pa_nil)))
  (C8.pss_cut (ps_if (pt_cmpR (neDK K hr.units) (pv 5) (pe_lst pa_nil) (nomark _)) (pss_cons (ps_set (i := 8) sc_law.nd rfl (.inr rfl) (pe_call G__law_draw hr rfl D__law_draw.g D__law_draw.F.kp D__law_draw.b .nil pass0 (pa_cons (pv 1) (pa_cons (pe_callB (lenK K) rfl T.len (by decide +kernel) (pa_cons (pv 5) pa_nil)) pa_nil))))
  (pss_cons (ps_setLc (i := 9) (own := [("k", 17)]) rfl sc_law.nd rfl rfl (sw_true rfl rfl rfl (by decide +kernel)) (pi_range1 rfl T.range (pa_cons pe_int pa_nil)) (blkOk_by (N := ["script", "tape", "turn", "candles", "draughts", "row", "places", "things", "at", "some", "other", "thing", "good", "left", "flame", "lit", "gone", "k"]) (sc := defScope s_law) (own := [("k", 17)]) (by decide +kernel)) (fun _ _ _ _ _ => (pg_name (i := 17) sc_law.nd rfl (.inl rfl))) (fun _ _ _ _ _ => pts_nil) (fun _ _ _ _ _ => (pe_call G__law_spoilt hr rfl D__law_spoilt.g D__law_spoilt.F.kp D__law_spoilt.b .nil pass0 (pa_cons (pv 1) (pa_cons (pe_ix (ixL K) (pv 5) (pv 8) (fun _ _ => rfl)) pa_nil)))))
  (pss_one (ps_for PassesOwn.never rfl (piL K (pe_op op_cat (pv 9) (pe_lst (pa_cons (pe_tup (pa_cons (pv 6) (pa_cons (pe_ix (ixT K) (pe_ix (ixL K) (pv 5) (pv 8) (fun _ _ => rfl)) pe_int (fun _ _ => rfl)) pa_nil))) (pa_cons (pe_revTK K (pe_ix (ixL K) (pv 5) (pv 8) (fun _ _ => rfl))) pa_nil))))) (pg_name (i := 10) sc_law.nd rfl (.inl rfl)) (pss_one (ps_expr (pe_bm PySem.F.plainAttrs_list PySem.F.slot_list_append PySem.F.type_list_append mt_append (pv 7) (pa_cons (pe_op op_cat (pe_op op_cat (pe_slice (slL K) (pv 5) po_none (po_some (pv 8))) (pe_lst (pa_cons (pv 10) pa_nil))) (pe_slice (slL K) (pv 5) (po_some (pe_op op_add (pv 8) pe_int)) po_none)) pa_nil)))))))) pss_nil)
  (pss_one (ps_for PassesOwn.never rfl (piL K (pe_op op_cat (pv 7) (pe_lst (pa_cons (pe_call G__law_any hr rfl D__law_any.g D__law_any.F.kp D__law_any.b .nil pass0 (pa_cons (pv 1) (pa_cons pe_int pa_nil))) pa_nil)))) (pg_name (i := 11) sc_law.nd rfl (.inl rfl)) (pss_cons (ps_set (i := 12) sc_law.nd rfl (.inl rfl) (pe_call G__law_is_row hr rfl D__law_is_row.g D__law_is_row.F.kp D__law_is_row.b .nil pass0 (pa_cons (pv 3) (pa_cons (pv 4) (pa_cons (pv 11) pa_nil)))))
  (pss_cons (ps_if (pt_not (pt_val (pe_call G__law_like hr rfl D__law_like.g D__law_like.F.kp D__law_like.b .nil pass0 (pa_cons (pe_call G_is_row hr rfl D_is_row.g D_is_row.F.kp D_is_row.b .nil pass0 (pa_cons (pv 3) (pa_cons (pv 4) (pa_cons (pv 11) pa_nil)))) (pa_cons (pv 12) pa_nil))))) (pss_one (ps_ret pe_bl)) pss_nil)
  (pss_one (ps_if (pt_val (pv 12)) (pss_cons (ps_par (i := 13) (j := 14) rfl sc_law.nd rfl rfl (by decide) rfl rfl (pa_cons (pv 3) (pa_cons pe_bl pa_nil)) (by rfl))
  (pss_cons (ps_for PassesOwn.never rfl (piL K (pv 11)) (pgT K 2 rfl (pgs_cons (pg_name (i := 15) sc_law.nd rfl (.inl rfl)) (pgs_cons (pg_name (i := 16) sc_law.nd rfl (.inl rfl)) pgs_nil))) (pss_one (ps_par (i := 13) (j := 14) rfl sc_law.nd rfl rfl (by decide) rfl rfl (pa_cons (pe_call G__law_burnt hr rfl D__law_burnt.g D__law_burnt.F.kp D__law_burnt.b .nil pass0 (pa_cons (pv 13) (pa_cons (pv 15) (pa_cons (pv 16) pa_nil)))) (pa_cons (pe_cmpR op_lt (pe_callB (lenK K) rfl T.len (by decide +kernel) (pa_cons (pv 16) pa_nil)) (pe_callB (lenK K) rfl T.len (by decide +kernel) (pa_cons (pv 15) pa_nil)) (nomark _)) pa_nil)) (by rfl))))
  (pss_one (ps_if (pt_not (pt_val (pe_call G__law_like hr rfl D__law_like.g D__law_like.F.kp D__law_like.b .nil pass0 (pa_cons (pe_call G_behind hr rfl D_behind.g D_behind.F.kp D_behind.b .nil pass0 (pa_cons (pv 3) (pa_cons (pv 4) (pa_cons (pv 11) pa_nil)))) (pa_cons (pe_tup (pa_cons (pv 13) (pa_cons (pv 14) pa_nil))) pa_nil))))) (pss_one (ps_ret pe_bl)) pss_nil)))) pss_nil))))))))))))))
  (pss_one (ps_ret pe_bl)))), ?_⟩
  -- tape = [list(script), 0, 0]
  refine ⟨_, rfl, a, vi ns, rfl, .inl hS, fun l nl => ⟨by show 3 ≤ sizeLine; decide, fun t nt => ?_⟩⟩
  have hT0 : TapeAt (upd (upd H l (.lst (vi ns))) t (.lst [.ref l, .int 0, .int 0])) t l := by
    refine ⟨ns, 0, 0, upd_same, ?_, by decide⟩
    rw [upd_ne (ne_of_none upd_same nt)]
    exact upd_same
  have hsl : sizeLine = 16777216 := sizeLine_eq
  refine ⟨4, rfl, by decide, by decide, for_range (lo := 0) (n := 4) (fun i σ H' => ∃ (z2 z3 z4 z5 z6 z7 z8 z9 z10 z11 z12 z13 z14 z15 z16 z17 : Option V), σ = [some (.ref a), some (.ref t), z2, z3, z4, z5, z6, z7, z8, z9, z10, z11, z12, z13, z14, z15, z16, z17] ∧ TapeAt H' t l) ⟨none, none, none, none, none, none, none, none, none, none, none, none, none, none, none, none, rfl, hT0⟩ (fun i σ H1 hi hW => ?_) (fun σ H1 hW => ?_)⟩
  · obtain ⟨z2, z3, z4, z5, z6, z7, z8, z9, z10, z11, z12, z13, z14, z15, z16, z17, rfl, hT⟩ := hW
    -- candles, draughts
    refine ⟨_, rfl, t, l, 8, 12, 10, 7, rfl, hT, by decide, by decide, by decide, by decide, by decide, by decide, by decide, by decide, fun p b c cs ds H2 hcs hds hT2 s2 hp hb hc => ⟨p, _, rfl, SqT.of hp, rfl, _, _, rfl, _, _, rfl, rfl, ?_⟩⟩
    have lc : cs.length ≤ 8 := by have := hcs.2.1; omega
    have ld : ds.length ≤ 10 := by have := hds.1; omega
    have d0 : ∀ x ∈ ds, 0 ≤ x := fun x hx => (hds.2 x hx).1
    clear hT s2 hp
    -- row = _law_drawn_row(tape, candles, draughts)
    refine ⟨_, rfl, _, rfl, _, rfl, t, l, b, c, cs, ds, rfl, hT2, SqT.of hb, hc, by omega, by omega, d0, fun H3 rw xs ts hT3 s3 nrw hrw hpr htl hbd => ?_⟩
    have hb := s3.tup hT2 hb
    have hc := s3.tup hT2 hc
    have xrt : rw ≠ t := fun z => hT2.ne_none nrw z.symm
    have hT := hT3
    have ht10 : ts.length ≤ 10 := by omega
    have h27 : ∀ u ∈ ts, u.1.length ≤ 27 ∧ u.2.length ≤ 27 := fun u hu => by have := hbd u hu; omega
    have hxl : xs.length = ts.length := paired_len hpr
    -- places = tuple(range(len(candles)))
    refine ⟨_, rfl, b, vi cs, rfl, .inr (SqT.of hb), _, rfl, RgOk.of_le (by decide) (by rw [vi_len]; omega) (by decide) (by omega), fun pl npl => ?_⟩
    have erg : rgV 0 ((vi cs).length : Nat) = vi (plN cs.length) := by
      show (List.range (((vi cs).length : Nat) - 0 : Int).toNat).map (fun (i : Nat) => V.int (0 + (i : Int))) = ((List.range cs.length).map fun (i : Nat) => (i : Int)).map V.int
      rw [vi_len, Int.sub_zero, Int.toNat_natCast, List.map_map]
      exact List.map_congr_left fun k _ => by rw [Int.zero_add]; rfl
    rw [erg]
    have spl : Same H3 (upd H3 pl (.tup (vi (plN cs.length)))) := Same.new npl
    have hpl : (upd H3 pl (.tup (vi (plN cs.length)))) pl = some (.tup (vi (plN cs.length))) := upd_same
    have hb := spl _ _ hb
    have hc := spl _ _ hc
    have hrw := spl _ _ hrw
    have hpr := paired_mono (fun v x (r : LD _ v x) => r.same spl) hpr
    have hT := hT.same spl
    have hps : (plN cs.length).length ≤ 8 := by
      show ((List.range _).map _).length ≤ 8
      rw [List.length_map, List.length_range]
      exact lc
    generalize upd H3 pl (.tup (vi (plN cs.length))) = H4 at spl hpl hb hc hrw hpr hT
    generalize plN cs.length = ps at hpl hps
    clear hT2 hT3 s3 spl
    have sA : Same H4 H4 := Same.refl _
    -- things
    refine ⟨_, rfl, _, rfl, rw, _, rfl, .inl ⟨SqL.of hrw, fun g1 ng1 => ?_⟩⟩
    have sg1 : Same H4 (upd H4 g1 (.tup xs)) := Same.new ng1
    have xg1 : g1 ≠ t := fun z => hT.ne_none ng1 z.symm
    have eg1 : (upd H4 g1 (.tup xs)) g1 = some (.tup xs) := upd_same
    have sA := sA.trans sg1
    have hb := sg1 _ _ hb
    have hc := sg1 _ _ hc
    have hrw := sg1 _ _ hrw
    have hpl := sg1 _ _ hpl
    have hT := hT.same sg1
    generalize upd H4 g1 (.tup xs) = H21 at sg1 eg1 hT sA hb hc hrw hpl
    clear sg1
    refine ⟨_, rfl, _, rfl, noPart ⟨rw, xs, rfl, SqL.of hrw, fun g2 ng2 => ?_⟩⟩
    have sg2 : Same H21 (upd H21 g2 (.lst (cutV xs (some 1) none))) := Same.new ng2
    have xg2 : g2 ≠ t := fun z => hT.ne_none ng2 z.symm
    have eg2 : (upd H21 g2 (.lst (cutV xs (some 1) none))) g2 = some (.lst (cutV xs (some 1) none)) := upd_same
    have sA := sA.trans sg2
    have hb := sg2 _ _ hb
    have hc := sg2 _ _ hc
    have hrw := sg2 _ _ hrw
    have hpl := sg2 _ _ hpl
    have eg1 := sg2 _ _ eg1
    have hT := hT.same sg2
    generalize upd H21 g2 (.lst (cutV xs (some 1) none)) = H22 at sg2 eg2 hT sA hb hc hrw hpl eg1
    clear sg2
    refine ⟨_, rfl, rw, xs, rfl, SqL.of hrw, fun g3 ng3 => ?_⟩
    have sg3 : Same H22 (upd H22 g3 (.lst xs.reverse)) := Same.new ng3
    have xg3 : g3 ≠ t := fun z => hT.ne_none ng3 z.symm
    have eg3 : (upd H22 g3 (.lst xs.reverse)) g3 = some (.lst xs.reverse) := upd_same
    have sA := sA.trans sg3
    have hb := sg3 _ _ hb
    have hc := sg3 _ _ hc
    have hrw := sg3 _ _ hrw
    have hpl := sg3 _ _ hpl
    have eg1 := sg3 _ _ eg1
    have eg2 := sg3 _ _ eg2
    have hT := hT.same sg3
    generalize upd H22 g3 (.lst xs.reverse) = H23 at sg3 eg3 hT sA hb hc hrw hpl eg1 eg2
    clear sg3
    refine ⟨_, rfl, _, rfl, rw, rw, _, _, rfl, rfl, hrw, hrw, by omega, fun g4 ng4 => ?_⟩
    have sg4 : Same H23 (upd H23 g4 (.lst (xs ++ xs))) := Same.new ng4
    have xg4 : g4 ≠ t := fun z => hT.ne_none ng4 z.symm
    have eg4 : (upd H23 g4 (.lst (xs ++ xs))) g4 = some (.lst (xs ++ xs)) := upd_same
    have sA := sA.trans sg4
    have hb := sg4 _ _ hb
    have hc := sg4 _ _ hc
    have hrw := sg4 _ _ hrw
    have hpl := sg4 _ _ hpl
    have eg1 := sg4 _ _ eg1
    have eg2 := sg4 _ _ eg2
    have eg3 := sg4 _ _ eg3
    have hT := hT.same sg4
    generalize upd H23 g4 (.lst (xs ++ xs)) = H24 at sg4 eg4 hT sA hb hc hrw hpl eg1 eg2 eg3
    clear sg4
    refine ⟨_, rfl, _, rfl, by show 0 ≤ sizeLine; decide, fun u1 nu1 => ?_⟩
    have su1 : Same H24 (upd H24 u1 (.tup [])) := Same.new nu1
    have xu1 : u1 ≠ t := fun z => hT.ne_none nu1 z.symm
    have eu1 : (upd H24 u1 (.tup [])) u1 = some (.tup (vi [])) := upd_same
    have sA := sA.trans su1
    have hb := su1 _ _ hb
    have hc := su1 _ _ hc
    have hrw := su1 _ _ hrw
    have hpl := su1 _ _ hpl
    have eg1 := su1 _ _ eg1
    have eg2 := su1 _ _ eg2
    have eg3 := su1 _ _ eg3
    have eg4 := su1 _ _ eg4
    have hT := hT.same su1
    generalize upd H24 u1 (.tup []) = H25 at su1 eu1 hT sA hb hc hrw hpl eg1 eg2 eg3 eg4
    clear su1
    refine ⟨by show 2 ≤ sizeLine; decide, fun u2 nu2 => ?_⟩
    have su2 : Same H25 (upd H25 u2 (.tup [V.ref pl, V.ref u1])) := Same.new nu2
    have xu2 : u2 ≠ t := fun z => hT.ne_none nu2 z.symm
    have eu2 : (upd H25 u2 (.tup [V.ref pl, V.ref u1])) u2 = some (.tup [V.ref pl, V.ref u1]) := upd_same
    have sA := sA.trans su2
    have hb := su2 _ _ hb
    have hc := su2 _ _ hc
    have hrw := su2 _ _ hrw
    have hpl := su2 _ _ hpl
    have eg1 := su2 _ _ eg1
    have eg2 := su2 _ _ eg2
    have eg3 := su2 _ _ eg3
    have eg4 := su2 _ _ eg4
    have eu1 := su2 _ _ eu1
    have hT := hT.same su2
    generalize upd H25 u2 (.tup [V.ref pl, V.ref u1]) = H26 at su2 eu2 hT sA hb hc hrw hpl eg1 eg2 eg3 eg4 eu1
    clear su2
    refine ⟨by show 1 ≤ sizeLine; decide, fun u3 nu3 => ?_⟩
    have su3 : Same H26 (upd H26 u3 (.lst [V.ref u2])) := Same.new nu3
    have xu3 : u3 ≠ t := fun z => hT.ne_none nu3 z.symm
    have eu3 : (upd H26 u3 (.lst [V.ref u2])) u3 = some (.lst [V.ref u2]) := upd_same
    have sA := sA.trans su3
    have hb := su3 _ _ hb
    have hc := su3 _ _ hc
    have hrw := su3 _ _ hrw
    have hpl := su3 _ _ hpl
    have eg1 := su3 _ _ eg1
    have eg2 := su3 _ _ eg2
    have eg3 := su3 _ _ eg3
    have eg4 := su3 _ _ eg4
    have eu1 := su3 _ _ eu1
    have eu2 := su3 _ _ eu2
    have hT := hT.same su3
    generalize upd H26 u3 (.lst [V.ref u2]) = H27 at su3 eu3 hT sA hb hc hrw hpl eg1 eg2 eg3 eg4 eu1 eu2
    clear su3
    refine ⟨rw, u3, _, _, rfl, rfl, hrw, eu3, by show xs.length + 1 ≤ sizeLine; omega, fun g5 ng5 => ?_⟩
    have sg5 : Same H27 (upd H27 g5 (.lst (xs ++ [.ref u2]))) := Same.new ng5
    have xg5 : g5 ≠ t := fun z => hT.ne_none ng5 z.symm
    have eg5 : (upd H27 g5 (.lst (xs ++ [.ref u2]))) g5 = some (.lst (xs ++ [.ref u2])) := upd_same
    have sA := sA.trans sg5
    have hb := sg5 _ _ hb
    have hc := sg5 _ _ hc
    have hrw := sg5 _ _ hrw
    have hpl := sg5 _ _ hpl
    have eg1 := sg5 _ _ eg1
    have eg2 := sg5 _ _ eg2
    have eg3 := sg5 _ _ eg3
    have eg4 := sg5 _ _ eg4
    have eu1 := sg5 _ _ eu1
    have eu2 := sg5 _ _ eu2
    have eu3 := sg5 _ _ eu3
    have hT := hT.same sg5
    generalize upd H27 g5 (.lst (xs ++ [.ref u2])) = H28 at sg5 eg5 hT sA hb hc hrw hpl eg1 eg2 eg3 eg4 eu1 eu2 eu3
    clear sg5
    refine ⟨by show 0 ≤ sizeLine; decide, fun v1 nv1 => ?_⟩
    have sv1 : Same H28 (upd H28 v1 (.tup [])) := Same.new nv1
    have xv1 : v1 ≠ t := fun z => hT.ne_none nv1 z.symm
    have ev1 : (upd H28 v1 (.tup [])) v1 = some (.tup (vi [])) := upd_same
    have sA := sA.trans sv1
    have hb := sv1 _ _ hb
    have hc := sv1 _ _ hc
    have hrw := sv1 _ _ hrw
    have hpl := sv1 _ _ hpl
    have eg1 := sv1 _ _ eg1
    have eg2 := sv1 _ _ eg2
    have eg3 := sv1 _ _ eg3
    have eg4 := sv1 _ _ eg4
    have eu1 := sv1 _ _ eu1
    have eu2 := sv1 _ _ eu2
    have eu3 := sv1 _ _ eu3
    have eg5 := sv1 _ _ eg5
    have hT := hT.same sv1
    generalize upd H28 v1 (.tup []) = H29 at sv1 ev1 hT sA hb hc hrw hpl eg1 eg2 eg3 eg4 eu1 eu2 eu3 eg5
    clear sv1
    refine ⟨by show 0 ≤ sizeLine; decide, fun v2 nv2 => ?_⟩
    have sv2 : Same H29 (upd H29 v2 (.tup [])) := Same.new nv2
    have xv2 : v2 ≠ t := fun z => hT.ne_none nv2 z.symm
    have ev2 : (upd H29 v2 (.tup [])) v2 = some (.tup (vi [])) := upd_same
    have sA := sA.trans sv2
    have hb := sv2 _ _ hb
    have hc := sv2 _ _ hc
    have hrw := sv2 _ _ hrw
    have hpl := sv2 _ _ hpl
    have eg1 := sv2 _ _ eg1
    have eg2 := sv2 _ _ eg2
    have eg3 := sv2 _ _ eg3
    have eg4 := sv2 _ _ eg4
    have eu1 := sv2 _ _ eu1
    have eu2 := sv2 _ _ eu2
    have eu3 := sv2 _ _ eu3
    have eg5 := sv2 _ _ eg5
    have ev1 := sv2 _ _ ev1
    have hT := hT.same sv2
    generalize upd H29 v2 (.tup []) = H30 at sv2 ev2 hT sA hb hc hrw hpl eg1 eg2 eg3 eg4 eu1 eu2 eu3 eg5 ev1
    clear sv2
    refine ⟨by show 2 ≤ sizeLine; decide, fun v3 nv3 => ?_⟩
    have sv3 : Same H30 (upd H30 v3 (.tup [V.ref v1, V.ref v2])) := Same.new nv3
    have xv3 : v3 ≠ t := fun z => hT.ne_none nv3 z.symm
    have ev3 : (upd H30 v3 (.tup [V.ref v1, V.ref v2])) v3 = some (.tup [V.ref v1, V.ref v2]) := upd_same
    have sA := sA.trans sv3
    have hb := sv3 _ _ hb
    have hc := sv3 _ _ hc
    have hrw := sv3 _ _ hrw
    have hpl := sv3 _ _ hpl
    have eg1 := sv3 _ _ eg1
    have eg2 := sv3 _ _ eg2
    have eg3 := sv3 _ _ eg3
    have eg4 := sv3 _ _ eg4
    have eu1 := sv3 _ _ eu1
    have eu2 := sv3 _ _ eu2
    have eu3 := sv3 _ _ eu3
    have eg5 := sv3 _ _ eg5
    have ev1 := sv3 _ _ ev1
    have ev2 := sv3 _ _ ev2
    have hT := hT.same sv3
    generalize upd H30 v3 (.tup [V.ref v1, V.ref v2]) = H31 at sv3 ev3 hT sA hb hc hrw hpl eg1 eg2 eg3 eg4 eu1 eu2 eu3 eg5 ev1 ev2
    clear sv3
    refine ⟨by show 1 ≤ sizeLine; decide, fun g6 ng6 => ?_⟩
    have sg6 : Same H31 (upd H31 g6 (.lst [V.ref v3])) := Same.new ng6
    have xg6 : g6 ≠ t := fun z => hT.ne_none ng6 z.symm
    have eg6 : (upd H31 g6 (.lst [V.ref v3])) g6 = some (.lst [V.ref v3]) := upd_same
    have sA := sA.trans sg6
    have hb := sg6 _ _ hb
    have hc := sg6 _ _ hc
    have hrw := sg6 _ _ hrw
    have hpl := sg6 _ _ hpl
    have eg1 := sg6 _ _ eg1
    have eg2 := sg6 _ _ eg2
    have eg3 := sg6 _ _ eg3
    have eg4 := sg6 _ _ eg4
    have eu1 := sg6 _ _ eu1
    have eu2 := sg6 _ _ eu2
    have eu3 := sg6 _ _ eu3
    have eg5 := sg6 _ _ eg5
    have ev1 := sg6 _ _ ev1
    have ev2 := sg6 _ _ ev2
    have ev3 := sg6 _ _ ev3
    have hT := hT.same sg6
    generalize upd H31 g6 (.lst [V.ref v3]) = H32 at sg6 eg6 hT sA hb hc hrw hpl eg1 eg2 eg3 eg4 eu1 eu2 eu3 eg5 ev1 ev2 ev3
    clear sg6
    refine ⟨Nat.zero_le _, fun g7 ng7 => ?_⟩
    have sg7 : Same H32 (upd H32 g7 (.lst [])) := Same.new ng7
    have xg7 : g7 ≠ t := fun z => hT.ne_none ng7 z.symm
    have eg7 : (upd H32 g7 (.lst [])) g7 = some (.lst []) := upd_same
    have sA := sA.trans sg7
    have hb := sg7 _ _ hb
    have hc := sg7 _ _ hc
    have hrw := sg7 _ _ hrw
    have hpl := sg7 _ _ hpl
    have eg1 := sg7 _ _ eg1
    have eg2 := sg7 _ _ eg2
    have eg3 := sg7 _ _ eg3
    have eg4 := sg7 _ _ eg4
    have eu1 := sg7 _ _ eu1
    have eu2 := sg7 _ _ eu2
    have eu3 := sg7 _ _ eu3
    have eg5 := sg7 _ _ eg5
    have ev1 := sg7 _ _ ev1
    have ev2 := sg7 _ _ ev2
    have ev3 := sg7 _ _ ev3
    have eg6 := sg7 _ _ eg6
    have hT := hT.same sg7
    generalize upd H32 g7 (.lst []) = H33 at sg7 eg7 hT sA hb hc hrw hpl eg1 eg2 eg3 eg4 eu1 eu2 eu3 eg5 ev1 ev2 ev3 eg6
    clear sg7
    refine ⟨by show 9 ≤ sizeLine; decide, fun o1 no1 => ?_⟩
    have so1 : Same H33 (upd H33 o1 (.lst [V.ref rw, V.ref g1, V.ref g2, V.ref g3, V.ref g4, V.ref g5, V.ref g6, V.ref g7, V.non])) := Same.new no1
    have xo1 : o1 ≠ t := fun z => hT.ne_none no1 z.symm
    have eo1 : (upd H33 o1 (.lst [V.ref rw, V.ref g1, V.ref g2, V.ref g3, V.ref g4, V.ref g5, V.ref g6, V.ref g7, V.non])) o1 = some (.lst [V.ref rw, V.ref g1, V.ref g2, V.ref g3, V.ref g4, V.ref g5, V.ref g6, V.ref g7, V.non]) := upd_same
    have sA := sA.trans so1
    have hb := so1 _ _ hb
    have hc := so1 _ _ hc
    have hrw := so1 _ _ hrw
    have hpl := so1 _ _ hpl
    have eg1 := so1 _ _ eg1
    have eg2 := so1 _ _ eg2
    have eg3 := so1 _ _ eg3
    have eg4 := so1 _ _ eg4
    have eu1 := so1 _ _ eu1
    have eu2 := so1 _ _ eu2
    have eu3 := so1 _ _ eu3
    have eg5 := so1 _ _ eg5
    have ev1 := so1 _ _ ev1
    have ev2 := so1 _ _ ev2
    have ev3 := so1 _ _ ev3
    have eg6 := so1 _ _ eg6
    have eg7 := so1 _ _ eg7
    have hT := hT.same so1
    generalize upd H33 o1 (.lst [V.ref rw, V.ref g1, V.ref g2, V.ref g3, V.ref g4, V.ref g5, V.ref g6, V.ref g7, V.non]) = H34 at so1 eo1 hT sA hb hc hrw hpl eg1 eg2 eg3 eg4 eu1 eu2 eu3 eg5 ev1 ev2 ev3 eg6 eg7
    clear so1
    -- things = things + [..]
    refine ⟨_, rfl, _, rfl, by show 0 ≤ sizeLine; decide, fun w1 nw1 => ?_⟩
    have sw1 : Same H34 (upd H34 w1 (.tup [])) := Same.new nw1
    have xw1 : w1 ≠ t := fun z => hT.ne_none nw1 z.symm
    have ew1 : (upd H34 w1 (.tup [])) w1 = some (.tup (vi [])) := upd_same
    have sA := sA.trans sw1
    have hb := sw1 _ _ hb
    have hc := sw1 _ _ hc
    have hrw := sw1 _ _ hrw
    have hpl := sw1 _ _ hpl
    have eg1 := sw1 _ _ eg1
    have eg2 := sw1 _ _ eg2
    have eg3 := sw1 _ _ eg3
    have eg4 := sw1 _ _ eg4
    have eu1 := sw1 _ _ eu1
    have eu2 := sw1 _ _ eu2
    have eu3 := sw1 _ _ eu3
    have eg5 := sw1 _ _ eg5
    have ev1 := sw1 _ _ ev1
    have ev2 := sw1 _ _ ev2
    have ev3 := sw1 _ _ ev3
    have eg6 := sw1 _ _ eg6
    have eg7 := sw1 _ _ eg7
    have eo1 := sw1 _ _ eo1
    have hT := hT.same sw1
    generalize upd H34 w1 (.tup []) = H35 at sw1 ew1 hT sA hb hc hrw hpl eg1 eg2 eg3 eg4 eu1 eu2 eu3 eg5 ev1 ev2 ev3 eg6 eg7 eo1
    clear sw1
    refine ⟨by show 0 ≤ sizeLine; decide, fun w2 nw2 => ?_⟩
    have sw2 : Same H35 (upd H35 w2 (.tup [])) := Same.new nw2
    have xw2 : w2 ≠ t := fun z => hT.ne_none nw2 z.symm
    have ew2 : (upd H35 w2 (.tup [])) w2 = some (.tup (vi [])) := upd_same
    have sA := sA.trans sw2
    have hb := sw2 _ _ hb
    have hc := sw2 _ _ hc
    have hrw := sw2 _ _ hrw
    have hpl := sw2 _ _ hpl
    have eg1 := sw2 _ _ eg1
    have eg2 := sw2 _ _ eg2
    have eg3 := sw2 _ _ eg3
    have eg4 := sw2 _ _ eg4
    have eu1 := sw2 _ _ eu1
    have eu2 := sw2 _ _ eu2
    have eu3 := sw2 _ _ eu3
    have eg5 := sw2 _ _ eg5
    have ev1 := sw2 _ _ ev1
    have ev2 := sw2 _ _ ev2
    have ev3 := sw2 _ _ ev3
    have eg6 := sw2 _ _ eg6
    have eg7 := sw2 _ _ eg7
    have eo1 := sw2 _ _ eo1
    have ew1 := sw2 _ _ ew1
    have hT := hT.same sw2
    generalize upd H35 w2 (.tup []) = H36 at sw2 ew2 hT sA hb hc hrw hpl eg1 eg2 eg3 eg4 eu1 eu2 eu3 eg5 ev1 ev2 ev3 eg6 eg7 eo1 ew1
    clear sw2
    refine ⟨by show 2 ≤ sizeLine; decide, fun w3 nw3 => ?_⟩
    have sw3 : Same H36 (upd H36 w3 (.tup [V.ref w1, V.ref w2])) := Same.new nw3
    have xw3 : w3 ≠ t := fun z => hT.ne_none nw3 z.symm
    have ew3 : (upd H36 w3 (.tup [V.ref w1, V.ref w2])) w3 = some (.tup [V.ref w1, V.ref w2]) := upd_same
    have sA := sA.trans sw3
    have hb := sw3 _ _ hb
    have hc := sw3 _ _ hc
    have hrw := sw3 _ _ hrw
    have hpl := sw3 _ _ hpl
    have eg1 := sw3 _ _ eg1
    have eg2 := sw3 _ _ eg2
    have eg3 := sw3 _ _ eg3
    have eg4 := sw3 _ _ eg4
    have eu1 := sw3 _ _ eu1
    have eu2 := sw3 _ _ eu2
    have eu3 := sw3 _ _ eu3
    have eg5 := sw3 _ _ eg5
    have ev1 := sw3 _ _ ev1
    have ev2 := sw3 _ _ ev2
    have ev3 := sw3 _ _ ev3
    have eg6 := sw3 _ _ eg6
    have eg7 := sw3 _ _ eg7
    have eo1 := sw3 _ _ eo1
    have ew1 := sw3 _ _ ew1
    have ew2 := sw3 _ _ ew2
    have hT := hT.same sw3
    generalize upd H36 w3 (.tup [V.ref w1, V.ref w2]) = H37 at sw3 ew3 hT sA hb hc hrw hpl eg1 eg2 eg3 eg4 eu1 eu2 eu3 eg5 ev1 ev2 ev3 eg6 eg7 eo1 ew1 ew2
    clear sw3
    refine ⟨by show 1 ≤ sizeLine; decide, fun w4 nw4 => ?_⟩
    have sw4 : Same H37 (upd H37 w4 (.lst [V.ref w3])) := Same.new nw4
    have xw4 : w4 ≠ t := fun z => hT.ne_none nw4 z.symm
    have ew4 : (upd H37 w4 (.lst [V.ref w3])) w4 = some (.lst [V.ref w3]) := upd_same
    have sA := sA.trans sw4
    have hb := sw4 _ _ hb
    have hc := sw4 _ _ hc
    have hrw := sw4 _ _ hrw
    have hpl := sw4 _ _ hpl
    have eg1 := sw4 _ _ eg1
    have eg2 := sw4 _ _ eg2
    have eg3 := sw4 _ _ eg3
    have eg4 := sw4 _ _ eg4
    have eu1 := sw4 _ _ eu1
    have eu2 := sw4 _ _ eu2
    have eu3 := sw4 _ _ eu3
    have eg5 := sw4 _ _ eg5
    have ev1 := sw4 _ _ ev1
    have ev2 := sw4 _ _ ev2
    have ev3 := sw4 _ _ ev3
    have eg6 := sw4 _ _ eg6
    have eg7 := sw4 _ _ eg7
    have eo1 := sw4 _ _ eo1
    have ew1 := sw4 _ _ ew1
    have ew2 := sw4 _ _ ew2
    have ew3 := sw4 _ _ ew3
    have hT := hT.same sw4
    generalize upd H37 w4 (.lst [V.ref w3]) = H38 at sw4 ew4 hT sA hb hc hrw hpl eg1 eg2 eg3 eg4 eu1 eu2 eu3 eg5 ev1 ev2 ev3 eg6 eg7 eo1 ew1 ew2 ew3
    clear sw4
    refine ⟨w4, 11, _, rfl, rfl, ew4, by decide, by decide, by show 1 * 11 ≤ sizeLine; decide, fun w5 nw5 => ?_⟩
    have sw5 : Same H38 (upd H38 w5 (.lst (List.replicate ((11 : Int)).toNat [V.ref w3]).flatten)) := Same.new nw5
    have xw5 : w5 ≠ t := fun z => hT.ne_none nw5 z.symm
    have ew5 : (upd H38 w5 (.lst (List.replicate ((11 : Int)).toNat [V.ref w3]).flatten)) w5 = some (.lst (List.replicate ((11 : Int)).toNat [V.ref w3]).flatten) := upd_same
    have sA := sA.trans sw5
    have hb := sw5 _ _ hb
    have hc := sw5 _ _ hc
    have hrw := sw5 _ _ hrw
    have hpl := sw5 _ _ hpl
    have eg1 := sw5 _ _ eg1
    have eg2 := sw5 _ _ eg2
    have eg3 := sw5 _ _ eg3
    have eg4 := sw5 _ _ eg4
    have eu1 := sw5 _ _ eu1
    have eu2 := sw5 _ _ eu2
    have eu3 := sw5 _ _ eu3
    have eg5 := sw5 _ _ eg5
    have ev1 := sw5 _ _ ev1
    have ev2 := sw5 _ _ ev2
    have ev3 := sw5 _ _ ev3
    have eg6 := sw5 _ _ eg6
    have eg7 := sw5 _ _ eg7
    have eo1 := sw5 _ _ eo1
    have ew1 := sw5 _ _ ew1
    have ew2 := sw5 _ _ ew2
    have ew3 := sw5 _ _ ew3
    have ew4 := sw5 _ _ ew4
    have hT := hT.same sw5
    generalize upd H38 w5 (.lst (List.replicate ((11 : Int)).toNat [V.ref w3]).flatten) = H39 at sw5 ew5 hT sA hb hc hrw hpl eg1 eg2 eg3 eg4 eu1 eu2 eu3 eg5 ev1 ev2 ev3 eg6 eg7 eo1 ew1 ew2 ew3 ew4
    clear sw5
    refine ⟨rw, w5, _, _, rfl, rfl, hrw, ew5, by rw [flat_one, List.length_replicate]; show xs.length + 11 ≤ sizeLine; omega, fun h1 nh1 => ?_⟩
    have sh1 : Same H39 (upd H39 h1 (.lst (xs ++ (List.replicate ((11 : Int)).toNat [V.ref w3]).flatten))) := Same.new nh1
    have xh1 : h1 ≠ t := fun z => hT.ne_none nh1 z.symm
    have eh1 : (upd H39 h1 (.lst (xs ++ (List.replicate ((11 : Int)).toNat [V.ref w3]).flatten))) h1 = some (.lst (xs ++ (List.replicate ((11 : Int)).toNat [V.ref w3]).flatten)) := upd_same
    have sA := sA.trans sh1
    have hb := sh1 _ _ hb
    have hc := sh1 _ _ hc
    have hrw := sh1 _ _ hrw
    have hpl := sh1 _ _ hpl
    have eg1 := sh1 _ _ eg1
    have eg2 := sh1 _ _ eg2
    have eg3 := sh1 _ _ eg3
    have eg4 := sh1 _ _ eg4
    have eu1 := sh1 _ _ eu1
    have eu2 := sh1 _ _ eu2
    have eu3 := sh1 _ _ eu3
    have eg5 := sh1 _ _ eg5
    have ev1 := sh1 _ _ ev1
    have ev2 := sh1 _ _ ev2
    have ev3 := sh1 _ _ ev3
    have eg6 := sh1 _ _ eg6
    have eg7 := sh1 _ _ eg7
    have eo1 := sh1 _ _ eo1
    have ew1 := sh1 _ _ ew1
    have ew2 := sh1 _ _ ew2
    have ew3 := sh1 _ _ ew3
    have ew4 := sh1 _ _ ew4
    have ew5 := sh1 _ _ ew5
    have hT := hT.same sh1
    generalize upd H39 h1 (.lst (xs ++ (List.replicate ((11 : Int)).toNat [V.ref w3]).flatten)) = H40 at sh1 eh1 hT sA hb hc hrw hpl eg1 eg2 eg3 eg4 eu1 eu2 eu3 eg5 ev1 ev2 ev3 eg6 eg7 eo1 ew1 ew2 ew3 ew4 ew5
    clear sh1
    refine ⟨_, rfl, _, rfl, by show 2 ≤ sizeLine; decide, fun w6 nw6 => ?_⟩
    have sw6 : Same H40 (upd H40 w6 (.tup [V.ref pl, V.ref pl])) := Same.new nw6
    have xw6 : w6 ≠ t := fun z => hT.ne_none nw6 z.symm
    have ew6 : (upd H40 w6 (.tup [V.ref pl, V.ref pl])) w6 = some (.tup [V.ref pl, V.ref pl]) := upd_same
    have sA := sA.trans sw6
    have hb := sw6 _ _ hb
    have hc := sw6 _ _ hc
    have hrw := sw6 _ _ hrw
    have hpl := sw6 _ _ hpl
    have eg1 := sw6 _ _ eg1
    have eg2 := sw6 _ _ eg2
    have eg3 := sw6 _ _ eg3
    have eg4 := sw6 _ _ eg4
    have eu1 := sw6 _ _ eu1
    have eu2 := sw6 _ _ eu2
    have eu3 := sw6 _ _ eu3
    have eg5 := sw6 _ _ eg5
    have ev1 := sw6 _ _ ev1
    have ev2 := sw6 _ _ ev2
    have ev3 := sw6 _ _ ev3
    have eg6 := sw6 _ _ eg6
    have eg7 := sw6 _ _ eg7
    have eo1 := sw6 _ _ eo1
    have ew1 := sw6 _ _ ew1
    have ew2 := sw6 _ _ ew2
    have ew3 := sw6 _ _ ew3
    have ew4 := sw6 _ _ ew4
    have ew5 := sw6 _ _ ew5
    have eh1 := sw6 _ _ eh1
    have hT := hT.same sw6
    generalize upd H40 w6 (.tup [V.ref pl, V.ref pl]) = H41 at sw6 ew6 hT sA hb hc hrw hpl eg1 eg2 eg3 eg4 eu1 eu2 eu3 eg5 ev1 ev2 ev3 eg6 eg7 eo1 ew1 ew2 ew3 ew4 ew5 eh1
    clear sw6
    refine ⟨by show 1 ≤ sizeLine; decide, fun h2 nh2 => ?_⟩
    have sh2 : Same H41 (upd H41 h2 (.lst [V.ref w6])) := Same.new nh2
    have xh2 : h2 ≠ t := fun z => hT.ne_none nh2 z.symm
    have eh2 : (upd H41 h2 (.lst [V.ref w6])) h2 = some (.lst [V.ref w6]) := upd_same
    have sA := sA.trans sh2
    have hb := sh2 _ _ hb
    have hc := sh2 _ _ hc
    have hrw := sh2 _ _ hrw
    have hpl := sh2 _ _ hpl
    have eg1 := sh2 _ _ eg1
    have eg2 := sh2 _ _ eg2
    have eg3 := sh2 _ _ eg3
    have eg4 := sh2 _ _ eg4
    have eu1 := sh2 _ _ eu1
    have eu2 := sh2 _ _ eu2
    have eu3 := sh2 _ _ eu3
    have eg5 := sh2 _ _ eg5
    have ev1 := sh2 _ _ ev1
    have ev2 := sh2 _ _ ev2
    have ev3 := sh2 _ _ ev3
    have eg6 := sh2 _ _ eg6
    have eg7 := sh2 _ _ eg7
    have eo1 := sh2 _ _ eo1
    have ew1 := sh2 _ _ ew1
    have ew2 := sh2 _ _ ew2
    have ew3 := sh2 _ _ ew3
    have ew4 := sh2 _ _ ew4
    have ew5 := sh2 _ _ ew5
    have eh1 := sh2 _ _ eh1
    have ew6 := sh2 _ _ ew6
    have hT := hT.same sh2
    generalize upd H41 h2 (.lst [V.ref w6]) = H42 at sh2 eh2 hT sA hb hc hrw hpl eg1 eg2 eg3 eg4 eu1 eu2 eu3 eg5 ev1 ev2 ev3 eg6 eg7 eo1 ew1 ew2 ew3 ew4 ew5 eh1 ew6
    clear sh2
    refine ⟨by show 2 ≤ sizeLine; decide, fun w7 nw7 => ?_⟩
    have sw7 : Same H42 (upd H42 w7 (.tup [V.int 0, V.int 0])) := Same.new nw7
    have xw7 : w7 ≠ t := fun z => hT.ne_none nw7 z.symm
    have ew7 : (upd H42 w7 (.tup [V.int 0, V.int 0])) w7 = some (.tup (vi [0, 0])) := upd_same
    have sA := sA.trans sw7
    have hb := sw7 _ _ hb
    have hc := sw7 _ _ hc
    have hrw := sw7 _ _ hrw
    have hpl := sw7 _ _ hpl
    have eg1 := sw7 _ _ eg1
    have eg2 := sw7 _ _ eg2
    have eg3 := sw7 _ _ eg3
    have eg4 := sw7 _ _ eg4
    have eu1 := sw7 _ _ eu1
    have eu2 := sw7 _ _ eu2
    have eu3 := sw7 _ _ eu3
    have eg5 := sw7 _ _ eg5
    have ev1 := sw7 _ _ ev1
    have ev2 := sw7 _ _ ev2
    have ev3 := sw7 _ _ ev3
    have eg6 := sw7 _ _ eg6
    have eg7 := sw7 _ _ eg7
    have eo1 := sw7 _ _ eo1
    have ew1 := sw7 _ _ ew1
    have ew2 := sw7 _ _ ew2
    have ew3 := sw7 _ _ ew3
    have ew4 := sw7 _ _ ew4
    have ew5 := sw7 _ _ ew5
    have eh1 := sw7 _ _ eh1
    have ew6 := sw7 _ _ ew6
    have eh2 := sw7 _ _ eh2
    have hT := hT.same sw7
    generalize upd H42 w7 (.tup [V.int 0, V.int 0]) = H43 at sw7 ew7 hT sA hb hc hrw hpl eg1 eg2 eg3 eg4 eu1 eu2 eu3 eg5 ev1 ev2 ev3 eg6 eg7 eo1 ew1 ew2 ew3 ew4 ew5 eh1 ew6 eh2
    clear sw7
    refine ⟨by show 0 ≤ sizeLine; decide, fun w8 nw8 => ?_⟩
    have sw8 : Same H43 (upd H43 w8 (.tup [])) := Same.new nw8
    have xw8 : w8 ≠ t := fun z => hT.ne_none nw8 z.symm
    have ew8 : (upd H43 w8 (.tup [])) w8 = some (.tup (vi [])) := upd_same
    have sA := sA.trans sw8
    have hb := sw8 _ _ hb
    have hc := sw8 _ _ hc
    have hrw := sw8 _ _ hrw
    have hpl := sw8 _ _ hpl
    have eg1 := sw8 _ _ eg1
    have eg2 := sw8 _ _ eg2
    have eg3 := sw8 _ _ eg3
    have eg4 := sw8 _ _ eg4
    have eu1 := sw8 _ _ eu1
    have eu2 := sw8 _ _ eu2
    have eu3 := sw8 _ _ eu3
    have eg5 := sw8 _ _ eg5
    have ev1 := sw8 _ _ ev1
    have ev2 := sw8 _ _ ev2
    have ev3 := sw8 _ _ ev3
    have eg6 := sw8 _ _ eg6
    have eg7 := sw8 _ _ eg7
    have eo1 := sw8 _ _ eo1
    have ew1 := sw8 _ _ ew1
    have ew2 := sw8 _ _ ew2
    have ew3 := sw8 _ _ ew3
    have ew4 := sw8 _ _ ew4
    have ew5 := sw8 _ _ ew5
    have eh1 := sw8 _ _ eh1
    have ew6 := sw8 _ _ ew6
    have eh2 := sw8 _ _ eh2
    have ew7 := sw8 _ _ ew7
    have hT := hT.same sw8
    generalize upd H43 w8 (.tup []) = H44 at sw8 ew8 hT sA hb hc hrw hpl eg1 eg2 eg3 eg4 eu1 eu2 eu3 eg5 ev1 ev2 ev3 eg6 eg7 eo1 ew1 ew2 ew3 ew4 ew5 eh1 ew6 eh2 ew7
    clear sw8
    refine ⟨by show 2 ≤ sizeLine; decide, fun w9 nw9 => ?_⟩
    have sw9 : Same H44 (upd H44 w9 (.tup [V.ref w7, V.ref w8])) := Same.new nw9
    have xw9 : w9 ≠ t := fun z => hT.ne_none nw9 z.symm
    have ew9 : (upd H44 w9 (.tup [V.ref w7, V.ref w8])) w9 = some (.tup [V.ref w7, V.ref w8]) := upd_same
    have sA := sA.trans sw9
    have hb := sw9 _ _ hb
    have hc := sw9 _ _ hc
    have hrw := sw9 _ _ hrw
    have hpl := sw9 _ _ hpl
    have eg1 := sw9 _ _ eg1
    have eg2 := sw9 _ _ eg2
    have eg3 := sw9 _ _ eg3
    have eg4 := sw9 _ _ eg4
    have eu1 := sw9 _ _ eu1
    have eu2 := sw9 _ _ eu2
    have eu3 := sw9 _ _ eu3
    have eg5 := sw9 _ _ eg5
    have ev1 := sw9 _ _ ev1
    have ev2 := sw9 _ _ ev2
    have ev3 := sw9 _ _ ev3
    have eg6 := sw9 _ _ eg6
    have eg7 := sw9 _ _ eg7
    have eo1 := sw9 _ _ eo1
    have ew1 := sw9 _ _ ew1
    have ew2 := sw9 _ _ ew2
    have ew3 := sw9 _ _ ew3
    have ew4 := sw9 _ _ ew4
    have ew5 := sw9 _ _ ew5
    have eh1 := sw9 _ _ eh1
    have ew6 := sw9 _ _ ew6
    have eh2 := sw9 _ _ eh2
    have ew7 := sw9 _ _ ew7
    have ew8 := sw9 _ _ ew8
    have hT := hT.same sw9
    generalize upd H44 w9 (.tup [V.ref w7, V.ref w8]) = H45 at sw9 ew9 hT sA hb hc hrw hpl eg1 eg2 eg3 eg4 eu1 eu2 eu3 eg5 ev1 ev2 ev3 eg6 eg7 eo1 ew1 ew2 ew3 ew4 ew5 eh1 ew6 eh2 ew7 ew8
    clear sw9
    refine ⟨by show 1 ≤ sizeLine; decide, fun h3 nh3 => ?_⟩
    have sh3 : Same H45 (upd H45 h3 (.lst [V.ref w9])) := Same.new nh3
    have xh3 : h3 ≠ t := fun z => hT.ne_none nh3 z.symm
    have eh3 : (upd H45 h3 (.lst [V.ref w9])) h3 = some (.lst [V.ref w9]) := upd_same
    have sA := sA.trans sh3
    have hb := sh3 _ _ hb
    have hc := sh3 _ _ hc
    have hrw := sh3 _ _ hrw
    have hpl := sh3 _ _ hpl
    have eg1 := sh3 _ _ eg1
    have eg2 := sh3 _ _ eg2
    have eg3 := sh3 _ _ eg3
    have eg4 := sh3 _ _ eg4
    have eu1 := sh3 _ _ eu1
    have eu2 := sh3 _ _ eu2
    have eu3 := sh3 _ _ eu3
    have eg5 := sh3 _ _ eg5
    have ev1 := sh3 _ _ ev1
    have ev2 := sh3 _ _ ev2
    have ev3 := sh3 _ _ ev3
    have eg6 := sh3 _ _ eg6
    have eg7 := sh3 _ _ eg7
    have eo1 := sh3 _ _ eo1
    have ew1 := sh3 _ _ ew1
    have ew2 := sh3 _ _ ew2
    have ew3 := sh3 _ _ ew3
    have ew4 := sh3 _ _ ew4
    have ew5 := sh3 _ _ ew5
    have eh1 := sh3 _ _ eh1
    have ew6 := sh3 _ _ ew6
    have eh2 := sh3 _ _ eh2
    have ew7 := sh3 _ _ ew7
    have ew8 := sh3 _ _ ew8
    have ew9 := sh3 _ _ ew9
    have hT := hT.same sh3
    generalize upd H45 h3 (.lst [V.ref w9]) = H46 at sh3 eh3 hT sA hb hc hrw hpl eg1 eg2 eg3 eg4 eu1 eu2 eu3 eg5 ev1 ev2 ev3 eg6 eg7 eo1 ew1 ew2 ew3 ew4 ew5 eh1 ew6 eh2 ew7 ew8 ew9
    clear sh3
    refine ⟨by show 1 ≤ sizeLine; decide, fun wa nwa => ?_⟩
    have swa : Same H46 (upd H46 wa (.tup [V.bl true])) := Same.new nwa
    have xwa : wa ≠ t := fun z => hT.ne_none nwa z.symm
    have ewa : (upd H46 wa (.tup [V.bl true])) wa = some (.tup [V.bl true]) := upd_same
    have sA := sA.trans swa
    have hb := swa _ _ hb
    have hc := swa _ _ hc
    have hrw := swa _ _ hrw
    have hpl := swa _ _ hpl
    have eg1 := swa _ _ eg1
    have eg2 := swa _ _ eg2
    have eg3 := swa _ _ eg3
    have eg4 := swa _ _ eg4
    have eu1 := swa _ _ eu1
    have eu2 := swa _ _ eu2
    have eu3 := swa _ _ eu3
    have eg5 := swa _ _ eg5
    have ev1 := swa _ _ ev1
    have ev2 := swa _ _ ev2
    have ev3 := swa _ _ ev3
    have eg6 := swa _ _ eg6
    have eg7 := swa _ _ eg7
    have eo1 := swa _ _ eo1
    have ew1 := swa _ _ ew1
    have ew2 := swa _ _ ew2
    have ew3 := swa _ _ ew3
    have ew4 := swa _ _ ew4
    have ew5 := swa _ _ ew5
    have eh1 := swa _ _ eh1
    have ew6 := swa _ _ ew6
    have eh2 := swa _ _ eh2
    have ew7 := swa _ _ ew7
    have ew8 := swa _ _ ew8
    have ew9 := swa _ _ ew9
    have eh3 := swa _ _ eh3
    have hT := hT.same swa
    generalize upd H46 wa (.tup [V.bl true]) = H47 at swa ewa hT sA hb hc hrw hpl eg1 eg2 eg3 eg4 eu1 eu2 eu3 eg5 ev1 ev2 ev3 eg6 eg7 eo1 ew1 ew2 ew3 ew4 ew5 eh1 ew6 eh2 ew7 ew8 ew9 eh3
    clear swa
    refine ⟨by show 0 ≤ sizeLine; decide, fun wb nwb => ?_⟩
    have swb : Same H47 (upd H47 wb (.tup [])) := Same.new nwb
    have xwb : wb ≠ t := fun z => hT.ne_none nwb z.symm
    have ewb : (upd H47 wb (.tup [])) wb = some (.tup (vi [])) := upd_same
    have sA := sA.trans swb
    have hb := swb _ _ hb
    have hc := swb _ _ hc
    have hrw := swb _ _ hrw
    have hpl := swb _ _ hpl
    have eg1 := swb _ _ eg1
    have eg2 := swb _ _ eg2
    have eg3 := swb _ _ eg3
    have eg4 := swb _ _ eg4
    have eu1 := swb _ _ eu1
    have eu2 := swb _ _ eu2
    have eu3 := swb _ _ eu3
    have eg5 := swb _ _ eg5
    have ev1 := swb _ _ ev1
    have ev2 := swb _ _ ev2
    have ev3 := swb _ _ ev3
    have eg6 := swb _ _ eg6
    have eg7 := swb _ _ eg7
    have eo1 := swb _ _ eo1
    have ew1 := swb _ _ ew1
    have ew2 := swb _ _ ew2
    have ew3 := swb _ _ ew3
    have ew4 := swb _ _ ew4
    have ew5 := swb _ _ ew5
    have eh1 := swb _ _ eh1
    have ew6 := swb _ _ ew6
    have eh2 := swb _ _ eh2
    have ew7 := swb _ _ ew7
    have ew8 := swb _ _ ew8
    have ew9 := swb _ _ ew9
    have eh3 := swb _ _ eh3
    have ewa := swb _ _ ewa
    have hT := hT.same swb
    generalize upd H47 wb (.tup []) = H48 at swb ewb hT sA hb hc hrw hpl eg1 eg2 eg3 eg4 eu1 eu2 eu3 eg5 ev1 ev2 ev3 eg6 eg7 eo1 ew1 ew2 ew3 ew4 ew5 eh1 ew6 eh2 ew7 ew8 ew9 eh3 ewa
    clear swb
    refine ⟨by show 2 ≤ sizeLine; decide, fun wc nwc => ?_⟩
    have swc : Same H48 (upd H48 wc (.tup [V.ref wa, V.ref wb])) := Same.new nwc
    have xwc : wc ≠ t := fun z => hT.ne_none nwc z.symm
    have ewc : (upd H48 wc (.tup [V.ref wa, V.ref wb])) wc = some (.tup [V.ref wa, V.ref wb]) := upd_same
    have sA := sA.trans swc
    have hb := swc _ _ hb
    have hc := swc _ _ hc
    have hrw := swc _ _ hrw
    have hpl := swc _ _ hpl
    have eg1 := swc _ _ eg1
    have eg2 := swc _ _ eg2
    have eg3 := swc _ _ eg3
    have eg4 := swc _ _ eg4
    have eu1 := swc _ _ eu1
    have eu2 := swc _ _ eu2
    have eu3 := swc _ _ eu3
    have eg5 := swc _ _ eg5
    have ev1 := swc _ _ ev1
    have ev2 := swc _ _ ev2
    have ev3 := swc _ _ ev3
    have eg6 := swc _ _ eg6
    have eg7 := swc _ _ eg7
    have eo1 := swc _ _ eo1
    have ew1 := swc _ _ ew1
    have ew2 := swc _ _ ew2
    have ew3 := swc _ _ ew3
    have ew4 := swc _ _ ew4
    have ew5 := swc _ _ ew5
    have eh1 := swc _ _ eh1
    have ew6 := swc _ _ ew6
    have eh2 := swc _ _ eh2
    have ew7 := swc _ _ ew7
    have ew8 := swc _ _ ew8
    have ew9 := swc _ _ ew9
    have eh3 := swc _ _ eh3
    have ewa := swc _ _ ewa
    have ewb := swc _ _ ewb
    have hT := hT.same swc
    generalize upd H48 wc (.tup [V.ref wa, V.ref wb]) = H49 at swc ewc hT sA hb hc hrw hpl eg1 eg2 eg3 eg4 eu1 eu2 eu3 eg5 ev1 ev2 ev3 eg6 eg7 eo1 ew1 ew2 ew3 ew4 ew5 eh1 ew6 eh2 ew7 ew8 ew9 eh3 ewa ewb
    clear swc
    refine ⟨by show 1 ≤ sizeLine; decide, fun h4 nh4 => ?_⟩
    have sh4 : Same H49 (upd H49 h4 (.lst [V.ref wc])) := Same.new nh4
    have xh4 : h4 ≠ t := fun z => hT.ne_none nh4 z.symm
    have eh4 : (upd H49 h4 (.lst [V.ref wc])) h4 = some (.lst [V.ref wc]) := upd_same
    have sA := sA.trans sh4
    have hb := sh4 _ _ hb
    have hc := sh4 _ _ hc
    have hrw := sh4 _ _ hrw
    have hpl := sh4 _ _ hpl
    have eg1 := sh4 _ _ eg1
    have eg2 := sh4 _ _ eg2
    have eg3 := sh4 _ _ eg3
    have eg4 := sh4 _ _ eg4
    have eu1 := sh4 _ _ eu1
    have eu2 := sh4 _ _ eu2
    have eu3 := sh4 _ _ eu3
    have eg5 := sh4 _ _ eg5
    have ev1 := sh4 _ _ ev1
    have ev2 := sh4 _ _ ev2
    have ev3 := sh4 _ _ ev3
    have eg6 := sh4 _ _ eg6
    have eg7 := sh4 _ _ eg7
    have eo1 := sh4 _ _ eo1
    have ew1 := sh4 _ _ ew1
    have ew2 := sh4 _ _ ew2
    have ew3 := sh4 _ _ ew3
    have ew4 := sh4 _ _ ew4
    have ew5 := sh4 _ _ ew5
    have eh1 := sh4 _ _ eh1
    have ew6 := sh4 _ _ ew6
    have eh2 := sh4 _ _ eh2
    have ew7 := sh4 _ _ ew7
    have ew8 := sh4 _ _ ew8
    have ew9 := sh4 _ _ ew9
    have eh3 := sh4 _ _ eh3
    have ewa := sh4 _ _ ewa
    have ewb := sh4 _ _ ewb
    have ewc := sh4 _ _ ewc
    have hT := hT.same sh4
    generalize upd H49 h4 (.lst [V.ref wc]) = H50 at sh4 eh4 hT sA hb hc hrw hpl eg1 eg2 eg3 eg4 eu1 eu2 eu3 eg5 ev1 ev2 ev3 eg6 eg7 eo1 ew1 ew2 ew3 ew4 ew5 eh1 ew6 eh2 ew7 ew8 ew9 eh3 ewa ewb ewc
    clear sh4
    refine ⟨by show 4 ≤ sizeLine; decide, fun o2 no2 => ?_⟩
    have so2 : Same H50 (upd H50 o2 (.lst [V.ref h1, V.ref h2, V.ref h3, V.ref h4])) := Same.new no2
    have xo2 : o2 ≠ t := fun z => hT.ne_none no2 z.symm
    have eo2 : (upd H50 o2 (.lst [V.ref h1, V.ref h2, V.ref h3, V.ref h4])) o2 = some (.lst [V.ref h1, V.ref h2, V.ref h3, V.ref h4]) := upd_same
    have sA := sA.trans so2
    have hb := so2 _ _ hb
    have hc := so2 _ _ hc
    have hrw := so2 _ _ hrw
    have hpl := so2 _ _ hpl
    have eg1 := so2 _ _ eg1
    have eg2 := so2 _ _ eg2
    have eg3 := so2 _ _ eg3
    have eg4 := so2 _ _ eg4
    have eu1 := so2 _ _ eu1
    have eu2 := so2 _ _ eu2
    have eu3 := so2 _ _ eu3
    have eg5 := so2 _ _ eg5
    have ev1 := so2 _ _ ev1
    have ev2 := so2 _ _ ev2
    have ev3 := so2 _ _ ev3
    have eg6 := so2 _ _ eg6
    have eg7 := so2 _ _ eg7
    have eo1 := so2 _ _ eo1
    have ew1 := so2 _ _ ew1
    have ew2 := so2 _ _ ew2
    have ew3 := so2 _ _ ew3
    have ew4 := so2 _ _ ew4
    have ew5 := so2 _ _ ew5
    have eh1 := so2 _ _ eh1
    have ew6 := so2 _ _ ew6
    have eh2 := so2 _ _ eh2
    have ew7 := so2 _ _ ew7
    have ew8 := so2 _ _ ew8
    have ew9 := so2 _ _ ew9
    have eh3 := so2 _ _ eh3
    have ewa := so2 _ _ ewa
    have ewb := so2 _ _ ewb
    have ewc := so2 _ _ ewc
    have eh4 := so2 _ _ eh4
    have hT := hT.same so2
    generalize upd H50 o2 (.lst [V.ref h1, V.ref h2, V.ref h3, V.ref h4]) = H51 at so2 eo2 hT sA hb hc hrw hpl eg1 eg2 eg3 eg4 eu1 eu2 eu3 eg5 ev1 ev2 ev3 eg6 eg7 eo1 ew1 ew2 ew3 ew4 ew5 eh1 ew6 eh2 ew7 ew8 ew9 eh3 ewa ewb ewc eh4
    clear so2
    have hpr := paired_mono (fun v x (r : LD _ v x) => r.same sA) hpr
    rw [show cutV xs (some 1) none = xs.drop 1 from cutV_drop xs 1] at eg2
    rw [flat_one, show ((11 : Int)).toNat = 11 from rfl] at eh1
    have hap : ∀ v ∈ ([V.ref rw, V.ref g1, V.ref g2, V.ref g3, V.ref g4, V.ref g5, V.ref g6, V.ref g7, V.non] ++ [V.ref h1, V.ref h2, V.ref h3, V.ref h4] : List V), Apart K t H51 v := by
      refine mem_app_all ?_ ?_
      · intro v hv
        rcases List.mem_cons.mp hv with rfl | hv
        · exact apart_ts hT xrt hrw hpr (by omega) h27
        · skip
          rcases List.mem_cons.mp hv with rfl | hv
          · exact apart_tt hT eg1 hpr (by omega) h27
          · skip
            rcases List.mem_cons.mp hv with rfl | hv
            · exact apart_ts hT xg2 eg2 (paired_drop 1 hpr) (by rw [List.length_drop]; omega) (fun u hu => h27 u (List.mem_of_mem_drop hu))
            · skip
              rcases List.mem_cons.mp hv with rfl | hv
              · exact apart_ts hT xg3 eg3 (paired_rev hpr) (by rw [List.length_reverse]; omega) (fun u hu => h27 u (List.mem_reverse.mp hu))
              · skip
                rcases List.mem_cons.mp hv with rfl | hv
                · exact apart_ts hT xg4 eg4 (paired_app hpr hpr) (by rw [List.length_append]; omega) (mem_app_all h27 h27)
                · skip
                  rcases List.mem_cons.mp hv with rfl | hv
                  · exact apart_ts hT xg5 eg5 (paired_app hpr (.cons (ld_one (b := []) eu2 hpl eu1) .nil)) (by rw [List.length_append]; show _ + 1 ≤ 27; omega) (all_snoc h27 ⟨by show ps.length ≤ 27; omega, by show 0 ≤ 27; decide⟩)
                  · skip
                    rcases List.mem_cons.mp hv with rfl | hv
                    · exact apart_ts (ts := [([], [])]) hT xg6 eg6 (.cons (ld_one (a := []) (b := []) ev3 ev1 ev2) .nil) (by decide) (fun u hu => by rw [List.mem_singleton.mp hu]; exact ⟨by decide, by decide⟩)
                    · skip
                      rcases List.mem_cons.mp hv with rfl | hv
                      · exact apart_ts (ts := []) hT xg7 eg7 .nil (by decide) (fun u hu => nomatch hu)
                      · skip
                        rcases List.mem_cons.mp hv with rfl | hv
                        · exact ⟨.none, .non, True.intro⟩
                        · cases hv
      · intro v hv
        rcases List.mem_cons.mp hv with rfl | hv
        · exact apart_ts hT xh1 eh1 (paired_app hpr (paired_rep (ld_one (a := []) (b := []) ew3 ew1 ew2) 11)) (by rw [List.length_append, List.length_replicate]; omega) (mem_app_all h27 (fun u hu => by rw [List.eq_of_mem_replicate hu]; exact ⟨by decide, by decide⟩))
        · skip
          rcases List.mem_cons.mp hv with rfl | hv
          · exact apart_ts (ts := [(ps, ps)]) hT xh2 eh2 (.cons (ld_one ew6 hpl hpl) .nil) (by show 1 ≤ 27; decide) (fun u hu => by rw [List.mem_singleton.mp hu]; exact ⟨by show ps.length ≤ 27; omega, by show ps.length ≤ 27; omega⟩)
          · skip
            rcases List.mem_cons.mp hv with rfl | hv
            · exact apart_ts (ts := [([0, 0], [])]) hT xh3 eh3 (.cons (ld_one (b := []) ew9 ew7 ew8) .nil) (by decide) (fun u hu => by rw [List.mem_singleton.mp hu]; exact ⟨by decide, by decide⟩)
            · skip
              rcases List.mem_cons.mp hv with rfl | hv
              · exact ⟨.list [.tuple [.tuple [.bool true], .tuple (di [])]], .lst (SqL.of (hid_get eh4 xh4)) (.cons (.tup (SqT.of (hid_get ewc xwc)) (.cons (.tup (SqT.of (hid_get ewa xwa)) (.cons (.bl true) .nil)) (.cons (dp_tup (ns := []) (SqT.of (hid_get ewb xwb))) .nil))) .nil), fz_true⟩
              · cases hv
    obtain ⟨es0, he0, hf0⟩ := apart_all hap
    refine ⟨o1, o2, _, _, rfl, rfl, eo1, eo2, by show 9 + 4 ≤ sizeLine; decide, fun o no => ?_⟩
    have so : Same H51 (upd H51 o (.lst ([V.ref rw, V.ref g1, V.ref g2, V.ref g3, V.ref g4, V.ref g5, V.ref g6, V.ref g7, V.non] ++ [V.ref h1, V.ref h2, V.ref h3, V.ref h4]))) := Same.new no
    have ko : KR K t l b c rw pl o cs ds ps xs ts 13 (upd H51 o (.lst ([V.ref rw, V.ref g1, V.ref g2, V.ref g3, V.ref g4, V.ref g5, V.ref g6, V.ref g7, V.non] ++ [V.ref h1, V.ref h2, V.ref h3, V.ref h4]))) := ⟨fun z => hT.ne_none no z.symm, fun z => hT.ne_none2 no z.symm, xrt, ne_of_none hrw no, hT.same so, so _ _ hb, so _ _ hc, so _ _ hrw, so _ _ hpl, paired_mono (fun v x (r : LD _ v x) => r.same so) hpr, _, es0, upd_same, Nat.le_refl _, DpAll.same (hid_add (B := fun a => a = t) (Smt.of so) (show t = t from rfl) no) he0, hf0⟩
    generalize upd H51 o (.lst ([V.ref rw, V.ref g1, V.ref g2, V.ref g3, V.ref g4, V.ref g5, V.ref g6, V.ref g7, V.non] ++ [V.ref h1, V.ref h2, V.ref h3, V.ref h4])) = H80 at ko
    clear hap he0 hf0 so
    -- things.append([(places[::-1], ())])
    obtain ⟨ws0, _, hO0, hwl0, _⟩ := ko.ex
    refine ⟨_, rfl, .inl ⟨rfl, _, SqL.of hO0⟩, _, rfl, pl, _, rfl, SqT.of ko.hp, fun k1 nk1 => ?_⟩
    have a1 : Same H80 (upd H80 k1 (.tup (vi ps).reverse)) := Same.new nk1
    have b1 : (upd H80 k1 (.tup (vi ps).reverse)) k1 = some (.tup (vi ps.reverse)) := by
      rw [upd_same, ← List.map_reverse]
    generalize upd H80 k1 (.tup (vi ps).reverse) = H81 at a1 b1
    refine ⟨by show 0 ≤ sizeLine; decide, fun k2 nk2 => ?_⟩
    have a2 : Same H81 (upd H81 k2 (.tup [])) := Same.new nk2
    have b2 : (upd H81 k2 (.tup [])) k2 = some (.tup (vi [])) := upd_same
    have b1 := a2 _ _ b1
    generalize upd H81 k2 (.tup []) = H82 at a2 b1 b2
    refine ⟨by show 2 ≤ sizeLine; decide, fun k3 nk3 => ?_⟩
    have a3 : Same H82 (upd H82 k3 (.tup [V.ref k1, V.ref k2])) := Same.new nk3
    have b3 : (upd H82 k3 (.tup [V.ref k1, V.ref k2])) k3 = some (.tup [V.ref k1, V.ref k2]) := upd_same
    have b1 := a3 _ _ b1
    have b2 := a3 _ _ b2
    generalize upd H82 k3 (.tup [V.ref k1, V.ref k2]) = H83 at a3 b1 b2 b3
    refine ⟨by show 1 ≤ sizeLine; decide, fun k4 nk4 => ?_⟩
    have a4 : Same H83 (upd H83 k4 (.lst [V.ref k3])) := Same.new nk4
    have b4 : (upd H83 k4 (.lst [V.ref k3])) k4 = some (.lst [V.ref k3]) := upd_same
    have b1 := a4 _ _ b1
    have b2 := a4 _ _ b2
    have b3 := a4 _ _ b3
    have a123 := a1.trans (a2.trans a3)
    have ka := ko.same (a123.trans a4)
    have nbk : ¬ addB (fun a => a = t) o k4 := (ko.same a123).bk.fresh nk4
    have hO4 := (a123.trans a4) _ _ hO0
    generalize upd H83 k4 (.lst [V.ref k3]) = H84 at a4 b1 b2 b3 b4 ka hO4
    refine ⟨o, _, _, rfl, rfl, hO4, small1000 (by omega), ?_⟩
    have kb := ka.app (w := .ref k4) (e := .list ([(ps.reverse, [])].map tickD)) hO4 (.lst (SqL.of (hid_get b4 nbk)) (ld_hid (xs := [V.ref k3]) (ts := [(ps.reverse, [])]) ka.nb (.cons (ld_one b3 b1 b2) .nil))) ⟨by show 1 ≤ 27; decide, fz_ticks (fun u hu => by rw [List.mem_singleton.mp hu]; exact ⟨by show ps.reverse.length ≤ 27; rw [List.length_reverse]; omega, by show 0 ≤ 27; decide⟩)⟩
    generalize upd H84 o (.lst (ws0 ++ [V.ref k4])) = H85 at kb
    clear ka a1 a2 a3 a4 a123 b1 b2 b3 b4 hO4 hO0
    -- if row != []
    refine ⟨fun σ' H' => ∃ (z8 z9 z10 : Option V) (n : Nat), n ≤ 30 ∧ σ' = [some (.ref a), some (.ref t), some (.int (0 + (i : Int))), some (.ref b), some (.ref c), some (.ref rw), some (.ref pl), some (.ref o), z8, z9, z10, z11, z12, z13, z14, z15, z16, z17] ∧ KR K t l b c rw pl o cs ds ps xs ts n H', ?_, ?_⟩
    · refine ⟨_, rfl, Nat.zero_le _, fun em nem => ?_⟩
      have sm : Same H85 (upd H85 em (.lst [])) := Same.new nem
      have k1 := kb.same sm
      refine ⟨.list (ts.map tickD), .list (di []), .lst (SqL.of k1.hr) (DpAll.same hid_le (ld_hid k1.nb k1.ppr)), dp_list (SqL.of upd_same), shaped_ticks _, shaped_ints _, _, rfl, ?_⟩
      rw [eqv_nil]
      generalize upd H85 em (.lst []) = H86 at sm k1
      refine if_b (fun cb => ?_) (fun _ => ⟨_, _, _, _, by decide, rfl, k1⟩)
      have h1 : 0 < ts.length := by
        cases ts with
        | nil => cases cb
        | cons x r => exact Nat.succ_pos _
      -- at = _law_draw(tape, len(row))
      refine ⟨_, rfl, _, rfl, rw, xs, rfl, .inl (SqL.of k1.hr), t, l, xs.length, rfl, k1.tape, by omega, by omega, fun r H87 r0 r1 hT87 s87 => ?_⟩
      obtain ⟨rn, rfl⟩ := Int.eq_ofNat_of_zero_le r0
      have k2 := k1.smt s87 hT87
      have hrn : rn < xs.length := by omega
      have er : ((rn : Nat) : Int) + 1 = ((rn + 1 : Nat) : Int) := by omega
      obtain ⟨tk, htk, hld⟩ := paired_get k2.ppr (List.getElem?_eq_getElem hrn)
      obtain ⟨tp, tu, tv, etp, htp, htu, htv⟩ := hld
      have htk8 := hbd tk (List.mem_of_getElem? htk)
      -- some = [_law_spoilt(tape, row[at]) for k in range(5)]
      refine ⟨5, rfl, by decide, by decide, fun D hD => ?_⟩
      have hDt : D ≠ t := fun z => k2.tape.ne_none hD z.symm
      have hDl : D ≠ l := fun z => k2.tape.ne_none2 hD z.symm
      have hnB : ¬ addB (fun a => a = t) o D := k2.bk.fresh hD
      have hB0 : addB (fun a => a = t) o t := .inl rfl
      refine lc_gen walk_range (fun i acc H => i ≤ 5 ∧ TapeAt H t l ∧ Smt t H87 H ∧ acc.length = i ∧ ∃ ds, DpAll K (hid (addB (addB (fun a => a = t) o) D) H) acc ds ∧ ∀ d ∈ ds, Fz 27 7 d) ⟨Nat.zero_le _, k2.tape.upd hD, Smt.of (Same.new hD), rfl, [], .nil, fun d hd => nomatch hd⟩ (fun _ _ _ _ _ => trivial) (fun i acc H s => ?_) (fun j x H3 H' acc kn ky hj s hacc y h1 h2 => ?_) (fun acc H3 s e => ?_)
      · rw [s.2.2.2.1]
        exact small1000 (by have := s.1; omega)
      · obtain ⟨_, hT3, sm, hal, dd, hds, hfz⟩ := s
        obtain ⟨rfl, rfl⟩ := y
        have hBk3 : Bk (addB (addB (fun a => a = t) o) D) H' := (k2.bk.smt sm hT3).add hacc
        have k3 := k2.smt sm hT3
        have htp3 := sm.tup k2.tape htp
        have htu3 := sm.tup k2.tape htu
        have htv3 := sm.tup k2.tape htv
        have nD : ∀ x zs, H' x = some (.tup zs) → ¬ addB (addB (fun a => a = t) o) D x := fun x zs q z => by
          rcases z with z | z
          · exact k3.nb _ _ q z
          · rw [z, hacc] at q
            cases q
        refine ⟨rfl, lc_yes ⟨_, rfl, _, rfl, _, rfl, rw, _, _, _, rfl, rfl, SqL.of k3.hr, atI_nat (List.getElem?_eq_getElem hrn), ?_⟩⟩
        rw [etp]
        refine ⟨3, by decide, t, l, .ref tp, tickD tk, addB (addB (fun a => a = t) o) D, 11, rfl, hT3, .inl hB0, hBk3, .tup (SqT.of (hid_get htp3 (nD _ _ htp3))) (.cons (dp_tup (SqT.of (hid_get htu3 (nD _ _ htu3)))) (.cons (dp_tup (SqT.of (hid_get htv3 (nD _ _ htv3)))) .nil)), fz_tick (n := 0) (by decide) (by omega) (by omega), by decide, fun H4 w e hT4 s4 hw hf => ?_⟩
        have hD4 := s4 _ _ hacc hDt
        refine h2 w H4 hD4 ⟨by omega, hT4.but Smt.upd hDt.symm hDl.symm, (sm.trans s4).new hD, by rw [List.length_append, hal]; rfl, dd ++ [e], ?_, all_snoc hfz (hf.mono (by decide) (by decide))⟩
        have hm : Same (hid (addB (addB (fun a => a = t) o) D) H4) (hid (addB (addB (fun a => a = t) o) D) (upd H4 D (.lst (acc ++ [w])))) := hid_mut (.inr rfl)
        exact dpall_app (DpAll.same ((hid_smt s4 (.inl hB0)).trans hm) hds) (.cons (Dp.same hm hw) .nil)
      obtain ⟨_, hT3, sm3, hal, dd, hds, hfz⟩ := s
      have k3 := k2.smt sm3 hT3
      have htp := sm3.tup k2.tape htp
      have htu := sm3.tup k2.tape htu
      have htv := sm3.tup k2.tape htv
      have hds := DpAll.same hid_drop hds
      have hax : atI xs ((rn : Nat) : Int) = some (.ref tp) := by
        rw [← etp]
        exact atI_nat (List.getElem?_eq_getElem hrn)
      -- some + [(places, row[at][1]), row[at][::-1]]
      refine ⟨_, rfl, _, rfl, _, rfl, _, rfl, rw, _, _, _, rfl, rfl, SqL.of k3.hr, hax, tp, _, 1, _, rfl, rfl, SqT.of htp, rfl, by show 2 ≤ sizeLine; decide, fun e1 ne1 => ?_⟩
      have a1 : Same H3 (upd H3 e1 (.tup [V.ref pl, V.ref tv])) := Same.new ne1
      have b1 : (upd H3 e1 (.tup [V.ref pl, V.ref tv])) e1 = some (.tup [V.ref pl, V.ref tv]) := upd_same
      have k4 := k3.same a1
      have htp := a1 _ _ htp
      have htu := a1 _ _ htu
      have htv := a1 _ _ htv
      have e := a1 _ _ e
      have hds := DpAll.same (hid_s a1) hds
      generalize upd H3 e1 (.tup [V.ref pl, V.ref tv]) = H4 at a1 b1 k4 htp htu htv e hds
      refine ⟨_, rfl, _, rfl, rw, _, _, _, rfl, rfl, SqL.of k4.hr, hax, tp, _, rfl, SqT.of htp, fun e2 ne2 => ?_⟩
      have a2 : Same H4 (upd H4 e2 (.tup [V.ref tu, V.ref tv].reverse)) := Same.new ne2
      have b2 : (upd H4 e2 (.tup [V.ref tu, V.ref tv].reverse)) e2 = some (.tup [V.ref tv, V.ref tu]) := upd_same
      have k5 := k4.same a2
      have htu := a2 _ _ htu
      have htv := a2 _ _ htv
      have e := a2 _ _ e
      have b1 := a2 _ _ b1
      have hds := DpAll.same (hid_s a2) hds
      generalize upd H4 e2 (.tup [V.ref tu, V.ref tv].reverse) = H5 at a2 b1 b2 k5 htu htv e hds
      refine ⟨by show 2 ≤ sizeLine; decide, fun e3 ne3 => ?_⟩
      have a3 : Same H5 (upd H5 e3 (.lst [V.ref e1, V.ref e2])) := Same.new ne3
      have b3 : (upd H5 e3 (.lst [V.ref e1, V.ref e2])) e3 = some (.lst [V.ref e1, V.ref e2]) := upd_same
      have k6 := k5.same a3
      have htu := a3 _ _ htu
      have htv := a3 _ _ htv
      have e := a3 _ _ e
      have b1 := a3 _ _ b1
      have b2 := a3 _ _ b2
      have hds := DpAll.same (hid_s a3) hds
      generalize upd H5 e3 (.lst [V.ref e1, V.ref e2]) = H6 at a3 b1 b2 b3 k6 htu htv e hds
      refine ⟨D, e3, _, _, rfl, rfl, e, b3, by rw [hal]; show 5 + 2 ≤ sizeLine; decide, fun o5 no5 => ?_⟩
      have a4 : Same H6 (upd H6 o5 (.lst (acc ++ [V.ref e1, V.ref e2]))) := Same.new no5
      have b5 : (upd H6 o5 (.lst (acc ++ [V.ref e1, V.ref e2]))) o5 = some (.lst (acc ++ [V.ref e1, V.ref e2])) := upd_same
      have x5t : o5 ≠ t := fun z => k6.tape.ne_none no5 z.symm
      have x5o : o5 ≠ o := fun z => k6.bk.fresh no5 (.inr z)
      have k7 := k6.same a4
      have htu := a4 _ _ htu
      have htv := a4 _ _ htv
      have b1 := a4 _ _ b1
      have b2 := a4 _ _ b2
      have hds := DpAll.same (hid_s a4) hds
      generalize upd H6 o5 (.lst (acc ++ [V.ref e1, V.ref e2])) = H7 at a4 b1 b2 b5 k7 htu htv hds
      have hda : DpAll K (hid (addB (fun a => a = t) o) H7) (acc ++ [V.ref e1, V.ref e2]) (dd ++ [tickD (ps, tk.2), tickD (tk.2, tk.1)]) := dpall_app hds (ld_hid (ts := [(ps, tk.2), (tk.2, tk.1)]) k7.nb (.cons (ld_one b1 k7.hp htv) (.cons (ld_one b2 htv htu) .nil)))
      have hdf : ∀ d ∈ dd ++ [tickD (ps, tk.2), tickD (tk.2, tk.1)], Fz 27 7 d := mem_app_all hfz (fz_ticks (ts := [(ps, tk.2), (tk.2, tk.1)]) (fun u hu => by
        rcases List.mem_cons.mp hu with rfl | hu
        · exact ⟨by show ps.length ≤ 27; omega, by show tk.2.length ≤ 27; omega⟩
        · rw [List.mem_singleton.mp hu]
          exact ⟨by show tk.2.length ≤ 27; omega, by show tk.1.length ≤ 27; omega⟩))
      have h7l : (acc ++ [V.ref e1, V.ref e2]).length = 7 := by rw [List.length_append, hal]; rfl
      generalize acc ++ [V.ref e1, V.ref e2] = items at b5 hda h7l
      generalize dd ++ [tickD (ps, tk.2), tickD (tk.2, tk.1)] = eds at hda hdf
      -- for other in ..
      refine ⟨o5, rfl, ⟨_, SqL.of b5⟩, for_list (K := K) (a := o5) (xs := items) (fun j σ H' => ∃ (z10 : Option V), σ = [some (.ref a), some (.ref t), some (.int (0 + (i : Int))), some (.ref b), some (.ref c), some (.ref rw), some (.ref pl), some (.ref o), some (.int (rn : Int)), some (.ref D), z10, z11, z12, z13, z14, z15, z16, z17] ∧ KR K t l b c rw pl o cs ds ps xs ts (14 + j) H' ∧ H' o5 = some (.lst items) ∧ DpAll K (hid (addB (fun a => a = t) o) H') items eds) ⟨_, rfl, k7, b5, hda⟩ (fun j σ H' _ ⟨_, _, _, q, _⟩ => SqL.of q) (fun j x σ H10 hx hW => ?_) (fun σ H10 hW => ?_)⟩
      · obtain ⟨z10, rfl, k8, b5, hda⟩ := hW
        obtain ⟨ex, hex, hvx⟩ := dpall_get1 hda hx
        have hfx := hdf ex (List.mem_of_getElem? hex)
        have hj7 : j < 7 := by rw [← h7l]; exact (List.getElem?_eq_some_iff.mp hx).1
        obtain ⟨ws, _, hO, hwl, _, _⟩ := k8.ex
        refine ⟨_, rfl, .inl ⟨rfl, _, SqL.of hO⟩, _, rfl, _, rfl, _, rfl, rw, xs, rfl, SqL.of k8.hr, fun g11 n11 => ?_⟩
        have c1 : Same H10 (upd H10 g11 (.lst (cutV xs none (some (rn : Int))))) := Same.new n11
        have e11 : (upd H10 g11 (.lst (cutV xs none (some (rn : Int))))) g11 = some (.lst (xs.take rn)) := by
          rw [upd_same, cutV_take]
        have k9 := k8.same c1
        generalize upd H10 g11 (.lst (cutV xs none (some (rn : Int)))) = H11 at c1 e11 k9
        refine ⟨_, rfl, by show 1 ≤ sizeLine; decide, fun g12 n12 => ?_⟩
        have c2 : Same H11 (upd H11 g12 (.lst [x])) := Same.new n12
        refine ⟨g11, g12, _, _, rfl, rfl, c2 _ _ e11, upd_same, by rw [List.length_take]; show _ + 1 ≤ sizeLine; omega, fun g13 n13 => ?_⟩
        have c3 : Same (upd H11 g12 (.lst [x])) (upd (upd H11 g12 (.lst [x])) g13 (.lst (xs.take rn ++ [x]))) := Same.new n13
        have c23 := c2.trans c3
        have e13 : (upd (upd H11 g12 (.lst [x])) g13 (.lst (xs.take rn ++ [x]))) g13 = some (.lst (xs.take rn ++ [x])) := upd_same
        have ka := k9.same c23
        generalize upd (upd H11 g12 (.lst [x])) g13 (.lst (xs.take rn ++ [x])) = H13 at e13 ka c3 c23
        refine ⟨_, rfl, _, rfl, _, _, rfl, rfl, _, rfl, noPart ⟨rw, xs, rfl, SqL.of ka.hr, fun g14 n14 => ?_⟩⟩
        rw [er, cutV_drop]
        have c4 : Same H13 (upd H13 g14 (.lst (xs.drop (rn + 1)))) := Same.new n14
        refine ⟨g13, g14, _, _, rfl, rfl, c4 _ _ e13, upd_same, by rw [List.length_append, List.length_take, List.length_drop]; show _ + 1 + _ ≤ sizeLine; omega, fun g15 n15 => ?_⟩
        have c5 : Same (upd H13 g14 (.lst (xs.drop (rn + 1)))) (upd (upd H13 g14 (.lst (xs.drop (rn + 1)))) g15 (.lst (xs.take rn ++ [x] ++ xs.drop (rn + 1)))) := Same.new n15
        have c45 := c4.trans c5
        have e15 : (upd (upd H13 g14 (.lst (xs.drop (rn + 1)))) g15 (.lst (xs.take rn ++ [x] ++ xs.drop (rn + 1)))) g15 = some (.lst (xs.take rn ++ [x] ++ xs.drop (rn + 1))) := upd_same
        have n15' : H13 g15 = none := c4.free n15
        have nb15 := ka.bk.fresh n15'
        have kc := ka.same c45
        have cA := c1.trans (c23.trans c45)
        generalize upd (upd H13 g14 (.lst (xs.drop (rn + 1)))) g15 (.lst (xs.take rn ++ [x] ++ xs.drop (rn + 1))) = H15 at e15 kc c5 c45 cA
        obtain ⟨ea, hea, hfa⟩ := kc.cat (hvx.same (hid_s cA)) hfx ht10 h27 e15 nb15
        obtain ⟨ws9, _, hO9, hwl9, _, _⟩ := kc.ex
        refine ⟨o, _, _, rfl, rfl, hO9, small1000 (by omega), ?_⟩
        refine ⟨_, rfl, kc.app hO9 hea hfa, ?_, DpAll.same ((hid_s cA).trans (hid_mut (.inr rfl))) hda⟩
        rw [upd_ne x5o]
        exact cA _ _ b5
      · obtain ⟨z10, rfl, k8, _⟩ := hW
        exact ⟨_, _, _, 14 + items.length, by rw [h7l]; decide, rfl, k8⟩
    rintro σ' H40 ⟨z8, z9, z10, n, hn30, rfl, k1⟩
    obtain ⟨ws, es, hO, hwl, he, hf⟩ := k1.ex
    have hT := k1.tape
    have hb := k1.hb
    have hc := k1.hc
    have xo := k1.ot
    -- for thing in things + [_law_any(tape, 2)]
    refine ⟨_, rfl, _, rfl, t, l, 2, addB (fun a => a = t) o, rfl, hT, .inl rfl, k1.bk, by decide, by decide, fun H41 w e hT41 s41 hw hwf => ⟨by show 1 ≤ sizeLine; decide, fun l2 nl2 => ?_⟩⟩
    have t1 : Same H41 (upd H41 l2 (.lst [w])) := Same.new nl2
    have hO1 := t1 _ _ (s41 _ _ hO xo)
    refine ⟨o, l2, ws, [w], rfl, rfl, hO1, upd_same, ?_, fun o3 no3 => ?_⟩
    · show _ + 1 ≤ _
      omega
    have t2 : Same (upd H41 l2 (.lst [w])) (upd (upd H41 l2 (.lst [w])) o3 (.lst (ws ++ [w]))) := Same.new no3
    have hall : DpAll K (upd (upd H41 l2 (.lst [w])) o3 (.lst (ws ++ [w]))) (ws ++ [w]) (es ++ [e]) := DpAll.same (hid_le.trans (t1.trans t2)) (dpall_app (DpAll.same (hid_smt s41 (.inl rfl)) he) (.cons hw .nil))
    have hfall : ∀ x ∈ es ++ [e], Fz 27 8 x := all_snoc hf (hwf.mono (by decide) (by decide))
    have hT3 := hT41.same (t1.trans t2)
    have ho3 : (upd (upd H41 l2 (.lst [w])) o3 (.lst (ws ++ [w]))) o3 = some (.lst (ws ++ [w])) := upd_same
    have hb := (t1.trans t2) _ _ (s41.tup hT hb)
    have hc := (t1.trans t2) _ _ (s41.tup hT hc)
    generalize upd (upd H41 l2 (.lst [w])) o3 (.lst (ws ++ [w])) = H42 at t2 hall hT3 ho3 hb hc
    refine ⟨o3, rfl, ⟨_, SqL.of ho3⟩, for_list (K := K) (a := o3) (xs := ws ++ [w]) (fun j σ H' => ∃ (z11 z12 z13 z14 z15 z16 z17 : Option V), σ = [some (.ref a), some (.ref t), some (.int (0 + (i : Int))), some (.ref b), some (.ref c), some (.ref rw), some (.ref pl), some (.ref o), z8, z9, z10, z11, z12, z13, z14, z15, z16, z17] ∧ Same H42 H') ⟨_, _, _, _, _, _, _, rfl, Same.refl _⟩ (fun j σ H' _ ⟨_, _, _, _, _, _, _, _, sm⟩ => SqL.of (sm _ _ ho3)) (fun j x σ H43 hx hW => ?_) (fun σ H43 hW => ?_)⟩
    · obtain ⟨z11, z12, z13, z14, z15, z16, z17, rfl, sm⟩ := hW
      obtain ⟨dx, hdx, hvx⟩ := dpall_get1 hall hx
      have hfx : Fit 8 dx := (hfall dx (List.mem_of_getElem? hdx)).fit (by decide)
      have hx3 := hvx.same sm
      -- good = _law_is_row(..)
      refine ⟨_, rfl, _, rfl, _, rfl, b, c, x, cs, ds, dx, 5, rfl, SqT.of (sm _ _ hb), SqT.of (sm _ _ hc), by omega, hx3, hfx, fun H44 s44 => ?_⟩
      have sm4 := sm.trans s44
      refine ⟨_, rfl, _, rfl, _, rfl, b, c, x, cs, ds, dx, 5, rfl, SqT.of (sm4 _ _ hb), SqT.of (sm4 _ _ hc), by omega, hx3.same s44, hfx, fun H45 s45 => ⟨_, rfl, ?_⟩⟩
      refine ⟨.bl _, .bl _, .bool _, rfl, .bl _, .bl _, True.intro, fun H46 s46 => ⟨_, rfl, if_f rfl ?_⟩⟩
      have sm6 := (sm4.trans s45).trans s46
      refine ⟨_, rfl, _, rfl, if_b (fun cg => ?_) (fun _ => ⟨_, _, _, _, _, _, _, rfl, sm6⟩)⟩
      obtain ⟨us, rfl, hrow⟩ := cd_of cg
      obtain ⟨tp, txs, rfl, htp, hta⟩ := dp_lst_get (hvx.same sm6)
      have htl2 : txs.length = us.length := by rw [dpall_len hta, List.length_map]
      -- left, flame = candles, True
      refine ⟨_, rfl, _, _, rfl, ?_⟩
      refine ⟨_, rfl, tp, rfl, ⟨_, htp⟩, for_list (K := K) (a := tp) (xs := txs) (fun m σ H' => ∃ (ca : Addr) (c2 : List Int) (fl : Bool) (z15 z16 : Option V), σ = [some (.ref a), some (.ref t), some (.int (0 + (i : Int))), some (.ref b), some (.ref c), some (.ref rw), some (.ref pl), some (.ref o), z8, z9, z10, some (.ref tp), some (.bl (cd (IsRow cs ds (.list (us.map tickD))))), some (.ref ca), some (.bl fl), z15, z16, z17] ∧ Same H46 H' ∧ SqT K H' ca (vi c2) ∧ c2.length = cs.length ∧ behindF cs true us = behindF c2 fl (us.drop m) ∧ RowOk c2 fl (ds.drop m) (us.drop m)) ⟨b, cs, true, _, _, rfl, Same.refl _, SqT.of (sm6 _ _ hb), rfl, rfl, hrow⟩ (fun m σ H' _ ⟨_, _, _, _, _, _, sq, _⟩ => sq.seq htp) (fun m x2 σ H47 hx2 hW => ?_) (fun σ H47 hW => ?_)⟩
      · obtain ⟨ca, c2, fl, z15, z16, rfl, sq, hC, hcl2, hbe, hro⟩ := hW
        obtain ⟨dy, hdy, hvy⟩ := dpall_get1 hta hx2
        rw [List.getElem?_map] at hdy
        obtain ⟨u, hu, rfl⟩ := Option.map_eq_some_iff.mp hdy
        obtain ⟨lit, out⟩ := u
        rw [drop_next hu] at hbe hro
        obtain ⟨dk, dr, edr, htick, hrest⟩ := row_at hro
        have edr2 : dr = ds.drop (m + 1) := by
          have q := congrArg List.tail edr
          rw [List.tail_drop] at q
          exact q.symm
        rw [edr2] at hrest
        obtain ⟨pt, ys, rfl, hpt, hat⟩ := dp_tup_get (hvy.same sq)
        obtain ⟨w1, w2, rfl⟩ : ∃ w1 w2, ys = [w1, w2] := by
          have := dpall_len hat
          match ys, this with
          | [w1, w2], _ => exact ⟨w1, w2, rfl⟩
        cases hat with
        | cons ha1 ha2 =>
        cases ha2 with
        | cons ha2 _ =>
        obtain ⟨u1, rfl, hu1⟩ := dp_tints ha1
        obtain ⟨u2, rfl, hu2⟩ := dp_tints ha2
        refine ⟨pt, _, rfl, hpt, rfl, _, _, rfl, _, _, rfl, rfl, ?_⟩
        refine ⟨_, rfl, _, rfl, _, rfl, ca, u1, u2, c2, lit, out, true, true, rfl, hC, hu1, hu2, by omega, rise_nd htick.pl.2, tick_in htick, fun H48 ca' s48 nca hca => ?_⟩
        refine ⟨_, rfl, u2, vi out, rfl, .inr (s48.sqt hu2), _, rfl, u1, vi lit, rfl, .inr (s48.sqt hu1), _, _, rfl, rfl, _, _, rfl, ?_⟩
        have ed : decide ((((vi out).length : Nat) : Int) < (((vi lit).length : Nat) : Int)) = decide (out.length < lit.length) := by
          rw [vi_len, vi_len]
          by_cases h : out.length < lit.length
          · rw [decide_eq_true h, decide_eq_true (by omega)]
          · rw [decide_eq_false h, decide_eq_false (by omega)]
        refine ⟨ca', burntF c2 lit out, _, _, _, rfl, sq.trans s48, SqT.of hca, (burntF_len _ _ _).trans hcl2, ?_, ?_⟩
        · rw [hbe, ed]
          rfl
        · rw [ed]
          exact hrest
      · obtain ⟨ca, c2, fl, z15, z16, rfl, sq, hC, hcl2, hbe, hro⟩ := hW
        rw [htl2, List.drop_length] at hbe
        have hbe : behindF cs true us = (c2, fl) := hbe
        have sm7 := sm6.trans sq
        -- if not _law_like(behind(candles, draughts, thing), (left, flame))
        refine ⟨_, rfl, _, rfl, _, rfl, b, c, .ref tp, cs, us, rfl, SqT.of (sm7 _ _ hb), by omega, hvx.same sm7, fun H48 p5 c5 s48 hp5 hc5 => ?_⟩
        rw [hbe] at hp5 hc5
        refine ⟨_, rfl, _, rfl, by show 2 ≤ sizeLine; decide, fun e5 ne5 => ?_⟩
        have s49 : Same H48 (upd H48 e5 (.tup [V.ref ca, V.bl fl])) := Same.new ne5
        refine ⟨.ref p5, .ref e5, rowEnd c2 fl, rfl, .tup (SqT.of (s49 _ _ hp5)) (.cons (dp_tup (s49.sqt hc5)) (.cons (.bl _) .nil)), .tup (SqT.of upd_same) (.cons (dp_tup ((s48.trans s49).sqt hC)) (.cons (.bl _) .nil)), ?_, fun H50 s50 => ⟨_, rfl, if_f rfl ?_⟩⟩
        · refine ⟨by show 2 ≤ 1000; decide, fun d hd => ?_⟩
          rcases List.mem_cons.mp hd with rfl | hd
          · exact fit_tints (n := 1) (by omega)
          · rw [List.mem_singleton.mp hd]
            exact True.intro
        · exact ⟨_, _, _, _, _, _, _, rfl, sm7.trans ((s48.trans s49).trans s50)⟩
    · obtain ⟨z11, z12, z13, z14, z15, z16, z17, rfl, sm⟩ := hW
      exact ⟨_, _, _, _, _, _, _, _, _, _, _, _, _, _, _, _, rfl, hT3.same sm⟩
  · exact q _
end
theorem all_mk {l : PySem.W.OpenLaw} {w : World} {K : PySem.W.Frag} {h : Heap} {mg : Str → Option Value} {fa f_is_within f_are_places f_is_tick f_burnt f_is_row f_behind f__law_draw f__law_whole f__law_within f__law_like f__law_spoilt f__law_rises f__law_any f__law_candles f__law_draughts f__law_near f__law_night f__law_burnt f__law_is_tick f__law_is_row f__law_drawn_row f_law : Addr} (X : K.In h) (G : h.Ns mainGlobals mg) (hfa : mg "law" = some (.ref fa))
    {od_is_within an_is_within od_are_places an_are_places od_is_tick an_is_tick od_burnt an_burnt od_is_row an_is_row od_behind an_behind od__law_draw an__law_draw od__law_whole an__law_whole od__law_within an__law_within od__law_like an__law_like od__law_spoilt an__law_spoilt od__law_rises an__law_rises od__law_any an__law_any od__law_candles an__law_candles od__law_draughts an__law_draughts od__law_near an__law_near od__law_night an__law_night od__law_burnt an__law_burnt od__law_is_tick an__law_is_tick od__law_is_row an__law_is_row od__law_drawn_row an__law_drawn_row od_law an_law : Option Addr} {sl_is_within sl_are_places sl_is_tick sl_burnt sl_is_row sl_behind sl__law_draw sl__law_whole sl__law_within sl__law_like sl__law_spoilt sl__law_rises sl__law_any sl__law_candles sl__law_draughts sl__law_near sl__law_night sl__law_burnt sl__law_is_tick sl__law_is_row sl__law_drawn_row sl_law : Array (Option Value)} {oc_is_within kV_is_within dc_is_within pm_is_within cd_is_within ct_is_within oc_are_places kV_are_places dc_are_places pm_are_places cd_are_places ct_are_places oc_is_tick kV_is_tick dc_is_tick pm_is_tick cd_is_tick ct_is_tick oc_burnt kV_burnt dc_burnt pm_burnt cd_burnt ct_burnt oc_is_row kV_is_row dc_is_row pm_is_row cd_is_row ct_is_row oc_behind kV_behind dc_behind pm_behind cd_behind ct_behind oc__law_draw kV__law_draw dc__law_draw pm__law_draw cd__law_draw ct__law_draw oc__law_whole kV__law_whole dc__law_whole pm__law_whole cd__law_whole ct__law_whole oc__law_within kV__law_within dc__law_within pm__law_within cd__law_within ct__law_within oc__law_like kV__law_like dc__law_like pm__law_like cd__law_like ct__law_like oc__law_spoilt kV__law_spoilt dc__law_spoilt pm__law_spoilt cd__law_spoilt ct__law_spoilt oc__law_rises kV__law_rises dc__law_rises pm__law_rises cd__law_rises ct__law_rises oc__law_any kV__law_any dc__law_any pm__law_any cd__law_any ct__law_any oc__law_candles kV__law_candles dc__law_candles pm__law_candles cd__law_candles ct__law_candles oc__law_draughts kV__law_draughts dc__law_draughts pm__law_draughts cd__law_draughts ct__law_draughts oc__law_near kV__law_near dc__law_near pm__law_near cd__law_near ct__law_near oc__law_night kV__law_night dc__law_night pm__law_night cd__law_night ct__law_night oc__law_burnt kV__law_burnt dc__law_burnt pm__law_burnt cd__law_burnt ct__law_burnt oc__law_is_tick kV__law_is_tick dc__law_is_tick pm__law_is_tick cd__law_is_tick ct__law_is_tick oc__law_is_row kV__law_is_row dc__law_is_row pm__law_is_row cd__law_is_row ct__law_is_row oc__law_drawn_row kV__law_drawn_row dc__law_drawn_row pm__law_drawn_row cd__law_drawn_row ct__law_drawn_row oc_law kV_law dc_law pm_law cd_law ct_law : Value}
    (a_is_within : PySem.W.nsIn K mainGlobals "is_within" = some (some (.ref f_is_within))) (l_is_within : K.lookup f_is_within = some ⟨oc_is_within, od_is_within, .func (PySem.W.fnOf "is_within" "is_within" (defArgs s_is_within) (defBody s_is_within) (defScope s_is_within) .none kV_is_within dc_is_within pm_is_within an_is_within cd_is_within ct_is_within), sl_is_within⟩) (c_is_within : PySem.W.codeIn K cd_is_within "is_within" = true) (k_is_within : PySem.W.keepIn K (.ref f_is_within) = true)
    (a_are_places : PySem.W.nsIn K mainGlobals "are_places" = some (some (.ref f_are_places))) (l_are_places : K.lookup f_are_places = some ⟨oc_are_places, od_are_places, .func (PySem.W.fnOf "are_places" "are_places" (defArgs s_are_places) (defBody s_are_places) (defScope s_are_places) .none kV_are_places dc_are_places pm_are_places an_are_places cd_are_places ct_are_places), sl_are_places⟩) (c_are_places : PySem.W.codeIn K cd_are_places "are_places" = true) (k_are_places : PySem.W.keepIn K (.ref f_are_places) = true)
    (a_is_tick : PySem.W.nsIn K mainGlobals "is_tick" = some (some (.ref f_is_tick))) (l_is_tick : K.lookup f_is_tick = some ⟨oc_is_tick, od_is_tick, .func (PySem.W.fnOf "is_tick" "is_tick" (defArgs s_is_tick) (defBody s_is_tick) (defScope s_is_tick) .none kV_is_tick dc_is_tick pm_is_tick an_is_tick cd_is_tick ct_is_tick), sl_is_tick⟩) (c_is_tick : PySem.W.codeIn K cd_is_tick "is_tick" = true) (k_is_tick : PySem.W.keepIn K (.ref f_is_tick) = true)
    (a_burnt : PySem.W.nsIn K mainGlobals "burnt" = some (some (.ref f_burnt))) (l_burnt : K.lookup f_burnt = some ⟨oc_burnt, od_burnt, .func (PySem.W.fnOf "burnt" "burnt" (defArgs s_burnt) (defBody s_burnt) (defScope s_burnt) .none kV_burnt dc_burnt pm_burnt an_burnt cd_burnt ct_burnt), sl_burnt⟩) (c_burnt : PySem.W.codeIn K cd_burnt "burnt" = true) (k_burnt : PySem.W.keepIn K (.ref f_burnt) = true)
    (a_is_row : PySem.W.nsIn K mainGlobals "is_row" = some (some (.ref f_is_row))) (l_is_row : K.lookup f_is_row = some ⟨oc_is_row, od_is_row, .func (PySem.W.fnOf "is_row" "is_row" (defArgs s_is_row) (defBody s_is_row) (defScope s_is_row) .none kV_is_row dc_is_row pm_is_row an_is_row cd_is_row ct_is_row), sl_is_row⟩) (c_is_row : PySem.W.codeIn K cd_is_row "is_row" = true) (k_is_row : PySem.W.keepIn K (.ref f_is_row) = true)
    (a_behind : PySem.W.nsIn K mainGlobals "behind" = some (some (.ref f_behind))) (l_behind : K.lookup f_behind = some ⟨oc_behind, od_behind, .func (PySem.W.fnOf "behind" "behind" (defArgs s_behind) (defBody s_behind) (defScope s_behind) .none kV_behind dc_behind pm_behind an_behind cd_behind ct_behind), sl_behind⟩) (c_behind : PySem.W.codeIn K cd_behind "behind" = true) (k_behind : PySem.W.keepIn K (.ref f_behind) = true)
    (a__law_draw : PySem.W.nsIn K mainGlobals "_law_draw" = some (some (.ref f__law_draw))) (l__law_draw : K.lookup f__law_draw = some ⟨oc__law_draw, od__law_draw, .func (PySem.W.fnOf "_law_draw" "_law_draw" (defArgs s__law_draw) (defBody s__law_draw) (defScope s__law_draw) .none kV__law_draw dc__law_draw pm__law_draw an__law_draw cd__law_draw ct__law_draw), sl__law_draw⟩) (c__law_draw : PySem.W.codeIn K cd__law_draw "_law_draw" = true) (k__law_draw : PySem.W.keepIn K (.ref f__law_draw) = true)
    (a__law_whole : PySem.W.nsIn K mainGlobals "_law_whole" = some (some (.ref f__law_whole))) (l__law_whole : K.lookup f__law_whole = some ⟨oc__law_whole, od__law_whole, .func (PySem.W.fnOf "_law_whole" "_law_whole" (defArgs s__law_whole) (defBody s__law_whole) (defScope s__law_whole) .none kV__law_whole dc__law_whole pm__law_whole an__law_whole cd__law_whole ct__law_whole), sl__law_whole⟩) (c__law_whole : PySem.W.codeIn K cd__law_whole "_law_whole" = true) (k__law_whole : PySem.W.keepIn K (.ref f__law_whole) = true)
    (a__law_within : PySem.W.nsIn K mainGlobals "_law_within" = some (some (.ref f__law_within))) (l__law_within : K.lookup f__law_within = some ⟨oc__law_within, od__law_within, .func (PySem.W.fnOf "_law_within" "_law_within" (defArgs s__law_within) (defBody s__law_within) (defScope s__law_within) .none kV__law_within dc__law_within pm__law_within an__law_within cd__law_within ct__law_within), sl__law_within⟩) (c__law_within : PySem.W.codeIn K cd__law_within "_law_within" = true) (k__law_within : PySem.W.keepIn K (.ref f__law_within) = true)
    (a__law_like : PySem.W.nsIn K mainGlobals "_law_like" = some (some (.ref f__law_like))) (l__law_like : K.lookup f__law_like = some ⟨oc__law_like, od__law_like, .func (PySem.W.fnOf "_law_like" "_law_like" (defArgs s__law_like) (defBody s__law_like) (defScope s__law_like) .none kV__law_like dc__law_like pm__law_like an__law_like cd__law_like ct__law_like), sl__law_like⟩) (c__law_like : PySem.W.codeIn K cd__law_like "_law_like" = true) (k__law_like : PySem.W.keepIn K (.ref f__law_like) = true)
    (a__law_spoilt : PySem.W.nsIn K mainGlobals "_law_spoilt" = some (some (.ref f__law_spoilt))) (l__law_spoilt : K.lookup f__law_spoilt = some ⟨oc__law_spoilt, od__law_spoilt, .func (PySem.W.fnOf "_law_spoilt" "_law_spoilt" (defArgs s__law_spoilt) (defBody s__law_spoilt) (defScope s__law_spoilt) .none kV__law_spoilt dc__law_spoilt pm__law_spoilt an__law_spoilt cd__law_spoilt ct__law_spoilt), sl__law_spoilt⟩) (c__law_spoilt : PySem.W.codeIn K cd__law_spoilt "_law_spoilt" = true) (k__law_spoilt : PySem.W.keepIn K (.ref f__law_spoilt) = true)
    (a__law_rises : PySem.W.nsIn K mainGlobals "_law_rises" = some (some (.ref f__law_rises))) (l__law_rises : K.lookup f__law_rises = some ⟨oc__law_rises, od__law_rises, .func (PySem.W.fnOf "_law_rises" "_law_rises" (defArgs s__law_rises) (defBody s__law_rises) (defScope s__law_rises) .none kV__law_rises dc__law_rises pm__law_rises an__law_rises cd__law_rises ct__law_rises), sl__law_rises⟩) (c__law_rises : PySem.W.codeIn K cd__law_rises "_law_rises" = true) (k__law_rises : PySem.W.keepIn K (.ref f__law_rises) = true)
    (a__law_any : PySem.W.nsIn K mainGlobals "_law_any" = some (some (.ref f__law_any))) (l__law_any : K.lookup f__law_any = some ⟨oc__law_any, od__law_any, .func (PySem.W.fnOf "_law_any" "_law_any" (defArgs s__law_any) (defBody s__law_any) (defScope s__law_any) .none kV__law_any dc__law_any pm__law_any an__law_any cd__law_any ct__law_any), sl__law_any⟩) (c__law_any : PySem.W.codeIn K cd__law_any "_law_any" = true) (k__law_any : PySem.W.keepIn K (.ref f__law_any) = true)
    (a__law_candles : PySem.W.nsIn K mainGlobals "_law_candles" = some (some (.ref f__law_candles))) (l__law_candles : K.lookup f__law_candles = some ⟨oc__law_candles, od__law_candles, .func (PySem.W.fnOf "_law_candles" "_law_candles" (defArgs s__law_candles) (defBody s__law_candles) (defScope s__law_candles) .none kV__law_candles dc__law_candles pm__law_candles an__law_candles cd__law_candles ct__law_candles), sl__law_candles⟩) (c__law_candles : PySem.W.codeIn K cd__law_candles "_law_candles" = true) (k__law_candles : PySem.W.keepIn K (.ref f__law_candles) = true)
    (a__law_draughts : PySem.W.nsIn K mainGlobals "_law_draughts" = some (some (.ref f__law_draughts))) (l__law_draughts : K.lookup f__law_draughts = some ⟨oc__law_draughts, od__law_draughts, .func (PySem.W.fnOf "_law_draughts" "_law_draughts" (defArgs s__law_draughts) (defBody s__law_draughts) (defScope s__law_draughts) .none kV__law_draughts dc__law_draughts pm__law_draughts an__law_draughts cd__law_draughts ct__law_draughts), sl__law_draughts⟩) (c__law_draughts : PySem.W.codeIn K cd__law_draughts "_law_draughts" = true) (k__law_draughts : PySem.W.keepIn K (.ref f__law_draughts) = true)
    (a__law_near : PySem.W.nsIn K mainGlobals "_law_near" = some (some (.ref f__law_near))) (l__law_near : K.lookup f__law_near = some ⟨oc__law_near, od__law_near, .func (PySem.W.fnOf "_law_near" "_law_near" (defArgs s__law_near) (defBody s__law_near) (defScope s__law_near) .none kV__law_near dc__law_near pm__law_near an__law_near cd__law_near ct__law_near), sl__law_near⟩) (c__law_near : PySem.W.codeIn K cd__law_near "_law_near" = true) (k__law_near : PySem.W.keepIn K (.ref f__law_near) = true)
    (a__law_night : PySem.W.nsIn K mainGlobals "_law_night" = some (some (.ref f__law_night))) (l__law_night : K.lookup f__law_night = some ⟨oc__law_night, od__law_night, .func (PySem.W.fnOf "_law_night" "_law_night" (defArgs s__law_night) (defBody s__law_night) (defScope s__law_night) .none kV__law_night dc__law_night pm__law_night an__law_night cd__law_night ct__law_night), sl__law_night⟩) (c__law_night : PySem.W.codeIn K cd__law_night "_law_night" = true) (k__law_night : PySem.W.keepIn K (.ref f__law_night) = true)
    (a__law_burnt : PySem.W.nsIn K mainGlobals "_law_burnt" = some (some (.ref f__law_burnt))) (l__law_burnt : K.lookup f__law_burnt = some ⟨oc__law_burnt, od__law_burnt, .func (PySem.W.fnOf "_law_burnt" "_law_burnt" (defArgs s__law_burnt) (defBody s__law_burnt) (defScope s__law_burnt) .none kV__law_burnt dc__law_burnt pm__law_burnt an__law_burnt cd__law_burnt ct__law_burnt), sl__law_burnt⟩) (c__law_burnt : PySem.W.codeIn K cd__law_burnt "_law_burnt" = true) (k__law_burnt : PySem.W.keepIn K (.ref f__law_burnt) = true)
    (a__law_is_tick : PySem.W.nsIn K mainGlobals "_law_is_tick" = some (some (.ref f__law_is_tick))) (l__law_is_tick : K.lookup f__law_is_tick = some ⟨oc__law_is_tick, od__law_is_tick, .func (PySem.W.fnOf "_law_is_tick" "_law_is_tick" (defArgs s__law_is_tick) (defBody s__law_is_tick) (defScope s__law_is_tick) .none kV__law_is_tick dc__law_is_tick pm__law_is_tick an__law_is_tick cd__law_is_tick ct__law_is_tick), sl__law_is_tick⟩) (c__law_is_tick : PySem.W.codeIn K cd__law_is_tick "_law_is_tick" = true) (k__law_is_tick : PySem.W.keepIn K (.ref f__law_is_tick) = true)
    (a__law_is_row : PySem.W.nsIn K mainGlobals "_law_is_row" = some (some (.ref f__law_is_row))) (l__law_is_row : K.lookup f__law_is_row = some ⟨oc__law_is_row, od__law_is_row, .func (PySem.W.fnOf "_law_is_row" "_law_is_row" (defArgs s__law_is_row) (defBody s__law_is_row) (defScope s__law_is_row) .none kV__law_is_row dc__law_is_row pm__law_is_row an__law_is_row cd__law_is_row ct__law_is_row), sl__law_is_row⟩) (c__law_is_row : PySem.W.codeIn K cd__law_is_row "_law_is_row" = true) (k__law_is_row : PySem.W.keepIn K (.ref f__law_is_row) = true)
    (a__law_drawn_row : PySem.W.nsIn K mainGlobals "_law_drawn_row" = some (some (.ref f__law_drawn_row))) (l__law_drawn_row : K.lookup f__law_drawn_row = some ⟨oc__law_drawn_row, od__law_drawn_row, .func (PySem.W.fnOf "_law_drawn_row" "_law_drawn_row" (defArgs s__law_drawn_row) (defBody s__law_drawn_row) (defScope s__law_drawn_row) .none kV__law_drawn_row dc__law_drawn_row pm__law_drawn_row an__law_drawn_row cd__law_drawn_row ct__law_drawn_row), sl__law_drawn_row⟩) (c__law_drawn_row : PySem.W.codeIn K cd__law_drawn_row "_law_drawn_row" = true) (k__law_drawn_row : PySem.W.keepIn K (.ref f__law_drawn_row) = true)
    (a_law : PySem.W.nsIn K mainGlobals "law" = some (some (.ref f_law))) (l_law : K.lookup f_law = some ⟨oc_law, od_law, .func (PySem.W.fnOf "law" "law" (defArgs s_law) (defBody s_law) (defScope s_law) .none kV_law dc_law pm_law an_law cd_law ct_law), sl_law⟩) (c_law : PySem.W.codeIn K cd_law "law" = true) (k_law : PySem.W.keepIn K (.ref f_law) = true)
    (z_len : PySem.W.nsIn K mainGlobals "len" = some none)
    (z_sum : PySem.W.nsIn K mainGlobals "sum" = some none)
    (z_all : PySem.W.nsIn K mainGlobals "all" = some none)
    (z_any : PySem.W.nsIn K mainGlobals "any" = some none)
    (z_sorted : PySem.W.nsIn K mainGlobals "sorted" = some none)
    (z_tuple : PySem.W.nsIn K mainGlobals "tuple" = some none)
    (z_list : PySem.W.nsIn K mainGlobals "list" = some none)
    (z_int : PySem.W.nsIn K mainGlobals "int" = some none)
    (z_bool : PySem.W.nsIn K mainGlobals "bool" = some none)
    (z_str : PySem.W.nsIn K mainGlobals "str" = some none)
    (z_isinstance : PySem.W.nsIn K mainGlobals "isinstance" = some none)
    (z_max : PySem.W.nsIn K mainGlobals "max" = some none)
    (z_min : PySem.W.nsIn K mainGlobals "min" = some none)
    (z_range : PySem.W.nsIn K mainGlobals "range" = some none)
    (z_enumerate : PySem.W.nsIn K mainGlobals "enumerate" = some none)
    (z_zip : PySem.W.nsIn K mainGlobals "zip" = some none)
    : ∃ fd : FuncData, (∀ (s : Shared) (v : Value), BindsTo s fd ⟨[v], []⟩ [("script", v)]) ∧ ∀ base : Heap, K.In base → base.Ns mainGlobals mg → FnOk l.prog w K mg base CX0 13 fa fd ["script"] (spLaw K) := by
  have e := hfa.symm.trans (PySem.W.mg_of X G a_law)
  cases e
  have T : Bl mg := ⟨PySem.W.mg_none_of X G z_len, PySem.W.mg_none_of X G z_sum, PySem.W.mg_none_of X G z_all, PySem.W.mg_none_of X G z_any, PySem.W.mg_none_of X G z_sorted, PySem.W.mg_none_of X G z_tuple, PySem.W.mg_none_of X G z_list, PySem.W.mg_none_of X G z_int, PySem.W.mg_none_of X G z_bool, PySem.W.mg_none_of X G z_str, PySem.W.mg_none_of X G z_isinstance, PySem.W.mg_none_of X G z_max, PySem.W.mg_none_of X G z_min, PySem.W.mg_none_of X G z_range, PySem.W.mg_none_of X G z_enumerate, PySem.W.mg_none_of X G z_zip⟩
  have F_is_within := fun_mk (st := s_is_within) l_is_within c_is_within k_is_within
  have D_is_within : FnAt K mg "is_within" "is_within" s_is_within ["thing", "low", "high"] f_is_within _ := ⟨F_is_within, F_is_within.binds (ps := ["thing", "low", "high"]) (fun _ _ _ _ _ _ us hl => match us, hl with | [_, _, _], _ => rfl), PySem.W.mg_of X G a_is_within⟩
  have F_are_places := fun_mk (st := s_are_places) l_are_places c_are_places k_are_places
  have D_are_places : FnAt K mg "are_places" "are_places" s_are_places ["candles", "thing"] f_are_places _ := ⟨F_are_places, F_are_places.binds (ps := ["candles", "thing"]) (fun _ _ _ _ _ _ us hl => match us, hl with | [_, _], _ => rfl), PySem.W.mg_of X G a_are_places⟩
  have F_is_tick := fun_mk (st := s_is_tick) l_is_tick c_is_tick k_is_tick
  have D_is_tick : FnAt K mg "is_tick" "is_tick" s_is_tick ["candles", "draught", "thing"] f_is_tick _ := ⟨F_is_tick, F_is_tick.binds (ps := ["candles", "draught", "thing"]) (fun _ _ _ _ _ _ us hl => match us, hl with | [_, _, _], _ => rfl), PySem.W.mg_of X G a_is_tick⟩
  have F_burnt := fun_mk (st := s_burnt) l_burnt c_burnt k_burnt
  have D_burnt : FnAt K mg "burnt" "burnt" s_burnt ["candles", "lit", "out"] f_burnt _ := ⟨F_burnt, F_burnt.binds (ps := ["candles", "lit", "out"]) (fun _ _ _ _ _ _ us hl => match us, hl with | [_, _, _], _ => rfl), PySem.W.mg_of X G a_burnt⟩
  have F_is_row := fun_mk (st := s_is_row) l_is_row c_is_row k_is_row
  have D_is_row : FnAt K mg "is_row" "is_row" s_is_row ["candles", "draughts", "thing"] f_is_row _ := ⟨F_is_row, F_is_row.binds (ps := ["candles", "draughts", "thing"]) (fun _ _ _ _ _ _ us hl => match us, hl with | [_, _, _], _ => rfl), PySem.W.mg_of X G a_is_row⟩
  have F_behind := fun_mk (st := s_behind) l_behind c_behind k_behind
  have D_behind : FnAt K mg "behind" "behind" s_behind ["candles", "draughts", "row"] f_behind _ := ⟨F_behind, F_behind.binds (ps := ["candles", "draughts", "row"]) (fun _ _ _ _ _ _ us hl => match us, hl with | [_, _, _], _ => rfl), PySem.W.mg_of X G a_behind⟩
  have F__law_draw := fun_mk (st := s__law_draw) l__law_draw c__law_draw k__law_draw
  have D__law_draw : FnAt K mg "_law_draw" "_law_draw" s__law_draw ["tape", "many"] f__law_draw _ := ⟨F__law_draw, F__law_draw.binds (ps := ["tape", "many"]) (fun _ _ _ _ _ _ us hl => match us, hl with | [_, _], _ => rfl), PySem.W.mg_of X G a__law_draw⟩
  have F__law_whole := fun_mk (st := s__law_whole) l__law_whole c__law_whole k__law_whole
  have D__law_whole : FnAt K mg "_law_whole" "_law_whole" s__law_whole ["item"] f__law_whole _ := ⟨F__law_whole, F__law_whole.binds (ps := ["item"]) (fun _ _ _ _ _ _ us hl => match us, hl with | [_], _ => rfl), PySem.W.mg_of X G a__law_whole⟩
  have F__law_within := fun_mk (st := s__law_within) l__law_within c__law_within k__law_within
  have D__law_within : FnAt K mg "_law_within" "_law_within" s__law_within ["item", "low", "high"] f__law_within _ := ⟨F__law_within, F__law_within.binds (ps := ["item", "low", "high"]) (fun _ _ _ _ _ _ us hl => match us, hl with | [_, _, _], _ => rfl), PySem.W.mg_of X G a__law_within⟩
  have F__law_like := fun_mk (st := s__law_like) l__law_like c__law_like k__law_like
  have D__law_like : FnAt K mg "_law_like" "_law_like" s__law_like ["one", "two"] f__law_like _ := ⟨F__law_like, F__law_like.binds (ps := ["one", "two"]) (fun _ _ _ _ _ _ us hl => match us, hl with | [_, _], _ => rfl), PySem.W.mg_of X G a__law_like⟩
  have F__law_spoilt := fun_mk (st := s__law_spoilt) l__law_spoilt c__law_spoilt k__law_spoilt
  have D__law_spoilt : FnAt K mg "_law_spoilt" "_law_spoilt" s__law_spoilt ["tape", "item"] f__law_spoilt _ := ⟨F__law_spoilt, F__law_spoilt.binds (ps := ["tape", "item"]) (fun _ _ _ _ _ _ us hl => match us, hl with | [_, _], _ => rfl), PySem.W.mg_of X G a__law_spoilt⟩
  have F__law_rises := fun_mk (st := s__law_rises) l__law_rises c__law_rises k__law_rises
  have D__law_rises : FnAt K mg "_law_rises" "_law_rises" s__law_rises ["some"] f__law_rises _ := ⟨F__law_rises, F__law_rises.binds (ps := ["some"]) (fun _ _ _ _ _ _ us hl => match us, hl with | [_], _ => rfl), PySem.W.mg_of X G a__law_rises⟩
  have F__law_any := fun_mk (st := s__law_any) l__law_any c__law_any k__law_any
  have D__law_any : FnAt K mg "_law_any" "_law_any" s__law_any ["tape", "deep"] f__law_any _ := ⟨F__law_any, F__law_any.binds (ps := ["tape", "deep"]) (fun _ _ _ _ _ _ us hl => match us, hl with | [_, _], _ => rfl), PySem.W.mg_of X G a__law_any⟩
  have F__law_candles := fun_mk (st := s__law_candles) l__law_candles c__law_candles k__law_candles
  have D__law_candles : FnAt K mg "_law_candles" "_law_candles" s__law_candles ["tape", "size", "wax"] f__law_candles _ := ⟨F__law_candles, F__law_candles.binds (ps := ["tape", "size", "wax"]) (fun _ _ _ _ _ _ us hl => match us, hl with | [_, _, _], _ => rfl), PySem.W.mg_of X G a__law_candles⟩
  have F__law_draughts := fun_mk (st := s__law_draughts) l__law_draughts c__law_draughts k__law_draughts
  have D__law_draughts : FnAt K mg "_law_draughts" "_law_draughts" s__law_draughts ["tape", "size", "top"] f__law_draughts _ := ⟨F__law_draughts, F__law_draughts.binds (ps := ["tape", "size", "top"]) (fun _ _ _ _ _ _ us hl => match us, hl with | [_, _, _], _ => rfl), PySem.W.mg_of X G a__law_draughts⟩
  have F__law_near := fun_mk (st := s__law_near) l__law_near c__law_near k__law_near
  have D__law_near : FnAt K mg "_law_near" "_law_near" s__law_near ["tape", "candles", "size", "top"] f__law_near _ := ⟨F__law_near, F__law_near.binds (ps := ["tape", "candles", "size", "top"]) (fun _ _ _ _ _ _ us hl => match us, hl with | [_, _, _, _], _ => rfl), PySem.W.mg_of X G a__law_near⟩
  have F__law_night := fun_mk (st := s__law_night) l__law_night c__law_night k__law_night
  have D__law_night : FnAt K mg "_law_night" "_law_night" s__law_night ["tape", "size", "wax", "ticks", "top"] f__law_night _ := ⟨F__law_night, F__law_night.binds (ps := ["tape", "size", "wax", "ticks", "top"]) (fun _ _ _ _ _ _ us hl => match us, hl with | [_, _, _, _, _], _ => rfl), PySem.W.mg_of X G a__law_night⟩
  have F__law_burnt := fun_mk (st := s__law_burnt) l__law_burnt c__law_burnt k__law_burnt
  have D__law_burnt : FnAt K mg "_law_burnt" "_law_burnt" s__law_burnt ["candles", "lit", "out"] f__law_burnt _ := ⟨F__law_burnt, F__law_burnt.binds (ps := ["candles", "lit", "out"]) (fun _ _ _ _ _ _ us hl => match us, hl with | [_, _, _], _ => rfl), PySem.W.mg_of X G a__law_burnt⟩
  have F__law_is_tick := fun_mk (st := s__law_is_tick) l__law_is_tick c__law_is_tick k__law_is_tick
  have D__law_is_tick : FnAt K mg "_law_is_tick" "_law_is_tick" s__law_is_tick ["candles", "draught", "item"] f__law_is_tick _ := ⟨F__law_is_tick, F__law_is_tick.binds (ps := ["candles", "draught", "item"]) (fun _ _ _ _ _ _ us hl => match us, hl with | [_, _, _], _ => rfl), PySem.W.mg_of X G a__law_is_tick⟩
  have F__law_is_row := fun_mk (st := s__law_is_row) l__law_is_row c__law_is_row k__law_is_row
  have D__law_is_row : FnAt K mg "_law_is_row" "_law_is_row" s__law_is_row ["candles", "draughts", "item"] f__law_is_row _ := ⟨F__law_is_row, F__law_is_row.binds (ps := ["candles", "draughts", "item"]) (fun _ _ _ _ _ _ us hl => match us, hl with | [_, _, _], _ => rfl), PySem.W.mg_of X G a__law_is_row⟩
  have F__law_drawn_row := fun_mk (st := s__law_drawn_row) l__law_drawn_row c__law_drawn_row k__law_drawn_row
  have D__law_drawn_row : FnAt K mg "_law_drawn_row" "_law_drawn_row" s__law_drawn_row ["tape", "candles", "draughts"] f__law_drawn_row _ := ⟨F__law_drawn_row, F__law_drawn_row.binds (ps := ["tape", "candles", "draughts"]) (fun _ _ _ _ _ _ us hl => match us, hl with | [_, _, _], _ => rfl), PySem.W.mg_of X G a__law_drawn_row⟩
  have F_law := fun_mk (st := s_law) l_law c_law k_law
  exact ⟨PySem.W.fnOf "law" "law" (defArgs s_law) (defBody s_law) (defScope s_law) .none kV_law dc_law pm_law an_law cd_law ct_law, fun s v => .of_eq rfl, fun base _ _ => ok_law T F_law D_is_within D_are_places D_is_tick D_burnt D_is_row D_behind D__law_draw D__law_whole D__law_within D__law_like D__law_any D__law_spoilt D__law_rises D__law_candles D__law_draughts D__law_near D__law_night D__law_burnt D__law_is_tick D__law_is_row D__law_drawn_row⟩
end LF
open PySem PySem.W PyProof.Rows
set_option maxHeartbeats 0 in
theorem PySem.Challenge.cw_lastflame_k02_rows_of_ticks_judged_holds : PySem.Challenge.rw_lastflame_k02_rows_of_ticks_judged.Holds := by
  w_on; o_law; k_head; (case hw => w_witness2)
  k_fill
  refine L2.walk_of (l := PySem.Challenge.rw_lastflame_k02_rows_of_ticks_judged) (n := 63) (k := 13) (x := "script") (CX := fun _ => L2.CX0) (sp := fun w => LF.spLaw _) rfl (by decide) rfl ⟨rfl, by decide, by decide⟩ (fun w h Y => PySem.W.kIn_of Y) ?F (fun _ _ a ns hl _ hS => ⟨a, ns, rfl, hS, hl, fun _ => rfl⟩) (fun _ _ _ _ _ h => h)
  case F =>
    intro w mg fa h KX G hmg
    refine' LF.all_mk KX G hmg ?a_is_within ?l_is_within ?c_is_within ?k_is_within ?a_are_places ?l_are_places ?c_are_places ?k_are_places ?a_is_tick ?l_is_tick ?c_is_tick ?k_is_tick ?a_burnt ?l_burnt ?c_burnt ?k_burnt ?a_is_row ?l_is_row ?c_is_row ?k_is_row ?a_behind ?l_behind ?c_behind ?k_behind ?a__law_draw ?l__law_draw ?c__law_draw ?k__law_draw ?a__law_whole ?l__law_whole ?c__law_whole ?k__law_whole ?a__law_within ?l__law_within ?c__law_within ?k__law_within ?a__law_like ?l__law_like ?c__law_like ?k__law_like ?a__law_spoilt ?l__law_spoilt ?c__law_spoilt ?k__law_spoilt ?a__law_rises ?l__law_rises ?c__law_rises ?k__law_rises ?a__law_any ?l__law_any ?c__law_any ?k__law_any ?a__law_candles ?l__law_candles ?c__law_candles ?k__law_candles ?a__law_draughts ?l__law_draughts ?c__law_draughts ?k__law_draughts ?a__law_near ?l__law_near ?c__law_near ?k__law_near ?a__law_night ?l__law_night ?c__law_night ?k__law_night ?a__law_burnt ?l__law_burnt ?c__law_burnt ?k__law_burnt ?a__law_is_tick ?l__law_is_tick ?c__law_is_tick ?k__law_is_tick ?a__law_is_row ?l__law_is_row ?c__law_is_row ?k__law_is_row ?a__law_drawn_row ?l__law_drawn_row ?c__law_drawn_row ?k__law_drawn_row ?a_law ?l_law ?c_law ?k_law ?z_len ?z_sum ?z_all ?z_any ?z_sorted ?z_tuple ?z_list ?z_int ?z_bool ?z_str ?z_isinstance ?z_max ?z_min ?z_range ?z_enumerate ?z_zip
    (case a_is_within => k_is)
    (case l_is_within => k_is)
    (case c_is_within => k_is)
    (case k_is_within => k_is)
    (case a_are_places => k_is)
    (case l_are_places => k_is)
    (case c_are_places => k_is)
    (case k_are_places => k_is)
    (case a_is_tick => k_is)
    (case l_is_tick => k_is)
    (case c_is_tick => k_is)
    (case k_is_tick => k_is)
    (case a_burnt => k_is)
    (case l_burnt => k_is)
    (case c_burnt => k_is)
    (case k_burnt => k_is)
    (case a_is_row => k_is)
    (case l_is_row => k_is)
    (case c_is_row => k_is)
    (case k_is_row => k_is)
    (case a_behind => k_is)
    (case l_behind => k_is)
    (case c_behind => k_is)
    (case k_behind => k_is)
    (case a__law_draw => k_is)
    (case l__law_draw => k_is)
    (case c__law_draw => k_is)
    (case k__law_draw => k_is)
    (case a__law_whole => k_is)
    (case l__law_whole => k_is)
    (case c__law_whole => k_is)
    (case k__law_whole => k_is)
    (case a__law_within => k_is)
    (case l__law_within => k_is)
    (case c__law_within => k_is)
    (case k__law_within => k_is)
    (case a__law_like => k_is)
    (case l__law_like => k_is)
    (case c__law_like => k_is)
    (case k__law_like => k_is)
    (case a__law_spoilt => k_is)
    (case l__law_spoilt => k_is)
    (case c__law_spoilt => k_is)
    (case k__law_spoilt => k_is)
    (case a__law_rises => k_is)
    (case l__law_rises => k_is)
    (case c__law_rises => k_is)
    (case k__law_rises => k_is)
    (case a__law_any => k_is)
    (case l__law_any => k_is)
    (case c__law_any => k_is)
    (case k__law_any => k_is)
    (case a__law_candles => k_is)
    (case l__law_candles => k_is)
    (case c__law_candles => k_is)
    (case k__law_candles => k_is)
    (case a__law_draughts => k_is)
    (case l__law_draughts => k_is)
    (case c__law_draughts => k_is)
    (case k__law_draughts => k_is)
    (case a__law_near => k_is)
    (case l__law_near => k_is)
    (case c__law_near => k_is)
    (case k__law_near => k_is)
    (case a__law_night => k_is)
    (case l__law_night => k_is)
    (case c__law_night => k_is)
    (case k__law_night => k_is)
    (case a__law_burnt => k_is)
    (case l__law_burnt => k_is)
    (case c__law_burnt => k_is)
    (case k__law_burnt => k_is)
    (case a__law_is_tick => k_is)
    (case l__law_is_tick => k_is)
    (case c__law_is_tick => k_is)
    (case k__law_is_tick => k_is)
    (case a__law_is_row => k_is)
    (case l__law_is_row => k_is)
    (case c__law_is_row => k_is)
    (case k__law_is_row => k_is)
    (case a__law_drawn_row => k_is)
    (case l__law_drawn_row => k_is)
    (case c__law_drawn_row => k_is)
    (case k__law_drawn_row => k_is)
    (case a_law => k_is)
    (case l_law => k_is)
    (case c_law => k_is)
    (case k_law => k_is)
    (case z_len => k_is)
    (case z_sum => k_is)
    (case z_all => k_is)
    (case z_any => k_is)
    (case z_sorted => k_is)
    (case z_tuple => k_is)
    (case z_list => k_is)
    (case z_int => k_is)
    (case z_bool => k_is)
    (case z_str => k_is)
    (case z_isinstance => k_is)
    (case z_max => k_is)
    (case z_min => k_is)
    (case z_range => k_is)
    (case z_enumerate => k_is)
    (case z_zip => k_is)

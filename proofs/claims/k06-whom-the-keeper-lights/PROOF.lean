import PyProof.Rows.All
import Wide.All
import OpenK.AllK
import Wide.FinOn
import KE.GoesEnum
import HandS.ForMost
import HandS.IsInst
import HandS.TupAny
import HandS.TupMul
import HandS.Style
import HandS.SortInts
import HandS.SortRule
import HandS.Wide
import HandS.Walk
import HandS.More
import HandS.Codes
import PySem.Challenge.RW_lastflame_k06_whom_the_keeper_lights_by
set_option Elab.async false
set_option linter.all false
set_option maxRecDepth 100000
set_option maxHeartbeats 4000000
/-! ### la_walks: enumerate and zip over lists and tuples in any mix; sum, sorted of tuples -/
namespace LF
open PySem PySem.Spec PyProof.Rows L2

def SqB (K : PySem.W.Frag) : Bool → Hp → Addr → List V → Prop
  | false => SqL K
  | true => SqT K
def IsItB : Bool → Heap → Addr → Addr → Nat → Prop
  | false => fun h it a i => h.IsListIter it a i
  | true => fun h it a i => h.IsTupleIter it a i
def IsSeqB : Bool → Heap → Addr → Array Value → Prop
  | false => fun h a items => h.IsList a items
  | true => fun h a items => h.IsTuple a items
def itObj (tp : Bool) (a : Addr) : Obj := { cls := .type (if tp then "tuple_iterator" else "list_iterator"), data := .fields #[.ref a, .int 0 0] }
theorem drawsB {prog : Program} {w : World} {A : Around} (hh : A.handled = none) (tp : Bool) (it l : Addr) (hne : l ≠ it) (items : Array Value) :
    Draws prog w A it [it, l] items.size (fun i v => items[i]? = some v) (fun i h => IsItB tp h it l i ∧ IsSeqB tp h l items) := by
  cases tp with
  | false => exact Draws.list hh it l hne items
  | true => exact Draws.tuple hh it l hne items
theorem beginsB (tp : Bool) (l : Addr) (items : Array Value) : Begins (.ref l) (itObj tp l) fun h => IsSeqB tp h l items := by
  cases tp with
  | false => exact begins_list l items
  | true => exact begins_tuple l items
theorem IsItB.obj {tp : Bool} {h : Heap} {it a : Addr} {i : Nat} (x : IsItB tp h it a i) : ∃ o : Obj, h.get? it = some o ∧ o.cls = .type (if tp then "tuple_iterator" else "list_iterator") ∧ ∃ vs, o.data = .fields vs := by
  cases tp with
  | false => obtain ⟨o, e, c, d⟩ := x; exact ⟨o, e, c, _, d⟩
  | true => obtain ⟨o, e, c, d⟩ := x; exact ⟨o, e, c, _, d⟩
theorem IsItB.at {tp : Bool} {h h' : Heap} {it a : Addr} {i : Nat} (x : IsItB tp h it a i) (k : ∀ o, h.get? it = some o → h'.get? it = some o) : IsItB tp h' it a i := by
  cases tp with
  | false => obtain ⟨o, e, c⟩ := x; exact ⟨o, k o e, c⟩
  | true => obtain ⟨o, e, c⟩ := x; exact ⟨o, k o e, c⟩
theorem IsSeqB.obj {tp : Bool} {h : Heap} {a : Addr} {items : Array Value} (x : IsSeqB tp h a items) : ∃ o : Obj, h.get? a = some o ∧ ∃ n, o.data = .seq items n := by
  cases tp with
  | false => obtain ⟨o, e, _, n, d⟩ := x; exact ⟨o, e, n, d⟩
  | true => obtain ⟨o, e, _, n, d⟩ := x; exact ⟨o, e, n, d⟩
theorem neB {tp : Bool} {h : Heap} {it a : Addr} {i : Nat} {items : Array Value} (x : IsItB tp h it a i) (y : IsSeqB tp h a items) : a ≠ it := fun e => by
  obtain ⟨o, e1, _, vs, d1⟩ := x.obj
  obtain ⟨o2, e2, n, d2⟩ := y.obj
  rw [e, e1] at e2
  cases e2
  rw [d1] at d2
  cases d2
theorem itB_new {tp : Bool} {h : Heap} {it a : Addr} (e : h.get? it = some (itObj tp a)) : IsItB tp h it a 0 := by
  cases tp with
  | false => exact ⟨_, e, rfl, rfl⟩
  | true => exact ⟨_, e, rfl, rfl⟩
section
variable {X : Cx} {pins : List (Addr × Obj)} {σ : L2.St} {H : Hp} {s : Shared} {a : Addr} {xs ys : List V}
theorem seqB (tp : Bool) (I : Inv X pins σ H s) (h : SqB X.K tp H a xs) : ∃ its : List Value, Vals xs its ∧ IsSeqB tp s.heap a its.toArray ∧ xs.length ≤ sizeLine := by
  cases tp with
  | false => obtain ⟨its, rv, p, z⟩ := I.list h; exact ⟨its, rv, p.isList, z⟩
  | true => obtain ⟨its, rv, p, z⟩ := I.tuple h; exact ⟨its, rv, p, z⟩
theorem seqB_inj {tp : Bool} (I : Inv X pins σ H s) (h : SqB X.K tp H a xs) (h' : SqB X.K tp H a ys) : xs = ys := by
  cases tp with
  | false => exact I.list_inj h h'
  | true => exact I.tuple_inj h h'
end
/-! enumerate -/
def IteB (K : PySem.W.Frag) (tp : Bool) (a : Addr) : It :=
  ⟨fun i H => ∃ (xs : List V) (x : V), SqB K tp H a xs ∧ xs[i]? = some x, fun i H v H' => ∃ T x, v = .ref T ∧ H T = none ∧ H' = upd H T (.tup [.int (i : Nat), x]) ∧ ∀ xs, SqB K tp H a xs → xs[i]? = some x, fun i H => ∃ xs : List V, SqB K tp H a xs ∧ xs.length = i⟩
theorem turn_enumB {P : Program} {w : World} {K : PySem.W.Frag} {elts : List Expr} {kk : Nat} {tpos : Pos} (tp : Bool) (a e it : Addr) :
    Turn P w K (.Tuple elts kk tpos) (IteB K tp a) [e, it] e (fun i h => (∃ old, IsEnum h e it ((i : Nat) : Int) old) ∧ IsItB tp h it a i ∧ e ≠ it) where
  mem := by simp
  obj := fun i h st b hb => by
    obtain ⟨⟨old, he⟩, hi, _⟩ := st
    obtain ⟨o, ho, _, vs, hd⟩ := hi.obj
    have e' : b = e ∨ b = it := by simpa using hb
    rcases e' with z | z
    · rw [z]; exact ⟨_, he, fun v q => nomatch q⟩
    · rw [z]; exact ⟨o, ho, fun v q => by rw [hd] at q; cases q⟩
  keep := fun i h h' st k => let ⟨⟨old, he⟩, hi, hne⟩ := st; ⟨⟨old, k e (by simp) _ he⟩, hi.at fun o q => k it (by simp) o q, hne⟩
  item := by
    intro X hP hw hK hc i pins s σ H E I hf st hg
    subst hP hw hK
    obtain ⟨⟨old, he⟩, hit, hne⟩ := st
    obtain ⟨xs, x, hq, hx⟩ := hg
    obtain ⟨its, rv, p, hz⟩ := seqB tp I hq
    obtain ⟨u, hu, ru⟩ := rv.get hx
    have hel : e < s.heap.objs.size := Heap.lt_size he
    have hil : it < s.heap.objs.size := by obtain ⟨_, q, _⟩ := hit.obj; exact Heap.lt_size q
    have hia : a ≠ it := neB hit p
    have hea : e ≠ a := fun z => by
      obtain ⟨o, ho, n, hd⟩ := p.obj
      rw [← z, he] at ho
      cases ho
      cases hd
    have hlt : i < its.toArray.size := by
      obtain ⟨h1, _⟩ := List.getElem?_eq_some_iff.mp hu
      simpa using h1
    refine wpAny_pyNext_enum_itemC (drawsB (A := X.A.in1) (I.ok.hd hc) tp it a hia its.toArray) he ⟨hit, p⟩ hlt hne (by simp [hne, hea]) fun u' h' tk hP ho hit' hT hsz hk => ?_
    have eu : u' = u := by
      have q : its.toArray[i]? = some u := by simpa using hu
      rw [q] at hP
      exact (Option.some.inj hP).symm
    subst eu
    refine ⟨_, rfl, wpAny_letOwnedTupleGo_enum (s := { s with heap := h', toks := tk + 1 }) ho fun h'' he' sb => ?_⟩
    have hT2 : h''.get? s.heap.objs.size = some { cls := .type "tuple", data := .seq #[.int i tk, u'] } := (sb.2 _ (Nat.ne_of_gt hel)).trans hT
    have new : ObjOk X.prog X.w (upd H s.heap.objs.size (.tup [.int (i : Nat), x])) h'' s.heap.objs.size (.tup [.int (i : Nat), x]) :=
      ⟨by show 2 ≤ sizeLine; decide, [.int i tk, u'], .cons ⟨_, rfl⟩ (.cons ru .nil), ⟨_, hT2, rfl, _, rfl⟩⟩
    have I1 : Inv X pins σ (upd H s.heap.objs.size (.tup [.int (i : Nat), x])) { s with heap := h'', toks := tk + 1 } :=
      I.turnedNew (ch := [e, it]) (fun b ob hb q => (sb.2 b (fun z => hb (by simp [z]))).trans (hk b ob (fun z => hb (by simp [z])) (fun z => hb (by simp [z])) q)) hf (Nat.le_refl _) new
    refine ⟨.ref s.heap.objs.size, _, I1, rfl, ⟨_, x, rfl, I.hok.fresh (Nat.le_refl _), rfl, fun ys hy => by rw [seqB_inj I hy hq]; exact hx⟩, ⟨⟨u', ?_⟩, hit'.1.at fun o q => (sb.2 it (Ne.symm hne)).trans q, hne⟩, fun b hb => ?_⟩
    · have e1 : ((i + 1 : Nat) : Int) = (i : Int) + 1 := by omega
      rw [e1]; exact he'
    · have hb' : b < s.heap.objs.size := by
        have e' : b = e ∨ b = it := by simpa using hb
        rcases e' with z | z
        · rw [z]; exact hel
        · rw [z]; exact hil
      rw [upd_ne (Nat.ne_of_lt hb')]
      exact (hf b hb).1
  done := by
    intro X hP hw hK hc i pins s σ H E I hf st hg
    subst hP hw hK
    obtain ⟨⟨old, he⟩, hit, hne⟩ := st
    obtain ⟨xs, hq, hx⟩ := hg
    obtain ⟨its, rv, p, hz⟩ := seqB tp I hq
    obtain ⟨f0, f1, f2, f3, f4, f5⟩ := hf it (by simp)
    have hl := rv.length
    have ei : i = its.toArray.size := by simp; omega
    have hia : a ≠ it := neB hit p
    exact wpAny_pyNext_enum_endD (drawsB (A := X.A.in1) (I.ok.hd hc) tp it a hia its.toArray) he (by rw [← ei]; exact ⟨hit, p⟩) fun h' eb => ⟨rfl, I.turned (t' := s.toks) (fun b o hb q => eb b o hb q) f0 f1 f3 f4 f5⟩
  self := fun A i s Q E st h => let ⟨⟨_, he⟩, _⟩ := st; wpAny_pyIter_enum he h
set_option maxHeartbeats 2000000 in
theorem meets_enum1 {v : Value} {o : Obj} {H : Heap → Prop} (B : Begins v o H) :
    Meets (Builtin.«enumerate.__new__» ⟨[.type "enumerate", v], []⟩) (fun _ R s => H s.heap ∧
      R (.ok (.ret (.ref (s.heap.push o).objs.size))) { s with heap := (s.heap.push o).push { cls := .type "enumerate", data := .fields #[.none, .bool false, .ref s.heap.objs.size, rawInt 0, .none, .none] } }) :=
  .of_wp fun prog w A R s h => by
    obtain ⟨hp, g, d, tk, os⟩ := s; obtain ⟨h1, h⟩ := h
    have hsub := sub_enumerate
    have q1 : ∀ {A' : Around} {E : Value → Shared → Prop} {Q : Value → Shared → Prop}, Q (.ref hp.objs.size) ⟨hp.push o, g, d, tk, os⟩ → wpAny (model prog w) A' (pyIter v) Q E ⟨hp, g, d, tk, os⟩ :=
      fun q => B.iter prog w _ _ ⟨hp, g, d, tk, os⟩ _ h1 q
    wp_walk
    refine wpAny_stack_any fun st => wpAny_pure ?_
    split
    · rename_i c _ _ _ _ _
      cases (c == Value.type "enumerate")
      · wp_walk using q1
        exact ⟨_, rfl, h⟩
      · wp_walk using q1
        exact ⟨_, rfl, h⟩
    · wp_walk using q1
      exact ⟨_, rfl, h⟩
theorem enum1_begins {prog : Program} {w : World} {A : Around} {E : Value → Shared → Prop} {s : Shared} {v : Value} {o : Obj} {H : Heap → Prop} {Q : Value → Shared → Prop} (B : Begins v o H) (h1 : H s.heap)
    (h : ∀ h', IsEnum h' (s.heap.objs.size + 1) s.heap.objs.size 0 .none → h'.get? s.heap.objs.size = some o → h'.objs.size = s.heap.objs.size + 2 →
      (∀ b o, s.heap.get? b = some o → h'.get? b = some o) → Q (.ref (s.heap.objs.size + 1)) { s with heap := h' }) :
    wpAny (model prog w) A (call (.type "enumerate") [v]) Q E s := by
  refine callType_new F.called_enumerate (by decide) (F.typeCall_enumerate_1 _) (F.newCall_enumerate_1 _) (fun obj => F.args_object_init_2 obj _) F.entry_enumerate_new
    (meets_enum1 B) ⟨h1, ?_⟩
  have hz : (s.heap.push o).objs.size = s.heap.objs.size + 1 := Heap.size_push ..
  show _ ∧ _
  rw [hz]
  have he : IsEnum ((s.heap.push o).push { cls := .type "enumerate", data := .fields #[.none, .bool false, .ref s.heap.objs.size, rawInt 0, .none, .none] }) (s.heap.objs.size + 1) s.heap.objs.size 0 .none := by
    have := Heap.get?_push_size (s.heap.push o) (o := { cls := .type "enumerate", data := .fields #[.none, .bool false, .ref s.heap.objs.size, rawInt 0, .none, .none] }) rfl
    rw [hz] at this; exact this
  refine ⟨⟨_, he, rfl⟩, h _ he (Heap.get?_push_of_some _ (Heap.get?_push_size _ B.free)) (by rw [Heap.size_push, hz]) fun b o x => Heap.get?_push_of_some _ (Heap.get?_push_of_some _ x)⟩
/-- enumerate of a list (false) or a tuple (true) -/
def iEnumB (K : PySem.W.Frag) (tp : Bool) (ta : TA) : TI := fun σ H R => ta σ H fun vs H1 => ∃ a xs, vs = [.ref a] ∧ SqB K tp H1 a xs ∧ R (IteB K tp a) H1
theorem pi_enumB {X : Cx} (tp : Bool) {e : Expr} {ta : TA} {p pos tpos : Pos} {elts : List Expr} {kk : Nat} (hg : Gl X "enumerate") (hm : X.mg "enumerate" = none) (ha : PA X [e] ta) (hs : starEach [e] X.env = [(false, eval e X.env)] := by rfl) :
    PI X (.Tuple elts kk tpos) (.Call (.Name "enumerate" p) [e] [] pos) (iEnumB X.K tp ta) := by
  refine ⟨fun pins s σ H R I h => ?_⟩
  refine Call_ (ld_blt I hg hm boot_enumerate (PyProof.Rows.callWith_type1 (thn (ha.run pos pins s σ H _ I h) fun us s1 ⟨vs, H1, I1, r1, q1⟩ => ?_) hs rfl))
  obtain ⟨a, xs, ex, hq, q⟩ := q1
  subst ex
  cases r1 with
  | cons r rr =>
    cases rr
    cases r
    obtain ⟨its, rv, p', hz⟩ := seqB tp I1 hq
    refine enum1_begins (beginsB tp a its.toArray) p' fun h' he hit hsz hk => wpAny_pyIter_enum he ?_
    have I2 : Inv X pins σ H1 { s1 with heap := h' } := I1.kept (t' := s1.toks) hk
    refine ⟨s1.heap.objs.size + 1, [s1.heap.objs.size + 1, s1.heap.objs.size], _, _, H1, rfl, I2, turn_enumB tp a (s1.heap.objs.size + 1) s1.heap.objs.size, ⟨⟨.none, he⟩, itB_new hit, Nat.succ_ne_self _⟩, fun b hb => ?_, q⟩
    have e' : b = s1.heap.objs.size + 1 ∨ b = s1.heap.objs.size := by simpa using hb
    have hle : s1.heap.objs.size ≤ b := by
      rcases e' with z | z
      · rw [z]; exact Nat.le_add_right _ _
      · rw [z]; exact Nat.le_refl _
    exact I1.fpOk hle (I1.hok.fresh hle)
theorem pi_enumT {X : Cx} {e : Expr} {ta : TA} {p pos tpos : Pos} {elts : List Expr} {kk : Nat} (hg : Gl X "enumerate") (hm : X.mg "enumerate" = none) (ha : PA X [e] ta) (hs : starEach [e] X.env = [(false, eval e X.env)] := by rfl) :
    PI X (.Tuple elts kk tpos) (.Call (.Name "enumerate" p) [e] [] pos) (iEnumB X.K true ta) := pi_enumB true hg hm ha hs
theorem pi_enumL {X : Cx} {e : Expr} {ta : TA} {p pos tpos : Pos} {elts : List Expr} {kk : Nat} (hg : Gl X "enumerate") (hm : X.mg "enumerate" = none) (ha : PA X [e] ta) (hs : starEach [e] X.env = [(false, eval e X.env)] := by rfl) :
    PI X (.Tuple elts kk tpos) (.Call (.Name "enumerate" p) [e] [] pos) (iEnumB X.K false ta) := pi_enumB false hg hm ha hs
theorem walk_enumB {K : PySem.W.Frag} {tp : Bool} {a : Addr} {xs : List V} : Walk (IteB K tp a) xs.length (fun H => SqB K tp H a xs) (YPair (fun i => some (.int (i : Nat))) (fun i => xs[i]?)) := by
  refine ⟨fun i _ hi q => ⟨xs, xs[i], q, by simp [hi]⟩, fun _ q => ⟨xs, q, rfl⟩, fun i H v H' _ q y => ?_⟩
  obtain ⟨T, x, h1, h2, h3, h4⟩ := y
  exact ⟨T, .int (i : Nat), x, h1, h2, h3, rfl, h4 xs q⟩
/-! zip of two, each a list or a tuple -/
def ItzB (K : PySem.W.Frag) (ta tb : Bool) (a b : Addr) : It :=
  ⟨fun i H => ∃ (xs ys : List V) (x y : V), SqB K ta H a xs ∧ SqB K tb H b ys ∧ xs[i]? = some x ∧ ys[i]? = some y,
    fun i H v H' => ∃ T x y, v = .ref T ∧ H T = none ∧ H' = upd H T (.tup [x, y]) ∧ (∀ xs, SqB K ta H a xs → xs[i]? = some x) ∧ ∀ ys, SqB K tb H b ys → ys[i]? = some y,
    fun i H => ∃ xs ys : List V, SqB K ta H a xs ∧ SqB K tb H b ys ∧ i = min xs.length ys.length⟩
theorem turn_zipB {P : Program} {w : World} {K : PySem.W.Frag} {elts : List Expr} {kk : Nat} {tpos : Pos} (ka kb : Bool) {a b : Addr} {N : Nat} (la : a < N) (lb : b < N) :
    Turn P w K (.Tuple elts kk tpos) (ItzB K ka kb a b) [N + 4, N + 2, N + 3, N, N + 1] (N + 4) (fun i h => IsZip h (N + 4) (N + 2) (N + 3) .none ∧ IsTupOf2 h (N + 2) (.ref N) (.ref (N + 1)) ∧ (∃ x y, IsTupOf2 h (N + 3) x y) ∧ IsItB ka h N a i ∧ IsItB kb h (N + 1) b i) where
  mem := by simp
  obj := fun i h st c hc => by
    obtain ⟨hz, hTI, ⟨x, y, hTO⟩, h1, h2⟩ := st
    obtain ⟨o1, e1, _, v1, d1⟩ := h1.obj
    obtain ⟨o2, e2, _, v2, d2⟩ := h2.obj
    have e' : c = N + 4 ∨ c = N + 2 ∨ c = N + 3 ∨ c = N ∨ c = N + 1 := by simpa using hc
    rcases e' with q | q | q | q | q
    · rw [q]; exact ⟨_, hz, fun v q => nomatch q⟩
    · rw [q]; exact ⟨_, hTI, fun v q => nomatch q⟩
    · rw [q]; exact ⟨_, hTO, fun v q => nomatch q⟩
    · rw [q]; exact ⟨o1, e1, fun v q => by rw [d1] at q; cases q⟩
    · rw [q]; exact ⟨o2, e2, fun v q => by rw [d2] at q; cases q⟩
  keep := fun i h h' st k => by
    obtain ⟨hz, hTI, ⟨x, y, hTO⟩, h1, h2⟩ := st
    exact ⟨k _ (by simp) _ hz, k _ (by simp) _ hTI, ⟨x, y, k _ (by simp) _ hTO⟩, h1.at fun o q => k _ (by simp) o q, h2.at fun o q => k _ (by simp) o q⟩
  item := by
    intro X hP hw hK hc i pins s σ H E I hf st hg
    subst hP hw hK
    obtain ⟨hz, hTI, ⟨x0, y0, hTO⟩, h1, h2⟩ := st
    obtain ⟨xs, ys, x, y, hqx, hqy, hx, hy⟩ := hg
    obtain ⟨its, rv, p, _⟩ := seqB ka I hqx
    obtain ⟨its2, rv2, p2, _⟩ := seqB kb I hqy
    obtain ⟨u, hu, ru⟩ := rv.get hx
    obtain ⟨u2, hu2, ru2⟩ := rv2.get hy
    have hzl : N + 4 < s.heap.objs.size := Heap.lt_size hz
    have S : ZipSep2 (N + 4) (N + 2) (N + 3) N (N + 1) [N, a] [N + 1, b] := zip_sep2 (fp1 := [a]) (fp2 := [b]) (by simpa using la) (by simpa using lb)
    have D1 := drawsB (prog := X.prog) (w := X.w) (A := X.A.in1) (I.ok.hd hc) ka N a (Nat.ne_of_lt la) its.toArray
    have D2 := drawsB (prog := X.prog) (w := X.w) (A := X.A.in1) (I.ok.hd hc) kb (N + 1) b (Nat.ne_of_lt (Nat.lt_succ_of_lt lb)) its2.toArray
    have hlt : i < its.toArray.size := by
      obtain ⟨h1, _⟩ := List.getElem?_eq_some_iff.mp hu
      simpa using h1
    have hlt2 : i < its2.toArray.size := by
      obtain ⟨h1, _⟩ := List.getElem?_eq_some_iff.mp hu2
      simpa using h1
    refine wpAny_pyNext_zipD2_item S D1 D2 hz hTI hTO ⟨h1, p⟩ ⟨h2, p2⟩ hlt hlt2 fun u' u2' h' tk hP1 hP2 z' TO' h1' h2' hT hsz hk => ?_
    have eu : u' = u := by
      have q : its.toArray[i]? = some u := by simpa using hu
      rw [q] at hP1
      exact (Option.some.inj hP1).symm
    have eu2 : u2' = u2 := by
      have q : its2.toArray[i]? = some u2 := by simpa using hu2
      rw [q] at hP2
      exact (Option.some.inj hP2).symm
    subst eu eu2
    refine ⟨_, rfl, wpAny_letOwnedTupleGo_zip (s := { s with heap := h', toks := tk }) z' fun h'' z'' sb => ?_⟩
    have hT2 : h''.get? s.heap.objs.size = some { cls := .type "tuple", data := .seq #[u', u2'] } := (sb.2 _ (Nat.ne_of_gt hzl)).trans hT
    have new : ObjOk X.prog X.w (upd H s.heap.objs.size (.tup [x, y])) h'' s.heap.objs.size (.tup [x, y]) :=
      ⟨by show 2 ≤ sizeLine; decide, [u', u2'], .cons ru (.cons ru2 .nil), ⟨_, hT2, rfl, _, rfl⟩⟩
    have I1 : Inv X pins σ (upd H s.heap.objs.size (.tup [x, y])) { s with heap := h'', toks := tk } :=
      I.turnedNew (ch := [N + 4, N + 2, N + 3, N, N + 1]) (fun c o hb q => (sb.2 c (fun q' => hb (by simp [q']))).trans (hk c o (fun q' => hb (by simp [q'])) (fun q' => hb (by simp [q'])) (fun q' => hb (by simp [q'])) (fun q' => hb (by simp [q'])) q)) hf (Nat.le_refl _) new
    refine ⟨.ref s.heap.objs.size, _, I1, rfl, ⟨_, x, y, rfl, I.hok.fresh (Nat.le_refl _), rfl, fun l hl => by rw [seqB_inj I hl hqx]; exact hx, fun l hl => by rw [seqB_inj I hl hqy]; exact hy⟩, ⟨z'', ?_, ⟨u', u2', ?_⟩, ?_, ?_⟩, fun c hcm => ?_⟩
    · exact (sb.2 _ S.TIz).trans (hk _ _ S.TIz S.TITO S.TIi1 S.TIi2 hTI)
    · exact (sb.2 _ S.TOz).trans TO'
    · exact h1'.1.at fun o q => (sb.2 _ (Ne.symm S.zi1)).trans q
    · exact h2'.1.at fun o q => (sb.2 _ (Ne.symm S.zi2)).trans q
    · have hlt : c < s.heap.objs.size := by
        have e' : c = N + 4 ∨ c = N + 2 ∨ c = N + 3 ∨ c = N ∨ c = N + 1 := by simpa using hcm
        rcases e' with q | q | q | q | q
        · rw [q]; exact hzl
        · rw [q]; exact Heap.lt_size hTI
        · rw [q]; exact Heap.lt_size hTO
        · rw [q]; obtain ⟨_, e1, _⟩ := h1.obj; exact Heap.lt_size e1
        · rw [q]; obtain ⟨_, e2, _⟩ := h2.obj; exact Heap.lt_size e2
      rw [upd_ne (Nat.ne_of_lt hlt)]
      exact (hf c hcm).1
  done := by
    intro X hP hw hK hc i pins s σ H E I hf st hg
    subst hP hw hK
    obtain ⟨hz, hTI, ⟨x0, y0, hTO⟩, h1, h2⟩ := st
    obtain ⟨xs, ys, hqx, hqy, hend⟩ := hg
    obtain ⟨its, rv, p, _⟩ := seqB ka I hqx
    obtain ⟨its2, rv2, p2, _⟩ := seqB kb I hqy
    have l1 := rv.length
    have l2 := rv2.length
    have S : ZipSep2 (N + 4) (N + 2) (N + 3) N (N + 1) [N, a] [N + 1, b] := zip_sep2 (fp1 := [a]) (fp2 := [b]) (by simpa using la) (by simpa using lb)
    have D1 := drawsB (prog := X.prog) (w := X.w) (A := X.A.in1) (I.ok.hd hc) ka N a (Nat.ne_of_lt la) its.toArray
    have D2 := drawsB (prog := X.prog) (w := X.w) (A := X.A.in1) (I.ok.hd hc) kb (N + 1) b (Nat.ne_of_lt (Nat.lt_succ_of_lt lb)) its2.toArray
    exact wpAny_pyNext_zipD2_end S D1 D2 hz hTI hTO ⟨h1, p⟩ ⟨h2, p2⟩ (by simp; omega) (by simp; omega) (by simp; omega) fun h' tk hk => ⟨rfl, I.turnedL (t' := tk) (ch := [N + 4, N + 2, N + 3, N, N + 1]) (fun c o hb q =>
      hk c o (fun q' => hb (by simp [q'])) (fun q' => hb (by simp [q'])) (fun q' => hb (by simp [q'])) (fun q' => hb (by simp [q'])) q) hf⟩
  self := fun A i s Q E st h => wpAny_pyIter_zip st.1 h
def iZipB (K : PySem.W.Frag) (ka kb : Bool) (ta : TA) : TI := fun σ H R => ta σ H fun vs H1 => ∃ a b xs ys, vs = [.ref a, .ref b] ∧ SqB K ka H1 a xs ∧ SqB K kb H1 b ys ∧ R (ItzB K ka kb a b) H1
theorem pi_zipB {X : Cx} (ka kb : Bool) {e e2 : Expr} {ta : TA} {p pos tpos : Pos} {elts : List Expr} {kk : Nat} (hg : Gl X "zip") (hm : X.mg "zip" = none) (ha : PA X [e, e2] ta)
    (hs : starEach [e, e2] X.env = (false, eval e X.env) :: starEach [e2] X.env := by rfl) (hpl : (backTo pos (starEach [e2] X.env)).any (·.1) = false := by rfl) :
    PI X (.Tuple elts kk tpos) (.Call (.Name "zip" p) [e, e2] [] pos) (iZipB X.K ka kb ta) := by
  refine ⟨fun pins s σ H R I h => ?_⟩
  refine Call_ (ld_blt I hg hm PyProof.Rows.boot_zip (PyProof.Rows.callWith_type1 (thn (ha.run pos pins s σ H _ I h) fun us s1 ⟨vs, H1, I1, r1, q1⟩ => ?_) hs hpl))
  obtain ⟨a, b, xs, ys, ex, hqx, hqy, q⟩ := q1
  subst ex
  cases r1 with
  | cons r rr =>
    cases rr with
    | cons r' rr =>
      cases rr
      cases r
      cases r'
      obtain ⟨its, rv, p1, _⟩ := seqB ka I1 hqx
      obtain ⟨its2, rv2, p2, _⟩ := seqB kb I1 hqy
      have la : a < s1.heap.objs.size := by obtain ⟨_, e, _⟩ := p1.obj; exact Heap.lt_size e
      have lb : b < s1.heap.objs.size := by obtain ⟨_, e, _⟩ := p2.obj; exact Heap.lt_size e
      refine zip_begins2 (beginsB ka a its.toArray) (beginsB kb b its2.toArray) p1 p2 fun h' hz hTI hTO h1 h2 hsz hk => wpAny_pyIter_zip hz ?_
      have I2 : Inv X pins σ H1 { s1 with heap := h' } := I1.kept (t' := s1.toks) hk
      refine ⟨s1.heap.objs.size + 4, [s1.heap.objs.size + 4, s1.heap.objs.size + 2, s1.heap.objs.size + 3, s1.heap.objs.size, s1.heap.objs.size + 1], _, _, H1, rfl, I2, turn_zipB ka kb la lb, ⟨hz, hTI, ⟨_, _, hTO⟩, itB_new h1, itB_new h2⟩, fun c hcm => ?_, q⟩
      have e' : c = s1.heap.objs.size + 4 ∨ c = s1.heap.objs.size + 2 ∨ c = s1.heap.objs.size + 3 ∨ c = s1.heap.objs.size ∨ c = s1.heap.objs.size + 1 := by simpa using hcm
      have hle : s1.heap.objs.size ≤ c := by
        rcases e' with z | z | z | z | z
        · rw [z]; exact Nat.le_add_right _ _
        · rw [z]; exact Nat.le_add_right _ _
        · rw [z]; exact Nat.le_add_right _ _
        · rw [z]; exact Nat.le_refl _
        · rw [z]; exact Nat.le_add_right _ _
      exact I1.fpOk hle (I1.hok.fresh hle)
theorem walk_zipB {K : PySem.W.Frag} {ka kb : Bool} {a b : Addr} {xs ys : List V} {n : Nat} (hn : n = min xs.length ys.length) : Walk (ItzB K ka kb a b) n (fun H => SqB K ka H a xs ∧ SqB K kb H b ys) (YPair (fun i => xs[i]?) (fun i => ys[i]?)) := by
  subst hn
  refine ⟨fun i _ hi q => ?_, fun _ q => ⟨xs, ys, q.1, q.2, rfl⟩, fun i H v H' _ q y => ?_⟩
  · have h1 : i < xs.length := by omega
    have h2 : i < ys.length := by omega
    exact ⟨xs, ys, xs[i], ys[i], q.1, q.2, by simp [h1], by simp [h2]⟩
  · obtain ⟨T, x, z, h1, h2, h3, h4, h5⟩ := y
    exact ⟨T, x, z, h1, h2, h3, h4 xs q.1, h5 ys q.2⟩
end LF
/-! ### la_base: what every def's walk uses -/
namespace LF
open PySem PySem.Spec PyProof.Rows L2
/-- the built-ins' names are theirs -/
structure Bl (mg : Str → Option Value) : Prop where
  len : mg "len" = none
  sum : mg "sum" = none
  all : mg "all" = none
  any : mg "any" = none
  sorted : mg "sorted" = none
  tuple : mg "tuple" = none
  list : mg "list" = none
  int : mg "int" = none
  bool : mg "bool" = none
  str : mg "str" = none
  isinstance : mg "isinstance" = none
  max : mg "max" = none
  min : mg "min" = none
  range : mg "range" = none
  enumerate : mg "enumerate" = none
  zip : mg "zip" = none
/-- a def of the text at its place -/
structure FnAt (K : PySem.W.Frag) (mg : Str → Option Value) (gx x : Str) (st : Stmt) (ps : List Str) (f : Addr) (fd : FuncData) : Prop where
  F : Fun K x x st f fd
  b : Binds K fd ps []
  g : mg gx = some (.ref f)
abbrev vi (ns : List Int) : List V := ns.map V.int
theorem vi_snoc (zs : List Int) (z : Int) : vi (zs ++ [z]) = vi zs ++ [.int z] := List.map_append
theorem vi_len (ns : List Int) : (vi ns).length = ns.length := List.length_map _
/-- all but t as it was -/
def Smt (t : Addr) (H H' : Hp) : Prop := ∀ b o, H b = some o → b ≠ t → H' b = some o
theorem Smt.refl (t : Addr) (H : Hp) : Smt t H H := fun _ _ h _ => h
theorem Smt.trans {t : Addr} {H H1 H2 : Hp} (a : Smt t H H1) (b : Smt t H1 H2) : Smt t H H2 := fun c o h n => b c o (a c o h n) n
theorem Smt.of {t : Addr} {H H' : Hp} (a : Same H H') : Smt t H H' := fun b o h _ => a b o h
theorem Smt.upd {t : Addr} {H : Hp} {o : HO} : Smt t H (upd H t o) := fun b u h n => by rw [upd_ne n]; exact h
theorem _root_.L2.Same.new {H : Hp} {p : Addr} {o : HO} (h : H p = none) : Same H (upd H p o) := fun b u e => by
  rw [upd_ne (ne_of_none e h)]
  exact e
/-- a tracked object that H did not know may change -/
theorem _root_.L2.Same.mut {H H' : Hp} {p : Addr} {o : HO} (e : Same H H') (h : H p = none) : Same H (upd H' p o) := fun a u ha => by
  rw [upd_ne (ne_of_none ha h)]
  exact e a u ha
theorem _root_.L2.Same.sqt {K : PySem.W.Frag} {H H' : Hp} {a : Addr} {xs : List V} (e : Same H H') (h : SqT K H a xs) : SqT K H' a xs := by
  rcases h with (h | ⟨o, h⟩) | h
  · exact .inl (.inl (e _ _ h))
  · exact .inl (.inr ⟨o, e _ _ h⟩)
  · exact .inr h
theorem _root_.L2.Same.sqb {K : PySem.W.Frag} {H H' : Hp} {a : Addr} {xs : List V} {tp : Bool} (e : Same H H') (h : SqB K tp H a xs) : SqB K tp H' a xs := by
  cases tp with
  | false => exact e.seq h
  | true => exact e.sqt h
/-- the tape at t: the script's numbers in a list at a, how many cells are read, what is left of the last one -/
def TapeAt (H : Hp) (t a : Addr) : Prop := ∃ (ns : List Int) (i c : Int), H t = some (.lst [.ref a, .int i, .int c]) ∧ H a = some (.lst (vi ns)) ∧ 0 ≤ c
theorem TapeAt.ex {H : Hp} {t a : Addr} (h : TapeAt H t a) : ∃ xs, H t = some (.lst xs) := by
  obtain ⟨ns, i, c, h, _⟩ := h
  exact ⟨_, h⟩
theorem TapeAt.same {H H' : Hp} {t a : Addr} (e : Same H H') (h : TapeAt H t a) : TapeAt H' t a := by
  obtain ⟨ns, i, c, h1, h2, h3⟩ := h
  exact ⟨ns, i, c, e _ _ h1, e _ _ h2, h3⟩
theorem TapeAt.ne_none {H : Hp} {t a p : Addr} (h : TapeAt H t a) (n : H p = none) : t ≠ p := by
  obtain ⟨xs, e⟩ := h.ex
  exact ne_of_none e n
theorem TapeAt.ne_none2 {H : Hp} {t a p : Addr} (h : TapeAt H t a) (n : H p = none) : a ≠ p := by
  obtain ⟨ns, i, c, h1, h2, h3⟩ := h
  exact ne_of_none h2 n
theorem TapeAt.ta {H : Hp} {t a : Addr} (h : TapeAt H t a) : a ≠ t := fun z => by
  obtain ⟨ns, i, c, h1, h2, h3⟩ := h
  rw [z, h1] at h2
  have e := congrArg (fun o : Option HO => match o with | some (.lst (.ref _ :: _)) => true | _ => false) h2
  cases ns <;> cases e
/-- another object is written -/
theorem TapeAt.but {H H' : Hp} {t a p : Addr} (h : TapeAt H t a) (s : Smt p H H') (n1 : t ≠ p) (n2 : a ≠ p) : TapeAt H' t a := by
  obtain ⟨ns, i, c, h1, h2, h3⟩ := h
  exact ⟨ns, i, c, s _ _ h1 n1, s _ _ h2 n2, h3⟩
theorem TapeAt.upd {H : Hp} {t a p : Addr} {o : HO} (h : TapeAt H t a) (n : H p = none) : TapeAt (L2.upd H p o) t a := h.same (Same.new n)
theorem Smt.tup {t a b : Addr} {H H' : Hp} {xs : List V} (s : Smt t H H') (h : TapeAt H t b) (e : H a = some (.tup xs)) : H' a = some (.tup xs) := by
  refine s a _ e fun z => ?_
  obtain ⟨ys, e2⟩ := h.ex
  rw [z, e2] at e
  cases e
theorem Smt.sqt {K : PySem.W.Frag} {t a b : Addr} {H H' : Hp} {xs : List V} (s : Smt t H H') (h : TapeAt H t b) (e : SqT K H a xs) : SqT K H' a xs := by
  obtain ⟨ys, e2⟩ := h.ex
  rcases e with (e | ⟨o, e⟩) | e
  · exact .inl (.inl (s.tup h e))
  · refine .inl (.inr ⟨o, s a _ e fun z => ?_⟩)
    rw [z, e2] at e
    cases e
  · exact .inr e
theorem Smt.lst {t a : Addr} {H H' : Hp} {o : HO} (s : Smt t H H') (n : a ≠ t) (e : H a = some o) : H' a = some o := s a o e n
/-- what is new is tracked besides -/
theorem Smt.new {t p : Addr} {H H' : Hp} {o : HO} (s : Smt t H H') (n : H p = none) : Smt t H (L2.upd H' p o) := fun b u h hb => by
  rw [upd_ne (ne_of_none h n)]
  exact s b u h hb
theorem Smt.free {t p : Addr} {H H' : Hp} (s : Smt t H H') (n : H' p = none) (hp : p ≠ t) : H p = none := by
  cases q : H p with
  | none => rfl
  | some o =>
    rw [s p o q hp] at n
    cases n
theorem atI_mod {ns : List Int} (h : 0 < ns.length) (i : Int) : ∃ z, atI (vi ns) (i % (((vi ns).length : Nat) : Int)) = some (.int z) := by
  rw [vi_len]
  have h1 : 0 ≤ i % (ns.length : Int) := Int.emod_nonneg i (by omega)
  have h2 : i % (ns.length : Int) < (ns.length : Int) := Int.emod_lt_of_pos i (by omega)
  have h3 : (((i % (ns.length : Int)).toNat : Nat) : Int) = i % (ns.length : Int) := Int.toNat_of_nonneg h1
  have h4 : (i % (ns.length : Int)).toNat < ns.length := by omega
  have h5 : atI (vi ns) (((i % (ns.length : Int)).toNat : Nat) : Int) = some (.int ns[(i % (ns.length : Int)).toNat]) := atI_nat (by
    rw [List.getElem?_map, List.getElem?_eq_getElem h4]
    rfl)
  exact ⟨ns[(i % (ns.length : Int)).toNat], (congrArg (atI (vi ns)) h3.symm).trans h5⟩
theorem vi_get {ns : List Int} {i : Nat} {x : V} (h : (vi ns)[i]? = some x) : ∃ z, ns[i]? = some z ∧ x = .int z := by
  rw [List.getElem?_map] at h
  cases e : ns[i]? with
  | none =>
    rw [e] at h
    cases h
  | some z =>
    rw [e] at h
    exact ⟨z, rfl, (Option.some.inj h).symm⟩
theorem vi_at {ns : List Int} {i : Nat} (h : i < ns.length) : (vi ns)[i]? = some (.int ns[i]) := by
  rw [List.getElem?_map, List.getElem?_eq_getElem h]
  rfl
theorem vi_flat : ∀ ns : List Int, (vi ns).all flatV = true
  | [] => rfl
  | _ :: r => by
    show (true && (vi r).all flatV) = true
    rw [vi_flat r]
    rfl
/-- an if whose test is known -/
theorem if_t {c : Bool} {A B : Prop} (hc : c = true) (h : A) : if c = true then A else B := by
  rw [if_pos hc]
  exact h
theorem if_f {c : Bool} {A B : Prop} (hc : c = false) (h : B) : if c = true then A else B := by
  rw [hc, if_neg Bool.false_ne_true]
  exact h
/-- both ways -/
theorem if_b {c : Bool} {A B : Prop} (h1 : c = true → A) (h2 : c = false → B) : if c = true then A else B := by
  cases c with
  | true => exact if_t rfl (h1 rfl)
  | false => exact if_f rfl (h2 rfl)
/-- a if t else b, both of them one value -/
theorem if_val {c : Bool} {ta tb : TE} {σ : L2.St} {H : Hp} {Q : VK} (v : V) (h1 : c = true → ∀ Q : VK, Q v H → ta σ H Q) (h2 : c = false → ∀ Q : VK, Q v H → tb σ H Q) (h : Q v H) : if c = true then ta σ H Q else tb σ H Q :=
  if_b (fun e => h1 e Q h) (fun e => h2 e Q h)
theorem sz3 {n : Nat} (h : n ≤ 1000) : n ≤ sizeLine := Nat.le_of_lt (small1000 h)
end LF
/-! ### la_comp: comprehensions by what they give -/
namespace LF
open PySem PySem.Spec PyProof.Rows L2
section
variable {J : It} {n : Nat} {G : Hp → Prop} {Y : Nat → Hp → V → Hp → Prop} {g : TG} {tt : TT} {te : TE} {vs : List Nat} {σ : L2.St} {H1 : Hp} {D : Addr} {Qd : Hp → Prop}
/-- no test -/
theorem lc_yes {σ2 : L2.St} {H : Hp} {ky : V → Hp → Prop} {kn : Hp → Prop} (h : te σ2 H ky) : tYes σ2 H fun b H3 => if b = true then te σ2 H3 ky else kn H3 := if_t (B := kn H) rfl h
/-- S: by the turn, the items so far, the heap -/
theorem lc_gen (w : Walk J n G Y) (S : Nat → List V → Hp → Prop) (h0 : S 0 [] (upd H1 D (.lst []))) (hG : ∀ i acc H, S i acc H → H D = some (.lst acc) → G H) (hlen : ∀ i acc H, S i acc H → acc.length < sizeLine)
    (hs : ∀ i x H H' acc (kn : Hp → Prop) (ky : V → Hp → Prop), i < n → S i acc H → H D = some (.lst acc) → Y i H x H' → (∀ H3, H3 D = some (.lst acc) → S (i + 1) acc H3 → kn H3) →
      (∀ y H4, H4 D = some (.lst acc) → S (i + 1) (acc ++ [y]) (upd H4 D (.lst (acc ++ [y]))) → ky y H4) →
      g x (wipe σ vs) H' fun σ2 H2 => wipe σ2 vs = wipe σ vs ∧ tt σ2 H2 fun b H3 => if b = true then te σ2 H3 ky else kn H3) (hd : ∀ acc H, S n acc H → H D = some (.lst acc) → Qd H) :
    ∃ W : Nat → Nat → Hp → Prop, (∃ m, W 0 m (upd H1 D (.lst []))) ∧ ∀ i m H, W i m H →
      (J.stop i H ∧ Qd H) ∨ (J.go i H ∧ ∃ Nx : Hp → Prop, (∀ H', Nx H' → ∃ m', m' < m ∧ W (i + 1) m' H') ∧ ∀ x H', J.yld i H x H' → g x (wipe σ vs) H' fun σ2 H2 => wipe σ2 vs = wipe σ vs ∧ tt σ2 H2 fun b H3 =>
        if b = true then te σ2 H3 fun y H4 => ∃ acc, H4 D = some (.lst acc) ∧ acc.length < sizeLine ∧ Nx (upd H4 D (.lst (acc ++ [y]))) else Nx H3) := by
  refine lc_it w (fun i H => ∃ acc, H D = some (.lst acc) ∧ S i acc H) ⟨[], upd_same, h0⟩ (fun i H _ ⟨acc, h1, h2⟩ => hG i acc H h2 h1) (fun i x H H' hi ⟨acc, h1, h2⟩ y => ?_) (fun H ⟨acc, h1, h2⟩ => hd acc H h2 h1)
  exact hs i x H H' acc _ _ hi h2 h1 y (fun H3 e s => ⟨acc, e, s⟩) fun y H4 e s => ⟨acc, e, hlen _ _ _ h2, _, upd_same, s⟩
theorem paired_app {α β : Type} {F : α → β → Prop} : ∀ {l1 : List α} {l2 : List β} {m1 : List α} {m2 : List β}, Paired F l1 l2 → Paired F m1 m2 → Paired F (l1 ++ m1) (l2 ++ m2)
  | _, _, _, _, .nil, s => s
  | _, _, _, _, .cons r t, s => .cons r (paired_app t s)
theorem paired_mono {α β : Type} {F F' : α → β → Prop} (h : ∀ a b, F a b → F' a b) : ∀ {l1 : List α} {l2 : List β}, Paired F l1 l2 → Paired F' l1 l2
  | _, _, .nil => .nil
  | _, _, .cons r t => .cons (h _ _ r) (paired_mono h t)
theorem paired_len {α β : Type} {F : α → β → Prop} : ∀ {l1 : List α} {l2 : List β}, Paired F l1 l2 → l1.length = l2.length
  | _, _, .nil => rfl
  | _, _, .cons _ t => congrArg (· + 1) (paired_len t)
theorem filterMap_succ {α : Type} (R : Nat → Option α) (i : Nat) : (List.range (i + 1)).filterMap R = (List.range i).filterMap R ++ (R i).toList := by
  rw [List.range_succ, List.filterMap_append]
  cases e : R i <;> simp [e]
theorem filterMap_le {α : Type} (R : Nat → Option α) (n : Nat) : ((List.range n).filterMap R).length ≤ n := by
  have h := List.length_filterMap_le R (List.range n)
  rw [List.length_range] at h
  exact h
/-- nothing but new objects is made on the way; the items by a relation that lasts while a list (the new one) changes -/
theorem lc_rel {α : Type} (w : Walk J n G Y) (hD : H1 D = none) (hn : n ≤ 1000) (ρ : Hp → V → α → Prop) (mono : ∀ (H H' : Hp) (D : Addr) (acc : List V) v a, H D = some (.lst acc) → Smt D H H' → ρ H v a → ρ H' v a) (R : Nat → Option α) (hG : ∀ H, Same H1 H → G H)
    (hs : ∀ i x H H' (kn : Hp → Prop) (ky : V → Hp → Prop), i < n → Same H1 H → Y i H x H' → (∀ H3, Same H H3 → R i = none → kn H3) → (∀ y a H4, Same H H4 → R i = some a → ρ H4 y a → ky y H4) →
      g x (wipe σ vs) H' fun σ2 H2 => wipe σ2 vs = wipe σ vs ∧ tt σ2 H2 fun b H3 => if b = true then te σ2 H3 ky else kn H3)
    (hd : ∀ ys H, Same H1 H → H D = some (.lst ys) → Paired (ρ H) ys ((List.range n).filterMap R) → Qd H) :
    ∃ W : Nat → Nat → Hp → Prop, (∃ m, W 0 m (upd H1 D (.lst []))) ∧ ∀ i m H, W i m H →
      (J.stop i H ∧ Qd H) ∨ (J.go i H ∧ ∃ Nx : Hp → Prop, (∀ H', Nx H' → ∃ m', m' < m ∧ W (i + 1) m' H') ∧ ∀ x H', J.yld i H x H' → g x (wipe σ vs) H' fun σ2 H2 => wipe σ2 vs = wipe σ vs ∧ tt σ2 H2 fun b H3 =>
        if b = true then te σ2 H3 fun y H4 => ∃ acc, H4 D = some (.lst acc) ∧ acc.length < sizeLine ∧ Nx (upd H4 D (.lst (acc ++ [y]))) else Nx H3) := by
  refine lc_gen w (fun i acc H => i ≤ n ∧ Same H1 H ∧ Paired (ρ H) acc ((List.range i).filterMap R)) ⟨Nat.zero_le _, Same.new hD, .nil⟩ (fun i acc H s _ => hG H s.2.1) (fun i acc H s => ?_) (fun i x H H' acc kn ky hi s hacc y h1 h2 => ?_) (fun acc H s e => ?_)
  · obtain ⟨hle, _, p⟩ := s
    rw [paired_len p]
    exact Nat.lt_of_le_of_lt (Nat.le_trans (filterMap_le R i) (Nat.le_trans hle hn)) (small1000 (Nat.le_refl _))
  · obtain ⟨_, sm, p⟩ := s
    refine hs i x H H' kn ky hi sm y (fun H3 s3 e => h1 H3 (s3 _ _ hacc) ⟨hi, sm.trans s3, ?_⟩) (fun v a H4 s4 e r => h2 v H4 (s4 _ _ hacc) ⟨hi, Same.mut (sm.trans s4) hD, ?_⟩)
    · rw [filterMap_succ, e]
      show Paired (ρ H3) acc (_ ++ [])
      rw [List.append_nil]
      exact paired_mono (fun v a r => mono _ _ _ _ _ _ hacc (Smt.of s3) r) p
    · have hD4 := s4 _ _ hacc
      rw [filterMap_succ, e]
      refine paired_app (paired_mono (fun v a r => mono _ _ _ _ _ _ hacc ((Smt.of s4).trans Smt.upd) r) p) ?_
      exact .cons (mono _ _ _ _ _ _ hD4 Smt.upd r) .nil
  · exact hd acc H s.2.1 e s.2.2
theorem paired_ints : ∀ {ys : List V} {zs : List Int}, Paired (fun v z => v = V.int z) ys zs → ys = vi zs
  | _, _, .nil => rfl
  | _, _, .cons r t => by rw [r, paired_ints t]; rfl
theorem paired_bls : ∀ {ys : List V} {zs : List Bool}, Paired (fun v z => v = V.bl z) ys zs → ys = zs.map V.bl
  | _, _, .nil => rfl
  | _, _, .cons r t => by rw [r, paired_bls t]; rfl
/-- items that are ints -/
theorem lc_ints (w : Walk J n G Y) (hD : H1 D = none) (hn : n ≤ 1000) (R : Nat → Option Int) (hG : ∀ H, Same H1 H → G H)
    (hs : ∀ i x H H' (kn : Hp → Prop) (ky : V → Hp → Prop), i < n → Same H1 H → Y i H x H' → (∀ H3, Same H H3 → R i = none → kn H3) → (∀ z H4, Same H H4 → R i = some z → ky (.int z) H4) →
      g x (wipe σ vs) H' fun σ2 H2 => wipe σ2 vs = wipe σ vs ∧ tt σ2 H2 fun b H3 => if b = true then te σ2 H3 ky else kn H3)
    (hd : ∀ H, Same H1 H → H D = some (.lst (vi ((List.range n).filterMap R))) → Qd H) :
    ∃ W : Nat → Nat → Hp → Prop, (∃ m, W 0 m (upd H1 D (.lst []))) ∧ ∀ i m H, W i m H →
      (J.stop i H ∧ Qd H) ∨ (J.go i H ∧ ∃ Nx : Hp → Prop, (∀ H', Nx H' → ∃ m', m' < m ∧ W (i + 1) m' H') ∧ ∀ x H', J.yld i H x H' → g x (wipe σ vs) H' fun σ2 H2 => wipe σ2 vs = wipe σ vs ∧ tt σ2 H2 fun b H3 =>
        if b = true then te σ2 H3 fun y H4 => ∃ acc, H4 D = some (.lst acc) ∧ acc.length < sizeLine ∧ Nx (upd H4 D (.lst (acc ++ [y]))) else Nx H3) :=
  lc_rel w hD hn (fun _ v z => v = V.int z) (fun _ _ _ _ _ _ _ _ r => r) R hG (fun i x H H' kn ky hi sm y h1 h2 => hs i x H H' kn ky hi sm y h1 fun z H4 s e => h2 _ z H4 s e rfl) (fun ys H sm e p => hd H sm (by rw [e, paired_ints p]))
theorem lc_bls (w : Walk J n G Y) (hD : H1 D = none) (hn : n ≤ 1000) (R : Nat → Option Bool) (hG : ∀ H, Same H1 H → G H)
    (hs : ∀ i x H H' (kn : Hp → Prop) (ky : V → Hp → Prop), i < n → Same H1 H → Y i H x H' → (∀ H3, Same H H3 → R i = none → kn H3) → (∀ z H4, Same H H4 → R i = some z → ky (.bl z) H4) →
      g x (wipe σ vs) H' fun σ2 H2 => wipe σ2 vs = wipe σ vs ∧ tt σ2 H2 fun b H3 => if b = true then te σ2 H3 ky else kn H3)
    (hd : ∀ H, Same H1 H → H D = some (.lst (((List.range n).filterMap R).map V.bl)) → Qd H) :
    ∃ W : Nat → Nat → Hp → Prop, (∃ m, W 0 m (upd H1 D (.lst []))) ∧ ∀ i m H, W i m H →
      (J.stop i H ∧ Qd H) ∨ (J.go i H ∧ ∃ Nx : Hp → Prop, (∀ H', Nx H' → ∃ m', m' < m ∧ W (i + 1) m' H') ∧ ∀ x H', J.yld i H x H' → g x (wipe σ vs) H' fun σ2 H2 => wipe σ2 vs = wipe σ vs ∧ tt σ2 H2 fun b H3 =>
        if b = true then te σ2 H3 fun y H4 => ∃ acc, H4 D = some (.lst acc) ∧ acc.length < sizeLine ∧ Nx (upd H4 D (.lst (acc ++ [y]))) else Nx H3) :=
  lc_rel w hD hn (fun _ v z => v = V.bl z) (fun _ _ _ _ _ _ _ _ r => r) R hG (fun i x H H' kn ky hi sm y h1 h2 => hs i x H H' kn ky hi sm y h1 fun z H4 s e => h2 _ z H4 s e rfl) (fun ys H sm e p => hd H sm (by rw [e, paired_bls p]))
/-- the tape t is read on the way; the items are ints, I tells of them -/
theorem lc_tape (w : Walk J n G Y) {t a : Addr} (ht : TapeAt H1 t a) (hD : H1 D = none) (hn : n ≤ 1000) (I : Nat → List Int → Prop) (h0 : I 0 []) (hl : ∀ i zs, I i zs → zs.length ≤ i) (hG : ∀ H, Smt t H1 H → G H)
    (hs : ∀ i x H H' zs (kn : Hp → Prop) (ky : V → Hp → Prop), i < n → Smt t H1 H → TapeAt H t a → I i zs → Y i H x H' → (∀ H3, Smt t H H3 → TapeAt H3 t a → I (i + 1) zs → kn H3) →
      (∀ z H4, Smt t H H4 → TapeAt H4 t a → I (i + 1) (zs ++ [z]) → ky (.int z) H4) →
      g x (wipe σ vs) H' fun σ2 H2 => wipe σ2 vs = wipe σ vs ∧ tt σ2 H2 fun b H3 => if b = true then te σ2 H3 ky else kn H3)
    (hd : ∀ zs H, Smt t H1 H → TapeAt H t a → H D = some (.lst (vi zs)) → I n zs → Qd H) :
    ∃ W : Nat → Nat → Hp → Prop, (∃ m, W 0 m (upd H1 D (.lst []))) ∧ ∀ i m H, W i m H →
      (J.stop i H ∧ Qd H) ∨ (J.go i H ∧ ∃ Nx : Hp → Prop, (∀ H', Nx H' → ∃ m', m' < m ∧ W (i + 1) m' H') ∧ ∀ x H', J.yld i H x H' → g x (wipe σ vs) H' fun σ2 H2 => wipe σ2 vs = wipe σ vs ∧ tt σ2 H2 fun b H3 =>
        if b = true then te σ2 H3 fun y H4 => ∃ acc, H4 D = some (.lst acc) ∧ acc.length < sizeLine ∧ Nx (upd H4 D (.lst (acc ++ [y]))) else Nx H3) := by
  have hDt : t ≠ D := ht.ne_none hD
  have hDa : a ≠ D := ht.ne_none2 hD
  refine lc_gen w (fun i acc H => i ≤ n ∧ Smt t H1 H ∧ TapeAt H t a ∧ ∃ zs, acc = vi zs ∧ I i zs) ⟨Nat.zero_le _, Smt.of (Same.new hD), ht.upd hD, [], rfl, h0⟩ (fun i acc H s _ => hG H s.2.1) (fun i acc H s => ?_) (fun i x H H' acc kn ky hi s hacc y h1 h2 => ?_) (fun acc H s e => ?_)
  · obtain ⟨hle, _, _, zs, rfl, hI⟩ := s
    rw [vi_len]
    exact Nat.lt_of_le_of_lt (Nat.le_trans (hl _ _ hI) (Nat.le_trans hle hn)) (small1000 (Nat.le_refl _))
  · obtain ⟨_, sm, hT, zs, rfl, hI⟩ := s
    refine hs i x H H' zs kn ky hi sm hT hI y (fun H3 s3 t3 e => h1 H3 (s3 _ _ hacc hDt.symm) ⟨hi, sm.trans s3, t3, zs, rfl, e⟩) (fun z H4 s4 t4 e => h2 (.int z) H4 (s4 _ _ hacc hDt.symm) ⟨hi, (sm.trans s4).new hD, t4.but Smt.upd hDt hDa, zs ++ [z], (vi_snoc zs z).symm, e⟩)
  · obtain ⟨_, sm, hT, zs, rfl, hI⟩ := s
    exact hd zs H sm hT e hI
end
end LF
/-! ### la_tup: sum and sorted of tuples of ints -/
namespace LF
open PySem PySem.Spec PyProof.Rows L2
section
variable {prog : Program} {w : World} {A : Around} {E : Value → Shared → Prop} {s : Shared}
theorem sum_tup {l : Addr} {its : List Value} {ns : List Int} {Q : Value → Shared → Prop} (hh : A.handled = none) (hl : s.heap.IsTuple l its.toArray) (hi : IntsAre its ns)
    (h : ∀ h' tk t', (∀ b o, s.heap.get? b = some o → h'.get? b = some o) → Q (.int ns.sum t') { s with heap := h', toks := tk }) : wpAny (model prog w) A (call (.builtin "sum") [.ref l]) Q E s := by
  obtain ⟨xs, e⟩ := hi.allInts.items
  have hn : numsOf (intItems xs).toList = ns := by rw [← e]; exact hi.numsOf
  rw [nums_intItems] at hn
  rw [e] at hl
  obtain ⟨o, ho, hc, n, hd⟩ := id hl
  have hlt : l < s.heap.objs.size := Heap.lt_size ho
  refine call_sum_walkG (wpAny_pyIter_tuple hl ⟨s.heap.objs.size, [s.heap.objs.size, l], [s.heap.objs.size], (intItems xs).size, _, _, numAt xs, rfl, Walks.tuple (A := A.in1) hh _ l (Nat.ne_of_lt hlt) (intItems xs), ?_, ?_, (fun _ _ => intItems_at), fun h' tk t' hk => ?_⟩)
  · exact ⟨⟨_, Heap.get?_push_size _ rfl, rfl, rfl⟩, o, Heap.get?_push_of_some _ ho, hc, n, hd⟩
  · intro b hb
    show b < (s.heap.push _).objs.size
    rw [Heap.size_push]
    have e' : b = s.heap.objs.size ∨ b = l := by simpa using hb
    rcases e' with z | z
    · rw [z]; exact Nat.lt_succ_self _
    · rw [z]; exact Nat.lt_succ_of_lt hlt
  · have q := h h' tk t' fun b o e => hk b o (fun m => Nat.ne_of_lt (Heap.lt_size e) (by simpa using m)) (Heap.get?_push_of_some _ e)
    rw [preSum_eq, List.take_of_length_le (by simp [intItems]), hn]
    exact q
theorem collect_tup {l : Addr} {vs : List Value} {Q : List Value → Shared → Prop} (hl : s.heap.IsTuple l vs.toArray)
    (h : Q vs { s with heap := (s.heap.push (seqObj "list" #[] 0)).update s.heap.objs.size (Obj.mapSeq (· ++ vs.toArray)) }) (hsz : vs.length ≤ sizeLine) :
    wpAny (model prog w) A (collect (.ref l)) Q E s := by
  obtain ⟨o, ho, hc, n, hd⟩ := hl
  have ho' : (s.heap.push (seqObj "list" #[] 0)).get? l = some o := Heap.get?_push_of_some _ ho
  have hN : (s.heap.push (seqObj "list" #[] 0)).get? s.heap.objs.size = some (seqObj "list" #[] 0) := Heap.get?_push_size _ rfl
  unfold collect
  refine wpAny_bind (wpAny_runValue (codeAny_builtin entry_proto_collect' ?_))
  show wpAny _ _ (do again (.builtin "list.__iadd__" ⟨[← newList [], .ref l], []⟩)) _ _ s
  refine wpAny_bind (wpAny_newList (wpAny_pure ⟨Code.quiet_builtin _ (by decide +kernel), codeAny_builtin entry_list_iadd' ?_⟩))
  show wpAny _ _ (Builtin.List.listExtendWith (.ref s.heap.objs.size) (.ref l) (.ref s.heap.objs.size)) _ _ { s with heap := s.heap.push (seqObj "list" #[] 0) }
  unfold Builtin.List.listExtendWith
  refine wpAny_bind (wpAny_typeOf (T := "tuple") ⟨o, ho', hc⟩ ?_)
  have ht : (Value.type "tuple" == Value.type "tuple") = true := by rfl
  rw [if_pos (by rw [ht, Bool.or_true])]
  refine wpAny_bind (listItems_at ho' hd (wpAny_bind (listItems_at (xs := #[]) (n := 0) hN rfl ?_)))
  rw [if_neg (by simp)]
  refine wpAny_bind (listUpdate_at (xs := #[]) (n := 0) hN rfl (wpAny_pure ?_) (Nat.zero_le _) (by show (#[] ++ vs.toArray).size ≤ sizeLine + 1; simp only [Array.size_append, List.size_toArray, List.length_nil]; omega))
  show wpAny (model prog w) A (do
      let o ← load s.heap.objs.size
      match o.data with
      | .seq xs _ => pure xs.toList
      | _ => unsupported "internal:collect") Q E { s with heap := (s.heap.push (seqObj "list" #[] 0)).update s.heap.objs.size (Obj.mapSeq (· ++ vs.toArray)) }
  refine wpAny_bind (wpAny_load (get?_update_seq hN _) ?_)
  show wpAny _ _ (pure ((#[] : Array Value) ++ vs.toArray).toList) Q E _
  have e0 : ((#[] : Array Value) ++ vs.toArray).toList = vs := by simp
  rw [e0]
  exact wpAny_pure h
theorem sorted_tup {l : Addr} {vs : List Value} {ltv : Value → Value → Bool} {Q : Value → Shared → Prop} (O : SrtO.Swo ltv) (hl : s.heap.IsTuple l vs.toArray) (hz : vs.length ≤ sizeLine)
    (hS : 2 ≤ vs.length → ∀ (h₁ : Heap) (a : Addr), h₁.get? a = some (seqObj "list" vs.toArray 0) → (∀ b o, s.heap.get? b = some o → b ≠ a ∧ h₁.get? b = some o) → SrtO.SortableO prog w A.in1.in1 { s with heap := h₁ } a vs ltv)
    (h : ∀ out : List Value, SrtO.Srtd ltv out → SrtO.Stb ltv out vs → Q (.ref (s.heap.objs.size + 1)) { s with heap := PyProof.Rows.sortedAll s.heap vs out.toArray }) :
    wpAny (model prog w) A (call (.builtin "sorted") [.ref l]) Q E s := by
  refine Calls.call_function_entry kind_sorted plain_sorted entry_sorted (args_sorted1 _) ?_
  unfold Builtin.«sorted»
  refine wpAny_bind (m := checkCount "sorted" 1 1 _) (wpAny_pure (wpAny_bind (collect_tup hl (wpAny_bind (wpAny_newList ?_ hz)) hz)))
  have hsz : ((s.heap.push (seqObj "list" #[] 0)).update s.heap.objs.size (Obj.mapSeq (· ++ vs.toArray))).objs.size = s.heap.objs.size + 1 := by
    rw [Heap.size_update, Heap.size_push]
  have hoL : (((s.heap.push (seqObj "list" #[] 0)).update s.heap.objs.size (Obj.mapSeq (· ++ vs.toArray))).push (seqObj "list" vs.toArray 0)).get? (s.heap.objs.size + 1) = some (seqObj "list" vs.toArray 0) := by
    rw [← hsz]; exact Heap.get?_push_size _ rfl
  have keep : ∀ b o, s.heap.get? b = some o → b ≠ s.heap.objs.size + 1 ∧ (((s.heap.push (seqObj "list" #[] 0)).update s.heap.objs.size (Obj.mapSeq (· ++ vs.toArray))).push (seqObj "list" vs.toArray 0)).get? b = some o := fun b o q => by
    have hlt : b < s.heap.objs.size := Heap.lt_size q
    exact ⟨Nat.ne_of_lt (Nat.lt_succ_of_lt hlt), Heap.get?_push_of_some _ (by rw [Heap.get?_update_ne _ _ _ _ (Nat.ne_of_lt hlt)]; exact Heap.get?_push_of_some _ q)⟩
  show wpAny _ _ _ _ _ { s with heap := ((s.heap.push (seqObj "list" #[] 0)).update s.heap.objs.size (Obj.mapSeq (· ++ vs.toArray))).push (seqObj "list" vs.toArray 0) }
  rw [hsz]
  exact wpAny_bind (wpAny_holding (wpAny_call_entry slot_list_sort ⟨_, hoL, rfl⟩ entry_list_sort (SrtO.list_sort_ord O hoL hz (fun h2 => hS h2 _ _ hoL keep) fun out hs hb => ⟨_, rfl, wpAny_pure ⟨_, rfl, h out hs hb⟩⟩) (args_list_sort _)))
end
section
variable {X : Cx}
def rSumB (K : PySem.W.Frag) (tp : Bool) : List V → Hp → VK → Prop := fun vs H Q => ∃ (a : Addr) (ns : List Int), vs = [V.ref a] ∧ SqB K tp H a (vi ns) ∧ Q (.int ns.sum) H
theorem cr_sumT (hc : X.calm = true) : CallR X (.builtin "sum") (rSumB X.K true) := by
  intro pins s σ H vs us Q I r h
  obtain ⟨a, ns, rfl, hs, q⟩ := h
  obtain ⟨its, rv, hl, _⟩ := I.tuple hs
  rw [Vals.ref1 r]
  exact sum_tup (I.ok.hd hc) hl rv.ints fun h' tk t' hk => ⟨.int _, H, I.kept hk, ⟨_, rfl⟩, q⟩
def rSortedB (K : PySem.W.Frag) (tp : Bool) : List V → Hp → VK → Prop := fun vs H Q => ∃ (a : Addr) (ns : List Int), vs = [V.ref a] ∧ SqB K tp H a (vi ns) ∧ ∀ (ns' : List Int) (p : Addr), ns'.Perm ns → ns'.Pairwise (· ≤ ·) → H p = none → Q (.ref p) (upd H p (.lst (vi ns')))
theorem cr_sortedT : CallR X (.builtin "sorted") (rSortedB X.K true) := by
  intro pins s σ H vs us Q I r h
  obtain ⟨a, ns, rfl, hs, q⟩ := h
  obtain ⟨its, rv, hl, hz⟩ := I.tuple hs
  rw [Vals.ref1 r]
  have hi := rv.ints
  refine sorted_tup SrtO.swo_int hl (by rw [← rv.length]; exact hz) (fun h2 h₁ a' _ _ => SrtO.ints_sortable hi h2) fun out h1 h2 => ?_
  obtain ⟨k1, k2, k3⟩ := SrtO.ints_out hi h1 h2
  obtain ⟨ep, he'⟩ := PyProof.Rows.sortedAll_at s.heap its out.toArray
  have hlen : (vi (out.map SrtO.iv)).length ≤ sizeLine := by
    rw [vi_len, k2.length_eq]
    rw [vi_len] at hz
    exact hz
  exact ⟨.ref _, upd H (s.heap.objs.size + 1) (.lst (vi (out.map SrtO.iv))), I.laid (t' := s.toks) (fun _ _ => PyProof.Rows.sortedAll_old) (Nat.le_succ _) ⟨hlen, out, ep, vals_of_ints k1, he'⟩, rfl, q _ _ k2 k3 (I.hok.fresh (Nat.le_succ _))⟩
end
end LF
/-! ### la_k: the rules over the written part as a letter -/
namespace LF
open PySem PySem.Spec PyProof.Rows L2
def rTupOf (K : PySem.W.Frag) : List V → Hp → VK → Prop := fun xs H Q => ∃ p ys, xs = [.ref p] ∧ ((SqL K H p ys ∧ ∀ l, H l = none → Q (.ref l) (upd H l (.tup ys))) ∨ (SqT K H p ys ∧ Q (.ref p) H))
def rListOf (K : PySem.W.Frag) : List V → Hp → VK → Prop := fun xs H Q => ∃ p ys, xs = [.ref p] ∧ (SqL K H p ys ∨ SqT K H p ys) ∧ ∀ l, H l = none → Q (.ref l) (upd H l (.lst ys))
def rLenOf (K : PySem.W.Frag) : List V → Hp → VK → Prop := fun xs H Q => ∃ p ys, xs = [.ref p] ∧ (SqL K H p ys ∨ SqT K H p ys) ∧ Q (.int ys.length) H
section
variable {X : Cx}
theorem lenK (K : PySem.W.Frag) (h : X.K = K := by rfl) : CallR X (.builtin "len") (rLenOf K) := by subst h; exact call_len_seq
theorem sumK (K : PySem.W.Frag) (h : X.K = K := by rfl) (hc : X.calm = true := by rfl) : CallR X (.builtin "sum") (rSum K) := by subst h; exact cr_sum hc
theorem sumTK (K : PySem.W.Frag) (h : X.K = K := by rfl) (hc : X.calm = true := by rfl) : CallR X (.builtin "sum") (rSumB K true) := by subst h; exact cr_sumT hc
theorem allK (K : PySem.W.Frag) (h : X.K = K := by rfl) (hc : X.calm = true := by rfl) : CallR X (.builtin "all") (rAll K) := by subst h; exact cr_all hc
theorem anyK (K : PySem.W.Frag) (h : X.K = K := by rfl) (hc : X.calm = true := by rfl) : CallR X (.builtin "any") (rAny K) := by subst h; exact cr_any hc
theorem maxK (K : PySem.W.Frag) (h : X.K = K := by rfl) (hc : X.calm = true := by rfl) : CallR X (.builtin "max") (rMax K) := by subst h; exact cr_max hc
theorem minK (K : PySem.W.Frag) (h : X.K = K := by rfl) (hc : X.calm = true := by rfl) : CallR X (.builtin "min") (rMin K) := by subst h; exact cr_min hc
theorem sortedK (K : PySem.W.Frag) (h : X.K = K := by rfl) : CallR X (.builtin "sorted") (rSortedI K) := by subst h; exact cr_sortedI
theorem sortedTK (K : PySem.W.Frag) (h : X.K = K := by rfl) : CallR X (.builtin "sorted") (rSortedB K true) := by subst h; exact cr_sortedT
theorem sortedPK (K : PySem.W.Frag) (h : X.K = K := by rfl) : CallR X (.builtin "sorted") (rSortedPO K) := by subst h; exact cr_sortedPO
theorem tupleK (K : PySem.W.Frag) (h : X.K = K := by rfl) : CallR X (.type "tuple") (rTupOf K) := by subst h; exact call_tuple_of
theorem listK (K : PySem.W.Frag) (h : X.K = K := by rfl) : CallR X (.type "list") (rListOf K) := by subst h; exact call_list_of
theorem isiK (K : PySem.W.Frag) (h : X.K = K := by rfl) : CallR X (.builtin "isinstance") (rIsi K) := by subst h; exact call_isi
theorem isiTK (K : PySem.W.Frag) (h : X.K = K := by rfl) : CallR X (.builtin "isinstance") (rIsiT K) := by subst h; exact call_isiT
theorem ixL (K : PySem.W.Frag) (h : X.K = K := by rfl) : IxR X (rIxL K) := by subst h; exact ix_list
theorem ixT (K : PySem.W.Frag) (h : X.K = K := by rfl) : IxR X (rIxT K) := by subst h; exact ix_tup
theorem ixA (K : PySem.W.Frag) (h : X.K = K := by rfl) : IxR X (rIx K) := by subst h; exact ix_seq
theorem slL (K : PySem.W.Frag) (h : X.K = K := by rfl) : SlR X (rSlL K) := by subst h; exact sl_list
theorem slT (K : PySem.W.Frag) (h : X.K = K := by rfl) : SlR X (rSlA K) := by subst h; exact sl_tupA
theorem catK (K : PySem.W.Frag) (h : X.K = K := by rfl) : OpR X (binaryOp .Add) (rCatA K) := by subst h; exact op_catA
theorem inK (K : PySem.W.Frag) (h : X.K = K := by rfl) : OpR X (compareOp .In) (rIn K false) := by subst h; exact op_in_seq
theorem notinK (K : PySem.W.Frag) (h : X.K = K := by rfl) : OpR X (compareOp .NotIn) (rIn K true) := by subst h; exact op_notIn_seq
theorem eqDK (K : PySem.W.Frag) (hu : X.A.units + 64 < cLine) (h : X.K = K := by rfl) : OpR X (compareOp .Eq) (rEqD K) := by subst h; exact op_eqD hu
theorem neDK (K : PySem.W.Frag) (hu : X.A.units + 64 < cLine) (h : X.K = K := by rfl) : OpR X (compareOp .NotEq) (rNeD K) := by subst h; exact op_neD hu
theorem pgT (K : PySem.W.Frag) (n : Nat) {es : List Expr} {k : Nat} {pos : Pos} {t : TGs} (hc : X.calm = true) (hg : PGs X es t) (h : X.K = K := by rfl) (hn : (assignEach es X.env).length = n := by rfl) (hst : (assignEach es X.env).findIdx? (·.1) = none := by rfl) : PG X (.Tuple es k pos) (gTup K n t) := by subst h; exact pg_tup hc hg hn hst
theorem piL (K : PySem.W.Frag) {tg l : Expr} {tl : TE} (hl : PE X l tl) (h : X.K = K := by rfl) : PI X tg l (iList K tl) := by subst h; exact pi_list hl
theorem piT (K : PySem.W.Frag) {tg l : Expr} {tl : TE} (hl : PE X l tl) (h : X.K = K := by rfl) : PI X tg l (iTup K tl) := by subst h; exact pi_tup hl
theorem enumK (K : PySem.W.Frag) (tp : Bool) {e : Expr} {ta : TA} {p pos tpos : Pos} {elts : List Expr} {kk : Nat} (hg : Gl X "enumerate") (hm : X.mg "enumerate" = none) (ha : PA X [e] ta) (h : X.K = K := by rfl) (hs : starEach [e] X.env = [(false, eval e X.env)] := by rfl) :
    PI X (.Tuple elts kk tpos) (.Call (.Name "enumerate" p) [e] [] pos) (iEnumB K tp ta) := by subst h; exact pi_enumB tp hg hm ha hs
theorem zipK (K : PySem.W.Frag) (ka kb : Bool) {e e2 : Expr} {ta : TA} {p pos tpos : Pos} {elts : List Expr} {kk : Nat} (hg : Gl X "zip") (hm : X.mg "zip" = none) (ha : PA X [e, e2] ta) (h : X.K = K := by rfl)
    (hs : starEach [e, e2] X.env = (false, eval e X.env) :: starEach [e2] X.env := by rfl) (hpl : (backTo pos (starEach [e2] X.env)).any (·.1) = false := by rfl) :
    PI X (.Tuple elts kk tpos) (.Call (.Name "zip" p) [e, e2] [] pos) (iZipB K ka kb ta) := by subst h; exact pi_zipB ka kb hg hm ha hs hpl
theorem pe_revK (K : PySem.W.Frag) {e : Expr} {te : TE} {k : Nat} {p1 p2 p3 pos : Pos} (he : PE X e te) (h : X.K = K := by rfl) : PE X (.Subscript e (.Slice none none (some (.UnaryOp .USub (.Constant (.int 1) k p1) p2)) p3) pos) (tRevL K te) := by subst h; exact pe_revL he
end
end LF
namespace LF
open PySem PySem.Spec PyProof.Rows L2
def ItB (K : PySem.W.Frag) : Bool → Addr → It
  | false => Itl K
  | true => Itt K
/-- a for over a list or a tuple -/
def iSeq (K : PySem.W.Frag) (tp : Bool) (tl : TE) : TI := fun σ H R => tl σ H fun x H1 => ∃ a, x = .ref a ∧ (∃ xs, SqB K tp H1 a xs) ∧ R (ItB K tp a) H1
theorem piB {X : Cx} (K : PySem.W.Frag) (tp : Bool) {tg l : Expr} {tl : TE} (hl : PE X l tl) (h : X.K = K := by rfl) : PI X tg l (iSeq K tp tl) := by
  subst h
  cases tp with
  | false => exact pi_list hl
  | true => exact pi_tup hl
theorem walk_B {K : PySem.W.Frag} {tp : Bool} {a : Addr} {xs : List V} : Walk (ItB K tp a) xs.length (fun H => SqB K tp H a xs) (YAt xs) := by
  cases tp with
  | false => exact walk_list
  | true => exact walk_tup
/-- a tracked tuple of ints -/
def VT (H : Hp) (v : V) (c : List Int) : Prop := ∃ t, v = V.ref t ∧ H t = some (.tup (vi c))
theorem VT.keep {H H' : Hp} {D : Addr} {acc : List V} {v : V} {c : List Int} (h : H D = some (.lst acc)) (s : Smt D H H') (r : VT H v c) : VT H' v c := by
  obtain ⟨t, e, ht⟩ := r
  refine ⟨t, e, s t _ ht fun z => ?_⟩
  rw [z, h] at ht
  cases ht
theorem VT.same {H H' : Hp} {v : V} {c : List Int} (s : Same H H') (r : VT H v c) : VT H' v c := by
  obtain ⟨t, e, ht⟩ := r
  exact ⟨t, e, s t _ ht⟩
end LF
/-! ### la_math: the two sums, in plain Lean -/
namespace LF
theorem fm_get {α β : Type} (g : α → Option β) : ∀ (l : List α), (List.range l.length).filterMap (fun i => l[i]?.bind g) = l.filterMap g
  | [] => rfl
  | x :: r => by
    have ih := fm_get g r
    rw [List.length_cons, List.range_succ_eq_map, List.filterMap_cons, List.filterMap_map]
    have e : (List.range r.length).filterMap ((fun i => (x :: r)[i]?.bind g) ∘ Nat.succ) = r.filterMap g := by
      rw [← ih]
      rfl
    rw [e]
    rw [List.filterMap_cons]
    show (match g x with | none => r.filterMap g | some b => b :: r.filterMap g) = _
    cases g x <;> rfl
theorem fm_map {α β : Type} (f : α → β) (l : List α) : l.filterMap (fun x => some (f x)) = l.map f := by
  induction l with
  | nil => rfl
  | cons x r ih => rw [List.filterMap_cons, List.map_cons, ih]
theorem fm_idx {α β : Type} : ∀ (l : List α) (g : Nat → α → β), (List.range l.length).filterMap (fun i => l[i]?.bind fun x => some (g i x)) = l.mapIdx g
  | [], _ => rfl
  | x :: r, g => by
    have ih := fm_idx r fun i => g (i + 1)
    rw [List.length_cons, List.range_succ_eq_map, List.filterMap_cons, List.filterMap_map, List.mapIdx_cons, ← ih]
    rfl
/-- items by place -/
theorem fm_at {α β : Type} (f : α → β) (l : List α) : (List.range l.length).filterMap (fun i => l[i]?.bind fun x => some (f x)) = l.map f := by rw [fm_get, fm_map]
theorem fm_range {β : Type} (f : Nat → β) (n : Nat) : (List.range n).filterMap (fun i => some (f i)) = (List.range n).map f := fm_map f _
def srt (ds : List Int) : List Int := ds.mergeSort (fun a b => decide (a ≤ b))
theorem srt_perm (ds : List Int) : (srt ds).Perm ds := List.mergeSort_perm ds _
theorem srt_up (ds : List Int) : (srt ds).Pairwise (· ≤ ·) := by
  have h := List.pairwise_mergeSort (le := fun a b : Int => decide (a ≤ b)) (fun a b c h1 h2 => by simp only [decide_eq_true_eq] at *; omega) (fun a b => by simp only [Bool.or_eq_true, decide_eq_true_eq]; omega) ds
  exact h.imp fun h => of_decide_eq_true h
theorem srt_is {ns ds : List Int} (h : ns.Perm ds) (u : ns.Pairwise (· ≤ ·)) : ns = srt ds :=
  List.Perm.eq_of_pairwise (fun _ _ _ _ h1 h2 => Int.le_antisymm h1 h2) u (srt_up ds) (h.trans (srt_perm ds).symm)
theorem srt_len (ds : List Int) : (srt ds).length = ds.length := (srt_perm ds).length_eq
theorem srt_of_perm {a b : List Int} (h : a.Perm b) : srt a = srt b := srt_is ((srt_perm a).trans h) (srt_up a)
/-- what candles have for k ticks -/
def cnt (cs : List Int) (k : Int) : Int := (cs.map fun w => if k < w then k else w).sum
/-- what draughts want for k ticks -/
def wnt (ds : List Int) (k : Nat) : Int := (((srt ds).drop (ds.length - k)).map fun d => d + 1).sum
def spr (cs ds : List Int) : List Int := (List.range ds.length).map fun (i : Nat) => cnt cs ((i : Int) + 1) - wnt ds (i + 1)
def can (cs ds : List Int) : Bool := (spr cs ds).all fun s => decide (0 ≤ s)
def fails (cs ds : List Int) : List Int := (List.range (spr cs ds).length).filterMap fun (i : Nat) => (spr cs ds)[i]?.bind fun s => if s < 0 then some ((i : Int) + 1) else none
theorem spr_len (cs ds : List Int) : (spr cs ds).length = ds.length := by
  unfold spr
  rw [List.length_map, List.length_range]
theorem cnt_eq (cs : List Int) (k : Int) : (cs.map fun w => if w < k then w else k).sum = cnt cs k := by
  unfold cnt
  congr 1
  refine List.map_congr_left fun w _ => ?_
  by_cases h : w < k
  · rw [if_pos h, if_neg (by omega)]
  · by_cases h2 : k < w
    · rw [if_neg h, if_pos h2]
    · rw [if_neg h, if_neg h2]
      omega
theorem sum_succ (l : List Int) : (l.map fun d => d + 1).sum = l.sum + l.length := by
  induction l with
  | nil => rfl
  | cons x r ih =>
    rw [List.map_cons, List.sum_cons, List.sum_cons, ih, List.length_cons]
    omega
theorem sum_rev (l : List Int) : l.reverse.sum = l.sum := by
  induction l with
  | nil => rfl
  | cons x r ih =>
    rw [List.reverse_cons, List.sum_append, ih, List.sum_cons]
    show r.sum + (x + 0) = x + r.sum
    omega
/-- the law's way: the strongest first -/
theorem wnt_eq (ds : List Int) (k : Nat) (h : k ≤ ds.length) : wnt ds k = ((srt ds).reverse.take k).sum + k := by
  unfold wnt
  rw [sum_succ, List.take_reverse, sum_rev, srt_len, List.length_drop, srt_len]
  have e : ds.length - (ds.length - k) = k := by omega
  rw [e]
theorem can_iff (cs ds : List Int) : can cs ds = true ↔ ∀ k, 1 ≤ k → k ≤ ds.length → wnt ds k ≤ cnt cs k := by
  unfold can spr
  rw [List.all_eq_true]
  constructor
  · intro h k h1 h2
    have q := h (cnt cs (((k - 1 : Nat) : Int) + 1) - wnt ds (k - 1 + 1)) (List.mem_map.mpr ⟨k - 1, List.mem_range.mpr (by omega), rfl⟩)
    have q := of_decide_eq_true q
    have e1 : k - 1 + 1 = k := by omega
    have e2 : ((k - 1 : Nat) : Int) + 1 = (k : Int) := by omega
    rw [e1, e2] at q
    omega
  · intro h s hs
    obtain ⟨i, hi, rfl⟩ := List.mem_map.mp hs
    have q := h (i + 1) (by omega) (by have := List.mem_range.mp hi; omega)
    have e2 : ((i + 1 : Nat) : Int) = (i : Int) + 1 := by omega
    rw [e2] at q
    exact decide_eq_true (by omega)
/-- the law's own word for it -/
theorem can_min {cs ds : List Int} {m : Int} (h1 : m ∈ 0 :: spr cs ds) (h2 : ∀ y, y ∈ 0 :: spr cs ds → m ≤ y) : decide (m = 0) = can cs ds := by
  unfold can
  have h0 := h2 0 List.mem_cons_self
  by_cases e : m = 0
  · rw [decide_eq_true e]
    refine (List.all_eq_true.mpr fun y hy => ?_).symm
    have := h2 y (List.mem_cons_of_mem _ hy)
    exact decide_eq_true (by omega)
  · rw [decide_eq_false e]
    rcases List.mem_cons.mp h1 with z | z
    · exact absurd z e
    · cases q : (spr cs ds).all fun s => decide (0 ≤ s) with
      | false => rfl
      | true =>
        have := of_decide_eq_true (List.all_eq_true.mp q m z)
        omega
end LF
/-! ### la_data: data as the library's == sees them -/
namespace LF
open PySem PySem.Spec PyProof.Rows L2
/-- data that == may be asked of, at most n deep -/
def Okd (n : Nat) (d : PyData) : Prop := d.canLay0 = true ∧ d.depth ≤ n
theorem Okd.mono {n m : Nat} {d : PyData} (h : Okd n d) (l : n ≤ m) : Okd m d := ⟨h.1, Nat.le_trans h.2 l⟩
theorem okd_int (n : Nat) (i : Int) : Okd n (.int i) := ⟨by simp only [PyData.canLay0], by simp only [PyData.depth]; exact Nat.zero_le _⟩
theorem okd_bool (n : Nat) (b : Bool) : Okd n (.bool b) := ⟨by simp only [PyData.canLay0], by simp only [PyData.depth]; exact Nat.zero_le _⟩
theorem okd_none (n : Nat) : Okd n .none := ⟨by simp only [PyData.canLay0], by simp only [PyData.depth]; exact Nat.zero_le _⟩
theorem okd_all {n : Nat} : ∀ {ds : List PyData}, (∀ d ∈ ds, Okd n d) → PyData.canLayAll0 ds = true ∧ PyData.depthAll ds ≤ n
  | [], _ => ⟨by simp only [PyData.canLayAll0], by simp only [PyData.depthAll]; exact Nat.zero_le _⟩
  | d :: r, h => by
    have h1 := h d List.mem_cons_self
    have h2 := okd_all fun x hx => h x (List.mem_cons_of_mem _ hx)
    simp only [PyData.canLayAll0, PyData.depthAll]
    exact ⟨by rw [h1.1, h2.1]; rfl, Nat.max_le.mpr ⟨h1.2, h2.2⟩⟩
theorem okd_list {n : Nat} {ds : List PyData} (h : ∀ d ∈ ds, Okd n d) : Okd (n + 1) (.list ds) := by
  have q := okd_all h
  exact ⟨by simp only [PyData.canLay0]; exact q.1, by simp only [PyData.depth]; exact Nat.succ_le_succ q.2⟩
theorem okd_tup {n : Nat} {ds : List PyData} (h : ∀ d ∈ ds, Okd n d) : Okd (n + 1) (.tuple ds) := by
  have q := okd_all h
  exact ⟨by simp only [PyData.canLay0]; exact q.1, by simp only [PyData.depth]; exact Nat.succ_le_succ q.2⟩
theorem Okd.shaped {n : Nat} {d : PyData} (h : Okd n d) (l : n ≤ 64) : SeqAt.shaped d = true := by
  unfold SeqAt.shaped
  rw [h.1, decide_eq_true (Nat.le_trans h.2 l)]
  rfl
abbrev di (ns : List Int) : List PyData := ns.map PyData.int
theorem okd_ints (n : Nat) (ns : List Int) : ∀ d ∈ di ns, Okd n d := fun d hd => by
  obtain ⟨i, _, rfl⟩ := List.mem_map.mp hd
  exact okd_int n i
theorem shaped_ints (ns : List Int) : SeqAt.shaped (.list (di ns)) = true := (okd_list (okd_ints 0 ns)).shaped (by decide)
theorem shaped_tints (ns : List Int) : SeqAt.shaped (.tuple (di ns)) = true := (okd_tup (okd_ints 0 ns)).shaped (by decide)
theorem dp_ints {K : PySem.W.Frag} {H : Hp} : ∀ ns : List Int, DpAll K H (vi ns) (di ns)
  | [] => .nil
  | n :: r => .cons (.int n) (dp_ints r)
theorem dp_list {K : PySem.W.Frag} {H : Hp} {p : Addr} {ns : List Int} (h : SqL K H p (vi ns)) : Dp K H (.ref p) (.list (di ns)) := .lst h (dp_ints ns)
theorem dp_tup {K : PySem.W.Frag} {H : Hp} {p : Addr} {ns : List Int} (h : SqT K H p (vi ns)) : Dp K H (.ref p) (.tuple (di ns)) := .tup h (dp_ints ns)
theorem eqvAll_ints : ∀ ns ms : List Int, PyData.eqvAll (di ns) (di ms) = decide (ns = ms)
  | [], [] => by simp only [List.map_nil, PyData.eqvAll]; rfl
  | [], _ :: _ => by simp [PyData.eqvAll]
  | _ :: _, [] => by simp [PyData.eqvAll]
  | n :: r, m :: r' => by
    have ih := eqvAll_ints r r'
    show PyData.eqvAll (PyData.int n :: di r) (PyData.int m :: di r') = _
    rw [PyData.eqvAll, ih, PyData.eqv]
    by_cases h : n = m
    · by_cases h2 : r = r'
      · simp [h, h2]
      · simp [h, h2]
    · simp [h]
theorem eqv_lists (ns ms : List Int) : PyData.eqv (.list (di ns)) (.list (di ms)) = decide (ns = ms) := by
  rw [PyData.eqv]
  exact eqvAll_ints ns ms
theorem eqv_tups (ns ms : List Int) : PyData.eqv (.tuple (di ns)) (.tuple (di ms)) = decide (ns = ms) := by
  rw [PyData.eqv]
  exact eqvAll_ints ns ms
end LF
namespace L2
open PySem
mutual
theorem Dp.same {K : PySem.W.Frag} {H H' : Hp} (e : Same H H') : ∀ {d : PyData} {v : V}, Dp K H v d → Dp K H' v d
  | _, _, .non => .non
  | _, _, .bl b => .bl b
  | _, _, .int i => .int i
  | _, _, .str x => .str x
  | _, _, .lst h a => .lst (e.seq h) (DpAll.same e a)
  | _, _, .tup h a => .tup (e.sqt h) (DpAll.same e a)
theorem DpAll.same {K : PySem.W.Frag} {H H' : Hp} (e : Same H H') : ∀ {ds : List PyData} {vs : List V}, DpAll K H vs ds → DpAll K H' vs ds
  | _, _, .nil => .nil
  | _, _, .cons h a => .cons (Dp.same e h) (DpAll.same e a)
end
end L2
namespace LF
open PySem PySem.Spec PyProof.Rows L2
theorem dpall_len {K : PySem.W.Frag} {H : Hp} : ∀ {vs : List V} {ds : List PyData}, DpAll K H vs ds → vs.length = ds.length
  | _, _, .nil => rfl
  | _, _, .cons _ t => congrArg (· + 1) (dpall_len t)
theorem dpall_get {K : PySem.W.Frag} {H : Hp} : ∀ {vs : List V} {ds : List PyData} {i : Nat} {d : PyData}, DpAll K H vs ds → ds[i]? = some d → ∃ v, vs[i]? = some v ∧ Dp K H v d
  | _, _, i, d, .nil, e => by simp at e
  | _, _, 0, d, .cons h _, e => by
    cases Option.some.inj e
    exact ⟨_, rfl, h⟩
  | _, _, i + 1, d, .cons _ t, e => dpall_get (i := i) t e
/-- the class of a datum -/
def dty : PyData → String
  | .none => "NoneType"
  | .bool _ => "bool"
  | .int _ => "int"
  | .str _ => "str"
  | .list _ => "list"
  | .tuple _ => "tuple"
  | .dict _ => "dict"
def isSeq : PyData → Bool
  | .list _ => true
  | .tuple _ => true
  | _ => false
theorem dp_ty {K : PySem.W.Frag} {H : Hp} {v : V} {d : PyData} (h : Dp K H v d) : TyX K H v (.type (dty d)) := by
  cases h with
  | non => exact .base .non
  | bl b => exact .base (.bl b)
  | int i => exact .base (.int i)
  | str x => exact .base (.str x)
  | lst h a =>
    rcases h with (h | ⟨o, h⟩) | ⟨o, its, n, hk, hc, _⟩
    · exact .base (.lst h)
    · exact .base (.frz h)
    · exact .kList hk hc
  | tup h a =>
    rcases h with (h | ⟨o, h⟩) | ⟨o, its, n, hk, hc, _⟩
    · exact .base (.tup h)
    · exact .fTuple h
    · exact .kTuple hk hc
/-- is it of the class T, by names -/
def isN (a T : String) : Bool := decide (a = T) || (decide (a = "bool") && decide (T = "int"))
def dis (T : String) (d : PyData) : Bool := isN (dty d) T
def tyNames : List String := ["NoneType", "bool", "int", "str", "list", "tuple", "dict"]
theorem kit_names : ∀ a ∈ tyNames, ∀ T ∈ ["int", "bool", "list", "tuple", "str"], kitB a T = some (isN a T) := by decide +kernel
theorem dty_mem (d : PyData) : dty d ∈ tyNames := by
  cases d <;> simp [dty, tyNames]
theorem kit_d {K : PySem.W.Frag} (d : PyData) {T : String} (hT : T ∈ ["int", "bool", "list", "tuple", "str"]) : PySem.W.kitOne K (.type (dty d)) (.type T) = some (dis T d) := kit_ty (kit_names _ (dty_mem d) T hT)
theorem seq_names : ∀ a ∈ tyNames, isN a "list" = true ∨ isN a "tuple" = true ↔ (a = "list" ∨ a = "tuple") := by decide +kernel
theorem isSeq_n (d : PyData) : isSeq d = (dis "list" d || dis "tuple" d) := by
  cases d <;> simp [isSeq, dis, isN, dty]
theorem kit_lt {K : PySem.W.Frag} (d : PyData) : PySem.W.kitAny K (.type (dty d)) [.type "list", .type "tuple"] = some (isSeq d) := by
  rw [isSeq_n]
  refine kitAny_cons (kit_d d (by simp)) (fun h => ?_) (fun h => by rw [h]; rfl)
  rw [h, Bool.false_or]
  refine kitAny_cons (kit_d d (by simp)) (fun h2 => by rw [h2]; exact kitAny_nil) (fun h2 => h2)
theorem kit_tl {K : PySem.W.Frag} (d : PyData) : PySem.W.kitAny K (.type (dty d)) [.type "tuple", .type "list"] = some (isSeq d) := by
  rw [isSeq_n, Bool.or_comm]
  refine kitAny_cons (kit_d d (by simp)) (fun h => ?_) (fun h => by rw [h]; rfl)
  rw [h, Bool.false_or]
  refine kitAny_cons (kit_d d (by simp)) (fun h2 => by rw [h2]; exact kitAny_nil) (fun h2 => h2)
/-- data at most n - 1 deep, no list of more than a thousand -/
def Fit : Nat → PyData → Prop
  | 0, _ => False
  | n + 1, .list ds => ds.length ≤ 1000 ∧ ∀ d ∈ ds, Fit n d
  | n + 1, .tuple ds => ds.length ≤ 1000 ∧ ∀ d ∈ ds, Fit n d
  | _ + 1, .dict _ => False
  | _ + 1, _ => True
theorem fit_ints {n : Nat} {ns : List Int} (h : ns.length ≤ 1000) : Fit (n + 2) (.list (di ns)) := ⟨by rw [List.length_map]; exact h, fun d hd => by
  obtain ⟨i, _, rfl⟩ := List.mem_map.mp hd
  exact True.intro⟩
theorem fit_tints {n : Nat} {ns : List Int} (h : ns.length ≤ 1000) : Fit (n + 2) (.tuple (di ns)) := ⟨by rw [List.length_map]; exact h, fun d hd => by
  obtain ⟨i, _, rfl⟩ := List.mem_map.mp hd
  exact True.intro⟩
theorem sqb_or {K : PySem.W.Frag} {H : Hp} {a : Addr} {xs : List V} {tp : Bool} (h : SqB K tp H a xs) : SqL K H a xs ∨ SqT K H a xs := by
  cases tp with
  | false => exact .inl h
  | true => exact .inr h
theorem ix_b {K : PySem.W.Frag} {H : Hp} {a : Addr} {xs : List V} {tp : Bool} {i : Int} {v : V} {Q : VK} (h : SqB K tp H a xs) (e : atI xs i = some v) (q : Q v H) : rIx K (.ref a) (.int i) H Q := by
  cases tp with
  | false => exact .inl ⟨a, xs, i, v, rfl, rfl, h, e, q⟩
  | true => exact .inr (.inl ⟨a, xs, i, v, rfl, rfl, h, e, q⟩)
end LF
namespace LF
open PySem PySem.Spec PyProof.Rows L2
abbrev dts (css : List (List Int)) : List PyData := css.map fun c => PyData.tuple (di c)
theorem dp_vts {K : PySem.W.Frag} {H : Hp} : ∀ {xs : List V} {css : List (List Int)}, Paired (VT H) xs css → DpAll K H xs (dts css)
  | _, _, .nil => .nil
  | _, _, .cons r t => by
    obtain ⟨a, e, ha⟩ := r
    subst e
    exact .cons (dp_tup (SqT.of ha)) (dp_vts t)
theorem fit_dts {n : Nat} {css : List (List Int)} (h : css.length ≤ 1000) (h2 : ∀ c ∈ css, c.length ≤ 1000) : Fit (n + 3) (.list (dts css)) := ⟨by rw [List.length_map]; exact h, fun d hd => by
  obtain ⟨c, hc, rfl⟩ := List.mem_map.mp hd
  exact fit_tints (h2 c hc)⟩
theorem shaped_dts (css : List (List Int)) : SeqAt.shaped (.list (dts css)) = true := (okd_list (n := 1) fun d hd => by
  obtain ⟨c, _, rfl⟩ := List.mem_map.mp hd
  exact okd_tup (okd_ints 0 c)).shaped (by decide)
theorem eqv_nil (ds : List PyData) : PyData.eqv (.list ds) (.list (di [])) = ds.isEmpty := by
  rw [PyData.eqv]
  cases ds with
  | nil => simp only [List.map_nil, PyData.eqvAll]; rfl
  | cons x r => simp only [List.map_nil, PyData.eqvAll]; rfl
end LF
/-! ### la_keep: whom the keeper lights, in plain Lean -/
namespace LF
/-- pairs in Python's order -/
def leP (p q : Int × Int) : Bool := decide (p.1 < q.1) || (decide (p.1 = q.1) && decide (p.2 ≤ q.2))
theorem leP_iff {p q : Int × Int} : leP p q = true ↔ p.1 < q.1 ∨ (p.1 = q.1 ∧ p.2 ≤ q.2) := by
  unfold leP
  simp only [Bool.or_eq_true, Bool.and_eq_true, decide_eq_true_eq]
def srtP (l : List (Int × Int)) : List (Int × Int) := l.mergeSort leP
theorem srtP_perm (l : List (Int × Int)) : (srtP l).Perm l := List.mergeSort_perm l _
theorem srtP_up (l : List (Int × Int)) : (srtP l).Pairwise (fun p q => leP p q = true) :=
  List.pairwise_mergeSort (le := leP) (fun a b c h1 h2 => by rw [leP_iff] at *; omega) (fun a b => by rw [Bool.or_eq_true, leP_iff, leP_iff]; omega) l
theorem srtP_is {m l : List (Int × Int)} (h : m.Perm l) (u : m.Pairwise (fun p q => leP p q = true)) : m = srtP l :=
  List.Perm.eq_of_pairwise (fun p q _ _ h1 h2 => by
    rw [leP_iff] at h1 h2
    exact Prod.ext (by omega) (by omega)) u (srtP_up l) (h.trans (srtP_perm l).symm)
/-- the candles that have wax: most first, of as much the lesser places -/
def rowsOf (cs : List Int) : List (Int × Int) := (List.range cs.length).filterMap fun (i : Nat) => cs[i]?.bind fun w => if 0 < w then some (-w, (i : Int)) else none
def lightsF (cs : List Int) (d : Int) : Option (List Int) := if ((rowsOf cs).length : Int) ≤ d then none else some (srt (((srtP (rowsOf cs)).take (d + 1).toNat).map Prod.snd))
/-- the candles behind a tick -/
def bit (lit out : List Int) (i : Int) : Int := if i ∈ lit ∧ i ∉ out then 1 else 0
def burntF (cs lit out : List Int) : List Int := cs.mapIdx fun i w => w - bit lit out i
theorem burntF_eq (cs lit out : List Int) : burntF cs lit out = cs.mapIdx fun i w => w - bit lit out i := rfl
theorem burntF_len (cs lit out : List Int) : (burntF cs lit out).length = cs.length := by
  rw [burntF_eq, List.length_mapIdx]
theorem burntF_get {cs lit out : List Int} {i : Nat} {w : Int} (h : cs[i]? = some w) : (burntF cs lit out)[i]? = some (w - bit lit out i) := by
  rw [burntF_eq, List.getElem?_mapIdx, h]
  rfl
theorem rowsOf_mem {cs : List Int} {p : Int × Int} : p ∈ rowsOf cs ↔ ∃ (i : Nat) (w : Int), cs[i]? = some w ∧ 0 < w ∧ p = (-w, (i : Int)) := by
  unfold rowsOf
  rw [List.mem_filterMap]
  constructor
  · rintro ⟨i, hi, e⟩
    cases h : cs[i]? with
    | none =>
      rw [h] at e
      cases e
    | some w =>
      rw [h] at e
      by_cases hw : 0 < w
      · have e : (if 0 < w then some (-w, (i : Int)) else none) = some p := e
        rw [if_pos hw] at e
        exact ⟨i, w, h, hw, (Option.some.inj e).symm⟩
      · have e : (if 0 < w then some (-w, (i : Int)) else none) = some p := e
        rw [if_neg hw] at e
        cases e
  · rintro ⟨i, w, h, hw, rfl⟩
    refine ⟨i, List.mem_range.mpr (List.getElem?_eq_some_iff.mp h).1, ?_⟩
    rw [h]
    exact if_pos hw
theorem rowsOf_nodup (cs : List Int) : ((rowsOf cs).map Prod.snd).Nodup := by
  have e0 : (rowsOf cs).map Prod.snd = (List.range cs.length).filterMap (fun (i : Nat) => (cs[i]?.bind fun w => if 0 < w then some (-w, (i : Int)) else none).map Prod.snd) := by
    unfold rowsOf
    exact List.map_filterMap
  rw [e0]
  have h : (List.range cs.length).Pairwise (fun a b => a < b) := List.pairwise_lt_range
  have h2 : ((List.range cs.length).filterMap (fun (i : Nat) => (cs[i]?.bind fun w => if 0 < w then some (-w, (i : Int)) else none).map Prod.snd)).Pairwise (fun a b : Int => a < b) := by
    refine List.Pairwise.filterMap (R := fun a b : Nat => a < b) _ (fun a a' haa b hb b' hb' => ?_) h
    have key : ∀ (a : Nat) (b : Int), (cs[a]?.bind fun w => if 0 < w then some (-w, (a : Int)) else none).map Prod.snd = some b → b = (a : Int) := fun a b e => by
      cases q : cs[a]? with
      | none =>
        rw [q] at e
        cases e
      | some w =>
        rw [q] at e
        have e : ((if 0 < w then some (-w, (a : Int)) else none)).map Prod.snd = some b := e
        by_cases hw : 0 < w
        · rw [if_pos hw] at e
          exact (Option.some.inj e).symm
        · rw [if_neg hw] at e
          cases e
    rw [key a b hb, key a' b' hb']
    omega
  exact h2.imp fun h => Int.ne_of_lt h
/-- what is known of those that are lit -/
structure Lit (cs : List Int) (d : Int) (lit : List Int) : Prop where
  len : (lit.length : Int) = d + 1
  up : lit.Pairwise (· < ·)
  wax : ∀ i ∈ lit, ∃ (k : Nat) (w : Int), i = (k : Int) ∧ cs[k]? = some w ∧ 0 < w
  top : ∀ i ∈ lit, ∀ (k j : Nat) (w v : Int), i = (k : Int) → cs[k]? = some w → cs[j]? = some v → (j : Int) ∉ lit → v ≤ w
theorem Lit.nd {cs : List Int} {d : Int} {lit : List Int} (h : Lit cs d lit) : lit.Nodup := h.up.imp fun h => Int.ne_of_lt h
theorem srt_lt {l : List Int} (h : l.Nodup) : (srt l).Pairwise (· < ·) := by
  have h1 := srt_up l
  have h2 : (srt l).Pairwise (· ≠ ·) := (srt_perm l).nodup_iff.mpr h
  exact h1.imp₂ (fun a b h1 h2 => by omega) h2
theorem lights_lit {cs lit : List Int} {d : Int} (h0 : 0 ≤ d) (h : lightsF cs d = some lit) : Lit cs d lit := by
  unfold lightsF at h
  by_cases hc : ((rowsOf cs).length : Int) ≤ d
  · rw [if_pos hc] at h
    cases h
  rw [if_neg hc] at h
  have e := (Option.some.inj h).symm
  subst e
  have hp := srtP_perm (rowsOf cs)
  have hsub : ((srtP (rowsOf cs)).take (d + 1).toNat).map Prod.snd |>.Sublist ((srtP (rowsOf cs)).map Prod.snd) := (List.take_sublist _ _).map _
  have hnd : (((srtP (rowsOf cs)).take (d + 1).toNat).map Prod.snd).Nodup := hsub.nodup ((hp.map Prod.snd).nodup_iff.mpr (rowsOf_nodup cs))
  have hlen : (srtP (rowsOf cs)).length = (rowsOf cs).length := hp.length_eq
  have mem : ∀ i, i ∈ srt (((srtP (rowsOf cs)).take (d + 1).toNat).map Prod.snd) ↔ ∃ p ∈ (srtP (rowsOf cs)).take (d + 1).toNat, p.2 = i := fun i => by
    rw [(srt_perm _).mem_iff, List.mem_map]
  refine ⟨?_, srt_lt hnd, fun i hi => ?_, fun i hi k j w v ek hk hj hn => ?_⟩
  · rw [srt_len, List.length_map, List.length_take, hlen]
    omega
  · obtain ⟨p, hpm, e⟩ := (mem i).mp hi
    obtain ⟨k, w, h1, h2, rfl⟩ := rowsOf_mem.mp (hp.mem_iff.mp ((List.take_sublist _ _).mem hpm))
    exact ⟨k, w, e.symm, h1, h2⟩
  · obtain ⟨p, hpm, e⟩ := (mem i).mp hi
    obtain ⟨k', w', h1, h2, rfl⟩ := rowsOf_mem.mp (hp.mem_iff.mp ((List.take_sublist _ _).mem hpm))
    have ekk : k' = k := by
      have : (k' : Int) = i := e
      omega
    subst ekk
    rw [hk] at h1
    cases h1
    by_cases hv : 0 < v
    · have hq : ((-v, (j : Int)) : Int × Int) ∈ srtP (rowsOf cs) := hp.mem_iff.mpr (rowsOf_mem.mpr ⟨j, v, hj, hv, rfl⟩)
      have hd : ((-v, (j : Int)) : Int × Int) ∈ (srtP (rowsOf cs)).drop (d + 1).toNat := by
        rw [← List.take_append_drop (d + 1).toNat (srtP (rowsOf cs))] at hq
        rcases List.mem_append.mp hq with q | q
        · exact absurd ((mem _).mpr ⟨_, q, rfl⟩) hn
        · exact q
      have hup := srtP_up (rowsOf cs)
      rw [← List.take_append_drop (d + 1).toNat (srtP (rowsOf cs))] at hup
      have q := (List.pairwise_append.mp hup).2.2 _ hpm _ hd
      rw [leP_iff] at q
      have q : -w < -v ∨ (-w = -v ∧ (k' : Int) ≤ (j : Int)) := q
      omega
    · omega
/-- ticks one behind the other: lit, then what is left -/
def lotsF (cs : List Int) : List Int → Option (List (List Int × List Int))
  | [] => some []
  | d :: r => match lightsF cs d with
    | none => none
    | some lit => (lotsF (burntF cs lit []) r).map fun l => (lit, burntF cs lit []) :: l
theorem lotsF_cons (cs : List Int) (d : Int) (r : List Int) : lotsF cs (d :: r) = (match lightsF cs d with
    | none => none
    | some lit => (lotsF (burntF cs lit []) r).map fun l => (lit, burntF cs lit []) :: l) := rfl
theorem lotsF_len {ds : List Int} : ∀ {cs : List Int} {l : List (List Int × List Int)}, lotsF cs ds = some l → l.length = ds.length := by
  induction ds with
  | nil =>
    intro cs l h
    cases Option.some.inj h
    rfl
  | cons d r ih =>
    intro cs l h
    unfold lotsF at h
    cases e : lightsF cs d with
    | none =>
      rw [e] at h
      cases h
    | some lit =>
      rw [e] at h
      obtain ⟨l', h1, h2⟩ := Option.map_eq_some_iff.mp h
      rw [← h2, List.length_cons, List.length_cons, ih h1]
theorem sum_bits : ∀ (lit : List Int) (cs : List Int) (s : Nat), lit.Nodup → (∀ i ∈ lit, (s : Int) ≤ i ∧ i < (s : Int) + cs.length) → (cs.mapIdx fun i w => w - bit lit [] ((i + s : Nat) : Int)).sum = cs.sum - lit.length := by
  intro lit cs
  induction cs generalizing lit with
  | nil =>
    intro s _ h
    cases lit with
    | nil => rfl
    | cons x r =>
      have := h x List.mem_cons_self
      simp at this
      omega
  | cons c r ih =>
    intro s hn h
    rw [List.mapIdx_cons, List.sum_cons, List.sum_cons]
    have hm : (r.mapIdx fun i w => w - bit lit [] ((i + 1 + s : Nat) : Int)) = r.mapIdx fun i w => w - bit (lit.filter fun x => decide (x ≠ (s : Int))) [] ((i + (s + 1) : Nat) : Int) := by
      congr 1
      funext i w
      have e : i + 1 + s = i + (s + 1) := by omega
      rw [e]
      unfold bit
      have e2 : (((i + (s + 1) : Nat) : Int) ∈ lit) ↔ (((i + (s + 1) : Nat) : Int) ∈ lit.filter fun x => decide (x ≠ (s : Int))) := by
        rw [List.mem_filter]
        constructor
        · intro q
          exact ⟨q, decide_eq_true (by omega)⟩
        · intro q
          exact q.1
      simp only [← e2]
    rw [hm, ih (lit.filter fun x => decide (x ≠ (s : Int))) (s + 1) (hn.filter _) (fun i hi => ?_)]
    · by_cases hs : (s : Int) ∈ lit
      · have e3 : bit lit [] ((0 + s : Nat) : Int) = 1 := by
          unfold bit
          rw [Nat.zero_add, if_pos ⟨hs, by simp⟩]
        have e4 : (lit.filter fun x => decide (x ≠ (s : Int))).length + 1 = lit.length := by
          have q := List.length_erase_of_mem hs
          have q2 : lit.erase (s : Int) = lit.filter fun x => decide (x ≠ (s : Int)) := by
            rw [hn.erase_eq_filter]
            congr 1
            funext x
            by_cases hx : x = (s : Int) <;> simp [hx]
          rw [← q2, q]
          have := List.length_pos_of_mem hs
          omega
        rw [e3]
        omega
      · have e3 : bit lit [] ((0 + s : Nat) : Int) = 0 := by
          unfold bit
          rw [Nat.zero_add, if_neg (fun q => hs q.1)]
        have e4 : (lit.filter fun x => decide (x ≠ (s : Int))) = lit := List.filter_eq_self.mpr fun x hx => decide_eq_true fun e => hs (e ▸ hx)
        rw [e3, e4]
        omega
    · obtain ⟨h1, h2⟩ := List.mem_filter.mp hi
      have := h i h1
      have h2 := of_decide_eq_true h2
      rw [List.length_cons] at this
      omega
theorem burnt_sum {cs lit : List Int} {d : Int} (h : Lit cs d lit) : (burntF cs lit []).sum = cs.sum - (d + 1) := by
  rw [burntF_eq, ← h.len]
  have q := sum_bits lit cs 0 h.nd (fun i hi => by
    obtain ⟨k, w, e, hk, _⟩ := h.wax i hi
    have := (List.getElem?_eq_some_iff.mp hk).1
    omega)
  exact q
end LF
namespace LF
theorem burnt_step {cs L out : List Int} {i : Int} {k : Nat} {w : Int} (hi : i ∉ L) (ho : i ∉ out) (e : i = (k : Int)) (hk : cs[k]? = some w) : (burntF cs L out).set k (w - 1) = burntF cs (L ++ [i]) out := by
  apply List.ext_getElem?
  intro j
  rw [List.getElem?_set, burntF_len]
  by_cases hj : k = j
  · subst hj
    have hlt := (List.getElem?_eq_some_iff.mp hk).1
    rw [if_pos rfl, if_pos hlt, burntF_get hk]
    unfold bit
    rw [if_pos ⟨List.mem_append_right _ (by rw [← e]; exact List.mem_singleton.mpr rfl), by rw [← e]; exact ho⟩]
  · rw [if_neg hj]
    cases q : cs[j]? with
    | none =>
      rw [List.getElem?_eq_none (by rw [burntF_len]; exact List.getElem?_eq_none_iff.mp q), List.getElem?_eq_none (by rw [burntF_len]; exact List.getElem?_eq_none_iff.mp q)]
    | some v =>
      rw [burntF_get q, burntF_get q]
      have e2 : bit (L ++ [i]) out (j : Int) = bit L out (j : Int) := by
        unfold bit
        have e3 : ((j : Int) ∈ L ++ [i]) ↔ (j : Int) ∈ L := by
          rw [List.mem_append, List.mem_singleton]
          constructor
          · rintro (z | z)
            · exact z
            · omega
          · exact Or.inl
        simp only [e3]
      rw [e2]
theorem burnt_same {cs L out : List Int} {i : Int} (ho : i ∈ out) : burntF cs (L ++ [i]) out = burntF cs L out := by
  unfold burntF
  congr 1
  funext j w
  have e2 : bit (L ++ [i]) out (j : Int) = bit L out (j : Int) := by
    unfold bit
    by_cases hj : (j : Int) ∈ out
    · rw [if_neg (fun q => q.2 hj), if_neg (fun q => q.2 hj)]
    · have e3 : ((j : Int) ∈ L ++ [i]) ↔ (j : Int) ∈ L := by
        rw [List.mem_append, List.mem_singleton]
        constructor
        · rintro (z | z)
          · exact z
          · rw [z] at hj
            exact absurd ho hj
        · exact Or.inl
      simp only [e3]
  rw [e2]
theorem burnt_none (cs out : List Int) : burntF cs [] out = cs := by
  apply List.ext_getElem?
  intro j
  cases q : cs[j]? with
  | none => rw [List.getElem?_eq_none (by rw [burntF_len]; exact List.getElem?_eq_none_iff.mp q)]
  | some v =>
    rw [burntF_get q]
    unfold bit
    rw [if_neg (fun q => nomatch q.1), Int.sub_zero]
/-- the next of the places -/
theorem take_next {α : Type} {l : List α} {i : Nat} {x : α} (h : l[i]? = some x) : l.take (i + 1) = l.take i ++ [x] := by
  rw [List.take_add_one, h]
  rfl
theorem drop_next {α : Type} {l : List α} {i : Nat} {x : α} (h : l[i]? = some x) : l.drop i = x :: l.drop (i + 1) := by
  obtain ⟨hi, e⟩ := List.getElem?_eq_some_iff.mp h
  rw [← e]
  exact List.drop_eq_getElem_cons hi
theorem nodup_next {l : List Int} {i : Nat} {x : Int} (h : l.Nodup) (e : l[i]? = some x) : x ∉ l.take i := by
  intro hm
  obtain ⟨j, hj⟩ := List.mem_iff_getElem?.mp hm
  have hlt : j < i := by
    have := (List.getElem?_eq_some_iff.mp hj).1
    rw [List.length_take] at this
    omega
  rw [List.getElem?_take_of_lt hlt] at hj
  obtain ⟨h1, e1⟩ := List.getElem?_eq_some_iff.mp hj
  obtain ⟨h2, e2⟩ := List.getElem?_eq_some_iff.mp e
  have := (List.getElem_inj (i := j) (j := i) h).mp (e1.trans e2.symm)
  omega
/-- all is burnt that is wanted -/
theorem lots_sum : ∀ (ds cs : List Int) (l : List (List Int × List Int)), (∀ d ∈ ds, 0 ≤ d) → lotsF cs ds = some l → ∀ p, l.getLast? = some p → p.2.sum = cs.sum - ds.sum - ds.length := by
  intro ds
  induction ds with
  | nil =>
    intro cs l _ h p hp
    cases Option.some.inj h
    cases hp
  | cons d r ih =>
    intro cs l h0 h p hp
    unfold lotsF at h
    cases e : lightsF cs d with
    | none =>
      rw [e] at h
      cases h
    | some lit =>
      rw [e] at h
      obtain ⟨l', h1, h2⟩ := Option.map_eq_some_iff.mp h
      have hb := burnt_sum (lights_lit (h0 d List.mem_cons_self) e)
      rw [List.sum_cons, List.length_cons]
      subst h2
      cases q : l'.getLast? with
      | none =>
        have e0 : l' = [] := List.getLast?_eq_none_iff.mp q
        have e1 := lotsF_len h1
        rw [e0] at e1 hp
        have e2 : r = [] := List.length_eq_zero_iff.mp e1.symm
        cases Option.some.inj hp
        show (burntF cs lit []).sum = _
        rw [hb, e2]
        show _ = cs.sum - (d + 0) - _
        simp
        omega
      | some p' =>
        have e1 : p' = p := by
          have := List.getLast?_cons (a := (lit, burntF cs lit [])) (l := l')
          rw [this, q] at hp
          exact Option.some.inj hp
        subst e1
        rw [ih (burntF cs lit []) l' (fun x hx => h0 x (List.mem_cons_of_mem _ hx)) h1 p' q, hb]
        omega
theorem lots_lens : ∀ (ds cs : List Int) (l : List (List Int × List Int)), lotsF cs ds = some l → ∀ p ∈ l, p.2.length = cs.length := by
  intro ds
  induction ds with
  | nil =>
    intro cs l h p hp
    cases Option.some.inj h
    cases hp
  | cons d r ih =>
    intro cs l h p hp
    unfold lotsF at h
    cases e : lightsF cs d with
    | none =>
      rw [e] at h
      cases h
    | some lit =>
      rw [e] at h
      obtain ⟨l', h1, h2⟩ := Option.map_eq_some_iff.mp h
      subst h2
      rcases List.mem_cons.mp hp with z | z
      · rw [z]
        exact burntF_len _ _ _
      · rw [ih _ _ h1 p z]
        exact burntF_len _ _ _
end LF
namespace LF
open PySem PySem.Spec PyProof.Rows L2
def topS (i : Nat) : Stmt := PySem.Challenge.pw_lastflame_k06_whom_the_keeper_lights_by.main.body.getD i (.Pass ⟨0, 0, 0, 0⟩)
section
variable {P : Program} {w : World} {K : PySem.W.Frag} {mg : Str → Option Value} {base : Heap}
/-! def burnt -/
abbrev s_burnt : Stmt := topS 1
theorem sc_burnt : FnScope ["candles", "lit", "out", "place", "wax"] ["candles", "lit", "out"] (defScope s_burnt) := ⟨rfl, rfl, rfl, by decide +kernel, rfl, by decide +kernel, by decide +kernel⟩
theorem inV_ints (z : Int) (ns : List Int) : inV (.int z) (vi ns) = decide (z ∈ ns) := by
  induction ns with
  | nil => rfl
  | cons n r ih =>
    show (eqV (.int n) (.int z) || inV (.int z) (vi r)) = _
    rw [ih]
    show ((n == z) || decide (z ∈ r)) = decide (z ∈ n :: r)
    by_cases h : n = z
    · simp [h]
    · have h2 : ¬ z = n := fun e => h e.symm
      simp [h, h2]
def spBurnt (K : PySem.W.Frag) : Sp := fun vs H Q _ => ∃ (a l o : Addr) (cs lit out : List Int) (t1 t2 : Bool), vs = [.ref a, .ref l, .ref o] ∧ SqT K H a (vi cs) ∧ SqB K t1 H l (vi lit) ∧ SqB K t2 H o (vi out) ∧ cs.length ≤ 1000 ∧
  ∀ H' p, Same H H' → H p = none → H' p = some (.tup (vi (burntF cs lit out))) → Q (.ref p) H'
theorem ok_burnt {f : Addr} {fd : FuncData} (T : Bl mg) (F : Fun K "burnt" "burnt" s_burnt f fd) : FnOk P w K mg base CX0 1 f fd ["candles", "lit", "out"] (spBurnt K) := by
  refine F.ok sc_burnt (fun vs H Q E h => ?_) (fun cdv A outer s H vs Q E hr h => ?_)
  · obtain ⟨a, l, o, cs, lit, out, t1, t2, rfl, _⟩ := h
    rfl
  obtain ⟨a, l, o, cs, lit, out, t1, t2, rfl, hS, hL, hO, hl, q⟩ := h
  refine ⟨_, (pss_one (ps_ret (pe_callTy (tupleK K) rfl T.tuple (by decide +kernel) (pa_cons (pe_lc (own := [("place", 3), ("wax", 4)]) rfl sc_burnt.nd (enumK K true rfl T.enumerate (pa_cons (pv 0) pa_nil)) (blkOk_by (N := ["candles", "lit", "out", "place", "wax"]) (sc := defScope s_burnt) (own := [("place", 3), ("wax", 4)]) (by decide +kernel)) (fun _ _ _ _ _ => (pgT K 2 rfl (pgs_cons (pg_name (i := 3) sc_burnt.nd rfl (.inl rfl)) (pgs_cons (pg_name (i := 4) sc_burnt.nd rfl (.inl rfl)) pgs_nil)))) (fun _ _ _ _ _ => pts_nil) (fun _ _ _ _ _ => (pe_op op_sub (pv 4) (pe_callTy call_int1 rfl T.int (by decide +kernel) (pa_cons (pe_and (pe_cmpR (inK K) (pv 3) (pv 1) rfl) (pe_one (pe_cmpR (notinK K) (pv 3) (pv 2) rfl))) pa_nil))))) pa_nil)))), ?_⟩
  refine ⟨_, rfl, a, vi cs, rfl, hS, fun D hD => lc_ints (walk_enumB (tp := true) (xs := vi cs)) hD (by rw [vi_len]; exact hl) (fun i => cs[i]?.bind fun w => some (w - bit lit out i)) (fun H' s => s.sqt hS) (fun i x H1 H' kn ky hi sm y h1 h2 => ?_) (fun H1 sm e => ?_)⟩
  · obtain ⟨tt, x1, x2, rfl, nT, rfl, e1, e2⟩ := y
    cases Option.some.inj e1
    obtain ⟨z, hz, rfl⟩ := vi_get e2
    have sn : Same H1 (upd H1 tt (.tup [.int (i : Nat), .int z])) := Same.new nT
    have sm' := sm.trans sn
    refine ⟨tt, _, rfl, SqT.of upd_same, rfl, _, _, rfl, _, _, rfl, rfl, rfl, lc_yes ⟨_, rfl, _, rfl, _, rfl, l, vi lit, rfl, sqb_or (sm'.sqb hL), rfl, vi_flat _, _, rfl, if_b (fun c => ?_) (fun c => ?_)⟩⟩
    · have c1 : (i : Int) ∈ lit := of_decide_eq_true (by rw [← inV_ints]; exact c)
      refine ⟨_, rfl, _, rfl, o, vi out, rfl, sqb_or (sm'.sqb hO), rfl, vi_flat _, .inr ⟨_, rfl, _, _, rfl, rfl, h2 _ _ sn ?_⟩⟩
      rw [hz, inV_ints]
      show some (z - bit lit out i) = _
      unfold bit
      by_cases c2 : (i : Int) ∈ out
      · rw [if_neg (fun q => q.2 c2), decide_eq_true c2]
        rfl
      · rw [if_pos ⟨c1, c2⟩, decide_eq_false c2]
        rfl
    · have c1 : ¬ (i : Int) ∈ lit := of_decide_eq_false (by rw [← inV_ints]; exact c)
      refine .inr ⟨_, rfl, _, _, rfl, rfl, h2 _ _ sn ?_⟩
      rw [hz]
      show some (z - bit lit out i) = _
      unfold bit
      rw [if_neg (fun q => c1 q.1)]
      rfl
  · rw [vi_len, fm_idx] at e
    exact ⟨D, _, rfl, .inl ⟨SqL.of e, fun p np => q _ p (sm.trans (Same.new np)) (sm.free np) upd_same⟩⟩
/-! def lights -/
abbrev s_lights : Stmt := topS 3
theorem sc_lights : FnScope ["candles", "draught", "rows", "place", "wax"] ["candles", "draught"] (defScope s_lights) := ⟨rfl, rfl, rfl, by decide +kernel, rfl, by decide +kernel, by decide +kernel⟩
/-- a tracked pair of ints -/
def Pr (H : Hp) (v : V) (p : Int × Int) : Prop := ∃ t, v = V.ref t ∧ H t = some (.tup [.int p.1, .int p.2])
theorem Pr.keep {H H' : Hp} {D : Addr} {acc : List V} {v : V} {p : Int × Int} (h : H D = some (.lst acc)) (s : Smt D H H') (r : Pr H v p) : Pr H' v p := by
  obtain ⟨t, e, ht⟩ := r
  refine ⟨t, e, s t _ ht fun z => ?_⟩
  rw [z, h] at ht
  cases ht
theorem Pr.same {H H' : Hp} {v : V} {p : Int × Int} (s : Same H H') (r : Pr H v p) : Pr H' v p := by
  obtain ⟨t, e, ht⟩ := r
  exact ⟨t, e, s t _ ht⟩
/-- the pair that a value is -/
def keyOf (H : Hp) (v : V) : Int × Int := match v with
  | .ref t => match H t with
    | some (.tup [.int i, .int j]) => (i, j)
    | _ => (0, 0)
  | _ => (0, 0)
theorem Pr.key {H : Hp} {v : V} {p : Int × Int} (r : Pr H v p) : keyOf H v = p := by
  obtain ⟨t, e, ht⟩ := r
  subst e
  show (match H t with | some (.tup [.int i, .int j]) => (i, j) | _ => (0, 0)) = p
  rw [ht]
theorem prs_key {H : Hp} : ∀ {ys : List V} {rs : List (Int × Int)}, Paired (Pr H) ys rs → ys.map (keyOf H) = rs
  | _, _, .nil => rfl
  | _, _, .cons r t => by rw [List.map_cons, r.key, prs_key t]
theorem prs_mem {H : Hp} : ∀ {ys : List V} {rs : List (Int × Int)}, Paired (Pr H) ys rs → ∀ v ∈ ys, Pr H v (keyOf H v)
  | _, _, .nil, v, hv => nomatch hv
  | _, _, .cons r t, v, hv => by
    rcases List.mem_cons.mp hv with e | e
    · subst e
      rw [r.key]
      exact r
    · exact prs_mem t v e
theorem prs_of {H : Hp} : ∀ {ys : List V}, (∀ v ∈ ys, Pr H v (keyOf H v)) → Paired (Pr H) ys (ys.map (keyOf H))
  | [], _ => .nil
  | v :: r, h => .cons (h v List.mem_cons_self) (prs_of fun x hx => h x (List.mem_cons_of_mem _ hx))
theorem sorted_rows {H : Hp} {ys zs : List V} {rs : List (Int × Int)} (h : Paired (Pr H) ys rs) (hs : SrtO.Srtd (ltP (keyOf H)) zs) (hb : SrtO.Stb (ltP (keyOf H)) zs ys) : Paired (Pr H) zs (srtP rs) := by
  have e : zs.map (keyOf H) = srtP rs := by
    refine srtP_is ?_ ?_
    · rw [← prs_key h]
      exact hb.perm.map _
    · refine List.pairwise_map.mpr (hs.imp fun {x y} q => ?_)
      have q : SrtO.lexB (keyOf H y) (keyOf H x) = false := q
      rw [leP_iff]
      have n : ¬ SrtO.lexB (keyOf H y) (keyOf H x) = true := by
        rw [q]
        decide
      rw [SrtO.lexB_iff] at n
      omega
  rw [← e]
  exact prs_of fun v hv => prs_mem h v (hb.perm.mem_iff.mp hv)
theorem paired_take {α β : Type} {F : α → β → Prop} : ∀ (n : Nat) {l1 : List α} {l2 : List β}, Paired F l1 l2 → Paired F (l1.take n) (l2.take n)
  | 0, _, _, _ => by
    rw [List.take_zero, List.take_zero]
    exact .nil
  | _ + 1, _, _, .nil => .nil
  | n + 1, _, _, .cons r t => .cons r (paired_take n t)
theorem paired_get {α β : Type} {F : α → β → Prop} : ∀ {l1 : List α} {l2 : List β} {i : Nat} {x : α}, Paired F l1 l2 → l1[i]? = some x → ∃ y, l2[i]? = some y ∧ F x y
  | _, _, i, x, .nil, e => by simp at e
  | _, _, 0, x, .cons r _, e => by
    cases Option.some.inj e
    exact ⟨_, rfl, r⟩
  | _, _, i + 1, x, .cons _ t, e => paired_get (i := i) t e
theorem cutV_toV (xs : List V) (k : Int) (h : 0 ≤ k) : cutV xs none (some k) = xs.take k.toNat := by
  unfold cutV
  have e : k = ((k.toNat : Nat) : Int) := (Int.toNat_of_nonneg h).symm
  rw [e, HT.sIx_nat, HT.sIx_none, Nat.sub_zero, List.drop_zero, Int.toNat_natCast]
  by_cases c : k.toNat ≤ xs.length
  · rw [Nat.min_eq_left c]
  · rw [Nat.min_eq_right (by omega), List.take_of_length_le (Nat.le_refl _), List.take_of_length_le (by omega)]
/-- None, or a new tuple of the places -/
def LitV (H : Hp) (Q : VK) (r : Option (List Int)) : Prop := match r with
  | none => ∀ H', Same H H' → Q .non H'
  | some lit => ∀ H' p, Same H H' → H p = none → H' p = some (.tup (vi lit)) → Q (.ref p) H'
def spLights (K : PySem.W.Frag) : Sp := fun vs H Q _ => ∃ (a : Addr) (cs : List Int) (d : Int), vs = [.ref a, .int d] ∧ SqT K H a (vi cs) ∧ cs.length ≤ 1000 ∧ 0 ≤ d ∧ LitV H Q (lightsF cs d)
theorem ok_lights {f : Addr} {fd : FuncData} (T : Bl mg) (F : Fun K "lights" "lights" s_lights f fd) : FnOk P w K mg base CX0 1 f fd ["candles", "draught"] (spLights K) := by
  refine F.ok sc_lights (fun vs H Q E h => ?_) (fun cdv A outer s H vs Q E hr h => ?_)
  · obtain ⟨a, cs, d, rfl, _⟩ := h
    rfl
  obtain ⟨a, cs, d, rfl, hS, hl, h0, q⟩ := h
  refine ⟨_, (pss_cons (ps_set (i := 2) sc_lights.nd rfl (.inl rfl) (pe_callB (sortedPK K) rfl T.sorted (by decide +kernel) (pa_cons (pe_lc (own := [("place", 3), ("wax", 4)]) rfl sc_lights.nd (enumK K true rfl T.enumerate (pa_cons (pv 0) pa_nil)) (blkOk_by (N := ["candles", "draught", "rows", "place", "wax"]) (sc := defScope s_lights) (own := [("place", 3), ("wax", 4)]) (by decide +kernel)) (fun _ _ _ _ _ => (pgT K 2 rfl (pgs_cons (pg_name (i := 3) sc_lights.nd rfl (.inl rfl)) (pgs_cons (pg_name (i := 4) sc_lights.nd rfl (.inl rfl)) pgs_nil)))) (fun _ _ _ _ _ => (pts_one (pt_cmpR op_gt (pv 4) pe_int (nomark _)))) (fun _ _ _ _ _ => (pe_tup (pa_cons (pe_un un_neg (pv 4)) (pa_cons (pv 3) pa_nil))))) pa_nil)))
  (pss_cons (ps_if (pt_cmpR op_le (pe_callB (lenK K) rfl T.len (by decide +kernel) (pa_cons (pv 2) pa_nil)) (pv 1) (nomark _)) (pss_one (ps_ret pe_non)) pss_nil)
  (pss_one (ps_ret (pe_callTy (tupleK K) rfl T.tuple (by decide +kernel) (pa_cons (pe_callB (sortedK K) rfl T.sorted (by decide +kernel) (pa_cons (pe_lc (own := [("wax", 4), ("place", 3)]) rfl sc_lights.nd (piL K (pe_slice (slL K) (pv 2) po_none (po_some (pe_op op_add (pv 1) pe_int)))) (blkOk_by (N := ["candles", "draught", "rows", "place", "wax"]) (sc := defScope s_lights) (own := [("wax", 4), ("place", 3)]) (by decide +kernel)) (fun _ _ _ _ _ => (pgT K 2 rfl (pgs_cons (pg_name (i := 4) sc_lights.nd rfl (.inl rfl)) (pgs_cons (pg_name (i := 3) sc_lights.nd rfl (.inl rfl)) pgs_nil)))) (fun _ _ _ _ _ => pts_nil) (fun _ _ _ _ _ => (pv 3))) pa_nil)) pa_nil)))))), ?_⟩
  refine ⟨_, rfl, a, vi cs, rfl, hS, fun D hD => lc_rel (walk_enumB (tp := true) (xs := vi cs)) hD (by rw [vi_len]; exact hl) Pr (fun H H' D acc v p h s r => r.keep h s) (fun i => cs[i]?.bind fun w => if 0 < w then some (-w, (i : Int)) else none) (fun H' s => s.sqt hS) (fun i x H1 H' kn ky hi sm y h1 h2 => ?_) (fun ys H1 sm e pr => ?_)⟩
  · obtain ⟨tt, x1, x2, rfl, nT, rfl, e1, e2⟩ := y
    cases Option.some.inj e1
    obtain ⟨z, hz, rfl⟩ := vi_get e2
    have sn : Same H1 (upd H1 tt (.tup [.int (i : Nat), .int z])) := Same.new nT
    refine ⟨tt, _, rfl, SqT.of upd_same, rfl, _, _, rfl, _, _, rfl, rfl, rfl, _, rfl, _, _, rfl, rfl, _, rfl, if_b (fun c => ?_) (fun c => h1 _ sn ?_)⟩
    · refine ⟨_, rfl, _, rfl, _, rfl, by show 2 ≤ sizeLine; decide, fun p np => h2 _ (-z, (i : Int)) _ (sn.trans (Same.new np)) ?_ ⟨p, rfl, upd_same⟩⟩
      rw [hz]
      exact if_pos (of_decide_eq_true c)
    · rw [hz]
      exact if_neg (of_decide_eq_false c)
  rw [vi_len] at pr
  have pr : Paired (Pr H1) ys (rowsOf cs) := pr
  refine ⟨D, ys, keyOf H1, rfl, SqL.of e, prs_mem pr, fun zs p hs hb np => ?_⟩
  have pz := sorted_rows pr hs hb
  have lz : zs.length = (rowsOf cs).length := (paired_len pz).trans (srtP_perm _).length_eq
  have s1 : Same H1 (upd H1 p (.lst zs)) := Same.new np
  have sb1 := sm.trans s1
  refine ⟨_, rfl, p, zs, rfl, .inl (SqL.of upd_same), _, rfl, _, _, rfl, rfl, _, rfl, if_b (fun c => ?_) (fun c => ?_)⟩
  · have c := of_decide_eq_true c
    rw [lz] at c
    unfold lightsF at q
    rw [if_pos c] at q
    exact q _ sb1
  · have c := of_decide_eq_false c
    rw [lz] at c
    unfold lightsF at q
    rw [if_neg c] at q
    refine ⟨_, rfl, _, rfl, _, _, rfl, rfl, _, rfl, p, zs, rfl, SqL.of upd_same, fun r nr => ?_⟩
    rw [cutV_toV _ _ (by omega)]
    have s2 : Same (upd H1 p (.lst zs)) (upd (upd H1 p (.lst zs)) r (.lst (zs.take (d + 1).toNat))) := Same.new nr
    have hC : SqL K (upd (upd H1 p (.lst zs)) r (.lst (zs.take (d + 1).toNat))) r (zs.take (d + 1).toNat) := SqL.of upd_same
    have pt : Paired (Pr (upd (upd H1 p (.lst zs)) r (.lst (zs.take (d + 1).toNat)))) (zs.take (d + 1).toNat) ((srtP (rowsOf cs)).take (d + 1).toNat) := paired_mono (fun v x h => h.same (s1.trans s2)) (paired_take _ pz)
    have hlz : (zs.take (d + 1).toNat).length ≤ 1000 := by
      rw [List.length_take, lz]
      have := filterMap_le (fun (i : Nat) => cs[i]?.bind fun w => if 0 < w then some (-w, (i : Int)) else none) cs.length
      have : (rowsOf cs).length ≤ cs.length := this
      omega
    refine ⟨r, rfl, ⟨_, hC⟩, fun D2 hD2 => lc_ints (walk_list (xs := zs.take (d + 1).toNat)) hD2 hlz (fun i => ((srtP (rowsOf cs)).take (d + 1).toNat)[i]?.bind fun x => some x.2) (fun H' s => s.seq hC) (fun i x H2 H' kn ky hi sm y h1 h2 => ?_) (fun H2 sm e => ?_)⟩
    · obtain ⟨rfl, hx⟩ := y
      obtain ⟨x2, hx2, tt, rfl, ht⟩ := paired_get pt hx
      refine ⟨tt, _, rfl, SqT.of (sm _ _ ht), rfl, _, _, rfl, _, _, rfl, rfl, rfl, lc_yes ⟨_, rfl, h2 _ _ (Same.refl _) ?_⟩⟩
      rw [hx2]
      rfl
    · rw [paired_len pt, fm_at] at e
      refine ⟨D2, _, rfl, SqL.of e, fun ns p2 hp hu np2 => ?_⟩
      have es := srt_is hp hu
      subst es
      exact ⟨p2, _, rfl, .inl ⟨SqL.of upd_same, fun p3 np3 => q _ p3 (((sb1.trans s2).trans sm).trans ((Same.new np2).trans (Same.new np3))) (((sb1.trans s2).trans sm).free ((Same.new np2).free np3)) upd_same⟩⟩
/-- None, or a tuple of the places -/
def LitR (H : Hp) (v : V) (r : Option (List Int)) : Prop := match r with
  | none => v = .non
  | some lit => ∃ p, v = .ref p ∧ H p = some (.tup (vi lit))
theorem litV_of {H : Hp} {Q : VK} {r : Option (List Int)} (h : ∀ H' v, Same H H' → LitR H' v r → Q v H') : LitV H Q r := by
  cases r with
  | none => exact fun H' s => h H' _ s rfl
  | some lit => exact fun H' p s _ e => h H' _ s ⟨p, rfl, e⟩
def litD : Option (List Int) → PyData
  | none => .none
  | some l => .tuple (di l)
theorem LitR.dp {K : PySem.W.Frag} {H : Hp} {v : V} : ∀ {r : Option (List Int)}, LitR H v r → Dp K H v (litD r)
  | none, h => by
    have h : v = .non := h
    rw [h]
    exact .non
  | some lit, h => by
    obtain ⟨p, e, hp⟩ := h
    rw [e]
    exact dp_tup (SqT.of hp)
theorem LitR.same {H H' : Hp} {v : V} (s : Same H H') : ∀ {r : Option (List Int)}, LitR H v r → LitR H' v r
  | none, h => h
  | some _, ⟨p, e, hp⟩ => ⟨p, e, s _ _ hp⟩
theorem lights_len {cs lit : List Int} {d : Int} (h : lightsF cs d = some lit) : lit.length ≤ cs.length := by
  unfold lightsF at h
  by_cases hc : ((rowsOf cs).length : Int) ≤ d
  · rw [if_pos hc] at h
    cases h
  · rw [if_neg hc] at h
    rw [← Option.some.inj h, srt_len, List.length_map, List.length_take, (srtP_perm _).length_eq]
    have := filterMap_le (fun (i : Nat) => cs[i]?.bind fun w => if 0 < w then some (-w, (i : Int)) else none) cs.length
    have : (rowsOf cs).length ≤ cs.length := this
    omega
theorem fit_lit {cs : List Int} {d : Int} (h : cs.length ≤ 1000) (n : Nat) : Fit (n + 2) (litD (lightsF cs d)) := by
  cases e : lightsF cs d with
  | none => exact True.intro
  | some lit => exact fit_tints (Nat.le_trans (lights_len e) h)
/-! def lots -/
abbrev s_lotsK : Stmt := topS 4
theorem sc_lotsK : FnScope ["candles", "draughts", "found", "draught", "lit"] ["candles", "draughts"] (defScope s_lotsK) := ⟨rfl, rfl, rfl, by decide +kernel, rfl, by decide +kernel, by decide +kernel⟩
/-- whom the keeper lights, and the candles behind it -/
def LC (H : Hp) (v : V) (x : List Int × List Int) : Prop := ∃ t u c, v = V.ref t ∧ H t = some (.tup [.ref u, .ref c]) ∧ H u = some (.tup (vi x.1)) ∧ H c = some (.tup (vi x.2))
theorem LC.keep {H H' : Hp} {D : Addr} {acc : List V} {v : V} {x : List Int × List Int} (h : H D = some (.lst acc)) (s : Smt D H H') (r : LC H v x) : LC H' v x := by
  obtain ⟨t, u, c, e, h1, h2, h3⟩ := r
  have ne : ∀ b xs, H b = some (.tup xs) → b ≠ D := fun b xs hb z => by
    rw [z, h] at hb
    cases hb
  exact ⟨t, u, c, e, s t _ h1 (ne _ _ h1), s u _ h2 (ne _ _ h2), s c _ h3 (ne _ _ h3)⟩
theorem LC.same {H H' : Hp} {v : V} {x : List Int × List Int} (s : Same H H') (r : LC H v x) : LC H' v x := by
  obtain ⟨t, u, c, e, h1, h2, h3⟩ := r
  exact ⟨t, u, c, e, s t _ h1, s u _ h2, s c _ h3⟩
def LotsV (H : Hp) (Q : VK) (r : Option (List (List Int × List Int))) : Prop := match r with
  | none => ∀ H', Same H H' → Q .non H'
  | some l => ∀ H' p xs, Same H H' → H p = none → H' p = some (.lst xs) → Paired (LC H') xs l → Q (.ref p) H'
def spLotsK (K : PySem.W.Frag) : Sp := fun vs H Q _ => ∃ (a b : Addr) (cs ds : List Int), vs = [.ref a, .ref b] ∧ SqT K H a (vi cs) ∧ SqT K H b (vi ds) ∧ cs.length ≤ 1000 ∧ ds.length ≤ 1000 ∧ (∀ d ∈ ds, 0 ≤ d) ∧ LotsV H Q (lotsF cs ds)
theorem ok_lotsK {f : Addr} {fd : FuncData} (T : Bl mg) (F : Fun K "lots" "lots" s_lotsK f fd) {f_lights : Addr} {fd_lights : FuncData} (D_lights : FnAt K mg "lights" "lights" s_lights ["candles", "draught"] f_lights fd_lights) {f_burnt : Addr} {fd_burnt : FuncData} (D_burnt : FnAt K mg "burnt" "burnt" s_burnt ["candles", "lit", "out"] f_burnt fd_burnt) : FnOk P w K mg base CX0 2 f fd ["candles", "draughts"] (spLotsK K) := by
  have G_lights : FnOk P w K mg base CX0 1 f_lights fd_lights _ (spLights K) := ok_lights T D_lights.F
  have G_burnt : FnOk P w K mg base CX0 1 f_burnt fd_burnt _ (spBurnt K) := ok_burnt T D_burnt.F
  refine F.ok sc_lotsK (fun vs H Q E h => ?_) (fun cdv A outer s H vs Q E hr h => ?_)
  · obtain ⟨a, b, cs, ds, rfl, _⟩ := h
    rfl
  obtain ⟨a, b, cs, ds, rfl, hS, hB, hl, hlb, h0, q⟩ := h
  refine ⟨_, (pss_cons (ps_set (i := 2) sc_lotsK.nd rfl (.inl rfl) (pe_lst pa_nil))
  (pss_cons (ps_for PassesOwn.never rfl (piT K (pv 1)) (pg_name (i := 3) sc_lotsK.nd rfl (.inl rfl)) (pss_cons (ps_set (i := 4) sc_lotsK.nd rfl (.inl rfl) (pe_call G_lights hr rfl D_lights.g D_lights.F.kp D_lights.b .nil pass0 (pa_cons (pv 0) (pa_cons (pv 3) pa_nil))))
  (pss_cons (ps_if (pt_cmpR op_isN (pv 4) pe_non (nomark _)) (pss_one (ps_ret pe_non)) pss_nil)
  (pss_cons (ps_set (i := 0) sc_lotsK.nd rfl (.inl rfl) (pe_call G_burnt hr rfl D_burnt.g D_burnt.F.kp D_burnt.b .nil pass0 (pa_cons (pv 0) (pa_cons (pv 4) (pa_cons (pe_tup pa_nil) pa_nil)))))
  (pss_one (ps_expr (pe_bm PySem.F.plainAttrs_list PySem.F.slot_list_append PySem.F.type_list_append mt_append (pv 2) (pa_cons (pe_tup (pa_cons (pv 4) (pa_cons (pv 0) pa_nil))) pa_nil))))))))
  (pss_one (ps_ret (pv 2))))), ?_⟩
  refine ⟨Nat.zero_le _, fun o no => ?_⟩
  have s0 : Same H (upd H o (.lst [])) := Same.new no
  refine ⟨_, rfl, b, rfl, ⟨_, s0.sqt hB⟩, for_tup (K := K) (a := b) (xs := vi ds) (fun i σ H' => ∃ (ca : Addr) (c : List Int) (acc : List (List Int × List Int)) (xs : List V) (y3 y4 : Option V), σ = [some (.ref ca), some (.ref b), some (.ref o), y3, y4] ∧ Same H H' ∧ SqT K H' ca (vi c) ∧ c.length = cs.length ∧ H' o = some (.lst xs) ∧ Paired (LC H') xs acc ∧ acc.length = i ∧ lotsF cs ds = (lotsF c (ds.drop i)).map (acc ++ ·)) ⟨a, cs, [], [], none, none, rfl, s0, s0.sqt hS, rfl, upd_same, .nil, rfl, ?_⟩ (fun i σ H' _ ⟨_, _, _, _, _, _, _, sm, _⟩ => sm.sqt hB) (fun i x σ H1 hx hW => ?_) (fun σ H1 hW => ?_)⟩
  · show _ = (lotsF cs ds).map fun x => x
    cases lotsF cs ds <;> rfl
  · obtain ⟨ca, c, acc, xs, y3, y4, rfl, sm, hC, hcl, hO, hp, hal, he⟩ := hW
    obtain ⟨d, hd, rfl⟩ := vi_get hx
    have hd0 := h0 d (List.mem_of_getElem? hd)
    have hdi := (List.getElem?_eq_some_iff.mp hd).1
    rw [drop_next hd, lotsF_cons] at he
    refine ⟨_, rfl, _, rfl, ca, c, d, rfl, hC, by omega, hd0, ?_⟩
    cases hlf : lightsF c d with
    | none =>
      rw [hlf] at he
      have he : lotsF cs ds = none := he
      intro H2 s2
      refine ⟨_, rfl, rfl, _, rfl, if_t rfl ?_⟩
      rw [he] at q
      exact q _ (sm.trans s2)
    | some lit =>
      rw [hlf] at he
      have he : lotsF cs ds = ((lotsF (burntF c lit []) (ds.drop (i + 1))).map fun l => (lit, burntF c lit []) :: l).map (acc ++ ·) := he
      intro H2 u s2 nu hu
      refine ⟨_, rfl, rfl, _, rfl, if_f rfl ?_⟩
      -- candles = burnt(candles, lit, ())
      refine ⟨_, rfl, _, rfl, Nat.zero_le _, fun e ne => ?_⟩
      have s3 : Same H2 (upd H2 e (.tup [])) := Same.new ne
      refine ⟨ca, u, e, c, lit, [], true, true, rfl, (s2.trans s3).sqt hC, SqT.of (s3 _ _ hu), SqT.of upd_same, by omega, fun H4 ca' s4 nca hca => ?_⟩
      have s14 := (s2.trans s3).trans s4
      have hu4 := (s3.trans s4) _ _ hu
      have hO4 := s14 _ _ hO
      -- found.append((lit, candles))
      refine ⟨_, rfl, .inl ⟨rfl, _, SqL.of hO4⟩, _, rfl, _, rfl, by show 2 ≤ sizeLine; decide, fun t nt => ?_⟩
      have s5 : Same H4 (upd H4 t (.tup [.ref u, .ref ca'])) := Same.new nt
      have hO5 := s5 _ _ hO4
      refine ⟨o, _, _, rfl, rfl, hO5, ?_, ?_⟩
      · rw [paired_len hp, hal]
        exact small1000 (by omega)
      have keep : ∀ (b : Addr) zs, (upd H4 t (.tup [.ref u, .ref ca'])) b = some (.tup zs) → b ≠ o := fun b zs hb z => by
        rw [z, hO5] at hb
        cases hb
      have su : Smt o (upd H4 t (.tup [.ref u, .ref ca'])) (upd (upd H4 t (.tup [.ref u, .ref ca'])) o (.lst (xs ++ [.ref t]))) := Smt.upd
      refine ⟨ca', burntF c lit [], acc ++ [(lit, burntF c lit [])], xs ++ [.ref t], _, _, rfl, (sm.trans (s14.trans s5)).mut no, ?_, (burntF_len _ _ _).trans hcl, upd_same, ?_, ?_, ?_⟩
      · exact SqT.of (su _ _ (s5 _ _ hca) (keep _ _ (s5 _ _ hca)))
      · refine paired_app (paired_mono (fun v x r => (r.same (s14.trans s5)).keep hO5 su) hp) (.cons ⟨t, u, ca', rfl, su _ _ upd_same (keep _ _ upd_same), su _ _ (s5 _ _ hu4) (keep _ _ (s5 _ _ hu4)), su _ _ (s5 _ _ hca) (keep _ _ (s5 _ _ hca))⟩ .nil)
      · rw [List.length_append, hal]
        rfl
      · rw [he, Option.map_map]
        congr 1
        funext l
        show acc ++ ((lit, burntF c lit []) :: l) = acc ++ [(lit, burntF c lit [])] ++ l
        rw [List.append_assoc]
        rfl
  · obtain ⟨ca, c, acc, xs, y3, y4, rfl, sm, hC, hcl, hO, hp, hal, he⟩ := hW
    rw [vi_len, List.drop_length] at he
    have he : lotsF cs ds = some (acc ++ []) := he
    rw [List.append_nil] at he
    rw [he] at q
    exact ⟨_, rfl, q H1 o xs sm no hO hp⟩
/-! def kept -/
abbrev s_kept : Stmt := topS 5
theorem sc_kept : FnScope ["candles", "draughts", "found", "lit", "left"] ["candles", "draughts"] (defScope s_kept) := ⟨rfl, rfl, rfl, by decide +kernel, rfl, by decide +kernel, by decide +kernel⟩
def KeptV (H : Hp) (Q : VK) (r : Option (List (List Int))) : Prop := match r with
  | none => ∀ H', Same H H' → Q .non H'
  | some l => ∀ H' p xs, Same H H' → H p = none → H' p = some (.lst xs) → Paired (VT H') xs l → Q (.ref p) H'
def keptF (cs ds : List Int) : Option (List (List Int)) := (lotsF cs ds).map (·.map Prod.snd)
def spKept (K : PySem.W.Frag) : Sp := fun vs H Q _ => ∃ (a b : Addr) (cs ds : List Int), vs = [.ref a, .ref b] ∧ SqT K H a (vi cs) ∧ SqT K H b (vi ds) ∧ cs.length ≤ 1000 ∧ ds.length ≤ 1000 ∧ (∀ d ∈ ds, 0 ≤ d) ∧ KeptV H Q (keptF cs ds)
theorem ok_kept {f : Addr} {fd : FuncData} (T : Bl mg) (F : Fun K "kept" "kept" s_kept f fd) {f_lotsK : Addr} {fd_lotsK : FuncData} (D_lotsK : FnAt K mg "lots" "lots" s_lotsK ["candles", "draughts"] f_lotsK fd_lotsK) {f_lights : Addr} {fd_lights : FuncData} (D_lights : FnAt K mg "lights" "lights" s_lights ["candles", "draught"] f_lights fd_lights) {f_burnt : Addr} {fd_burnt : FuncData} (D_burnt : FnAt K mg "burnt" "burnt" s_burnt ["candles", "lit", "out"] f_burnt fd_burnt) : FnOk P w K mg base CX0 3 f fd ["candles", "draughts"] (spKept K) := by
  have G_lotsK : FnOk P w K mg base CX0 2 f_lotsK fd_lotsK _ (spLotsK K) := ok_lotsK T D_lotsK.F D_lights D_burnt
  refine F.ok sc_kept (fun vs H Q E h => ?_) (fun cdv A outer s H vs Q E hr h => ?_)
  · obtain ⟨a, b, cs, ds, rfl, _⟩ := h
    rfl
  obtain ⟨a, b, cs, ds, rfl, hS, hB, hl, hlb, h0, q⟩ := h
  refine ⟨_, (pss_cons (ps_set (i := 2) sc_kept.nd rfl (.inl rfl) (pe_call G_lotsK hr rfl D_lotsK.g D_lotsK.F.kp D_lotsK.b .nil pass0 (pa_cons (pv 0) (pa_cons (pv 1) pa_nil))))
  (pss_one (ps_ret (pe_ifExp (pt_cmpR op_notN (pv 2) pe_non (nomark _)) (pe_lc (own := [("lit", 3), ("left", 4)]) rfl sc_kept.nd (piL K (pv 2)) (blkOk_by (N := ["candles", "draughts", "found", "lit", "left"]) (sc := defScope s_kept) (own := [("lit", 3), ("left", 4)]) (by decide +kernel)) (fun _ _ _ _ _ => (pgT K 2 rfl (pgs_cons (pg_name (i := 3) sc_kept.nd rfl (.inl rfl)) (pgs_cons (pg_name (i := 4) sc_kept.nd rfl (.inl rfl)) pgs_nil)))) (fun _ _ _ _ _ => pts_nil) (fun _ _ _ _ _ => (pv 4))) pe_non)))), ?_⟩
  refine ⟨_, rfl, _, rfl, a, b, cs, ds, rfl, hS, hB, hl, hlb, h0, ?_⟩
  unfold keptF at q
  cases hlf : lotsF cs ds with
  | none =>
    rw [hlf] at q
    intro H1 s1
    exact ⟨_, rfl, rfl, _, rfl, if_f rfl (q _ s1)⟩
  | some l =>
    rw [hlf] at q
    intro H1 p xs s1 np hp pr
    have hC : SqL K H1 p xs := SqL.of hp
    refine ⟨_, rfl, rfl, _, rfl, if_t rfl ⟨_, rfl, p, rfl, ⟨_, hC⟩, fun D hD => lc_rel (walk_list (xs := xs)) hD (by rw [paired_len pr, lotsF_len hlf]; exact hlb) VT (fun H H' D acc v p h s r => r.keep h s) (fun i => l[i]?.bind fun x => some x.2) (fun H' s => s.seq hC) (fun i x H2 H' kn ky hi sm y h1 h2 => ?_) (fun ys H2 sm e pr2 => ?_)⟩⟩
    · obtain ⟨rfl, hx⟩ := y
      obtain ⟨z, hz, t, u, c, rfl, ht, hu, hc⟩ := paired_get pr hx
      refine ⟨t, _, rfl, SqT.of (sm _ _ ht), rfl, _, _, rfl, _, _, rfl, rfl, rfl, lc_yes ⟨_, rfl, h2 _ z.2 _ (Same.refl _) ?_ ⟨c, rfl, sm _ _ hc⟩⟩⟩
      rw [hz]
      rfl
    · rw [paired_len pr, fm_at] at pr2
      exact q H2 D ys (s1.trans sm) (s1.free hD) e pr2
/-! def _law_draw -/
abbrev s__law_draw : Stmt := topS 7
theorem sc__law_draw : FnScope ["tape", "many", "prime", "cell", "found"] ["tape", "many"] (defScope s__law_draw) := ⟨rfl, rfl, rfl, by decide +kernel, rfl, by decide +kernel, by decide +kernel⟩
theorem draw_nn (x : Int) : 0 ≤ x % 2305843009213693951 ∧ x % 2305843009213693951 < 2305843009213693951 := ⟨Int.emod_nonneg x (by decide), Int.emod_lt_of_pos x (by decide)⟩
def spDraw : Sp := fun vs H Q _ => ∃ (t a : Addr) (many : Int), vs = [.ref t, .int many] ∧ TapeAt H t a ∧ 0 < many ∧ many < 2 ^ 100 ∧
  ∀ (r : Int) (H' : Hp), 0 ≤ r → r < many → TapeAt H' t a → Smt t H H' → Q (.int r) H'
theorem ok__law_draw {f : Addr} {fd : FuncData} (T : Bl mg) (F : Fun K "_law_draw" "_law_draw" s__law_draw f fd) : FnOk P w K mg base CX0 1 f fd ["tape", "many"] spDraw := by
  refine F.ok sc__law_draw (fun vs H Q E h => ?_) (fun cdv A outer s H vs Q E hr h => ?_)
  · obtain ⟨t, a, many, rfl, _⟩ := h
    rfl
  obtain ⟨t, a, many, rfl, hT, hm, hm2, q⟩ := h
  refine ⟨_, (pss_cons (ps_set (i := 2) sc__law_draw.nd rfl (.inl rfl) pe_int)
  (C8.pss_cut (ps_if (pt_cmpR op_lt (pe_ix (ixL K) (pv 0) pe_int (fun _ _ => rfl)) (pv 1) (nomark _)) (pss_cons (ps_set (i := 3) sc__law_draw.nd rfl (.inl rfl) pe_int)
  (C8.pss_cut (ps_if (pt_cmpR op_gt (pe_callB (lenK K) rfl T.len (by decide +kernel) (pa_cons (pe_ix (ixL K) (pv 0) pe_int (fun _ _ => rfl)) pa_nil)) pe_int (nomark _)) (pss_one (ps_set (i := 3) sc__law_draw.nd rfl (.inl rfl) (pe_ix (ixL K) (pe_ix (ixL K) (pv 0) pe_int (fun _ _ => rfl)) (pe_op op_mod (pe_ix (ixL K) (pv 0) pe_int (fun _ _ => rfl)) (pe_callB (lenK K) rfl T.len (by decide +kernel) (pa_cons (pe_ix (ixL K) (pv 0) pe_int (fun _ _ => rfl)) pa_nil))) (fun _ _ => rfl)))) pss_nil)
  (C8.pss_cut (ps_if (PW.pt (pw_or (pt_cmpR op_ge (pe_ix (ixL K) (pv 0) pe_int (fun _ _ => rfl)) (pe_callB (lenK K) rfl T.len (by decide +kernel) (pa_cons (pe_ix (ixL K) (pv 0) pe_int (fun _ _ => rfl)) pa_nil)) (nomark _)) (pw_or1 (pt_cmpR op_lt (pv 3) (pe_op op_pow pe_int pe_int) (nomark _))))) (pss_cons (ps_set (i := 3) sc__law_draw.nd rfl (.inl rfl) (pe_op op_mod (pe_op op_add (pv 3) (pe_op op_mul pe_int (pe_ix (ixL K) (pv 0) pe_int (fun _ _ => rfl)))) (pv 2)))
  (pss_cons (ps_set (i := 3) sc__law_draw.nd rfl (.inl rfl) (pe_op op_mod (pe_op op_add (pe_op op_add (pe_op op_mul (pv 3) (pv 3)) (pe_op op_mul pe_int (pv 3))) pe_int) (pv 2)))
  (pss_one (ps_set (i := 3) sc__law_draw.nd rfl (.inl rfl) (pe_op op_mod (pe_op op_add (pe_op op_mul (pv 3) (pv 3)) pe_int) (pv 2)))))) pss_nil)
  (pss_cons (ps_asg (pe_op op_add (pe_ix (ixL K) (pv 0) pe_int (fun _ _ => rfl)) pe_int) (pg_sub (pv 0) pe_int set_list))
  (pss_one (ps_asg (pv 3) (pg_sub (pv 0) pe_int set_list))))))) pss_nil)
  (pss_cons (ps_set (i := 4) sc__law_draw.nd rfl (.inl rfl) (pe_op op_mod (pe_ix (ixL K) (pv 0) pe_int (fun _ _ => rfl)) (pv 1)))
  (pss_cons (ps_asg (pe_op op_fdivW (pe_ix (ixL K) (pv 0) pe_int (fun _ _ => rfl)) (pv 1)) (pg_sub (pv 0) pe_int set_list))
  (pss_one (ps_ret (pv 4))))))), ?_⟩
  have hta : a ≠ t := hT.ta
  obtain ⟨ns, i, c, ht, ha, hc⟩ := hT
  -- if tape[2] < many
  refine ⟨fun σ' H' => ∃ (i' c' : Int) (y : Option V), σ' = [some (.ref t), some (.int many), some (.int 2305843009213693951), y, none] ∧ H' t = some (.lst [.ref a, .int i', .int c']) ∧ H' a = some (.lst (vi ns)) ∧ 0 ≤ c' ∧ Smt t H H', ?_, ?_⟩
  · refine ⟨_, rfl, t, _, 2, _, rfl, rfl, SqL.of ht, rfl, _, rfl, _, _, rfl, rfl, _, rfl, if_b (fun _ => ?_) (fun _ => ?_)⟩
    · -- cell = 0; if len(tape[0]) > 0
      refine ⟨fun σ' H' => ∃ z : Int, σ' = [some (.ref t), some (.int many), some (.int 2305843009213693951), some (.int z), none] ∧ H' = H, ?_, ?_⟩
      · refine ⟨_, rfl, t, _, 0, _, rfl, rfl, SqL.of ht, rfl, a, vi ns, rfl, .inl (SqL.of ha), _, _, rfl, rfl, _, rfl, if_b (fun e => ?_) (fun _ => ?_)⟩
        · have e1 : (0 : Int) < (((vi ns).length : Nat) : Int) := of_decide_eq_true e
          have e2 : 0 < ns.length := by
            rw [vi_len] at e1
            omega
          obtain ⟨z, hz⟩ := atI_mod e2 i
          refine ⟨_, rfl, t, _, 0, _, rfl, rfl, SqL.of ht, rfl, _, rfl, t, _, 1, _, rfl, rfl, SqL.of ht, rfl, _, rfl, t, _, 0, _, rfl, rfl, SqL.of ht, rfl, a, vi ns, rfl, .inl (SqL.of ha), _, _, rfl, rfl, e1, a, _, _, _, rfl, rfl, SqL.of ha, hz, z, rfl, rfl⟩
        · exact ⟨0, rfl, rfl⟩
      rintro σ' H' ⟨z, rfl, rfl⟩
      -- if tape[1] >= len(tape[0]) or cell < 10 ** 18
      refine ⟨fun σ' H1 => ∃ z : Int, σ' = [some (.ref t), some (.int many), some (.int 2305843009213693951), some (.int z), none] ∧ H1 = H' ∧ 0 ≤ z, ?_, ?_⟩
      · have body : ∀ D : Ends, D.nx [some (.ref t), some (.int many), some (.int 2305843009213693951), some (.int (((((z + 1000003 * i) % 2305843009213693951) * ((z + 1000003 * i) % 2305843009213693951) + 1181783497276652981 * ((z + 1000003 * i) % 2305843009213693951) + 2049848353892358983) % 2305843009213693951 * (((((z + 1000003 * i) % 2305843009213693951) * ((z + 1000003 * i) % 2305843009213693951) + 1181783497276652981 * ((z + 1000003 * i) % 2305843009213693951) + 2049848353892358983) % 2305843009213693951)) + 1442695040888963407) % 2305843009213693951)), none] H' → _ := fun D hD => by
          have n1 := draw_nn (z + 1000003 * i)
          have n2 := draw_nn (((z + 1000003 * i) % 2305843009213693951) * ((z + 1000003 * i) % 2305843009213693951) + 1181783497276652981 * ((z + 1000003 * i) % 2305843009213693951) + 2049848353892358983)
          refine (?_ : tSeq (tAsg (tOp (rI (fun _ j => 0 < j) fun i j => .int (i % j)) (tOp (rI0 fun i j => .int (i + j)) (tVar 3) (tOp (rI CMul fun i j => .int (i * j)) (tC (.int 1000003)) (tOp (rIxL K) (tVar 0) (tC (.int 1))))) (tVar 2)) (gName 3))
            (tSeq (tAsg (tOp (rI (fun _ j => 0 < j) fun i j => .int (i % j)) (tOp (rI0 fun i j => .int (i + j)) (tOp (rI0 fun i j => .int (i + j)) (tOp (rI CMul fun i j => .int (i * j)) (tVar 3) (tVar 3)) (tOp (rI CMul fun i j => .int (i * j)) (tC (.int 1181783497276652981)) (tVar 3))) (tC (.int 2049848353892358983))) (tVar 2)) (gName 3))
            (tAsg (tOp (rI (fun _ j => 0 < j) fun i j => .int (i % j)) (tOp (rI0 fun i j => .int (i + j)) (tOp (rI CMul fun i j => .int (i * j)) (tVar 3) (tVar 3)) (tC (.int 1442695040888963407))) (tVar 2)) (gName 3))) D [some (.ref t), some (.int many), some (.int 2305843009213693951), some (.int z), none] H')
          refine ⟨_, rfl, _, rfl, t, _, 1, _, rfl, rfl, SqL.of ht, rfl, _, _, rfl, rfl, .inl ⟨by omega, by omega⟩, _, _, rfl, rfl, _, rfl, _, _, rfl, rfl, by omega, ?_⟩
          refine ⟨_, rfl, _, rfl, _, _, rfl, rfl, .inl (by omega), _, rfl, _, _, rfl, rfl, .inl ⟨by omega, by omega⟩, _, _, rfl, rfl, _, _, rfl, rfl, _, rfl, _, _, rfl, rfl, by omega, ?_⟩
          refine ⟨_, rfl, _, rfl, _, _, rfl, rfl, .inl (by omega), _, _, rfl, rfl, _, rfl, _, _, rfl, rfl, by omega, hD⟩
        refine ⟨_, rfl, t, _, 1, _, rfl, rfl, SqL.of ht, rfl, _, rfl, t, _, 0, _, rfl, rfl, SqL.of ht, rfl, a, vi ns, rfl, .inl (SqL.of ha), _, _, rfl, rfl, _, rfl, if_b (fun _ => ?_) (fun _ => ?_)⟩
        · refine if_t rfl (body _ ⟨_, rfl, rfl, (draw_nn _).1⟩)
        · refine ⟨_, rfl, _, _, rfl, rfl, ⟨by decide, by decide, by decide⟩, _, _, rfl, rfl, _, rfl, if_b (fun _ => body _ ⟨_, rfl, rfl, (draw_nn _).1⟩) (fun e => ?_)⟩
          refine ⟨z, rfl, rfl, ?_⟩
          have e1 : ¬ z < (10 : Int) ^ (18 : Int).toNat := of_decide_eq_false e
          have e2 : (0 : Int) ≤ (10 : Int) ^ (18 : Int).toNat := by decide
          omega
      rintro σ' H1 ⟨z, rfl, rfl, hz⟩
      -- tape[1] = tape[1] + 1; tape[2] = cell
      refine ⟨_, rfl, t, _, 1, _, rfl, rfl, SqL.of ht, rfl, _, _, rfl, rfl, _, rfl, t, _, 1, 1, rfl, rfl, ht, rfl, ?_⟩
      refine ⟨_, rfl, _, rfl, t, _, 2, 2, rfl, rfl, upd_same, rfl, ?_⟩
      refine ⟨i + 1, z, some (.int z), rfl, upd_same, ?_, hz, ?_⟩
      · rw [upd_ne hta, upd_ne hta]
        exact ha
      · exact Smt.upd.trans Smt.upd
    · exact ⟨i, c, none, rfl, ht, ha, hc, Smt.refl _ _⟩
  rintro σ' H' ⟨i', c', y, rfl, ht', ha', hc', sm⟩
  refine ⟨_, rfl, t, _, 2, _, rfl, rfl, SqL.of ht', rfl, _, rfl, _, _, rfl, rfl, hm, ?_⟩
  refine ⟨_, rfl, t, _, 2, _, rfl, rfl, SqL.of ht', rfl, _, rfl, _, _, rfl, rfl, wide_div (b := 100) hm (by omega) (by decide) (by decide), _, rfl, t, _, 2, 2, rfl, rfl, ht', rfl, ?_⟩
  refine ⟨_, rfl, q _ _ (Int.emod_nonneg _ (by omega)) (Int.emod_lt_of_pos _ hm) ⟨ns, i', c' / many, upd_same, ?_, ?_⟩ (sm.trans Smt.upd)⟩
  · rw [upd_ne hta]
    exact ha'
  · exact Int.ediv_nonneg hc' (by omega)
/-! def _law_like -/
abbrev s__law_like : Stmt := topS 8
theorem sc__law_like : FnScope ["one", "two", "k"] ["one", "two"] (defScope s__law_like) := ⟨rfl, rfl, rfl, by decide +kernel, rfl, by decide +kernel, by decide +kernel⟩
/-- the same data on both sides: the answer is True -/
def spLike (K : PySem.W.Frag) (n : Nat) : Sp := fun vs H Q _ => ∃ (x y : V) (d : PyData), vs = [x, y] ∧ Dp K H x d ∧ Dp K H y d ∧ Fit n d ∧ ∀ H', Same H H' → Q (.bl true) H'
theorem like_none {f : Addr} {fd : FuncData} : FnOk P w K mg base CX0 0 f fd ["one", "two"] (spLike K 0) := by
  have no : ∀ vs H Q E, ¬ spLike K 0 vs H Q E := fun vs H Q E h => by
    obtain ⟨x, y, d, _, _, _, h1, _⟩ := h
    exact h1.elim
  exact ⟨fun vs H Q E h => absurd h (no vs H Q E), fun A outer s H args us vs Q E _ _ _ _ h => absurd h (no vs H Q E)⟩
theorem cls2 {a b : String} : Paired ClsV [.ty a, .ty b] [.type a, .type b] := .cons (.ty a) (.cons (.ty b) .nil)
theorem like_step {n : Nat} {f : Addr} {fd : FuncData} (T : Bl mg) (D__law_like : FnAt K mg "_law_like" "_law_like" s__law_like ["one", "two"] f fd) (G__law_like : FnOk P w K mg base CX0 n f fd ["one", "two"] (spLike K n)) : FnOk P w K mg base CX0 (n + 1) f fd ["one", "two"] (spLike K (n + 1)) := by
  refine D__law_like.F.ok sc__law_like (fun vs H Q E h => ?_) (fun cdv A outer s H vs Q E hr h => ?_)
  · obtain ⟨x, y, d, rfl, _⟩ := h
    rfl
  obtain ⟨x, y, d, rfl, hx, hy, hfit, q⟩ := h
  refine ⟨_, (pss_cons (ps_if (pt_val (pe_callB (isiTK K) rfl T.isinstance (by decide +kernel) (pa_cons (pv 0) (pa_cons (pe_tup (pa_cons (pe_bltn (v := .ty "list") (u := .type "list") rfl T.list (by decide +kernel) rfl) (pa_cons (pe_bltn (v := .ty "tuple") (u := .type "tuple") rfl T.tuple (by decide +kernel) rfl) pa_nil))) pa_nil)))) (pss_cons (ps_if (PW.pt (pw_or (pt_cmpR op_ne (pe_callB (isiK K) rfl T.isinstance (by decide +kernel) (pa_cons (pv 0) (pa_cons (pe_bltn (v := .ty "list") (u := .type "list") rfl T.list (by decide +kernel) rfl) pa_nil))) (pe_callB (isiK K) rfl T.isinstance (by decide +kernel) (pa_cons (pv 1) (pa_cons (pe_bltn (v := .ty "list") (u := .type "list") rfl T.list (by decide +kernel) rfl) pa_nil))) (nomark _)) (pw_or1 (pt_cmpR op_ne (pe_callB (isiK K) rfl T.isinstance (by decide +kernel) (pa_cons (pv 0) (pa_cons (pe_bltn (v := .ty "tuple") (u := .type "tuple") rfl T.tuple (by decide +kernel) rfl) pa_nil))) (pe_callB (isiK K) rfl T.isinstance (by decide +kernel) (pa_cons (pv 1) (pa_cons (pe_bltn (v := .ty "tuple") (u := .type "tuple") rfl T.tuple (by decide +kernel) rfl) pa_nil))) (nomark _))))) (pss_one (ps_ret pe_bl)) pss_nil)
  (pss_cons (ps_if (pt_cmpR op_ne (pe_callB (lenK K) rfl T.len (by decide +kernel) (pa_cons (pv 0) pa_nil)) (pe_callB (lenK K) rfl T.len (by decide +kernel) (pa_cons (pv 1) pa_nil)) (nomark _)) (pss_one (ps_ret pe_bl)) pss_nil)
  (pss_one (ps_ret (pe_cmpR (eqDK K hr.units) (pe_lc (own := [("k", 2)]) rfl sc__law_like.nd (pi_range1 rfl T.range (pa_cons (pe_callB (lenK K) rfl T.len (by decide +kernel) (pa_cons (pv 0) pa_nil)) pa_nil)) (blkOk_by (N := ["one", "two", "k"]) (sc := defScope s__law_like) (own := [("k", 2)]) (by decide +kernel)) (fun _ _ _ _ _ => (pg_name (i := 2) sc__law_like.nd rfl (.inl rfl))) (fun _ _ _ _ _ => (pts_one (pt_not (pt_val (pe_call G__law_like hr rfl D__law_like.g D__law_like.F.kp D__law_like.b .nil pass0 (pa_cons (pe_ix (ixA K) (pv 0) (pv 2) (fun _ _ => rfl)) (pa_cons (pe_ix (ixA K) (pv 1) (pv 2) (fun _ _ => rfl)) pa_nil))))))) (fun _ _ _ _ _ => (pv 2))) (pe_lst pa_nil) (nomark _)))))) pss_nil)
  (pss_cons (ps_if (pt_val (pe_callB (isiTK K) rfl T.isinstance (by decide +kernel) (pa_cons (pv 1) (pa_cons (pe_tup (pa_cons (pe_bltn (v := .ty "list") (u := .type "list") rfl T.list (by decide +kernel) rfl) (pa_cons (pe_bltn (v := .ty "tuple") (u := .type "tuple") rfl T.tuple (by decide +kernel) rfl) pa_nil))) pa_nil)))) (pss_one (ps_ret pe_bl)) pss_nil)
  (pss_one (ps_ret (pe_and (pe_cmpR op_eq (pe_callB (isiK K) rfl T.isinstance (by decide +kernel) (pa_cons (pv 0) (pa_cons (pe_bltn (v := .ty "bool") (u := .type "bool") rfl T.bool (by decide +kernel) rfl) pa_nil))) (pe_callB (isiK K) rfl T.isinstance (by decide +kernel) (pa_cons (pv 1) (pa_cons (pe_bltn (v := .ty "bool") (u := .type "bool") rfl T.bool (by decide +kernel) rfl) pa_nil))) (nomark _)) (pe_one (pe_cmpR op_eq (pv 0) (pv 1) (nomark _)))))))), ?_⟩
  -- isinstance(one, (list, tuple))
  refine ⟨_, rfl, by show 2 ≤ sizeLine; decide, fun tp ntp => ?_⟩
  have s0 : Same H (upd H tp (.tup [.ty "list", .ty "tuple"])) := Same.new ntp
  refine ⟨x, tp, _, _, _, _, rfl, upd_same, cls2, dp_ty (hx.same s0), kit_lt d, _, rfl, if_b (fun hq => ?_) (fun hq => ?_)⟩
  · -- lists, tuples
    have hx0 := hx.same s0
    have hy0 := hy.same s0
    refine ⟨_, rfl, x, _, _, _, _, rfl, .ty _, dp_ty hx0, kit_d d (by simp), _, rfl, y, _, _, _, _, rfl, .ty _, dp_ty hy0, kit_d d (by simp), rfl, _, rfl, ?_⟩
    refine if_f (by rw [decide_eq_true rfl]; rfl) ?_
    refine ⟨_, rfl, x, _, _, _, _, rfl, .ty _, dp_ty hx0, kit_d d (by simp), _, rfl, y, _, _, _, _, rfl, .ty _, dp_ty hy0, kit_d d (by simp), rfl, _, rfl, ?_⟩
    refine if_f (by rw [decide_eq_true rfl]; rfl) ?_
    have both : ∃ (a b : Addr) (xs ys : List V) (ds : List PyData) (tp1 : Bool), x = .ref a ∧ y = .ref b ∧ SqB K tp1 (upd H tp (.tup [.ty "list", .ty "tuple"])) a xs ∧ SqB K tp1 (upd H tp (.tup [.ty "list", .ty "tuple"])) b ys ∧ DpAll K (upd H tp (.tup [.ty "list", .ty "tuple"])) xs ds ∧ DpAll K (upd H tp (.tup [.ty "list", .ty "tuple"])) ys ds ∧ ds.length ≤ 1000 ∧ ∀ d ∈ ds, Fit n d := by
      cases hx0 with
      | lst h1 a1 =>
        cases hy0 with
        | lst h2 a2 =>
          exact ⟨_, _, _, _, _, false, rfl, rfl, h1, h2, a1, a2, hfit.1, hfit.2⟩
      | tup h1 a1 =>
        cases hy0 with
        | tup h2 a2 =>
          exact ⟨_, _, _, _, _, true, rfl, rfl, h1, h2, a1, a2, hfit.1, hfit.2⟩
      | _ => cases hq
    obtain ⟨a, b, xs, ys, ds, tp1, rfl, rfl, hA, hB, dA, dB, hsz, hall⟩ := both
    have lA := dpall_len dA
    have lB := dpall_len dB
    -- len(one) != len(two)
    refine ⟨_, rfl, a, xs, rfl, sqb_or hA, _, rfl, b, ys, rfl, sqb_or hB, rfl, _, rfl, ?_⟩
    refine if_f (by rw [lA, lB, decide_eq_true rfl]; rfl) ?_
    refine ⟨_, rfl, a, xs, rfl, sqb_or hA, _, rfl, by omega, by omega, fun D hD => ?_⟩
    have en : ((xs.length : Nat) : Int).toNat = xs.length := Int.toNat_natCast _
    rw [en]
    refine lc_ints walk_range hD (by omega) (fun _ => none) (fun _ _ => trivial) (fun i v H1 H' kn ky hi sm y h1 h2 => ?_) (fun H1 sm e => ?_)
    · obtain ⟨rfl, rfl⟩ := y
      have e0 : (0 : Int) + (i : Int) = (i : Int) := Int.zero_add _
      have hid : ds[i]? = some ds[i] := List.getElem?_eq_getElem (by omega)
      obtain ⟨u, hu, du⟩ := dpall_get dA hid
      obtain ⟨v, hv, dv⟩ := dpall_get dB hid
      refine ⟨rfl, _, rfl, _, rfl, ix_b (sm.sqb hA) (at_of e0 hu) ⟨_, rfl, _, rfl, ix_b (sm.sqb hB) (at_of e0 hv) ⟨u, v, ds[i], rfl, du.same sm, dv.same sm, hall _ (List.getElem_mem _), fun H2 s2 => ⟨_, rfl, if_f rfl (h1 _ s2 rfl)⟩⟩⟩⟩
    · have e1 : (List.range xs.length).filterMap (fun _ => (none : Option Int)) = [] := by simp
      rw [e1] at e
      refine ⟨Nat.zero_le _, fun c nc => ?_⟩
      have s3 : Same H1 (upd H1 c (.lst [])) := Same.new nc
      refine ⟨.list (di []), .list (di []), dp_list (s3.seq (SqL.of e)), dp_list (SqL.of upd_same), shaped_ints _, shaped_ints _, ?_⟩
      rw [eqv_lists, decide_eq_true rfl]
      exact q _ ((s0.trans sm).trans s3)
  · -- none of these
    have hx0 := hx.same s0
    have hy0 := hy.same s0
    refine ⟨_, rfl, by show 2 ≤ sizeLine; decide, fun tp2 ntp2 => ?_⟩
    have s1 : Same (upd H tp (.tup [.ty "list", .ty "tuple"])) (upd (upd H tp (.tup [.ty "list", .ty "tuple"])) tp2 (.tup [.ty "list", .ty "tuple"])) := Same.new ntp2
    refine ⟨y, tp2, _, _, _, _, rfl, upd_same, cls2, dp_ty (hy0.same s1), kit_lt d, _, rfl, if_f hq ?_⟩
    refine ⟨_, rfl, x, _, _, _, _, rfl, .ty _, dp_ty (hx0.same s1), kit_d d (by simp), _, rfl, y, _, _, _, _, rfl, .ty _, dp_ty (hy0.same s1), kit_d d (by simp), rfl, _, rfl, ?_⟩
    refine if_t (decide_eq_true rfl) ⟨_, rfl, _, rfl, ?_⟩
    have e : x = y ∧ scal x y = true := by
      cases hx <;> cases hy <;> first | exact ⟨rfl, rfl⟩ | cases hq
    obtain ⟨rfl, hs⟩ := e
    refine ⟨hs, ?_⟩
    rw [decide_eq_true rfl]
    exact q _ (s0.trans s1)
theorem ok__law_like {f : Addr} {fd : FuncData} (T : Bl mg) (D : FnAt K mg "_law_like" "_law_like" s__law_like ["one", "two"] f fd) : ∀ n : Nat, FnOk P w K mg base CX0 n f fd ["one", "two"] (spLike K n)
  | 0 => like_none
  | n + 1 => like_step T D (ok__law_like T D n)
/-! def _law_candles -/
abbrev s__law_candles : Stmt := topS 9
theorem sc__law_candles : FnScope ["tape", "size", "wax", "top", "k"] ["tape", "size", "wax"] (defScope s__law_candles) := ⟨rfl, rfl, rfl, by decide +kernel, rfl, by decide +kernel, by decide +kernel⟩
def CandOk (size wax : Int) (cs : List Int) : Prop := 1 ≤ cs.length ∧ (cs.length : Int) ≤ size ∧ ∀ c ∈ cs, 0 ≤ c ∧ c ≤ wax
def spLCand : Sp := fun vs H Q _ => ∃ (t a : Addr) (size wax : Int), vs = [.ref t, .int size, .int wax] ∧ TapeAt H t a ∧ 0 < size ∧ size ≤ 100 ∧ 0 < wax ∧ wax ≤ 100 ∧
  ∀ (p : Addr) (cs : List Int) (H' : Hp), CandOk size wax cs → TapeAt H' t a → Smt t H H' → H p = none → H' p = some (.tup (vi cs)) → Q (.ref p) H'
theorem all_snoc {P : Int → Prop} {zs : List Int} {z : Int} (h : ∀ c ∈ zs, P c) (hz : P z) : ∀ c ∈ zs ++ [z], P c := fun c hc => by
  rcases List.mem_append.mp hc with q | q
  · exact h c q
  · rw [List.mem_singleton.mp q]
    exact hz
theorem ok__law_candles {f fD : Addr} {fd fdD : FuncData} (T : Bl mg) (F : Fun K "_law_candles" "_law_candles" s__law_candles f fd) (D__law_draw : FnAt K mg "_law_draw" "_law_draw" s__law_draw ["tape", "many"] fD fdD) : FnOk P w K mg base CX0 2 f fd ["tape", "size", "wax"] spLCand := by
  have G__law_draw : FnOk P w K mg base CX0 1 fD fdD ["tape", "many"] spDraw := ok__law_draw T D__law_draw.F
  refine F.ok sc__law_candles (fun vs H Q E h => ?_) (fun cdv A outer s H vs Q E hr h => ?_)
  · obtain ⟨t, a, size, wax, rfl, _⟩ := h
    rfl
  obtain ⟨t, a, size, wax, rfl, hT, hs0, hs1, hw0, hw1, q⟩ := h
  refine ⟨_, (pss_cons (ps_set (i := 3) sc__law_candles.nd rfl (.inr rfl) (pe_op op_add pe_int (pe_call G__law_draw hr rfl D__law_draw.g D__law_draw.F.kp D__law_draw.b .nil pass0 (pa_cons (pv 0) (pa_cons (pv 2) pa_nil)))))
  (pss_one (ps_ret (pe_callTy (tupleK K) rfl T.tuple (by decide +kernel) (pa_cons (pe_lc (own := [("k", 4)]) rfl sc__law_candles.nd (pi_range1 rfl T.range (pa_cons (pe_op op_add pe_int (pe_call G__law_draw hr rfl D__law_draw.g D__law_draw.F.kp D__law_draw.b .nil pass0 (pa_cons (pv 0) (pa_cons (pv 1) pa_nil)))) pa_nil)) (blkOk_by (N := ["tape", "size", "wax", "top", "k"]) (sc := defScope s__law_candles) (own := [("k", 4)]) (by decide +kernel)) (fun _ _ _ _ _ => (pg_name (i := 4) sc__law_candles.nd rfl (.inl rfl))) (fun _ _ _ _ _ => pts_nil) (fun _ _ _ _ _ => (pe_call G__law_draw hr rfl D__law_draw.g D__law_draw.F.kp D__law_draw.b .nil pass0 (pa_cons (pv 0) (pa_cons (pe_op op_add (pv 3) pe_int) pa_nil))))) pa_nil))))), ?_⟩
  refine ⟨_, rfl, _, rfl, t, a, wax, rfl, hT, hw0, by omega, fun r H1 r0 r1 hT1 s1 => ⟨_, _, rfl, rfl, ?_⟩⟩
  refine ⟨_, rfl, _, rfl, t, a, size, rfl, hT1, hs0, by omega, fun r' H2 q0 q1 hT2 s2 => ⟨_, _, rfl, rfl, _, rfl, by omega, by omega, fun D hD => ?_⟩⟩
  refine lc_tape walk_range hT2 hD (by omega) (fun i zs => zs.length = i ∧ ∀ c ∈ zs, 0 ≤ c ∧ c ≤ wax) ⟨rfl, fun c hc => nomatch hc⟩ (fun i zs h => Nat.le_of_eq h.1) (fun _ _ => trivial) (fun i x H3 H' zs kn ky hi sm hT3 hI y h1 h2 => ?_) (fun zs H3 sm hT3 e hI => ?_)
  · obtain ⟨rfl, rfl⟩ := y
    refine ⟨rfl, lc_yes ⟨_, rfl, _, rfl, _, _, rfl, rfl, t, a, 1 + r + 1, rfl, hT3, by omega, by omega, fun z H4 z0 z1 hT4 s4 => h2 z H4 s4 hT4 ⟨?_, all_snoc hI.2 ⟨z0, by omega⟩⟩⟩⟩
    rw [List.length_append, hI.1]
    rfl
  · refine ⟨D, _, rfl, .inl ⟨SqL.of e, fun l hl => ?_⟩⟩
    have hn : zs.length = (1 + r').toNat := hI.1
    have sm' := (s1.trans s2).trans sm
    have hlt : l ≠ t := fun z => hT3.ne_none hl z.symm
    exact q l zs _ ⟨by omega, by omega, hI.2⟩ (hT3.upd hl) (sm'.trans (Smt.of (Same.new hl))) (sm'.free hl hlt) upd_same
/-! def _law_draughts -/
abbrev s__law_draughts : Stmt := topS 10
theorem sc__law_draughts : FnScope ["tape", "size", "top", "wide", "k"] ["tape", "size", "top"] (defScope s__law_draughts) := ⟨rfl, rfl, rfl, by decide +kernel, rfl, by decide +kernel, by decide +kernel⟩
def DrOk (size top : Int) (ds : List Int) : Prop := (ds.length : Int) ≤ size ∧ ∀ c ∈ ds, 0 ≤ c ∧ c ≤ top
def spLDr : Sp := fun vs H Q _ => ∃ (t a : Addr) (size top : Int), vs = [.ref t, .int size, .int top] ∧ TapeAt H t a ∧ 0 ≤ size ∧ size ≤ 100 ∧ 0 ≤ top ∧ top ≤ 100 ∧
  ∀ (p : Addr) (ds : List Int) (H' : Hp), DrOk size top ds → TapeAt H' t a → Smt t H H' → H p = none → H' p = some (.tup (vi ds)) → Q (.ref p) H'
theorem ok__law_draughts {f fD : Addr} {fd fdD : FuncData} (T : Bl mg) (F : Fun K "_law_draughts" "_law_draughts" s__law_draughts f fd) (D__law_draw : FnAt K mg "_law_draw" "_law_draw" s__law_draw ["tape", "many"] fD fdD) : FnOk P w K mg base CX0 2 f fd ["tape", "size", "top"] spLDr := by
  have G__law_draw : FnOk P w K mg base CX0 1 fD fdD ["tape", "many"] spDraw := ok__law_draw T D__law_draw.F
  refine F.ok sc__law_draughts (fun vs H Q E h => ?_) (fun cdv A outer s H vs Q E hr h => ?_)
  · obtain ⟨t, a, size, top, rfl, _⟩ := h
    rfl
  obtain ⟨t, a, size, top, rfl, hT, hs0, hs1, hw0, hw1, q⟩ := h
  refine ⟨_, (pss_cons (ps_set (i := 3) sc__law_draughts.nd rfl (.inr rfl) (pe_call G__law_draw hr rfl D__law_draw.g D__law_draw.F.kp D__law_draw.b .nil pass0 (pa_cons (pv 0) (pa_cons (pe_op op_add (pv 2) pe_int) pa_nil))))
  (pss_one (ps_ret (pe_callTy (tupleK K) rfl T.tuple (by decide +kernel) (pa_cons (pe_lc (own := [("k", 4)]) rfl sc__law_draughts.nd (pi_range1 rfl T.range (pa_cons (pe_call G__law_draw hr rfl D__law_draw.g D__law_draw.F.kp D__law_draw.b .nil pass0 (pa_cons (pv 0) (pa_cons (pe_op op_add (pv 1) pe_int) pa_nil))) pa_nil)) (blkOk_by (N := ["tape", "size", "top", "wide", "k"]) (sc := defScope s__law_draughts) (own := [("k", 4)]) (by decide +kernel)) (fun _ _ _ _ _ => (pg_name (i := 4) sc__law_draughts.nd rfl (.inl rfl))) (fun _ _ _ _ _ => pts_nil) (fun _ _ _ _ _ => (pe_call G__law_draw hr rfl D__law_draw.g D__law_draw.F.kp D__law_draw.b .nil pass0 (pa_cons (pv 0) (pa_cons (pe_op op_add (pv 3) pe_int) pa_nil))))) pa_nil))))), ?_⟩
  refine ⟨_, rfl, _, rfl, _, _, rfl, rfl, t, a, top + 1, rfl, hT, by omega, by omega, fun r H1 r0 r1 hT1 s1 => ?_⟩
  refine ⟨_, rfl, _, rfl, _, _, rfl, rfl, t, a, size + 1, rfl, hT1, by omega, by omega, fun r' H2 q0 q1 hT2 s2 => ⟨_, rfl, by omega, by omega, fun D hD => ?_⟩⟩
  refine lc_tape walk_range hT2 hD (by omega) (fun i zs => zs.length = i ∧ ∀ c ∈ zs, 0 ≤ c ∧ c ≤ top) ⟨rfl, fun c hc => nomatch hc⟩ (fun i zs h => Nat.le_of_eq h.1) (fun _ _ => trivial) (fun i x H3 H' zs kn ky hi sm hT3 hI y h1 h2 => ?_) (fun zs H3 sm hT3 e hI => ?_)
  · obtain ⟨rfl, rfl⟩ := y
    refine ⟨rfl, lc_yes ⟨_, rfl, _, rfl, _, _, rfl, rfl, t, a, r + 1, rfl, hT3, by omega, by omega, fun z H4 z0 z1 hT4 s4 => h2 z H4 s4 hT4 ⟨?_, all_snoc hI.2 ⟨z0, by omega⟩⟩⟩⟩
    rw [List.length_append, hI.1]
    rfl
  · refine ⟨D, _, rfl, .inl ⟨SqL.of e, fun l hl => ?_⟩⟩
    have hn : zs.length = r'.toNat := hI.1
    have sm' := (s1.trans s2).trans sm
    have hlt : l ≠ t := fun z => hT3.ne_none hl z.symm
    exact q l zs _ ⟨by omega, hI.2⟩ (hT3.upd hl) (sm'.trans (Smt.of (Same.new hl))) (sm'.free hl hlt) upd_same
/-! def _law_near -/
abbrev s__law_near : Stmt := topS 11
theorem sc__law_near : FnScope ["tape", "candles", "size", "top", "found", "left", "k", "draught"] ["tape", "candles", "size", "top"] (defScope s__law_near) := ⟨rfl, rfl, rfl, by decide +kernel, rfl, by decide +kernel, by decide +kernel⟩
def spNear (K : PySem.W.Frag) : Sp := fun vs H Q _ => ∃ (t a c : Addr) (cs : List Int) (size top : Int), vs = [.ref t, .ref c, .int size, .int top] ∧ TapeAt H t a ∧ SqT K H c (vi cs) ∧ 0 ≤ size ∧ size ≤ 100 ∧ 0 ≤ top ∧ top ≤ 100 ∧
  ∀ (p : Addr) (ds : List Int) (H' : Hp), DrOk size top ds → TapeAt H' t a → Smt t H H' → H p = none → H' p = some (.tup (vi ds)) → Q (.ref p) H'
theorem ok__law_near {f fD : Addr} {fd fdD : FuncData} (T : Bl mg) (F : Fun K "_law_near" "_law_near" s__law_near f fd) (D__law_draw : FnAt K mg "_law_draw" "_law_draw" s__law_draw ["tape", "many"] fD fdD) : FnOk P w K mg base CX0 2 f fd ["tape", "candles", "size", "top"] (spNear K) := by
  have G__law_draw : FnOk P w K mg base CX0 1 fD fdD ["tape", "many"] spDraw := ok__law_draw T D__law_draw.F
  refine F.ok sc__law_near (fun vs H Q E h => ?_) (fun cdv A outer s H vs Q E hr h => ?_)
  · obtain ⟨t, a, c, cs, size, top, rfl, _⟩ := h
    rfl
  obtain ⟨t, a, c, cs, size, top, rfl, hT, hC, hs0, hs1, hw0, hw1, q⟩ := h
  refine ⟨_, (pss_cons (ps_par (i := 4) (j := 5) rfl sc__law_near.nd rfl rfl (by decide) rfl rfl (pa_cons (pe_lst pa_nil) (pa_cons (pe_op op_sub (pe_op op_add (pe_callB (sumTK K) rfl T.sum (by decide +kernel) (pa_cons (pv 1) pa_nil)) (pe_call G__law_draw hr rfl D__law_draw.g D__law_draw.F.kp D__law_draw.b .nil pass0 (pa_cons (pv 0) (pa_cons pe_int pa_nil)))) pe_int) pa_nil)) (by rfl))
  (pss_cons (ps_for PassesOwn.never rfl (pi_range1 rfl T.range (pa_cons (pv 2) pa_nil)) (pg_name (i := 6) sc__law_near.nd rfl (.inl rfl)) (pss_cons (ps_set (i := 7) sc__law_near.nd rfl (.inl rfl) (pe_callB (call_min2 rfl) rfl T.min (by decide +kernel) (pa_cons (pe_call G__law_draw hr rfl D__law_draw.g D__law_draw.F.kp D__law_draw.b .nil pass0 (pa_cons (pv 0) (pa_cons (pe_op op_add (pv 3) pe_int) pa_nil))) (pa_cons (pe_callB (call_max2 rfl) rfl T.max (by decide +kernel) (pa_cons pe_int (pa_cons (pe_op op_sub (pe_callB (lenK K) rfl T.len (by decide +kernel) (pa_cons (pv 1) pa_nil)) pe_int) pa_nil))) pa_nil))))
  (pss_one (ps_if (pt_cmpR op_le (pe_op op_add (pv 7) pe_int) (pv 5) (nomark _)) (pss_cons (ps_expr (pe_bm PySem.F.plainAttrs_list PySem.F.slot_list_append PySem.F.type_list_append mt_append (pv 4) (pa_cons (pv 7) pa_nil)))
  (pss_one (ps_set (i := 5) sc__law_near.nd rfl (.inl rfl) (pe_op op_sub (pe_op op_sub (pv 5) (pv 7)) pe_int)))) pss_nil))))
  (pss_one (ps_ret (pe_callTy (tupleK K) rfl T.tuple (by decide +kernel) (pa_cons (pv 4) pa_nil)))))), ?_⟩
  -- found, left = [], sum(candles) + draw - 1
  refine ⟨Nat.zero_le _, fun l hl => ?_⟩
  have s0 : Same H (upd H l (.lst [])) := Same.new hl
  have hT0 := hT.same s0
  have hlt : l ≠ t := fun z => hT.ne_none hl z.symm
  have hla : l ≠ a := fun z => hT.ne_none2 hl z.symm
  refine ⟨_, rfl, c, cs, rfl, s0.sqt hC, _, rfl, t, a, 4, rfl, hT0, by omega, by omega, fun r H1 r0 r1 hT1 s1 => ⟨_, _, rfl, rfl, _, _, rfl, rfl, _, _, rfl, ?_⟩⟩
  have hL1 : H1 l = some (.lst (vi [])) := s1 _ _ upd_same hlt
  have sm1 : Smt t H H1 := (Smt.of s0).trans s1
  -- the loop
  refine ⟨_, rfl, size, rfl, by omega, by omega, for_range (lo := 0) (n := size.toNat) (fun i σ H' => ∃ (zs : List Int) (left : Int) (y1 y2 : Option V), σ = [some (.ref t), some (.ref c), some (.int size), some (.int top), some (.ref l), some (.int left), y1, y2] ∧
    zs.length ≤ i ∧ (∀ z ∈ zs, 0 ≤ z ∧ z ≤ top) ∧ H' l = some (.lst (vi zs)) ∧ TapeAt H' t a ∧ Smt t H H') ⟨[], _, none, none, rfl, Nat.le_refl _, (fun z hz => nomatch hz), hL1, hT1, sm1⟩ (fun i σ H2 hi hW => ?_) (fun σ H2 hW => ?_)⟩
  · obtain ⟨zs, left, y1, y2, rfl, hzl, hz, hL, hT2, sm⟩ := hW
    have hC2 : SqT K H2 c (vi cs) := sm.sqt hT hC
    -- draught = min(draw(top + 1), max(0, len(candles) - 1))
    refine ⟨_, rfl, _, rfl, _, _, rfl, rfl, t, a, top + 1, rfl, hT2, by omega, by omega, fun r' H3 q0 q1 hT3 s3 => ⟨_, rfl, c, vi cs, rfl, .inr (s3.sqt hT2 hC2), _, _, rfl, rfl, _, _, rfl, _, _, rfl, ?_⟩⟩
    have hd : ∃ d : Int, (if (if (((vi cs).length : Nat) : Int) - 1 > 0 then (((vi cs).length : Nat) : Int) - 1 else 0) < r' then (if (((vi cs).length : Nat) : Int) - 1 > 0 then (((vi cs).length : Nat) : Int) - 1 else 0) else r') = d ∧ 0 ≤ d ∧ d ≤ top := by
      by_cases e1 : (((vi cs).length : Nat) : Int) - 1 > 0
      · rw [if_pos e1]
        by_cases e2 : (((vi cs).length : Nat) : Int) - 1 < r'
        · exact ⟨_, if_pos e2, by omega, by omega⟩
        · exact ⟨_, if_neg e2, by omega, by omega⟩
      · rw [if_neg e1]
        by_cases e2 : (0 : Int) < r'
        · exact ⟨_, if_pos e2, by omega, by omega⟩
        · exact ⟨_, if_neg e2, by omega, by omega⟩
    obtain ⟨d, ed, d0, d1⟩ := hd
    rw [ed]
    have hL3 : H3 l = some (.lst (vi zs)) := s3 _ _ hL hlt
    have sm3 : Smt t H H3 := sm.trans s3
    refine ⟨_, rfl, _, _, rfl, rfl, _, rfl, _, _, rfl, rfl, _, rfl, if_b (fun _ => ?_) (fun _ => ?_)⟩
    · refine ⟨_, rfl, .inl ⟨rfl, _, SqL.of hL3⟩, _, rfl, l, _, _, rfl, rfl, hL3, ?_, _, rfl, _, rfl, _, _, rfl, rfl, _, _, rfl, rfl, zs ++ [d], _, _, _, rfl, ?_, all_snoc hz ⟨d0, d1⟩, ?_, hT3.but Smt.upd hlt.symm hla.symm, sm3.new hl⟩
      · rw [vi_len]
        exact small1000 (by omega)
      · rw [List.length_append]
        exact Nat.succ_le_succ hzl
      · rw [vi_snoc]
        exact upd_same
    · exact ⟨zs, left, _, _, rfl, Nat.le_succ_of_le hzl, hz, hL3, hT3, sm3⟩
  · obtain ⟨zs, left, y1, y2, rfl, hzl, hz, hL, hT2, sm⟩ := hW
    refine ⟨_, rfl, l, _, rfl, .inl ⟨SqL.of hL, fun p hp => ?_⟩⟩
    have hpt : p ≠ t := fun z => hT2.ne_none hp z.symm
    exact q p zs _ ⟨by omega, hz⟩ (hT2.upd hp) (sm.trans (Smt.of (Same.new hp))) (sm.free hp hpt) upd_same
/-! def _law_night -/
abbrev s__law_night : Stmt := topS 12
theorem sc__law_night : FnScope ["tape", "size", "wax", "ticks", "top", "candles"] ["tape", "size", "wax", "ticks", "top"] (defScope s__law_night) := ⟨rfl, rfl, rfl, by decide +kernel, rfl, by decide +kernel, by decide +kernel⟩
def spNight : Sp := fun vs H Q _ => ∃ (t a : Addr) (size wax ticks top : Int), vs = [.ref t, .int size, .int wax, .int ticks, .int top] ∧ TapeAt H t a ∧ 0 < size ∧ size ≤ 100 ∧ 0 < wax ∧ wax ≤ 100 ∧ 0 ≤ ticks ∧ ticks ≤ 100 ∧ 0 ≤ top ∧ top ≤ 100 ∧
  ∀ (p b c : Addr) (cs ds : List Int) (H' : Hp), CandOk size wax cs → DrOk ticks top ds → TapeAt H' t a → Smt t H H' → H' p = some (.tup [.ref b, .ref c]) → H' b = some (.tup (vi cs)) → H' c = some (.tup (vi ds)) → Q (.ref p) H'
theorem ok__law_night {f fD fC fR fN : Addr} {fd fdD fdC fdR fdN : FuncData} (T : Bl mg) (F : Fun K "_law_night" "_law_night" s__law_night f fd) (D__law_draw : FnAt K mg "_law_draw" "_law_draw" s__law_draw ["tape", "many"] fD fdD)
    (D__law_candles : FnAt K mg "_law_candles" "_law_candles" s__law_candles ["tape", "size", "wax"] fC fdC) (D__law_draughts : FnAt K mg "_law_draughts" "_law_draughts" s__law_draughts ["tape", "size", "top"] fR fdR) (D__law_near : FnAt K mg "_law_near" "_law_near" s__law_near ["tape", "candles", "size", "top"] fN fdN) :
    FnOk P w K mg base CX0 3 f fd ["tape", "size", "wax", "ticks", "top"] spNight := by
  have G__law_draw : FnOk P w K mg base CX0 2 fD fdD ["tape", "many"] spDraw := (ok__law_draw T D__law_draw.F).mono (by decide)
  have G__law_candles : FnOk P w K mg base CX0 2 fC fdC ["tape", "size", "wax"] spLCand := ok__law_candles T D__law_candles.F D__law_draw
  have G__law_draughts : FnOk P w K mg base CX0 2 fR fdR ["tape", "size", "top"] spLDr := ok__law_draughts T D__law_draughts.F D__law_draw
  have G__law_near : FnOk P w K mg base CX0 2 fN fdN ["tape", "candles", "size", "top"] (spNear K) := ok__law_near T D__law_near.F D__law_draw
  refine F.ok sc__law_night (fun vs H Q E h => ?_) (fun cdv A outer s H vs Q E hr h => ?_)
  · obtain ⟨t, a, size, wax, ticks, top, rfl, _⟩ := h
    rfl
  obtain ⟨t, a, size, wax, ticks, top, rfl, hT, hs0, hs1, hw0, hw1, ht0, ht1, hp0, hp1, q⟩ := h
  refine ⟨_, (pss_cons (ps_set (i := 5) sc__law_night.nd rfl (.inl rfl) (pe_call G__law_candles hr rfl D__law_candles.g D__law_candles.F.kp D__law_candles.b .nil pass0 (pa_cons (pv 0) (pa_cons (pv 1) (pa_cons (pv 2) pa_nil)))))
  (pss_cons (ps_if (pt_cmpR op_eq (pe_call G__law_draw hr rfl D__law_draw.g D__law_draw.F.kp D__law_draw.b .nil pass0 (pa_cons (pv 0) (pa_cons pe_int pa_nil))) pe_int (nomark _)) (pss_one (ps_ret (pe_tup (pa_cons (pv 5) (pa_cons (pe_call G__law_draughts hr rfl D__law_draughts.g D__law_draughts.F.kp D__law_draughts.b .nil pass0 (pa_cons (pv 0) (pa_cons (pv 3) (pa_cons (pv 4) pa_nil)))) pa_nil))))) pss_nil)
  (pss_one (ps_ret (pe_tup (pa_cons (pv 5) (pa_cons (pe_call G__law_near hr rfl D__law_near.g D__law_near.F.kp D__law_near.b .nil pass0 (pa_cons (pv 0) (pa_cons (pv 5) (pa_cons (pv 3) (pa_cons (pv 4) pa_nil))))) pa_nil))))))), ?_⟩
  refine ⟨_, rfl, _, rfl, _, rfl, t, a, size, wax, rfl, hT, hs0, hs1, hw0, hw1, fun b cs H1 hcs hT1 s1 _ hb => ?_⟩
  refine ⟨_, rfl, t, a, 3, rfl, hT1, by omega, by omega, fun r H2 r0 r1 hT2 s2 => ⟨rfl, _, rfl, if_b (fun _ => ?_) (fun _ => ?_)⟩⟩
  · have hb2 := s2.tup hT1 hb
    refine ⟨_, rfl, _, rfl, _, rfl, _, rfl, t, a, ticks, top, rfl, hT2, ht0, ht1, hp0, hp1, fun c ds H3 hds hT3 s3 _ hc => ⟨by show 2 ≤ sizeLine; decide, fun p hp => ?_⟩⟩
    have hb3 := s3.tup hT2 hb2
    have sn : Same H3 (upd H3 p (.tup [.ref b, .ref c])) := Same.new hp
    exact q p b c cs ds _ hcs hds (hT3.same sn) (((s1.trans s2).trans s3).trans (Smt.of sn)) upd_same (sn _ _ hb3) (sn _ _ hc)
  · have hb2 := s2.tup hT1 hb
    refine ⟨_, rfl, _, rfl, _, rfl, _, rfl, _, rfl, t, a, b, cs, ticks, top, rfl, hT2, SqT.of hb2, ht0, ht1, hp0, hp1, fun c ds H3 hds hT3 s3 _ hc => ⟨by show 2 ≤ sizeLine; decide, fun p hp => ?_⟩⟩
    have hb3 := s3.tup hT2 hb2
    have sn : Same H3 (upd H3 p (.tup [.ref b, .ref c])) := Same.new hp
    exact q p b c cs ds _ hcs hds (hT3.same sn) (((s1.trans s2).trans s3).trans (Smt.of sn)) upd_same (sn _ _ hb3) (sn _ _ hc)
/-! def _law_burnt -/
abbrev s__law_burnt : Stmt := topS 13
theorem sc__law_burnt : FnScope ["candles", "lit", "out", "found", "place"] ["candles", "lit", "out"] (defScope s__law_burnt) := ⟨rfl, rfl, rfl, by decide +kernel, rfl, by decide +kernel, by decide +kernel⟩
def spLBurnt (K : PySem.W.Frag) : Sp := fun vs H Q _ => ∃ (a l o : Addr) (cs lit out : List Int) (t1 t2 : Bool), vs = [.ref a, .ref l, .ref o] ∧ SqT K H a (vi cs) ∧ SqB K t1 H l (vi lit) ∧ SqB K t2 H o (vi out) ∧ cs.length ≤ 1000 ∧ lit.Nodup ∧ (∀ i ∈ lit, 0 ≤ i ∧ i < (cs.length : Int)) ∧
  ∀ H' p, Same H H' → H p = none → H' p = some (.tup (vi (burntF cs lit out))) → Q (.ref p) H'
theorem ok__law_burnt {f : Addr} {fd : FuncData} (T : Bl mg) (F : Fun K "_law_burnt" "_law_burnt" s__law_burnt f fd) : FnOk P w K mg base CX0 1 f fd ["candles", "lit", "out"] (spLBurnt K) := by
  refine F.ok sc__law_burnt (fun vs H Q E h => ?_) (fun cdv A outer s H vs Q E hr h => ?_)
  · obtain ⟨a, l, o, cs, lit, out, tp, t2, rfl, _⟩ := h
    rfl
  obtain ⟨a, l, o, cs, lit, out, tp, t2, rfl, hS, hL, hO, hl, hn, hr2, q⟩ := h
  refine ⟨_, (pss_cons (ps_set (i := 3) sc__law_burnt.nd rfl (.inl rfl) (pe_callTy (listK K) rfl T.list (by decide +kernel) (pa_cons (pv 0) pa_nil)))
  (pss_cons (ps_for PassesOwn.never rfl (piB K tp (pv 1)) (pg_name (i := 4) sc__law_burnt.nd rfl (.inl rfl)) (pss_one (ps_if (pt_cmpR (notinK K) (pv 4) (pv 2) rfl) (pss_one (ps_asg (pe_op op_sub (pe_ix (ixL K) (pv 3) (pv 4) (fun _ _ => rfl)) pe_int) (pg_sub (pv 3) (pv 4) set_list))) pss_nil)))
  (pss_one (ps_ret (pe_callTy (tupleK K) rfl T.tuple (by decide +kernel) (pa_cons (pv 3) pa_nil)))))), ?_⟩
  refine ⟨_, rfl, a, vi cs, rfl, .inr hS, fun g ng => ?_⟩
  have s0 : Same H (upd H g (.lst (vi cs))) := Same.new ng
  refine ⟨_, rfl, l, rfl, ⟨_, s0.sqb hL⟩, for_it (walk_B (K := K) (tp := tp) (a := l) (xs := vi lit)) (fun i σ H' => ∃ (y4 : Option V), σ = [some (.ref a), some (.ref l), some (.ref o), some (.ref g), y4] ∧ Same H H' ∧ H' g = some (.lst (vi (burntF cs (lit.take i) out)))) ⟨none, rfl, s0, ?_⟩ (fun i σ H' _ ⟨_, _, sm, _⟩ => sm.sqb hL) (fun i x σ H1 H' hi hW hy => ?_) (fun σ H1 hW => ?_)⟩
  · rw [List.take_zero, burnt_none]
    exact upd_same
  · obtain ⟨y4, rfl, sm, hg⟩ := hW
    obtain ⟨rfl, hx⟩ := hy
    obtain ⟨z, hz, rfl⟩ := vi_get hx
    have hzm := hr2 z (List.mem_of_getElem? hz)
    refine ⟨_, rfl, _, rfl, o, vi out, rfl, sqb_or (sm.sqb hO), rfl, vi_flat _, _, rfl, if_b (fun c => ?_) (fun c => ?_)⟩
    · have c1 : z ∉ out := fun hm => by
        have c : (!inV (.int z) (vi out)) = true := c
        rw [inV_ints, decide_eq_true hm] at c
        cases c
      have ek : z = ((z.toNat : Nat) : Int) := (Int.toNat_of_nonneg hzm.1).symm
      have hkl : z.toNat < cs.length := by omega
      have hk : cs[z.toNat]? = some cs[z.toNat] := List.getElem?_eq_getElem hkl
      have hcur : (burntF cs (lit.take i) out)[z.toNat]? = some cs[z.toNat] := by
        rw [burntF_get hk]
        unfold bit
        rw [if_neg (fun q => nodup_next hn hz (by rw [← ek] at q; exact q.1)), Int.sub_zero]
      refine ⟨_, rfl, _, rfl, g, _, _, .int cs[z.toNat], rfl, rfl, SqL.of hg, at_of ek ?_, _, _, rfl, rfl, _, rfl, _, rfl, g, _, z, z.toNat, rfl, rfl, hg, ?_, _, rfl, sm.mut ng, ?_⟩
      · rw [List.getElem?_map, hcur]
        rfl
      · unfold ixN
        rw [vi_len, burntF_len, if_pos hzm.1, if_pos hzm.2]
      · rw [upd_same, take_next hz, ← burnt_step (nodup_next hn hz) c1 ek hk]
        exact congrArg (fun l => some (HO.lst l)) List.map_set.symm
    · have c1 : z ∈ out := by
        have c : (!inV (.int z) (vi out)) = false := c
        rw [inV_ints] at c
        by_cases hm : z ∈ out
        · exact hm
        · rw [decide_eq_false hm] at c
          cases c
      refine ⟨_, rfl, sm, ?_⟩
      rw [take_next hz, burnt_same c1]
      exact hg
  · obtain ⟨y4, rfl, sm, hg⟩ := hW
    rw [vi_len, List.take_length] at hg
    exact ⟨_, rfl, g, _, rfl, .inl ⟨SqL.of hg, fun p np => q _ p (sm.trans (Same.new np)) (sm.free np) upd_same⟩⟩
/-! def _law_longest_first -/
abbrev s__law_longest_first : Stmt := topS 14
theorem sc__law_longest_first : FnScope ["candles", "draught", "rows", "place", "wax", "row"] ["candles", "draught"] (defScope s__law_longest_first) := ⟨rfl, rfl, rfl, by decide +kernel, rfl, by decide +kernel, by decide +kernel⟩
theorem ok__law_longest_first {f : Addr} {fd : FuncData} (T : Bl mg) (F : Fun K "_law_longest_first" "_law_longest_first" s__law_longest_first f fd) : FnOk P w K mg base CX0 1 f fd ["candles", "draught"] (spLights K) := by
  refine F.ok sc__law_longest_first (fun vs H Q E h => ?_) (fun cdv A outer s H vs Q E hr h => ?_)
  · obtain ⟨a, cs, d, rfl, _⟩ := h
    rfl
  obtain ⟨a, cs, d, rfl, hS, hl, h0, q⟩ := h
  refine ⟨_, (pss_cons (ps_set (i := 2) sc__law_longest_first.nd rfl (.inl rfl) (pe_callB (sortedPK K) rfl T.sorted (by decide +kernel) (pa_cons (pe_lc (own := [("place", 3), ("wax", 4)]) rfl sc__law_longest_first.nd (enumK K true rfl T.enumerate (pa_cons (pv 0) pa_nil)) (blkOk_by (N := ["candles", "draught", "rows", "place", "wax", "row"]) (sc := defScope s__law_longest_first) (own := [("place", 3), ("wax", 4)]) (by decide +kernel)) (fun _ _ _ _ _ => (pgT K 2 rfl (pgs_cons (pg_name (i := 3) sc__law_longest_first.nd rfl (.inl rfl)) (pgs_cons (pg_name (i := 4) sc__law_longest_first.nd rfl (.inl rfl)) pgs_nil)))) (fun _ _ _ _ _ => (pts_one (pt_cmpR op_gt (pv 4) pe_int (nomark _)))) (fun _ _ _ _ _ => (pe_tup (pa_cons (pe_un un_neg (pv 4)) (pa_cons (pv 3) pa_nil))))) pa_nil)))
  (pss_cons (ps_if (pt_cmpR op_lt (pe_callB (lenK K) rfl T.len (by decide +kernel) (pa_cons (pv 2) pa_nil)) (pe_op op_add (pv 1) pe_int) (nomark _)) (pss_one (ps_ret pe_non)) pss_nil)
  (pss_one (ps_ret (pe_callTy (tupleK K) rfl T.tuple (by decide +kernel) (pa_cons (pe_callB (sortedK K) rfl T.sorted (by decide +kernel) (pa_cons (pe_lc (own := [("row", 5)]) rfl sc__law_longest_first.nd (piL K (pe_slice (slL K) (pv 2) po_none (po_some (pe_op op_add (pv 1) pe_int)))) (blkOk_by (N := ["candles", "draught", "rows", "place", "wax", "row"]) (sc := defScope s__law_longest_first) (own := [("row", 5)]) (by decide +kernel)) (fun _ _ _ _ _ => (pg_name (i := 5) sc__law_longest_first.nd rfl (.inl rfl))) (fun _ _ _ _ _ => pts_nil) (fun _ _ _ _ _ => (pe_ix (ixT K) (pv 5) pe_int (fun _ _ => rfl)))) pa_nil)) pa_nil)))))), ?_⟩
  refine ⟨_, rfl, a, vi cs, rfl, hS, fun D hD => lc_rel (walk_enumB (tp := true) (xs := vi cs)) hD (by rw [vi_len]; exact hl) Pr (fun H H' D acc v p h s r => r.keep h s) (fun i => cs[i]?.bind fun w => if 0 < w then some (-w, (i : Int)) else none) (fun H' s => s.sqt hS) (fun i x H1 H' kn ky hi sm y h1 h2 => ?_) (fun ys H1 sm e pr => ?_)⟩
  · obtain ⟨tt, x1, x2, rfl, nT, rfl, e1, e2⟩ := y
    cases Option.some.inj e1
    obtain ⟨z, hz, rfl⟩ := vi_get e2
    have sn : Same H1 (upd H1 tt (.tup [.int (i : Nat), .int z])) := Same.new nT
    refine ⟨tt, _, rfl, SqT.of upd_same, rfl, _, _, rfl, _, _, rfl, rfl, rfl, _, rfl, _, _, rfl, rfl, _, rfl, if_b (fun c => ?_) (fun c => h1 _ sn ?_)⟩
    · refine ⟨_, rfl, _, rfl, _, rfl, by show 2 ≤ sizeLine; decide, fun p np => h2 _ (-z, (i : Int)) _ (sn.trans (Same.new np)) ?_ ⟨p, rfl, upd_same⟩⟩
      rw [hz]
      exact if_pos (of_decide_eq_true c)
    · rw [hz]
      exact if_neg (of_decide_eq_false c)
  rw [vi_len] at pr
  have pr : Paired (Pr H1) ys (rowsOf cs) := pr
  refine ⟨D, ys, keyOf H1, rfl, SqL.of e, prs_mem pr, fun zs p hs hb np => ?_⟩
  have pz := sorted_rows pr hs hb
  have lz : zs.length = (rowsOf cs).length := (paired_len pz).trans (srtP_perm _).length_eq
  have s1 : Same H1 (upd H1 p (.lst zs)) := Same.new np
  have sb1 := sm.trans s1
  refine ⟨_, rfl, p, zs, rfl, .inl (SqL.of upd_same), _, rfl, _, _, rfl, rfl, _, _, rfl, rfl, _, rfl, if_b (fun c => ?_) (fun c => ?_)⟩
  · have c := of_decide_eq_true c
    rw [lz] at c
    unfold lightsF at q
    rw [if_pos (by omega)] at q
    exact q _ sb1
  · have c := of_decide_eq_false c
    rw [lz] at c
    unfold lightsF at q
    rw [if_neg (by omega)] at q
    refine ⟨_, rfl, _, rfl, _, _, rfl, rfl, _, rfl, p, zs, rfl, SqL.of upd_same, fun r nr => ?_⟩
    rw [cutV_toV _ _ (by omega)]
    have s2 : Same (upd H1 p (.lst zs)) (upd (upd H1 p (.lst zs)) r (.lst (zs.take (d + 1).toNat))) := Same.new nr
    have hC : SqL K (upd (upd H1 p (.lst zs)) r (.lst (zs.take (d + 1).toNat))) r (zs.take (d + 1).toNat) := SqL.of upd_same
    have pt : Paired (Pr (upd (upd H1 p (.lst zs)) r (.lst (zs.take (d + 1).toNat)))) (zs.take (d + 1).toNat) ((srtP (rowsOf cs)).take (d + 1).toNat) := paired_mono (fun v x h => h.same (s1.trans s2)) (paired_take _ pz)
    have hlz : (zs.take (d + 1).toNat).length ≤ 1000 := by
      rw [List.length_take, lz]
      have := filterMap_le (fun (i : Nat) => cs[i]?.bind fun w => if 0 < w then some (-w, (i : Int)) else none) cs.length
      have : (rowsOf cs).length ≤ cs.length := this
      omega
    refine ⟨r, rfl, ⟨_, hC⟩, fun D2 hD2 => lc_ints (walk_list (xs := zs.take (d + 1).toNat)) hD2 hlz (fun i => ((srtP (rowsOf cs)).take (d + 1).toNat)[i]?.bind fun x => some x.2) (fun H' s => s.seq hC) (fun i x H2 H' kn ky hi sm y h1 h2 => ?_) (fun H2 sm e => ?_)⟩
    · obtain ⟨rfl, hx⟩ := y
      obtain ⟨x2, hx2, tt, rfl, ht⟩ := paired_get pt hx
      refine ⟨rfl, lc_yes ⟨_, rfl, tt, _, 1, _, rfl, rfl, SqT.of (sm _ _ ht), rfl, h2 _ _ (Same.refl _) ?_⟩⟩
      rw [hx2]
      rfl
    · rw [paired_len pt, fm_at] at e
      refine ⟨D2, _, rfl, SqL.of e, fun ns p2 hp hu np2 => ?_⟩
      have es := srt_is hp hu
      subst es
      exact ⟨p2, _, rfl, .inl ⟨SqL.of upd_same, fun p3 np3 => q _ p3 (((sb1.trans s2).trans sm).trans ((Same.new np2).trans (Same.new np3))) (((sb1.trans s2).trans sm).free ((Same.new np2).free np3)) upd_same⟩⟩
abbrev s_law : Stmt := topS 15
theorem sc_law : FnScope ["script", "tape", "turn", "candles", "draughts", "draught", "left", "rows", "lit"] ["script"] (defScope s_law) := ⟨rfl, rfl, rfl, by decide +kernel, rfl, by decide +kernel, by decide +kernel⟩

theorem r1 : rowsOf [3, 5, 5, 0] = [(-3, 0), (-5, 1), (-5, 2)] := by decide
theorem r2 : srtP [(-3, 0), (-5, 1), (-5, 2)] = [(-5, 1), (-5, 2), (-3, 0)] := (srtP_is (by decide) (by decide)).symm
theorem s12 : srt [1, 2] = [1, 2] := (srt_is (by decide) (by decide)).symm
theorem l1 : lightsF [3, 5, 5, 0] 1 = some [1, 2] := by
  unfold lightsF
  rw [r1, r2, if_neg (by decide)]
  exact congrArg some s12
theorem l2 : lightsF [3, 5, 5, 0] 3 = none := by
  unfold lightsF
  rw [r1, if_pos (by decide)]
def rowsV : Option Addr → V
  | none => .non
  | some o => .ref o
def spLaw (K : PySem.W.Frag) : Sp := fun vs H Q _ => ∃ (a : Addr) (ns : List Int), vs = [.ref a] ∧ SqL K H a (vi ns) ∧ ns.length ≤ 63 ∧ ∀ H', Q (.bl true) H'
theorem ok_law {f : Addr} {fd : FuncData} (T : Bl mg) (F : Fun K "law" "law" s_law f fd) {f_burnt : Addr} {fd_burnt : FuncData} (D_burnt : FnAt K mg "burnt" "burnt" s_burnt ["candles", "lit", "out"] f_burnt fd_burnt) {f_lights : Addr} {fd_lights : FuncData} (D_lights : FnAt K mg "lights" "lights" s_lights ["candles", "draught"] f_lights fd_lights) {f_lotsK : Addr} {fd_lotsK : FuncData} (D_lotsK : FnAt K mg "lots" "lots" s_lotsK ["candles", "draughts"] f_lotsK fd_lotsK) {f_kept : Addr} {fd_kept : FuncData} (D_kept : FnAt K mg "kept" "kept" s_kept ["candles", "draughts"] f_kept fd_kept) {f__law_draw : Addr} {fd__law_draw : FuncData} (D__law_draw : FnAt K mg "_law_draw" "_law_draw" s__law_draw ["tape", "many"] f__law_draw fd__law_draw) {f__law_like : Addr} {fd__law_like : FuncData} (D__law_like : FnAt K mg "_law_like" "_law_like" s__law_like ["one", "two"] f__law_like fd__law_like) {f__law_candles : Addr} {fd__law_candles : FuncData} (D__law_candles : FnAt K mg "_law_candles" "_law_candles" s__law_candles ["tape", "size", "wax"] f__law_candles fd__law_candles) {f__law_draughts : Addr} {fd__law_draughts : FuncData} (D__law_draughts : FnAt K mg "_law_draughts" "_law_draughts" s__law_draughts ["tape", "size", "top"] f__law_draughts fd__law_draughts) {f__law_near : Addr} {fd__law_near : FuncData} (D__law_near : FnAt K mg "_law_near" "_law_near" s__law_near ["tape", "candles", "size", "top"] f__law_near fd__law_near) {f__law_night : Addr} {fd__law_night : FuncData} (D__law_night : FnAt K mg "_law_night" "_law_night" s__law_night ["tape", "size", "wax", "ticks", "top"] f__law_night fd__law_night) {f__law_burnt : Addr} {fd__law_burnt : FuncData} (D__law_burnt : FnAt K mg "_law_burnt" "_law_burnt" s__law_burnt ["candles", "lit", "out"] f__law_burnt fd__law_burnt) {f__law_longest_first : Addr} {fd__law_longest_first : FuncData} (D__law_longest_first : FnAt K mg "_law_longest_first" "_law_longest_first" s__law_longest_first ["candles", "draught"] f__law_longest_first fd__law_longest_first) : FnOk P w K mg base CX0 5 f fd ["script"] (spLaw K) := by
  have G__law_night : FnOk P w K mg base CX0 4 f__law_night fd__law_night _ spNight := (ok__law_night T D__law_night.F D__law_draw D__law_candles D__law_draughts D__law_near).mono (by decide)
  have G__law_like : FnOk P w K mg base CX0 4 f__law_like fd__law_like _ (spLike K 4) := ok__law_like T D__law_like 4
  have G_lights : FnOk P w K mg base CX0 4 f_lights fd_lights _ (spLights K) := (ok_lights T D_lights.F).mono (by decide)
  have G__law_longest_first : FnOk P w K mg base CX0 4 f__law_longest_first fd__law_longest_first _ (spLights K) := (ok__law_longest_first T D__law_longest_first.F).mono (by decide)
  have G__law_burnt : FnOk P w K mg base CX0 4 f__law_burnt fd__law_burnt _ (spLBurnt K) := (ok__law_burnt T D__law_burnt.F).mono (by decide)
  have G_kept : FnOk P w K mg base CX0 4 f_kept fd_kept _ (spKept K) := (ok_kept T D_kept.F D_lotsK D_lights D_burnt).mono (by decide)
  refine F.ok sc_law (fun vs H Q E h => ?_) (fun cdv A outer s H vs Q E hr h => ?_)
  · obtain ⟨a, ns, rfl, _⟩ := h
    rfl
  obtain ⟨a, ns, rfl, hS, hl, q⟩ := h
  refine ⟨_, (pss_cons (ps_set (i := 1) sc_law.nd rfl (.inl rfl) (pe_lst (pa_cons (pe_callTy (listK K) rfl T.list (by decide +kernel) (pa_cons (pv 0) pa_nil)) (pa_cons pe_int (pa_cons pe_int pa_nil)))))
  (pss_cons (ps_for PassesOwn.never rfl (pi_range1 rfl T.range (pa_cons pe_int pa_nil)) (pg_name (i := 2) sc_law.nd rfl (.inl rfl)) (pss_cons (ps_asg (pe_call G__law_night hr rfl D__law_night.g D__law_night.F.kp D__law_night.b .nil pass0 (pa_cons (pv 1) (pa_cons pe_int (pa_cons pe_int (pa_cons pe_int (pa_cons pe_int pa_nil)))))) (pgT K 2 rfl (pgs_cons (pg_name (i := 3) sc_law.nd rfl (.inl rfl)) (pgs_cons (pg_name (i := 4) sc_law.nd rfl (.inl rfl)) pgs_nil))))
  (pss_cons (ps_for PassesOwn.never rfl (pi_range1 rfl T.range (pa_cons pe_int pa_nil)) (pg_name (i := 5) sc_law.nd rfl (.inl rfl)) (pss_one (ps_if (pt_not (pt_val (pe_call G__law_like hr rfl D__law_like.g D__law_like.F.kp D__law_like.b .nil pass0 (pa_cons (pe_call G_lights hr rfl D_lights.g D_lights.F.kp D_lights.b .nil pass0 (pa_cons (pv 3) (pa_cons (pv 5) pa_nil))) (pa_cons (pe_call G__law_longest_first hr rfl D__law_longest_first.g D__law_longest_first.F.kp D__law_longest_first.b .nil pass0 (pa_cons (pv 3) (pa_cons (pv 5) pa_nil))) pa_nil))))) (pss_one (ps_ret pe_bl)) pss_nil)))
  (pss_cons (ps_par (i := 6) (j := 7) rfl sc_law.nd rfl rfl (by decide) rfl rfl (pa_cons (pv 3) (pa_cons (pe_lst pa_nil) pa_nil)) (by rfl))
  (pss_cons (ps_for PassesOwn.never rfl (piT K (pv 4)) (pg_name (i := 5) sc_law.nd rfl (.inl rfl)) (pss_cons (ps_set (i := 8) sc_law.nd rfl (.inl rfl) (pe_ifExp (pt_cmpR op_notN (pv 7) pe_non (nomark _)) (pe_call G__law_longest_first hr rfl D__law_longest_first.g D__law_longest_first.F.kp D__law_longest_first.b .nil pass0 (pa_cons (pv 6) (pa_cons (pv 5) pa_nil))) pe_non))
  (pss_one (ps_if (pt_cmpR op_isN (pv 8) pe_non (nomark _)) (pss_one (ps_set (i := 7) sc_law.nd rfl (.inl rfl) pe_non)) (pss_cons (ps_set (i := 6) sc_law.nd rfl (.inl rfl) (pe_call G__law_burnt hr rfl D__law_burnt.g D__law_burnt.F.kp D__law_burnt.b .nil pass0 (pa_cons (pv 6) (pa_cons (pv 8) (pa_cons (pe_tup pa_nil) pa_nil)))))
  (pss_one (ps_expr (pe_bm PySem.F.plainAttrs_list PySem.F.slot_list_append PySem.F.type_list_append mt_append (pv 7) (pa_cons (pv 6) pa_nil)))))))))
  (pss_cons (ps_if (pt_not (pt_val (pe_call G__law_like hr rfl D__law_like.g D__law_like.F.kp D__law_like.b .nil pass0 (pa_cons (pe_call G_kept hr rfl D_kept.g D_kept.F.kp D_kept.b .nil pass0 (pa_cons (pv 3) (pa_cons (pv 4) pa_nil))) (pa_cons (pv 7) pa_nil))))) (pss_one (ps_ret pe_bl)) pss_nil)
  (pss_one (ps_if (PW.pt (pw_and (pt_cmpR op_notN (pv 7) pe_non (nomark _)) (pw_and (pt_cmpR (neDK K hr.units) (pv 7) (pe_lst pa_nil) (nomark _)) (pw_and1 (pt_cmpR op_ne (pe_callB (sumTK K) rfl T.sum (by decide +kernel) (pa_cons (pe_ix (ixL K) (pv 7) (pe_un un_neg pe_int) (fun _ _ => rfl)) pa_nil)) (pe_op op_sub (pe_op op_sub (pe_callB (sumTK K) rfl T.sum (by decide +kernel) (pa_cons (pv 3) pa_nil)) (pe_callB (sumTK K) rfl T.sum (by decide +kernel) (pa_cons (pv 4) pa_nil))) (pe_callB (lenK K) rfl T.len (by decide +kernel) (pa_cons (pv 4) pa_nil))) (nomark _)))))) (pss_one (ps_ret pe_bl)) pss_nil))))))))
  (pss_one (ps_ret (pe_and (pe_cmpR (eqDK K hr.units) (pe_call G_lights hr rfl D_lights.g D_lights.F.kp D_lights.b .nil pass0 (pa_cons (pe_tup (pa_cons pe_int (pa_cons pe_int (pa_cons pe_int (pa_cons pe_int pa_nil))))) (pa_cons pe_int pa_nil))) (pe_tup (pa_cons pe_int (pa_cons pe_int pa_nil))) (nomark _)) (pe_and (pe_cmpR op_isN (pe_call G_lights hr rfl D_lights.g D_lights.F.kp D_lights.b .nil pass0 (pa_cons (pe_tup (pa_cons pe_int (pa_cons pe_int (pa_cons pe_int (pa_cons pe_int pa_nil))))) (pa_cons pe_int pa_nil))) pe_non (nomark _)) (pe_one (pe_cmpR (eqDK K hr.units) (pe_call G_kept hr rfl D_kept.g D_kept.F.kp D_kept.b .nil pass0 (pa_cons (pe_tup (pa_cons pe_int pa_nil)) (pa_cons (pe_tup pa_nil) pa_nil))) (pe_lst pa_nil) (nomark _))))))))), ?_⟩
  -- tape = [list(script), 0, 0]
  refine ⟨_, rfl, a, vi ns, rfl, .inl hS, fun l nl => ⟨by show 3 ≤ sizeLine; decide, fun t nt => ?_⟩⟩
  have hT0 : TapeAt (upd (upd H l (.lst (vi ns))) t (.lst [.ref l, .int 0, .int 0])) t l := by
    refine ⟨ns, 0, 0, upd_same, ?_, by decide⟩
    rw [upd_ne (ne_of_none upd_same nt)]
    exact upd_same
  refine ⟨6, rfl, by decide, by decide, for_range (lo := 0) (n := 6) (fun i σ H' => ∃ (y2 y3 y4 y5 y6 y7 y8 : Option V), σ = [some (.ref a), some (.ref t), y2, y3, y4, y5, y6, y7, y8] ∧ TapeAt H' t l) ⟨none, none, none, none, none, none, none, rfl, hT0⟩ (fun i σ H1 hi hW => ?_) (fun σ H1 hW => ?_)⟩
  · obtain ⟨y2, y3, y4, y5, y6, y7, y8, rfl, hT⟩ := hW
    refine ⟨_, rfl, t, l, 8, 12, 10, 7, rfl, hT, by decide, by decide, by decide, by decide, by decide, by decide, by decide, by decide, fun p b c cs ds H2 hcs hds hT2 s2 hp hb hc => ⟨p, _, rfl, SqT.of hp, rfl, _, _, rfl, _, _, rfl, rfl, ?_⟩⟩
    have lc : cs.length ≤ 1000 := by have := hcs.2.1; omega
    have ld : ds.length ≤ 1000 := by have := hds.1; omega
    have d0 : ∀ d ∈ ds, 0 ≤ d := fun d hd => (hds.2 d hd).1
    -- for draught in range(8)
    refine ⟨8, rfl, by decide, by decide, for_range (lo := 0) (n := 8) (fun j σ H' => ∃ (z5 : Option V), σ = [some (.ref a), some (.ref t), some (.int (0 + (i : Int))), some (.ref b), some (.ref c), z5, y6, y7, y8] ∧ Same H2 H') ⟨y5, rfl, Same.refl _⟩ (fun j σ H3 hj hW => ?_) (fun σ H3 hW => ?_)⟩
    · obtain ⟨z5, rfl, sm⟩ := hW
      refine ⟨_, rfl, _, rfl, b, cs, _, rfl, SqT.of (sm _ _ hb), lc, by omega, litV_of fun H4 v s4 r4 => ?_⟩
      refine ⟨_, rfl, _, rfl, b, cs, _, rfl, SqT.of ((sm.trans s4) _ _ hb), lc, by omega, litV_of fun H5 v2 s5 r5 => ?_⟩
      exact ⟨v, v2, _, rfl, (r4.same s5).dp, r5.dp, fit_lit lc _, fun H6 s6 => ⟨_, rfl, if_f rfl ⟨_, rfl, ((sm.trans s4).trans s5).trans s6⟩⟩⟩
    · obtain ⟨z5, rfl, sm⟩ := hW
      -- left, rows = candles, []
      refine ⟨_, rfl, Nat.zero_le _, fun o no => ⟨_, _, rfl, ?_⟩⟩
      have hb3 := sm _ _ hb
      have hc3 := sm _ _ hc
      have s0 : Same H3 (upd H3 o (.lst [])) := Same.new no
      refine ⟨_, rfl, c, rfl, ⟨_, SqT.of (s0 _ _ hc3)⟩, for_tup (K := K) (a := c) (xs := vi ds) (fun k σ H' => Same H3 H' ∧ ∃ (la : Addr) (w5 w8 : Option V) (R : Option Addr), σ = [some (.ref a), some (.ref t), some (.int (0 + (i : Int))), some (.ref b), some (.ref c), w5, some (.ref la), some (rowsV R), w8] ∧ (match R with
        | none => lotsF cs ds = none
        | some o' => o' = o ∧ ∃ (lc : List Int) (acc : List (List Int × List Int)) (xs : List V), H' la = some (.tup (vi lc)) ∧ lc.length = cs.length ∧ H' o = some (.lst xs) ∧ Paired (VT H') xs (acc.map Prod.snd) ∧ acc.length = k ∧ lotsF cs ds = (lotsF lc (ds.drop k)).map (acc ++ ·))) ⟨s0, b, z5, y8, some o, rfl, rfl, cs, [], [], s0 _ _ hb3, rfl, upd_same, .nil, rfl, ?_⟩ (fun k σ H' _ hW => SqT.of (hW.1 _ _ hc3)) (fun k x σ H4 hx hW => ?_) (fun σ H4 hW => ?_)⟩
      · show _ = (lotsF cs ds).map fun x => x
        cases lotsF cs ds <;> rfl
      · obtain ⟨sm4, la, w5, w8, R, rfl, hR⟩ := hW
        obtain ⟨d, hd, rfl⟩ := vi_get hx
        have hd0 := d0 d (List.mem_of_getElem? hd)
        have hdi := (List.getElem?_eq_some_iff.mp hd).1
        cases R with
        | none =>
          refine ⟨_, rfl, rfl, _, rfl, if_f rfl ⟨_, rfl, rfl, _, rfl, if_t rfl ⟨sm4, la, _, _, none, rfl, hR⟩⟩⟩
        | some o' =>
          obtain ⟨rfl, lc', acc, xs, hla, hlen, hO, hp2, hal, he⟩ := hR
          rw [drop_next hd, lotsF_cons] at he
          refine ⟨_, rfl, rfl, _, rfl, if_t rfl ⟨_, rfl, _, rfl, la, lc', d, rfl, SqT.of hla, by omega, hd0, ?_⟩⟩
          cases hlf : lightsF lc' d with
          | none =>
            rw [hlf] at he
            have he : lotsF cs ds = none := he
            intro H5 s5
            refine ⟨_, rfl, rfl, _, rfl, if_t rfl ⟨sm4.trans s5, la, _, _, none, rfl, he⟩⟩
          | some lit =>
            rw [hlf] at he
            have he : lotsF cs ds = ((lotsF (burntF lc' lit []) (ds.drop (k + 1))).map fun l => (lit, burntF lc' lit []) :: l).map (acc ++ ·) := he
            have hL := lights_lit hd0 hlf
            intro H5 u s5 nu hu
            refine ⟨_, rfl, rfl, _, rfl, if_f rfl ?_⟩
            refine ⟨_, rfl, _, rfl, Nat.zero_le _, fun e ne => ?_⟩
            have s6 : Same H5 (upd H5 e (.tup [])) := Same.new ne
            refine ⟨la, u, e, lc', lit, [], true, true, rfl, SqT.of ((s5.trans s6) _ _ hla), SqT.of (s6 _ _ hu), SqT.of upd_same, by omega, hL.nd, (fun z hz => ?_), fun H7 la' s7 nla hla' => ?_⟩
            · obtain ⟨kk, ww, e1, e2, _⟩ := hL.wax z hz
              have := (List.getElem?_eq_some_iff.mp e2).1
              omega
            have s57 := (s5.trans s6).trans s7
            have hO7 := s57 _ _ hO
            refine ⟨_, rfl, .inl ⟨rfl, _, SqL.of hO7⟩, _, rfl, o', _, _, rfl, rfl, hO7, ?_, ?_⟩
            · rw [paired_len hp2, List.length_map, hal]
              exact small1000 (by omega)
            have su : Smt o' H7 (upd H7 o' (.lst (xs ++ [.ref la']))) := Smt.upd
            have nlo : la' ≠ o' := fun z => by
              rw [z, hO7] at hla'
              cases hla'
            refine ⟨(sm4.trans s57).mut no, la', _, _, some o', rfl, rfl, burntF lc' lit [], acc ++ [(lit, burntF lc' lit [])], xs ++ [.ref la'], su _ _ hla' nlo, (burntF_len _ _ _).trans hlen, upd_same, ?_, ?_, ?_⟩
            · rw [List.map_append]
              exact paired_app (paired_mono (fun v x r => (r.same s57).keep hO7 su) hp2) (.cons ⟨la', rfl, su _ _ hla' nlo⟩ .nil)
            · rw [List.length_append, hal]
              rfl
            · rw [he, Option.map_map]
              congr 1
              funext l
              show acc ++ ((lit, burntF lc' lit []) :: l) = acc ++ [(lit, burntF lc' lit [])] ++ l
              rw [List.append_assoc]
              rfl
      · obtain ⟨sm4, la, w5, w8, R, rfl, hR⟩ := hW
        have hb4 := sm4 _ _ hb3
        have hc4 := sm4 _ _ hc3
        have hT4 := hT2.same (sm.trans sm4)
        refine ⟨_, rfl, _, rfl, b, c, cs, ds, rfl, SqT.of hb4, SqT.of hc4, lc, ld, d0, ?_⟩
        cases R with
        | none =>
          have e0 : keptF cs ds = none := by
            unfold keptF
            rw [show lotsF cs ds = none from hR]
            rfl
          rw [e0]
          intro H5 s5
          refine ⟨_, rfl, .non, .non, .none, rfl, .non, .non, True.intro, fun H6 s6 => ⟨_, rfl, if_f rfl ?_⟩⟩
          exact ⟨_, rfl, rfl, _, rfl, if_f rfl ⟨_, _, _, _, _, _, _, rfl, hT4.same (s5.trans s6)⟩⟩
        | some o' =>
          obtain ⟨rfl, lc', acc, xs, hla, hlen, hO, hp2, hal, he⟩ := hR
          rw [vi_len, List.drop_length] at he
          have he : lotsF cs ds = some (acc ++ []) := he
          rw [List.append_nil] at he
          have e0 : keptF cs ds = some (acc.map Prod.snd) := by
            unfold keptF
            rw [he]
            rfl
          rw [e0]
          intro H5 p5 xs5 s5 np5 hp5 pr5
          have hO5 := s5 _ _ hO
          have pr0 : Paired (VT H5) xs (acc.map Prod.snd) := paired_mono (fun v x r => r.same s5) hp2
          have hal2 : (acc.map Prod.snd).length ≤ 1000 := by
            rw [List.length_map, hal, vi_len]
            exact ld
          have hcl : ∀ z ∈ acc.map Prod.snd, z.length ≤ 1000 := fun z hz => by
            obtain ⟨x, hx, rfl⟩ := List.mem_map.mp hz
            rw [lots_lens ds cs acc he x hx]
            exact lc
          refine ⟨_, rfl, .ref p5, .ref o', .list (dts (acc.map Prod.snd)), rfl, .lst (SqL.of hp5) (dp_vts pr5), .lst (SqL.of hO5) (dp_vts pr0), fit_dts hal2 hcl, fun H6 s6 => ⟨_, rfl, if_f rfl ?_⟩⟩
          have hO6 := s6 _ _ hO5
          have pr6 : Paired (VT H6) xs (acc.map Prod.snd) := paired_mono (fun v x r => r.same s6) pr0
          have hT6 := hT4.same (s5.trans s6)
          -- rows is not None and rows != [] and ..
          refine ⟨_, rfl, rfl, _, rfl, if_t rfl ⟨_, rfl, Nat.zero_le _, fun g ng => ?_⟩⟩
          have s7 : Same H6 (upd H6 g (.lst [])) := Same.new ng
          have pr7 : Paired (VT (upd H6 g (.lst []))) xs (acc.map Prod.snd) := paired_mono (fun v x r => r.same s7) pr6
          refine ⟨.list (dts (acc.map Prod.snd)), .list (di []), .lst (SqL.of (s7 _ _ hO6)) (dp_vts pr7), dp_list (SqL.of upd_same), shaped_dts _, shaped_ints _, _, rfl, ?_⟩
          rw [eqv_nil]
          cases hlast : acc.getLast? with
          | none =>
            have e1 : acc = [] := List.getLast?_eq_none_iff.mp hlast
            subst e1
            exact if_f rfl ⟨_, _, _, _, _, _, _, rfl, hT6.same s7⟩
          | some z =>
            have hne : acc ≠ [] := fun e => by
              rw [e] at hlast
              cases hlast
            have ez : acc = acc.dropLast ++ [z] := by
              have e1 := List.dropLast_concat_getLast hne
              rw [List.getLast?_eq_some_getLast hne] at hlast
              rw [Option.some.inj hlast] at e1
              exact e1.symm
            have hlx : xs.length = acc.length := by
              rw [paired_len pr7, List.length_map]
            have hpos : 0 < acc.length := List.length_pos_iff.mpr hne
            have hxl : xs[acc.length - 1]? = some xs[acc.length - 1] := List.getElem?_eq_getElem (by omega)
            obtain ⟨zc, hzc, tz, etz, htz⟩ := paired_get pr7 hxl
            have ezc : zc = z.2 := by
              have e1 : acc[acc.length - 1]? = some z := by
                rw [← List.getLast?_eq_getElem?]
                exact hlast
              rw [List.getElem?_map, e1] at hzc
              exact (Option.some.inj hzc).symm
            subst ezc
            have exs : xs = xs.dropLast ++ [.ref tz] := by
              have hnx : xs ≠ [] := fun e => by
                rw [e] at hlx
                simp at hlx
                omega
              have e1 := List.dropLast_concat_getLast hnx
              have e2 : xs.getLast hnx = .ref tz := by
                rw [List.getLast_eq_getElem, ← etz]
                congr 1
                omega
              rw [e2] at e1
              exact e1.symm
            have hat : atI xs (-1) = some (.ref tz) := by
              rw [exs]
              exact atI_last _ _
            refine if_t ?_ ?_
            · cases acc with
              | nil => exact absurd rfl hne
              | cons _ _ => rfl
            refine ⟨_, rfl, 1, rfl, o', xs, -1, _, rfl, rfl, SqL.of (s7 _ _ hO6), hat, tz, z.2, rfl, SqT.of htz, ?_⟩
            have sall := (s5.trans s6).trans s7
            refine ⟨_, rfl, b, cs, rfl, SqT.of (sall _ _ hb4), _, rfl, c, ds, rfl, SqT.of (sall _ _ hc4), _, _, rfl, rfl, _, rfl, c, vi ds, rfl, .inr (SqT.of (sall _ _ hc4)), _, _, rfl, rfl, rfl, _, rfl, ?_⟩
            have es := lots_sum ds cs acc d0 he z hlast
            rw [vi_len, es, decide_eq_true rfl]
            exact if_f rfl ⟨_, _, _, _, _, _, _, rfl, hT6.same s7⟩
  · -- lights((3, 5, 5, 0), 1) == (1, 2)
    refine ⟨by show 4 ≤ sizeLine; decide, fun b nb => ⟨b, [3, 5, 5, 0], 1, rfl, SqT.of upd_same, by decide, by decide, ?_⟩⟩
    rw [l1]
    intro H2 p2 s2 np2 hp2
    refine ⟨by show 2 ≤ sizeLine; decide, fun g ng => ?_⟩
    have s3 : Same H2 (upd H2 g (.tup (vi [1, 2]))) := Same.new ng
    refine ⟨.tuple (di [1, 2]), .tuple (di [1, 2]), dp_tup (SqT.of (s3 _ _ hp2)), dp_tup (SqT.of upd_same), shaped_tints _, shaped_tints _, ?_⟩
    rw [eqv_tups, decide_eq_true rfl]
    refine ⟨_, rfl, if_t rfl ?_⟩
    refine ⟨by show 4 ≤ sizeLine; decide, fun b4 nb4 => ⟨b4, [3, 5, 5, 0], 3, rfl, SqT.of upd_same, by decide, by decide, ?_⟩⟩
    rw [l2]
    intro H4 s4
    refine ⟨rfl, _, rfl, if_t rfl ?_⟩
    -- kept((1,), ()) == []
    refine ⟨by show 1 ≤ sizeLine; decide, fun b5 nb5 => ⟨by show 0 ≤ sizeLine; decide, fun c5 nc5 => ?_⟩⟩
    refine ⟨b5, c5, [1], [], rfl, SqT.of ((Same.new nc5) _ _ upd_same), SqT.of upd_same, by decide, by decide, (fun d hd => nomatch hd), ?_⟩
    intro H6 p6 xs6 s6 np6 hp6 pr6
    cases pr6
    refine ⟨Nat.zero_le _, fun e6 ne6 => ?_⟩
    refine ⟨.list (di []), .list (di []), dp_list (SqL.of ((Same.new ne6) _ _ hp6)), dp_list (SqL.of upd_same), shaped_ints _, shaped_ints _, ?_⟩
    rw [eqv_lists, decide_eq_true rfl]
    exact q _
end
theorem all_mk {l : PySem.W.OpenLaw} {w : World} {K : PySem.W.Frag} {h : Heap} {mg : Str → Option Value} {fa f_burnt f_lights f_lotsK f_kept f__law_draw f__law_like f__law_candles f__law_draughts f__law_near f__law_night f__law_burnt f__law_longest_first f_law : Addr} (X : K.In h) (G : h.Ns mainGlobals mg) (hfa : mg "law" = some (.ref fa))
    {od_burnt an_burnt od_lights an_lights od_lotsK an_lotsK od_kept an_kept od__law_draw an__law_draw od__law_like an__law_like od__law_candles an__law_candles od__law_draughts an__law_draughts od__law_near an__law_near od__law_night an__law_night od__law_burnt an__law_burnt od__law_longest_first an__law_longest_first od_law an_law : Option Addr} {sl_burnt sl_lights sl_lotsK sl_kept sl__law_draw sl__law_like sl__law_candles sl__law_draughts sl__law_near sl__law_night sl__law_burnt sl__law_longest_first sl_law : Array (Option Value)} {oc_burnt kV_burnt dc_burnt pm_burnt cd_burnt ct_burnt oc_lights kV_lights dc_lights pm_lights cd_lights ct_lights oc_lotsK kV_lotsK dc_lotsK pm_lotsK cd_lotsK ct_lotsK oc_kept kV_kept dc_kept pm_kept cd_kept ct_kept oc__law_draw kV__law_draw dc__law_draw pm__law_draw cd__law_draw ct__law_draw oc__law_like kV__law_like dc__law_like pm__law_like cd__law_like ct__law_like oc__law_candles kV__law_candles dc__law_candles pm__law_candles cd__law_candles ct__law_candles oc__law_draughts kV__law_draughts dc__law_draughts pm__law_draughts cd__law_draughts ct__law_draughts oc__law_near kV__law_near dc__law_near pm__law_near cd__law_near ct__law_near oc__law_night kV__law_night dc__law_night pm__law_night cd__law_night ct__law_night oc__law_burnt kV__law_burnt dc__law_burnt pm__law_burnt cd__law_burnt ct__law_burnt oc__law_longest_first kV__law_longest_first dc__law_longest_first pm__law_longest_first cd__law_longest_first ct__law_longest_first oc_law kV_law dc_law pm_law cd_law ct_law : Value}
    (a_burnt : PySem.W.nsIn K mainGlobals "burnt" = some (some (.ref f_burnt))) (l_burnt : K.lookup f_burnt = some ⟨oc_burnt, od_burnt, .func (PySem.W.fnOf "burnt" "burnt" (defArgs s_burnt) (defBody s_burnt) (defScope s_burnt) .none kV_burnt dc_burnt pm_burnt an_burnt cd_burnt ct_burnt), sl_burnt⟩) (c_burnt : PySem.W.codeIn K cd_burnt "burnt" = true) (k_burnt : PySem.W.keepIn K (.ref f_burnt) = true)
    (a_lights : PySem.W.nsIn K mainGlobals "lights" = some (some (.ref f_lights))) (l_lights : K.lookup f_lights = some ⟨oc_lights, od_lights, .func (PySem.W.fnOf "lights" "lights" (defArgs s_lights) (defBody s_lights) (defScope s_lights) .none kV_lights dc_lights pm_lights an_lights cd_lights ct_lights), sl_lights⟩) (c_lights : PySem.W.codeIn K cd_lights "lights" = true) (k_lights : PySem.W.keepIn K (.ref f_lights) = true)
    (a_lotsK : PySem.W.nsIn K mainGlobals "lots" = some (some (.ref f_lotsK))) (l_lotsK : K.lookup f_lotsK = some ⟨oc_lotsK, od_lotsK, .func (PySem.W.fnOf "lots" "lots" (defArgs s_lotsK) (defBody s_lotsK) (defScope s_lotsK) .none kV_lotsK dc_lotsK pm_lotsK an_lotsK cd_lotsK ct_lotsK), sl_lotsK⟩) (c_lotsK : PySem.W.codeIn K cd_lotsK "lots" = true) (k_lotsK : PySem.W.keepIn K (.ref f_lotsK) = true)
    (a_kept : PySem.W.nsIn K mainGlobals "kept" = some (some (.ref f_kept))) (l_kept : K.lookup f_kept = some ⟨oc_kept, od_kept, .func (PySem.W.fnOf "kept" "kept" (defArgs s_kept) (defBody s_kept) (defScope s_kept) .none kV_kept dc_kept pm_kept an_kept cd_kept ct_kept), sl_kept⟩) (c_kept : PySem.W.codeIn K cd_kept "kept" = true) (k_kept : PySem.W.keepIn K (.ref f_kept) = true)
    (a__law_draw : PySem.W.nsIn K mainGlobals "_law_draw" = some (some (.ref f__law_draw))) (l__law_draw : K.lookup f__law_draw = some ⟨oc__law_draw, od__law_draw, .func (PySem.W.fnOf "_law_draw" "_law_draw" (defArgs s__law_draw) (defBody s__law_draw) (defScope s__law_draw) .none kV__law_draw dc__law_draw pm__law_draw an__law_draw cd__law_draw ct__law_draw), sl__law_draw⟩) (c__law_draw : PySem.W.codeIn K cd__law_draw "_law_draw" = true) (k__law_draw : PySem.W.keepIn K (.ref f__law_draw) = true)
    (a__law_like : PySem.W.nsIn K mainGlobals "_law_like" = some (some (.ref f__law_like))) (l__law_like : K.lookup f__law_like = some ⟨oc__law_like, od__law_like, .func (PySem.W.fnOf "_law_like" "_law_like" (defArgs s__law_like) (defBody s__law_like) (defScope s__law_like) .none kV__law_like dc__law_like pm__law_like an__law_like cd__law_like ct__law_like), sl__law_like⟩) (c__law_like : PySem.W.codeIn K cd__law_like "_law_like" = true) (k__law_like : PySem.W.keepIn K (.ref f__law_like) = true)
    (a__law_candles : PySem.W.nsIn K mainGlobals "_law_candles" = some (some (.ref f__law_candles))) (l__law_candles : K.lookup f__law_candles = some ⟨oc__law_candles, od__law_candles, .func (PySem.W.fnOf "_law_candles" "_law_candles" (defArgs s__law_candles) (defBody s__law_candles) (defScope s__law_candles) .none kV__law_candles dc__law_candles pm__law_candles an__law_candles cd__law_candles ct__law_candles), sl__law_candles⟩) (c__law_candles : PySem.W.codeIn K cd__law_candles "_law_candles" = true) (k__law_candles : PySem.W.keepIn K (.ref f__law_candles) = true)
    (a__law_draughts : PySem.W.nsIn K mainGlobals "_law_draughts" = some (some (.ref f__law_draughts))) (l__law_draughts : K.lookup f__law_draughts = some ⟨oc__law_draughts, od__law_draughts, .func (PySem.W.fnOf "_law_draughts" "_law_draughts" (defArgs s__law_draughts) (defBody s__law_draughts) (defScope s__law_draughts) .none kV__law_draughts dc__law_draughts pm__law_draughts an__law_draughts cd__law_draughts ct__law_draughts), sl__law_draughts⟩) (c__law_draughts : PySem.W.codeIn K cd__law_draughts "_law_draughts" = true) (k__law_draughts : PySem.W.keepIn K (.ref f__law_draughts) = true)
    (a__law_near : PySem.W.nsIn K mainGlobals "_law_near" = some (some (.ref f__law_near))) (l__law_near : K.lookup f__law_near = some ⟨oc__law_near, od__law_near, .func (PySem.W.fnOf "_law_near" "_law_near" (defArgs s__law_near) (defBody s__law_near) (defScope s__law_near) .none kV__law_near dc__law_near pm__law_near an__law_near cd__law_near ct__law_near), sl__law_near⟩) (c__law_near : PySem.W.codeIn K cd__law_near "_law_near" = true) (k__law_near : PySem.W.keepIn K (.ref f__law_near) = true)
    (a__law_night : PySem.W.nsIn K mainGlobals "_law_night" = some (some (.ref f__law_night))) (l__law_night : K.lookup f__law_night = some ⟨oc__law_night, od__law_night, .func (PySem.W.fnOf "_law_night" "_law_night" (defArgs s__law_night) (defBody s__law_night) (defScope s__law_night) .none kV__law_night dc__law_night pm__law_night an__law_night cd__law_night ct__law_night), sl__law_night⟩) (c__law_night : PySem.W.codeIn K cd__law_night "_law_night" = true) (k__law_night : PySem.W.keepIn K (.ref f__law_night) = true)
    (a__law_burnt : PySem.W.nsIn K mainGlobals "_law_burnt" = some (some (.ref f__law_burnt))) (l__law_burnt : K.lookup f__law_burnt = some ⟨oc__law_burnt, od__law_burnt, .func (PySem.W.fnOf "_law_burnt" "_law_burnt" (defArgs s__law_burnt) (defBody s__law_burnt) (defScope s__law_burnt) .none kV__law_burnt dc__law_burnt pm__law_burnt an__law_burnt cd__law_burnt ct__law_burnt), sl__law_burnt⟩) (c__law_burnt : PySem.W.codeIn K cd__law_burnt "_law_burnt" = true) (k__law_burnt : PySem.W.keepIn K (.ref f__law_burnt) = true)
    (a__law_longest_first : PySem.W.nsIn K mainGlobals "_law_longest_first" = some (some (.ref f__law_longest_first))) (l__law_longest_first : K.lookup f__law_longest_first = some ⟨oc__law_longest_first, od__law_longest_first, .func (PySem.W.fnOf "_law_longest_first" "_law_longest_first" (defArgs s__law_longest_first) (defBody s__law_longest_first) (defScope s__law_longest_first) .none kV__law_longest_first dc__law_longest_first pm__law_longest_first an__law_longest_first cd__law_longest_first ct__law_longest_first), sl__law_longest_first⟩) (c__law_longest_first : PySem.W.codeIn K cd__law_longest_first "_law_longest_first" = true) (k__law_longest_first : PySem.W.keepIn K (.ref f__law_longest_first) = true)
    (a_law : PySem.W.nsIn K mainGlobals "law" = some (some (.ref f_law))) (l_law : K.lookup f_law = some ⟨oc_law, od_law, .func (PySem.W.fnOf "law" "law" (defArgs s_law) (defBody s_law) (defScope s_law) .none kV_law dc_law pm_law an_law cd_law ct_law), sl_law⟩) (c_law : PySem.W.codeIn K cd_law "law" = true) (k_law : PySem.W.keepIn K (.ref f_law) = true)
    (z_len : PySem.W.nsIn K mainGlobals "len" = some none)
    (z_sum : PySem.W.nsIn K mainGlobals "sum" = some none)
    (z_all : PySem.W.nsIn K mainGlobals "all" = some none)
    (z_any : PySem.W.nsIn K mainGlobals "any" = some none)
    (z_sorted : PySem.W.nsIn K mainGlobals "sorted" = some none)
    (z_tuple : PySem.W.nsIn K mainGlobals "tuple" = some none)
    (z_list : PySem.W.nsIn K mainGlobals "list" = some none)
    (z_int : PySem.W.nsIn K mainGlobals "int" = some none)
    (z_bool : PySem.W.nsIn K mainGlobals "bool" = some none)
    (z_str : PySem.W.nsIn K mainGlobals "str" = some none)
    (z_isinstance : PySem.W.nsIn K mainGlobals "isinstance" = some none)
    (z_max : PySem.W.nsIn K mainGlobals "max" = some none)
    (z_min : PySem.W.nsIn K mainGlobals "min" = some none)
    (z_range : PySem.W.nsIn K mainGlobals "range" = some none)
    (z_enumerate : PySem.W.nsIn K mainGlobals "enumerate" = some none)
    (z_zip : PySem.W.nsIn K mainGlobals "zip" = some none)
    : ∃ fd : FuncData, (∀ (s : Shared) (v : Value), BindsTo s fd ⟨[v], []⟩ [("script", v)]) ∧ ∀ base : Heap, K.In base → base.Ns mainGlobals mg → FnOk l.prog w K mg base CX0 5 fa fd ["script"] (spLaw K) := by
  have e := hfa.symm.trans (PySem.W.mg_of X G a_law)
  cases e
  have T : Bl mg := ⟨PySem.W.mg_none_of X G z_len, PySem.W.mg_none_of X G z_sum, PySem.W.mg_none_of X G z_all, PySem.W.mg_none_of X G z_any, PySem.W.mg_none_of X G z_sorted, PySem.W.mg_none_of X G z_tuple, PySem.W.mg_none_of X G z_list, PySem.W.mg_none_of X G z_int, PySem.W.mg_none_of X G z_bool, PySem.W.mg_none_of X G z_str, PySem.W.mg_none_of X G z_isinstance, PySem.W.mg_none_of X G z_max, PySem.W.mg_none_of X G z_min, PySem.W.mg_none_of X G z_range, PySem.W.mg_none_of X G z_enumerate, PySem.W.mg_none_of X G z_zip⟩
  have F_burnt := fun_mk (st := s_burnt) l_burnt c_burnt k_burnt
  have D_burnt : FnAt K mg "burnt" "burnt" s_burnt ["candles", "lit", "out"] f_burnt _ := ⟨F_burnt, F_burnt.binds (ps := ["candles", "lit", "out"]) (fun _ _ _ _ _ _ us hl => match us, hl with | [_, _, _], _ => rfl), PySem.W.mg_of X G a_burnt⟩
  have F_lights := fun_mk (st := s_lights) l_lights c_lights k_lights
  have D_lights : FnAt K mg "lights" "lights" s_lights ["candles", "draught"] f_lights _ := ⟨F_lights, F_lights.binds (ps := ["candles", "draught"]) (fun _ _ _ _ _ _ us hl => match us, hl with | [_, _], _ => rfl), PySem.W.mg_of X G a_lights⟩
  have F_lotsK := fun_mk (st := s_lotsK) l_lotsK c_lotsK k_lotsK
  have D_lotsK : FnAt K mg "lots" "lots" s_lotsK ["candles", "draughts"] f_lotsK _ := ⟨F_lotsK, F_lotsK.binds (ps := ["candles", "draughts"]) (fun _ _ _ _ _ _ us hl => match us, hl with | [_, _], _ => rfl), PySem.W.mg_of X G a_lotsK⟩
  have F_kept := fun_mk (st := s_kept) l_kept c_kept k_kept
  have D_kept : FnAt K mg "kept" "kept" s_kept ["candles", "draughts"] f_kept _ := ⟨F_kept, F_kept.binds (ps := ["candles", "draughts"]) (fun _ _ _ _ _ _ us hl => match us, hl with | [_, _], _ => rfl), PySem.W.mg_of X G a_kept⟩
  have F__law_draw := fun_mk (st := s__law_draw) l__law_draw c__law_draw k__law_draw
  have D__law_draw : FnAt K mg "_law_draw" "_law_draw" s__law_draw ["tape", "many"] f__law_draw _ := ⟨F__law_draw, F__law_draw.binds (ps := ["tape", "many"]) (fun _ _ _ _ _ _ us hl => match us, hl with | [_, _], _ => rfl), PySem.W.mg_of X G a__law_draw⟩
  have F__law_like := fun_mk (st := s__law_like) l__law_like c__law_like k__law_like
  have D__law_like : FnAt K mg "_law_like" "_law_like" s__law_like ["one", "two"] f__law_like _ := ⟨F__law_like, F__law_like.binds (ps := ["one", "two"]) (fun _ _ _ _ _ _ us hl => match us, hl with | [_, _], _ => rfl), PySem.W.mg_of X G a__law_like⟩
  have F__law_candles := fun_mk (st := s__law_candles) l__law_candles c__law_candles k__law_candles
  have D__law_candles : FnAt K mg "_law_candles" "_law_candles" s__law_candles ["tape", "size", "wax"] f__law_candles _ := ⟨F__law_candles, F__law_candles.binds (ps := ["tape", "size", "wax"]) (fun _ _ _ _ _ _ us hl => match us, hl with | [_, _, _], _ => rfl), PySem.W.mg_of X G a__law_candles⟩
  have F__law_draughts := fun_mk (st := s__law_draughts) l__law_draughts c__law_draughts k__law_draughts
  have D__law_draughts : FnAt K mg "_law_draughts" "_law_draughts" s__law_draughts ["tape", "size", "top"] f__law_draughts _ := ⟨F__law_draughts, F__law_draughts.binds (ps := ["tape", "size", "top"]) (fun _ _ _ _ _ _ us hl => match us, hl with | [_, _, _], _ => rfl), PySem.W.mg_of X G a__law_draughts⟩
  have F__law_near := fun_mk (st := s__law_near) l__law_near c__law_near k__law_near
  have D__law_near : FnAt K mg "_law_near" "_law_near" s__law_near ["tape", "candles", "size", "top"] f__law_near _ := ⟨F__law_near, F__law_near.binds (ps := ["tape", "candles", "size", "top"]) (fun _ _ _ _ _ _ us hl => match us, hl with | [_, _, _, _], _ => rfl), PySem.W.mg_of X G a__law_near⟩
  have F__law_night := fun_mk (st := s__law_night) l__law_night c__law_night k__law_night
  have D__law_night : FnAt K mg "_law_night" "_law_night" s__law_night ["tape", "size", "wax", "ticks", "top"] f__law_night _ := ⟨F__law_night, F__law_night.binds (ps := ["tape", "size", "wax", "ticks", "top"]) (fun _ _ _ _ _ _ us hl => match us, hl with | [_, _, _, _, _], _ => rfl), PySem.W.mg_of X G a__law_night⟩
  have F__law_burnt := fun_mk (st := s__law_burnt) l__law_burnt c__law_burnt k__law_burnt
  have D__law_burnt : FnAt K mg "_law_burnt" "_law_burnt" s__law_burnt ["candles", "lit", "out"] f__law_burnt _ := ⟨F__law_burnt, F__law_burnt.binds (ps := ["candles", "lit", "out"]) (fun _ _ _ _ _ _ us hl => match us, hl with | [_, _, _], _ => rfl), PySem.W.mg_of X G a__law_burnt⟩
  have F__law_longest_first := fun_mk (st := s__law_longest_first) l__law_longest_first c__law_longest_first k__law_longest_first
  have D__law_longest_first : FnAt K mg "_law_longest_first" "_law_longest_first" s__law_longest_first ["candles", "draught"] f__law_longest_first _ := ⟨F__law_longest_first, F__law_longest_first.binds (ps := ["candles", "draught"]) (fun _ _ _ _ _ _ us hl => match us, hl with | [_, _], _ => rfl), PySem.W.mg_of X G a__law_longest_first⟩
  have F_law := fun_mk (st := s_law) l_law c_law k_law
  exact ⟨PySem.W.fnOf "law" "law" (defArgs s_law) (defBody s_law) (defScope s_law) .none kV_law dc_law pm_law an_law cd_law ct_law, fun s v => .of_eq rfl, fun base _ _ => ok_law T F_law D_burnt D_lights D_lotsK D_kept D__law_draw D__law_like D__law_candles D__law_draughts D__law_near D__law_night D__law_burnt D__law_longest_first⟩
end LF
open PySem PySem.W PyProof.Rows
set_option maxHeartbeats 0 in
theorem PySem.Challenge.cw_lastflame_k06_whom_the_keeper_lights_by_holds : PySem.Challenge.rw_lastflame_k06_whom_the_keeper_lights_by.Holds := by
  w_on; o_law; k_head; (case hw => w_witness2)
  k_fill
  refine L2.walk_of (l := PySem.Challenge.rw_lastflame_k06_whom_the_keeper_lights_by) (n := 63) (k := 5) (x := "script") (CX := fun _ => L2.CX0) (sp := fun w => LF.spLaw _) rfl (by decide) rfl ⟨rfl, by decide, by decide⟩ (fun w h Y => PySem.W.kIn_of Y) ?F (fun _ _ a ns hl _ hS => ⟨a, ns, rfl, hS, hl, fun _ => rfl⟩) (fun _ _ _ _ _ h => h)
  case F =>
    intro w mg fa h KX G hmg
    refine' LF.all_mk KX G hmg ?a_burnt ?l_burnt ?c_burnt ?k_burnt ?a_lights ?l_lights ?c_lights ?k_lights ?a_lotsK ?l_lotsK ?c_lotsK ?k_lotsK ?a_kept ?l_kept ?c_kept ?k_kept ?a__law_draw ?l__law_draw ?c__law_draw ?k__law_draw ?a__law_like ?l__law_like ?c__law_like ?k__law_like ?a__law_candles ?l__law_candles ?c__law_candles ?k__law_candles ?a__law_draughts ?l__law_draughts ?c__law_draughts ?k__law_draughts ?a__law_near ?l__law_near ?c__law_near ?k__law_near ?a__law_night ?l__law_night ?c__law_night ?k__law_night ?a__law_burnt ?l__law_burnt ?c__law_burnt ?k__law_burnt ?a__law_longest_first ?l__law_longest_first ?c__law_longest_first ?k__law_longest_first ?a_law ?l_law ?c_law ?k_law ?z_len ?z_sum ?z_all ?z_any ?z_sorted ?z_tuple ?z_list ?z_int ?z_bool ?z_str ?z_isinstance ?z_max ?z_min ?z_range ?z_enumerate ?z_zip
    (case a_burnt => k_is)
    (case l_burnt => k_is)
    (case c_burnt => k_is)
    (case k_burnt => k_is)
    (case a_lights => k_is)
    (case l_lights => k_is)
    (case c_lights => k_is)
    (case k_lights => k_is)
    (case a_lotsK => k_is)
    (case l_lotsK => k_is)
    (case c_lotsK => k_is)
    (case k_lotsK => k_is)
    (case a_kept => k_is)
    (case l_kept => k_is)
    (case c_kept => k_is)
    (case k_kept => k_is)
    (case a__law_draw => k_is)
    (case l__law_draw => k_is)
    (case c__law_draw => k_is)
    (case k__law_draw => k_is)
    (case a__law_like => k_is)
    (case l__law_like => k_is)
    (case c__law_like => k_is)
    (case k__law_like => k_is)
    (case a__law_candles => k_is)
    (case l__law_candles => k_is)
    (case c__law_candles => k_is)
    (case k__law_candles => k_is)
    (case a__law_draughts => k_is)
    (case l__law_draughts => k_is)
    (case c__law_draughts => k_is)
    (case k__law_draughts => k_is)
    (case a__law_near => k_is)
    (case l__law_near => k_is)
    (case c__law_near => k_is)
    (case k__law_near => k_is)
    (case a__law_night => k_is)
    (case l__law_night => k_is)
    (case c__law_night => k_is)
    (case k__law_night => k_is)
    (case a__law_burnt => k_is)
    (case l__law_burnt => k_is)
    (case c__law_burnt => k_is)
    (case k__law_burnt => k_is)
    (case a__law_longest_first => k_is)
    (case l__law_longest_first => k_is)
    (case c__law_longest_first => k_is)
    (case k__law_longest_first => k_is)
    (case a_law => k_is)
    (case l_law => k_is)
    (case c_law => k_is)
    (case k_law => k_is)
    (case z_len => k_is)
    (case z_sum => k_is)
    (case z_all => k_is)
    (case z_any => k_is)
    (case z_sorted => k_is)
    (case z_tuple => k_is)
    (case z_list => k_is)
    (case z_int => k_is)
    (case z_bool => k_is)
    (case z_str => k_is)
    (case z_isinstance => k_is)
    (case z_max => k_is)
    (case z_min => k_is)
    (case z_range => k_is)
    (case z_enumerate => k_is)
    (case z_zip => k_is)

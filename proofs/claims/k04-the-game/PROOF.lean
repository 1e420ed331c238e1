import PyProof.Rows.All
import Wide.All
import OpenK.AllK
import Wide.FinOn
import KE.GoesEnum
import KE.DataMinMax
import HandS.ForMost
import HandS.IsInst
import HandS.TupAny
import HandS.TupMul
import HandS.Style
import HandS.SortInts
import HandS.SortRule
import HandS.Wide
import HandS.Walk
import HandS.More
import HandS.Codes
import HandS.Conv
import HandS.Defaults
import KE.KeyNested
import PyProof.Rows.TupTab
import PySem.Challenge.RW_lastflame_k04_whole_the_game_gone_throug
set_option Elab.async false
set_option linter.all false
set_option maxRecDepth 100000
set_option maxHeartbeats 4000000
/-! ### la_walks: enumerate and zip over lists and tuples in any mix; sum, sorted of tuples -/
namespace LF
open PySem PySem.Spec PyProof.Rows L2

def SqB (K : PySem.W.Frag) : Bool → Hp → Addr → List V → Prop
  | false => SqL K
  | true => SqT K
def IsItB : Bool → Heap → Addr → Addr → Nat → Prop
  | false => fun h it a i => h.IsListIter it a i
  | true => fun h it a i => h.IsTupleIter it a i
def IsSeqB : Bool → Heap → Addr → Array Value → Prop
  | false => fun h a items => h.IsList a items
  | true => fun h a items => h.IsTuple a items
def itObj (tp : Bool) (a : Addr) : Obj := { cls := .type (if tp then "tuple_iterator" else "list_iterator"), data := .fields #[.ref a, .int 0 0] }
theorem drawsB {prog : Program} {w : World} {A : Around} (hh : A.handled = none) (tp : Bool) (it l : Addr) (hne : l ≠ it) (items : Array Value) :
    Draws prog w A it [it, l] items.size (fun i v => items[i]? = some v) (fun i h => IsItB tp h it l i ∧ IsSeqB tp h l items) := by
  cases tp with
  | false => exact Draws.list hh it l hne items
  | true => exact Draws.tuple hh it l hne items
theorem beginsB (tp : Bool) (l : Addr) (items : Array Value) : Begins (.ref l) (itObj tp l) fun h => IsSeqB tp h l items := by
  cases tp with
  | false => exact begins_list l items
  | true => exact begins_tuple l items
theorem IsItB.obj {tp : Bool} {h : Heap} {it a : Addr} {i : Nat} (x : IsItB tp h it a i) : ∃ o : Obj, h.get? it = some o ∧ o.cls = .type (if tp then "tuple_iterator" else "list_iterator") ∧ ∃ vs, o.data = .fields vs := by
  cases tp with
  | false => obtain ⟨o, e, c, d⟩ := x; exact ⟨o, e, c, _, d⟩
  | true => obtain ⟨o, e, c, d⟩ := x; exact ⟨o, e, c, _, d⟩
theorem IsItB.at {tp : Bool} {h h' : Heap} {it a : Addr} {i : Nat} (x : IsItB tp h it a i) (k : ∀ o, h.get? it = some o → h'.get? it = some o) : IsItB tp h' it a i := by
  cases tp with
  | false => obtain ⟨o, e, c⟩ := x; exact ⟨o, k o e, c⟩
  | true => obtain ⟨o, e, c⟩ := x; exact ⟨o, k o e, c⟩
theorem IsSeqB.obj {tp : Bool} {h : Heap} {a : Addr} {items : Array Value} (x : IsSeqB tp h a items) : ∃ o : Obj, h.get? a = some o ∧ ∃ n, o.data = .seq items n := by
  cases tp with
  | false => obtain ⟨o, e, _, n, d⟩ := x; exact ⟨o, e, n, d⟩
  | true => obtain ⟨o, e, _, n, d⟩ := x; exact ⟨o, e, n, d⟩
theorem neB {tp : Bool} {h : Heap} {it a : Addr} {i : Nat} {items : Array Value} (x : IsItB tp h it a i) (y : IsSeqB tp h a items) : a ≠ it := fun e => by
  obtain ⟨o, e1, _, vs, d1⟩ := x.obj
  obtain ⟨o2, e2, n, d2⟩ := y.obj
  rw [e, e1] at e2
  cases e2
  rw [d1] at d2
  cases d2
theorem itB_new {tp : Bool} {h : Heap} {it a : Addr} (e : h.get? it = some (itObj tp a)) : IsItB tp h it a 0 := by
  cases tp with
  | false => exact ⟨_, e, rfl, rfl⟩
  | true => exact ⟨_, e, rfl, rfl⟩
section
variable {X : Cx} {pins : List (Addr × Obj)} {σ : L2.St} {H : Hp} {s : Shared} {a : Addr} {xs ys : List V}
theorem seqB (tp : Bool) (I : Inv X pins σ H s) (h : SqB X.K tp H a xs) : ∃ its : List Value, Vals xs its ∧ IsSeqB tp s.heap a its.toArray ∧ xs.length ≤ sizeLine := by
  cases tp with
  | false => obtain ⟨its, rv, p, z⟩ := I.list h; exact ⟨its, rv, p.isList, z⟩
  | true => obtain ⟨its, rv, p, z⟩ := I.tuple h; exact ⟨its, rv, p, z⟩
theorem seqB_inj {tp : Bool} (I : Inv X pins σ H s) (h : SqB X.K tp H a xs) (h' : SqB X.K tp H a ys) : xs = ys := by
  cases tp with
  | false => exact I.list_inj h h'
  | true => exact I.tuple_inj h h'
end
/-! enumerate -/
def IteB (K : PySem.W.Frag) (tp : Bool) (a : Addr) : It :=
  ⟨fun i H => ∃ (xs : List V) (x : V), SqB K tp H a xs ∧ xs[i]? = some x, fun i H v H' => ∃ T x, v = .ref T ∧ H T = none ∧ H' = upd H T (.tup [.int (i : Nat), x]) ∧ ∀ xs, SqB K tp H a xs → xs[i]? = some x, fun i H => ∃ xs : List V, SqB K tp H a xs ∧ xs.length = i⟩
theorem turn_enumB {P : Program} {w : World} {K : PySem.W.Frag} {elts : List Expr} {kk : Nat} {tpos : Pos} (tp : Bool) (a e it : Addr) :
    Turn P w K (.Tuple elts kk tpos) (IteB K tp a) [e, it] e (fun i h => (∃ old, IsEnum h e it ((i : Nat) : Int) old) ∧ IsItB tp h it a i ∧ e ≠ it) where
  mem := by simp
  obj := fun i h st b hb => by
    obtain ⟨⟨old, he⟩, hi, _⟩ := st
    obtain ⟨o, ho, _, vs, hd⟩ := hi.obj
    have e' : b = e ∨ b = it := by simpa using hb
    rcases e' with z | z
    · rw [z]; exact ⟨_, he, fun v q => nomatch q⟩
    · rw [z]; exact ⟨o, ho, fun v q => by rw [hd] at q; cases q⟩
  keep := fun i h h' st k => let ⟨⟨old, he⟩, hi, hne⟩ := st; ⟨⟨old, k e (by simp) _ he⟩, hi.at fun o q => k it (by simp) o q, hne⟩
  item := by
    intro X hP hw hK hc i pins s σ H E I hf st hg
    subst hP hw hK
    obtain ⟨⟨old, he⟩, hit, hne⟩ := st
    obtain ⟨xs, x, hq, hx⟩ := hg
    obtain ⟨its, rv, p, hz⟩ := seqB tp I hq
    obtain ⟨u, hu, ru⟩ := rv.get hx
    have hel : e < s.heap.objs.size := Heap.lt_size he
    have hil : it < s.heap.objs.size := by obtain ⟨_, q, _⟩ := hit.obj; exact Heap.lt_size q
    have hia : a ≠ it := neB hit p
    have hea : e ≠ a := fun z => by
      obtain ⟨o, ho, n, hd⟩ := p.obj
      rw [← z, he] at ho
      cases ho
      cases hd
    have hlt : i < its.toArray.size := by
      obtain ⟨h1, _⟩ := List.getElem?_eq_some_iff.mp hu
      simpa using h1
    refine wpAny_pyNext_enum_itemC (drawsB (A := X.A.in1) (I.ok.hd hc) tp it a hia its.toArray) he ⟨hit, p⟩ hlt hne (by simp [hne, hea]) fun u' h' tk hP ho hit' hT hsz hk => ?_
    have eu : u' = u := by
      have q : its.toArray[i]? = some u := by simpa using hu
      rw [q] at hP
      exact (Option.some.inj hP).symm
    subst eu
    refine ⟨_, rfl, wpAny_letOwnedTupleGo_enum (s := { s with heap := h', toks := tk + 1 }) ho fun h'' he' sb => ?_⟩
    have hT2 : h''.get? s.heap.objs.size = some { cls := .type "tuple", data := .seq #[.int i tk, u'] } := (sb.2 _ (Nat.ne_of_gt hel)).trans hT
    have new : ObjOk X.prog X.w (upd H s.heap.objs.size (.tup [.int (i : Nat), x])) h'' s.heap.objs.size (.tup [.int (i : Nat), x]) :=
      ⟨by show 2 ≤ sizeLine; decide, [.int i tk, u'], .cons ⟨_, rfl⟩ (.cons ru .nil), ⟨_, hT2, rfl, _, rfl⟩⟩
    have I1 : Inv X pins σ (upd H s.heap.objs.size (.tup [.int (i : Nat), x])) { s with heap := h'', toks := tk + 1 } :=
      I.turnedNew (ch := [e, it]) (fun b ob hb q => (sb.2 b (fun z => hb (by simp [z]))).trans (hk b ob (fun z => hb (by simp [z])) (fun z => hb (by simp [z])) q)) hf (Nat.le_refl _) new
    refine ⟨.ref s.heap.objs.size, _, I1, rfl, ⟨_, x, rfl, I.hok.fresh (Nat.le_refl _), rfl, fun ys hy => by rw [seqB_inj I hy hq]; exact hx⟩, ⟨⟨u', ?_⟩, hit'.1.at fun o q => (sb.2 it (Ne.symm hne)).trans q, hne⟩, fun b hb => ?_⟩
    · have e1 : ((i + 1 : Nat) : Int) = (i : Int) + 1 := by omega
      rw [e1]; exact he'
    · have hb' : b < s.heap.objs.size := by
        have e' : b = e ∨ b = it := by simpa using hb
        rcases e' with z | z
        · rw [z]; exact hel
        · rw [z]; exact hil
      rw [upd_ne (Nat.ne_of_lt hb')]
      exact (hf b hb).1
  done := by
    intro X hP hw hK hc i pins s σ H E I hf st hg
    subst hP hw hK
    obtain ⟨⟨old, he⟩, hit, hne⟩ := st
    obtain ⟨xs, hq, hx⟩ := hg
    obtain ⟨its, rv, p, hz⟩ := seqB tp I hq
    obtain ⟨f0, f1, f2, f3, f4, f5⟩ := hf it (by simp)
    have hl := rv.length
    have ei : i = its.toArray.size := by simp; omega
    have hia : a ≠ it := neB hit p
    exact wpAny_pyNext_enum_endD (drawsB (A := X.A.in1) (I.ok.hd hc) tp it a hia its.toArray) he (by rw [← ei]; exact ⟨hit, p⟩) fun h' eb => ⟨rfl, I.turned (t' := s.toks) (fun b o hb q => eb b o hb q) f0 f1 f3 f4 f5⟩
  self := fun A i s Q E st h => let ⟨⟨_, he⟩, _⟩ := st; wpAny_pyIter_enum he h
set_option maxHeartbeats 2000000 in
theorem meets_enum1 {v : Value} {o : Obj} {H : Heap → Prop} (B : Begins v o H) :
    Meets (Builtin.«enumerate.__new__» ⟨[.type "enumerate", v], []⟩) (fun _ R s => H s.heap ∧
      R (.ok (.ret (.ref (s.heap.push o).objs.size))) { s with heap := (s.heap.push o).push { cls := .type "enumerate", data := .fields #[.none, .bool false, .ref s.heap.objs.size, rawInt 0, .none, .none] } }) :=
  .of_wp fun prog w A R s h => by
    obtain ⟨hp, g, d, tk, os⟩ := s; obtain ⟨h1, h⟩ := h
    have hsub := sub_enumerate
    have q1 : ∀ {A' : Around} {E : Value → Shared → Prop} {Q : Value → Shared → Prop}, Q (.ref hp.objs.size) ⟨hp.push o, g, d, tk, os⟩ → wpAny (model prog w) A' (pyIter v) Q E ⟨hp, g, d, tk, os⟩ :=
      fun q => B.iter prog w _ _ ⟨hp, g, d, tk, os⟩ _ h1 q
    wp_walk
    refine wpAny_stack_any fun st => wpAny_pure ?_
    split
    · rename_i c _ _ _ _ _
      cases (c == Value.type "enumerate")
      · wp_walk using q1
        exact ⟨_, rfl, h⟩
      · wp_walk using q1
        exact ⟨_, rfl, h⟩
    · wp_walk using q1
      exact ⟨_, rfl, h⟩
theorem enum1_begins {prog : Program} {w : World} {A : Around} {E : Value → Shared → Prop} {s : Shared} {v : Value} {o : Obj} {H : Heap → Prop} {Q : Value → Shared → Prop} (B : Begins v o H) (h1 : H s.heap)
    (h : ∀ h', IsEnum h' (s.heap.objs.size + 1) s.heap.objs.size 0 .none → h'.get? s.heap.objs.size = some o → h'.objs.size = s.heap.objs.size + 2 →
      (∀ b o, s.heap.get? b = some o → h'.get? b = some o) → Q (.ref (s.heap.objs.size + 1)) { s with heap := h' }) :
    wpAny (model prog w) A (call (.type "enumerate") [v]) Q E s := by
  refine callType_new F.called_enumerate (by decide) (F.typeCall_enumerate_1 _) (F.newCall_enumerate_1 _) (fun obj => F.args_object_init_2 obj _) F.entry_enumerate_new
    (meets_enum1 B) ⟨h1, ?_⟩
  have hz : (s.heap.push o).objs.size = s.heap.objs.size + 1 := Heap.size_push ..
  show _ ∧ _
  rw [hz]
  have he : IsEnum ((s.heap.push o).push { cls := .type "enumerate", data := .fields #[.none, .bool false, .ref s.heap.objs.size, rawInt 0, .none, .none] }) (s.heap.objs.size + 1) s.heap.objs.size 0 .none := by
    have := Heap.get?_push_size (s.heap.push o) (o := { cls := .type "enumerate", data := .fields #[.none, .bool false, .ref s.heap.objs.size, rawInt 0, .none, .none] }) rfl
    rw [hz] at this; exact this
  refine ⟨⟨_, he, rfl⟩, h _ he (Heap.get?_push_of_some _ (Heap.get?_push_size _ B.free)) (by rw [Heap.size_push, hz]) fun b o x => Heap.get?_push_of_some _ (Heap.get?_push_of_some _ x)⟩
/-- enumerate of a list (false) or a tuple (true) -/
def iEnumB (K : PySem.W.Frag) (tp : Bool) (ta : TA) : TI := fun σ H R => ta σ H fun vs H1 => ∃ a xs, vs = [.ref a] ∧ SqB K tp H1 a xs ∧ R (IteB K tp a) H1
theorem pi_enumB {X : Cx} (tp : Bool) {e : Expr} {ta : TA} {p pos tpos : Pos} {elts : List Expr} {kk : Nat} (hg : Gl X "enumerate") (hm : X.mg "enumerate" = none) (ha : PA X [e] ta) (hs : starEach [e] X.env = [(false, eval e X.env)] := by rfl) :
    PI X (.Tuple elts kk tpos) (.Call (.Name "enumerate" p) [e] [] pos) (iEnumB X.K tp ta) := by
  refine ⟨fun pins s σ H R I h => ?_⟩
  refine Call_ (ld_blt I hg hm boot_enumerate (PyProof.Rows.callWith_type1 (thn (ha.run pos pins s σ H _ I h) fun us s1 ⟨vs, H1, I1, r1, q1⟩ => ?_) hs rfl))
  obtain ⟨a, xs, ex, hq, q⟩ := q1
  subst ex
  cases r1 with
  | cons r rr =>
    cases rr
    cases r
    obtain ⟨its, rv, p', hz⟩ := seqB tp I1 hq
    refine enum1_begins (beginsB tp a its.toArray) p' fun h' he hit hsz hk => wpAny_pyIter_enum he ?_
    have I2 : Inv X pins σ H1 { s1 with heap := h' } := I1.kept (t' := s1.toks) hk
    refine ⟨s1.heap.objs.size + 1, [s1.heap.objs.size + 1, s1.heap.objs.size], _, _, H1, rfl, I2, turn_enumB tp a (s1.heap.objs.size + 1) s1.heap.objs.size, ⟨⟨.none, he⟩, itB_new hit, Nat.succ_ne_self _⟩, fun b hb => ?_, q⟩
    have e' : b = s1.heap.objs.size + 1 ∨ b = s1.heap.objs.size := by simpa using hb
    have hle : s1.heap.objs.size ≤ b := by
      rcases e' with z | z
      · rw [z]; exact Nat.le_add_right _ _
      · rw [z]; exact Nat.le_refl _
    exact I1.fpOk hle (I1.hok.fresh hle)
theorem pi_enumT {X : Cx} {e : Expr} {ta : TA} {p pos tpos : Pos} {elts : List Expr} {kk : Nat} (hg : Gl X "enumerate") (hm : X.mg "enumerate" = none) (ha : PA X [e] ta) (hs : starEach [e] X.env = [(false, eval e X.env)] := by rfl) :
    PI X (.Tuple elts kk tpos) (.Call (.Name "enumerate" p) [e] [] pos) (iEnumB X.K true ta) := pi_enumB true hg hm ha hs
theorem pi_enumL {X : Cx} {e : Expr} {ta : TA} {p pos tpos : Pos} {elts : List Expr} {kk : Nat} (hg : Gl X "enumerate") (hm : X.mg "enumerate" = none) (ha : PA X [e] ta) (hs : starEach [e] X.env = [(false, eval e X.env)] := by rfl) :
    PI X (.Tuple elts kk tpos) (.Call (.Name "enumerate" p) [e] [] pos) (iEnumB X.K false ta) := pi_enumB false hg hm ha hs
theorem walk_enumB {K : PySem.W.Frag} {tp : Bool} {a : Addr} {xs : List V} : Walk (IteB K tp a) xs.length (fun H => SqB K tp H a xs) (YPair (fun i => some (.int (i : Nat))) (fun i => xs[i]?)) := by
  refine ⟨fun i _ hi q => ⟨xs, xs[i], q, by simp [hi]⟩, fun _ q => ⟨xs, q, rfl⟩, fun i H v H' _ q y => ?_⟩
  obtain ⟨T, x, h1, h2, h3, h4⟩ := y
  exact ⟨T, .int (i : Nat), x, h1, h2, h3, rfl, h4 xs q⟩
/-! zip of two, each a list or a tuple -/
def ItzB (K : PySem.W.Frag) (ta tb : Bool) (a b : Addr) : It :=
  ⟨fun i H => ∃ (xs ys : List V) (x y : V), SqB K ta H a xs ∧ SqB K tb H b ys ∧ xs[i]? = some x ∧ ys[i]? = some y,
    fun i H v H' => ∃ T x y, v = .ref T ∧ H T = none ∧ H' = upd H T (.tup [x, y]) ∧ (∀ xs, SqB K ta H a xs → xs[i]? = some x) ∧ ∀ ys, SqB K tb H b ys → ys[i]? = some y,
    fun i H => ∃ xs ys : List V, SqB K ta H a xs ∧ SqB K tb H b ys ∧ i = min xs.length ys.length⟩
theorem turn_zipB {P : Program} {w : World} {K : PySem.W.Frag} {elts : List Expr} {kk : Nat} {tpos : Pos} (ka kb : Bool) {a b : Addr} {N : Nat} (la : a < N) (lb : b < N) :
    Turn P w K (.Tuple elts kk tpos) (ItzB K ka kb a b) [N + 4, N + 2, N + 3, N, N + 1] (N + 4) (fun i h => IsZip h (N + 4) (N + 2) (N + 3) .none ∧ IsTupOf2 h (N + 2) (.ref N) (.ref (N + 1)) ∧ (∃ x y, IsTupOf2 h (N + 3) x y) ∧ IsItB ka h N a i ∧ IsItB kb h (N + 1) b i) where
  mem := by simp
  obj := fun i h st c hc => by
    obtain ⟨hz, hTI, ⟨x, y, hTO⟩, h1, h2⟩ := st
    obtain ⟨o1, e1, _, v1, d1⟩ := h1.obj
    obtain ⟨o2, e2, _, v2, d2⟩ := h2.obj
    have e' : c = N + 4 ∨ c = N + 2 ∨ c = N + 3 ∨ c = N ∨ c = N + 1 := by simpa using hc
    rcases e' with q | q | q | q | q
    · rw [q]; exact ⟨_, hz, fun v q => nomatch q⟩
    · rw [q]; exact ⟨_, hTI, fun v q => nomatch q⟩
    · rw [q]; exact ⟨_, hTO, fun v q => nomatch q⟩
    · rw [q]; exact ⟨o1, e1, fun v q => by rw [d1] at q; cases q⟩
    · rw [q]; exact ⟨o2, e2, fun v q => by rw [d2] at q; cases q⟩
  keep := fun i h h' st k => by
    obtain ⟨hz, hTI, ⟨x, y, hTO⟩, h1, h2⟩ := st
    exact ⟨k _ (by simp) _ hz, k _ (by simp) _ hTI, ⟨x, y, k _ (by simp) _ hTO⟩, h1.at fun o q => k _ (by simp) o q, h2.at fun o q => k _ (by simp) o q⟩
  item := by
    intro X hP hw hK hc i pins s σ H E I hf st hg
    subst hP hw hK
    obtain ⟨hz, hTI, ⟨x0, y0, hTO⟩, h1, h2⟩ := st
    obtain ⟨xs, ys, x, y, hqx, hqy, hx, hy⟩ := hg
    obtain ⟨its, rv, p, _⟩ := seqB ka I hqx
    obtain ⟨its2, rv2, p2, _⟩ := seqB kb I hqy
    obtain ⟨u, hu, ru⟩ := rv.get hx
    obtain ⟨u2, hu2, ru2⟩ := rv2.get hy
    have hzl : N + 4 < s.heap.objs.size := Heap.lt_size hz
    have S : ZipSep2 (N + 4) (N + 2) (N + 3) N (N + 1) [N, a] [N + 1, b] := zip_sep2 (fp1 := [a]) (fp2 := [b]) (by simpa using la) (by simpa using lb)
    have D1 := drawsB (prog := X.prog) (w := X.w) (A := X.A.in1) (I.ok.hd hc) ka N a (Nat.ne_of_lt la) its.toArray
    have D2 := drawsB (prog := X.prog) (w := X.w) (A := X.A.in1) (I.ok.hd hc) kb (N + 1) b (Nat.ne_of_lt (Nat.lt_succ_of_lt lb)) its2.toArray
    have hlt : i < its.toArray.size := by
      obtain ⟨h1, _⟩ := List.getElem?_eq_some_iff.mp hu
      simpa using h1
    have hlt2 : i < its2.toArray.size := by
      obtain ⟨h1, _⟩ := List.getElem?_eq_some_iff.mp hu2
      simpa using h1
    refine wpAny_pyNext_zipD2_item S D1 D2 hz hTI hTO ⟨h1, p⟩ ⟨h2, p2⟩ hlt hlt2 fun u' u2' h' tk hP1 hP2 z' TO' h1' h2' hT hsz hk => ?_
    have eu : u' = u := by
      have q : its.toArray[i]? = some u := by simpa using hu
      rw [q] at hP1
      exact (Option.some.inj hP1).symm
    have eu2 : u2' = u2 := by
      have q : its2.toArray[i]? = some u2 := by simpa using hu2
      rw [q] at hP2
      exact (Option.some.inj hP2).symm
    subst eu eu2
    refine ⟨_, rfl, wpAny_letOwnedTupleGo_zip (s := { s with heap := h', toks := tk }) z' fun h'' z'' sb => ?_⟩
    have hT2 : h''.get? s.heap.objs.size = some { cls := .type "tuple", data := .seq #[u', u2'] } := (sb.2 _ (Nat.ne_of_gt hzl)).trans hT
    have new : ObjOk X.prog X.w (upd H s.heap.objs.size (.tup [x, y])) h'' s.heap.objs.size (.tup [x, y]) :=
      ⟨by show 2 ≤ sizeLine; decide, [u', u2'], .cons ru (.cons ru2 .nil), ⟨_, hT2, rfl, _, rfl⟩⟩
    have I1 : Inv X pins σ (upd H s.heap.objs.size (.tup [x, y])) { s with heap := h'', toks := tk } :=
      I.turnedNew (ch := [N + 4, N + 2, N + 3, N, N + 1]) (fun c o hb q => (sb.2 c (fun q' => hb (by simp [q']))).trans (hk c o (fun q' => hb (by simp [q'])) (fun q' => hb (by simp [q'])) (fun q' => hb (by simp [q'])) (fun q' => hb (by simp [q'])) q)) hf (Nat.le_refl _) new
    refine ⟨.ref s.heap.objs.size, _, I1, rfl, ⟨_, x, y, rfl, I.hok.fresh (Nat.le_refl _), rfl, fun l hl => by rw [seqB_inj I hl hqx]; exact hx, fun l hl => by rw [seqB_inj I hl hqy]; exact hy⟩, ⟨z'', ?_, ⟨u', u2', ?_⟩, ?_, ?_⟩, fun c hcm => ?_⟩
    · exact (sb.2 _ S.TIz).trans (hk _ _ S.TIz S.TITO S.TIi1 S.TIi2 hTI)
    · exact (sb.2 _ S.TOz).trans TO'
    · exact h1'.1.at fun o q => (sb.2 _ (Ne.symm S.zi1)).trans q
    · exact h2'.1.at fun o q => (sb.2 _ (Ne.symm S.zi2)).trans q
    · have hlt : c < s.heap.objs.size := by
        have e' : c = N + 4 ∨ c = N + 2 ∨ c = N + 3 ∨ c = N ∨ c = N + 1 := by simpa using hcm
        rcases e' with q | q | q | q | q
        · rw [q]; exact hzl
        · rw [q]; exact Heap.lt_size hTI
        · rw [q]; exact Heap.lt_size hTO
        · rw [q]; obtain ⟨_, e1, _⟩ := h1.obj; exact Heap.lt_size e1
        · rw [q]; obtain ⟨_, e2, _⟩ := h2.obj; exact Heap.lt_size e2
      rw [upd_ne (Nat.ne_of_lt hlt)]
      exact (hf c hcm).1
  done := by
    intro X hP hw hK hc i pins s σ H E I hf st hg
    subst hP hw hK
    obtain ⟨hz, hTI, ⟨x0, y0, hTO⟩, h1, h2⟩ := st
    obtain ⟨xs, ys, hqx, hqy, hend⟩ := hg
    obtain ⟨its, rv, p, _⟩ := seqB ka I hqx
    obtain ⟨its2, rv2, p2, _⟩ := seqB kb I hqy
    have l1 := rv.length
    have l2 := rv2.length
    have S : ZipSep2 (N + 4) (N + 2) (N + 3) N (N + 1) [N, a] [N + 1, b] := zip_sep2 (fp1 := [a]) (fp2 := [b]) (by simpa using la) (by simpa using lb)
    have D1 := drawsB (prog := X.prog) (w := X.w) (A := X.A.in1) (I.ok.hd hc) ka N a (Nat.ne_of_lt la) its.toArray
    have D2 := drawsB (prog := X.prog) (w := X.w) (A := X.A.in1) (I.ok.hd hc) kb (N + 1) b (Nat.ne_of_lt (Nat.lt_succ_of_lt lb)) its2.toArray
    exact wpAny_pyNext_zipD2_end S D1 D2 hz hTI hTO ⟨h1, p⟩ ⟨h2, p2⟩ (by simp; omega) (by simp; omega) (by simp; omega) fun h' tk hk => ⟨rfl, I.turnedL (t' := tk) (ch := [N + 4, N + 2, N + 3, N, N + 1]) (fun c o hb q =>
      hk c o (fun q' => hb (by simp [q'])) (fun q' => hb (by simp [q'])) (fun q' => hb (by simp [q'])) (fun q' => hb (by simp [q'])) q) hf⟩
  self := fun A i s Q E st h => wpAny_pyIter_zip st.1 h
def iZipB (K : PySem.W.Frag) (ka kb : Bool) (ta : TA) : TI := fun σ H R => ta σ H fun vs H1 => ∃ a b xs ys, vs = [.ref a, .ref b] ∧ SqB K ka H1 a xs ∧ SqB K kb H1 b ys ∧ R (ItzB K ka kb a b) H1
theorem pi_zipB {X : Cx} (ka kb : Bool) {e e2 : Expr} {ta : TA} {p pos tpos : Pos} {elts : List Expr} {kk : Nat} (hg : Gl X "zip") (hm : X.mg "zip" = none) (ha : PA X [e, e2] ta)
    (hs : starEach [e, e2] X.env = (false, eval e X.env) :: starEach [e2] X.env := by rfl) (hpl : (backTo pos (starEach [e2] X.env)).any (·.1) = false := by rfl) :
    PI X (.Tuple elts kk tpos) (.Call (.Name "zip" p) [e, e2] [] pos) (iZipB X.K ka kb ta) := by
  refine ⟨fun pins s σ H R I h => ?_⟩
  refine Call_ (ld_blt I hg hm PyProof.Rows.boot_zip (PyProof.Rows.callWith_type1 (thn (ha.run pos pins s σ H _ I h) fun us s1 ⟨vs, H1, I1, r1, q1⟩ => ?_) hs hpl))
  obtain ⟨a, b, xs, ys, ex, hqx, hqy, q⟩ := q1
  subst ex
  cases r1 with
  | cons r rr =>
    cases rr with
    | cons r' rr =>
      cases rr
      cases r
      cases r'
      obtain ⟨its, rv, p1, _⟩ := seqB ka I1 hqx
      obtain ⟨its2, rv2, p2, _⟩ := seqB kb I1 hqy
      have la : a < s1.heap.objs.size := by obtain ⟨_, e, _⟩ := p1.obj; exact Heap.lt_size e
      have lb : b < s1.heap.objs.size := by obtain ⟨_, e, _⟩ := p2.obj; exact Heap.lt_size e
      refine zip_begins2 (beginsB ka a its.toArray) (beginsB kb b its2.toArray) p1 p2 fun h' hz hTI hTO h1 h2 hsz hk => wpAny_pyIter_zip hz ?_
      have I2 : Inv X pins σ H1 { s1 with heap := h' } := I1.kept (t' := s1.toks) hk
      refine ⟨s1.heap.objs.size + 4, [s1.heap.objs.size + 4, s1.heap.objs.size + 2, s1.heap.objs.size + 3, s1.heap.objs.size, s1.heap.objs.size + 1], _, _, H1, rfl, I2, turn_zipB ka kb la lb, ⟨hz, hTI, ⟨_, _, hTO⟩, itB_new h1, itB_new h2⟩, fun c hcm => ?_, q⟩
      have e' : c = s1.heap.objs.size + 4 ∨ c = s1.heap.objs.size + 2 ∨ c = s1.heap.objs.size + 3 ∨ c = s1.heap.objs.size ∨ c = s1.heap.objs.size + 1 := by simpa using hcm
      have hle : s1.heap.objs.size ≤ c := by
        rcases e' with z | z | z | z | z
        · rw [z]; exact Nat.le_add_right _ _
        · rw [z]; exact Nat.le_add_right _ _
        · rw [z]; exact Nat.le_add_right _ _
        · rw [z]; exact Nat.le_refl _
        · rw [z]; exact Nat.le_add_right _ _
      exact I1.fpOk hle (I1.hok.fresh hle)
theorem walk_zipB {K : PySem.W.Frag} {ka kb : Bool} {a b : Addr} {xs ys : List V} {n : Nat} (hn : n = min xs.length ys.length) : Walk (ItzB K ka kb a b) n (fun H => SqB K ka H a xs ∧ SqB K kb H b ys) (YPair (fun i => xs[i]?) (fun i => ys[i]?)) := by
  subst hn
  refine ⟨fun i _ hi q => ?_, fun _ q => ⟨xs, ys, q.1, q.2, rfl⟩, fun i H v H' _ q y => ?_⟩
  · have h1 : i < xs.length := by omega
    have h2 : i < ys.length := by omega
    exact ⟨xs, ys, xs[i], ys[i], q.1, q.2, by simp [h1], by simp [h2]⟩
  · obtain ⟨T, x, z, h1, h2, h3, h4, h5⟩ := y
    exact ⟨T, x, z, h1, h2, h3, h4 xs q.1, h5 ys q.2⟩
end LF
/-! ### la_base: what every def's walk uses -/
namespace LF
open PySem PySem.Spec PyProof.Rows L2
/-- the built-ins' names are theirs -/
structure Bl (mg : Str → Option Value) : Prop where
  len : mg "len" = none
  sum : mg "sum" = none
  all : mg "all" = none
  any : mg "any" = none
  sorted : mg "sorted" = none
  tuple : mg "tuple" = none
  list : mg "list" = none
  int : mg "int" = none
  bool : mg "bool" = none
  str : mg "str" = none
  isinstance : mg "isinstance" = none
  max : mg "max" = none
  min : mg "min" = none
  range : mg "range" = none
  enumerate : mg "enumerate" = none
  zip : mg "zip" = none
/-- a def of the text at its place -/
structure FnAt (K : PySem.W.Frag) (mg : Str → Option Value) (gx x : Str) (st : Stmt) (ps : List Str) (f : Addr) (fd : FuncData) : Prop where
  F : Fun K x x st f fd
  b : Binds K fd ps []
  g : mg gx = some (.ref f)
abbrev vi (ns : List Int) : List V := ns.map V.int
theorem vi_snoc (zs : List Int) (z : Int) : vi (zs ++ [z]) = vi zs ++ [.int z] := List.map_append
theorem vi_app (xs ys : List Int) : vi (xs ++ ys) = vi xs ++ vi ys := List.map_append
theorem vi_len (ns : List Int) : (vi ns).length = ns.length := List.length_map _
/-- all but t as it was -/
def Smt (t : Addr) (H H' : Hp) : Prop := ∀ b o, H b = some o → b ≠ t → H' b = some o
theorem Smt.refl (t : Addr) (H : Hp) : Smt t H H := fun _ _ h _ => h
theorem Smt.trans {t : Addr} {H H1 H2 : Hp} (a : Smt t H H1) (b : Smt t H1 H2) : Smt t H H2 := fun c o h n => b c o (a c o h n) n
theorem Smt.of {t : Addr} {H H' : Hp} (a : Same H H') : Smt t H H' := fun b o h _ => a b o h
theorem Smt.upd {t : Addr} {H : Hp} {o : HO} : Smt t H (upd H t o) := fun b u h n => by rw [upd_ne n]; exact h
theorem _root_.L2.Same.new {H : Hp} {p : Addr} {o : HO} (h : H p = none) : Same H (upd H p o) := fun b u e => by
  rw [upd_ne (ne_of_none e h)]
  exact e
/-- a tracked object that H did not know may change -/
theorem _root_.L2.Same.mut {H H' : Hp} {p : Addr} {o : HO} (e : Same H H') (h : H p = none) : Same H (upd H' p o) := fun a u ha => by
  rw [upd_ne (ne_of_none ha h)]
  exact e a u ha
theorem _root_.L2.Same.sqt {K : PySem.W.Frag} {H H' : Hp} {a : Addr} {xs : List V} (e : Same H H') (h : SqT K H a xs) : SqT K H' a xs := by
  rcases h with (h | ⟨o, h⟩) | h
  · exact .inl (.inl (e _ _ h))
  · exact .inl (.inr ⟨o, e _ _ h⟩)
  · exact .inr h
theorem _root_.L2.Same.sqb {K : PySem.W.Frag} {H H' : Hp} {a : Addr} {xs : List V} {tp : Bool} (e : Same H H') (h : SqB K tp H a xs) : SqB K tp H' a xs := by
  cases tp with
  | false => exact e.seq h
  | true => exact e.sqt h
/-- the tape at t: the script's numbers in a list at a, how many cells are read, what is left of the last one -/
def TapeAt (H : Hp) (t a : Addr) : Prop := ∃ (ns : List Int) (i c : Int), H t = some (.lst [.ref a, .int i, .int c]) ∧ H a = some (.lst (vi ns)) ∧ 0 ≤ c
theorem TapeAt.ex {H : Hp} {t a : Addr} (h : TapeAt H t a) : ∃ xs, H t = some (.lst xs) := by
  obtain ⟨ns, i, c, h, _⟩ := h
  exact ⟨_, h⟩
theorem TapeAt.same {H H' : Hp} {t a : Addr} (e : Same H H') (h : TapeAt H t a) : TapeAt H' t a := by
  obtain ⟨ns, i, c, h1, h2, h3⟩ := h
  exact ⟨ns, i, c, e _ _ h1, e _ _ h2, h3⟩
theorem TapeAt.ne_none {H : Hp} {t a p : Addr} (h : TapeAt H t a) (n : H p = none) : t ≠ p := by
  obtain ⟨xs, e⟩ := h.ex
  exact ne_of_none e n
theorem TapeAt.ne_none2 {H : Hp} {t a p : Addr} (h : TapeAt H t a) (n : H p = none) : a ≠ p := by
  obtain ⟨ns, i, c, h1, h2, h3⟩ := h
  exact ne_of_none h2 n
theorem TapeAt.ta {H : Hp} {t a : Addr} (h : TapeAt H t a) : a ≠ t := fun z => by
  obtain ⟨ns, i, c, h1, h2, h3⟩ := h
  rw [z, h1] at h2
  have e := congrArg (fun o : Option HO => match o with | some (.lst (.ref _ :: _)) => true | _ => false) h2
  cases ns <;> cases e
/-- another object is written -/
theorem TapeAt.but {H H' : Hp} {t a p : Addr} (h : TapeAt H t a) (s : Smt p H H') (n1 : t ≠ p) (n2 : a ≠ p) : TapeAt H' t a := by
  obtain ⟨ns, i, c, h1, h2, h3⟩ := h
  exact ⟨ns, i, c, s _ _ h1 n1, s _ _ h2 n2, h3⟩
theorem TapeAt.upd {H : Hp} {t a p : Addr} {o : HO} (h : TapeAt H t a) (n : H p = none) : TapeAt (L2.upd H p o) t a := h.same (Same.new n)
theorem Smt.tup {t a b : Addr} {H H' : Hp} {xs : List V} (s : Smt t H H') (h : TapeAt H t b) (e : H a = some (.tup xs)) : H' a = some (.tup xs) := by
  refine s a _ e fun z => ?_
  obtain ⟨ys, e2⟩ := h.ex
  rw [z, e2] at e
  cases e
theorem Smt.sqt {K : PySem.W.Frag} {t a b : Addr} {H H' : Hp} {xs : List V} (s : Smt t H H') (h : TapeAt H t b) (e : SqT K H a xs) : SqT K H' a xs := by
  obtain ⟨ys, e2⟩ := h.ex
  rcases e with (e | ⟨o, e⟩) | e
  · exact .inl (.inl (s.tup h e))
  · refine .inl (.inr ⟨o, s a _ e fun z => ?_⟩)
    rw [z, e2] at e
    cases e
  · exact .inr e
theorem same_smt {H H' H2 : Hp} {o : Addr} (s : Same H H2) (t : Smt o H2 H') (n : H o = none) : Same H H' := fun a u ha => t a u (s a u ha) (ne_of_none ha n)
theorem Smt.lst {t a : Addr} {H H' : Hp} {o : HO} (s : Smt t H H') (n : a ≠ t) (e : H a = some o) : H' a = some o := s a o e n
/-- what is new is tracked besides -/
theorem Smt.new {t p : Addr} {H H' : Hp} {o : HO} (s : Smt t H H') (n : H p = none) : Smt t H (L2.upd H' p o) := fun b u h hb => by
  rw [upd_ne (ne_of_none h n)]
  exact s b u h hb
theorem Smt.free {t p : Addr} {H H' : Hp} (s : Smt t H H') (n : H' p = none) (hp : p ≠ t) : H p = none := by
  cases q : H p with
  | none => rfl
  | some o =>
    rw [s p o q hp] at n
    cases n
theorem atI_mod {ns : List Int} (h : 0 < ns.length) (i : Int) : ∃ z, atI (vi ns) (i % (((vi ns).length : Nat) : Int)) = some (.int z) := by
  rw [vi_len]
  have h1 : 0 ≤ i % (ns.length : Int) := Int.emod_nonneg i (by omega)
  have h2 : i % (ns.length : Int) < (ns.length : Int) := Int.emod_lt_of_pos i (by omega)
  have h3 : (((i % (ns.length : Int)).toNat : Nat) : Int) = i % (ns.length : Int) := Int.toNat_of_nonneg h1
  have h4 : (i % (ns.length : Int)).toNat < ns.length := by omega
  have h5 : atI (vi ns) (((i % (ns.length : Int)).toNat : Nat) : Int) = some (.int ns[(i % (ns.length : Int)).toNat]) := atI_nat (by
    rw [List.getElem?_map, List.getElem?_eq_getElem h4]
    rfl)
  exact ⟨ns[(i % (ns.length : Int)).toNat], (congrArg (atI (vi ns)) h3.symm).trans h5⟩
theorem vi_get {ns : List Int} {i : Nat} {x : V} (h : (vi ns)[i]? = some x) : ∃ z, ns[i]? = some z ∧ x = .int z := by
  rw [List.getElem?_map] at h
  cases e : ns[i]? with
  | none =>
    rw [e] at h
    cases h
  | some z =>
    rw [e] at h
    exact ⟨z, rfl, (Option.some.inj h).symm⟩
theorem vi_at {ns : List Int} {i : Nat} (h : i < ns.length) : (vi ns)[i]? = some (.int ns[i]) := by
  rw [List.getElem?_map, List.getElem?_eq_getElem h]
  rfl
theorem vi_flat : ∀ ns : List Int, (vi ns).all flatV = true
  | [] => rfl
  | _ :: r => by
    show (true && (vi r).all flatV) = true
    rw [vi_flat r]
    rfl
/-- an if whose test is known -/
theorem if_t {c : Bool} {A B : Prop} (hc : c = true) (h : A) : if c = true then A else B := by
  rw [if_pos hc]
  exact h
theorem if_f {c : Bool} {A B : Prop} (hc : c = false) (h : B) : if c = true then A else B := by
  rw [hc, if_neg Bool.false_ne_true]
  exact h
/-- both ways -/
theorem if_b {c : Bool} {A B : Prop} (h1 : c = true → A) (h2 : c = false → B) : if c = true then A else B := by
  cases c with
  | true => exact if_t rfl (h1 rfl)
  | false => exact if_f rfl (h2 rfl)
/-- a if t else b, both of them one value -/
theorem if_val {c : Bool} {ta tb : TE} {σ : L2.St} {H : Hp} {Q : VK} (v : V) (h1 : c = true → ∀ Q : VK, Q v H → ta σ H Q) (h2 : c = false → ∀ Q : VK, Q v H → tb σ H Q) (h : Q v H) : if c = true then ta σ H Q else tb σ H Q :=
  if_b (fun e => h1 e Q h) (fun e => h2 e Q h)
theorem sz3 {n : Nat} (h : n ≤ 1000) : n ≤ sizeLine := Nat.le_of_lt (small1000 h)
end LF
/-! ### la_comp: comprehensions by what they give -/
namespace LF
open PySem PySem.Spec PyProof.Rows L2
section
variable {J : It} {n : Nat} {G : Hp → Prop} {Y : Nat → Hp → V → Hp → Prop} {g : TG} {tt : TT} {te : TE} {vs : List Nat} {σ : L2.St} {H1 : Hp} {D : Addr} {Qd : Hp → Prop}
/-- no test -/
theorem lc_yes {σ2 : L2.St} {H : Hp} {ky : V → Hp → Prop} {kn : Hp → Prop} (h : te σ2 H ky) : tYes σ2 H fun b H3 => if b = true then te σ2 H3 ky else kn H3 := if_t (B := kn H) rfl h
/-- S: by the turn, the items so far, the heap -/
theorem lc_gen (w : Walk J n G Y) (S : Nat → List V → Hp → Prop) (h0 : S 0 [] (upd H1 D (.lst []))) (hG : ∀ i acc H, S i acc H → H D = some (.lst acc) → G H) (hlen : ∀ i acc H, S i acc H → acc.length < sizeLine)
    (hs : ∀ i x H H' acc (kn : Hp → Prop) (ky : V → Hp → Prop), i < n → S i acc H → H D = some (.lst acc) → Y i H x H' → (∀ H3, H3 D = some (.lst acc) → S (i + 1) acc H3 → kn H3) →
      (∀ y H4, H4 D = some (.lst acc) → S (i + 1) (acc ++ [y]) (upd H4 D (.lst (acc ++ [y]))) → ky y H4) →
      g x (wipe σ vs) H' fun σ2 H2 => wipe σ2 vs = wipe σ vs ∧ tt σ2 H2 fun b H3 => if b = true then te σ2 H3 ky else kn H3) (hd : ∀ acc H, S n acc H → H D = some (.lst acc) → Qd H) :
    ∃ W : Nat → Nat → Hp → Prop, (∃ m, W 0 m (upd H1 D (.lst []))) ∧ ∀ i m H, W i m H →
      (J.stop i H ∧ Qd H) ∨ (J.go i H ∧ ∃ Nx : Hp → Prop, (∀ H', Nx H' → ∃ m', m' < m ∧ W (i + 1) m' H') ∧ ∀ x H', J.yld i H x H' → g x (wipe σ vs) H' fun σ2 H2 => wipe σ2 vs = wipe σ vs ∧ tt σ2 H2 fun b H3 =>
        if b = true then te σ2 H3 fun y H4 => ∃ acc, H4 D = some (.lst acc) ∧ acc.length < sizeLine ∧ Nx (upd H4 D (.lst (acc ++ [y]))) else Nx H3) := by
  refine lc_it w (fun i H => ∃ acc, H D = some (.lst acc) ∧ S i acc H) ⟨[], upd_same, h0⟩ (fun i H _ ⟨acc, h1, h2⟩ => hG i acc H h2 h1) (fun i x H H' hi ⟨acc, h1, h2⟩ y => ?_) (fun H ⟨acc, h1, h2⟩ => hd acc H h2 h1)
  exact hs i x H H' acc _ _ hi h2 h1 y (fun H3 e s => ⟨acc, e, s⟩) fun y H4 e s => ⟨acc, e, hlen _ _ _ h2, _, upd_same, s⟩
theorem paired_app {α β : Type} {F : α → β → Prop} : ∀ {l1 : List α} {l2 : List β} {m1 : List α} {m2 : List β}, Paired F l1 l2 → Paired F m1 m2 → Paired F (l1 ++ m1) (l2 ++ m2)
  | _, _, _, _, .nil, s => s
  | _, _, _, _, .cons r t, s => .cons r (paired_app t s)
theorem paired_mono {α β : Type} {F F' : α → β → Prop} (h : ∀ a b, F a b → F' a b) : ∀ {l1 : List α} {l2 : List β}, Paired F l1 l2 → Paired F' l1 l2
  | _, _, .nil => .nil
  | _, _, .cons r t => .cons (h _ _ r) (paired_mono h t)
theorem paired_get {α β : Type} {F : α → β → Prop} : ∀ {l1 : List α} {l2 : List β} {i : Nat} {x : α}, Paired F l1 l2 → l1[i]? = some x → ∃ y, l2[i]? = some y ∧ F x y
  | _, _, i, x, .nil, e => by simp at e
  | _, _, 0, x, .cons r _, e => by
    cases Option.some.inj e
    exact ⟨_, rfl, r⟩
  | _, _, i + 1, x, .cons _ t, e => paired_get (i := i) t e
theorem all_snoc {α : Type} {P : α → Prop} {zs : List α} {z : α} (h : ∀ c ∈ zs, P c) (hz : P z) : ∀ c ∈ zs ++ [z], P c := fun c hc => by
  rcases List.mem_append.mp hc with q | q
  · exact h c q
  · rw [List.mem_singleton.mp q]
    exact hz
theorem paired_len {α β : Type} {F : α → β → Prop} : ∀ {l1 : List α} {l2 : List β}, Paired F l1 l2 → l1.length = l2.length
  | _, _, .nil => rfl
  | _, _, .cons _ t => congrArg (· + 1) (paired_len t)
theorem filterMap_succ {α : Type} (R : Nat → Option α) (i : Nat) : (List.range (i + 1)).filterMap R = (List.range i).filterMap R ++ (R i).toList := by
  rw [List.range_succ, List.filterMap_append]
  cases e : R i <;> simp [e]
theorem filterMap_le {α : Type} (R : Nat → Option α) (n : Nat) : ((List.range n).filterMap R).length ≤ n := by
  have h := List.length_filterMap_le R (List.range n)
  rw [List.length_range] at h
  exact h
/-- nothing but new objects is made on the way; the items by a relation that lasts while a list (the new one) changes -/
theorem lc_rel {α : Type} (w : Walk J n G Y) (hD : H1 D = none) (hn : n ≤ 1000) (ρ : Hp → V → α → Prop) (mono : ∀ (H H' : Hp) (D : Addr) (acc : List V) v a, H D = some (.lst acc) → Smt D H H' → ρ H v a → ρ H' v a) (R : Nat → Option α) (hG : ∀ H, Same H1 H → G H)
    (hs : ∀ i x H H' (kn : Hp → Prop) (ky : V → Hp → Prop), i < n → Same H1 H → Y i H x H' → (∀ H3, Same H H3 → R i = none → kn H3) → (∀ y a H4, Same H H4 → R i = some a → ρ H4 y a → ky y H4) →
      g x (wipe σ vs) H' fun σ2 H2 => wipe σ2 vs = wipe σ vs ∧ tt σ2 H2 fun b H3 => if b = true then te σ2 H3 ky else kn H3)
    (hd : ∀ ys H, Same H1 H → H D = some (.lst ys) → Paired (ρ H) ys ((List.range n).filterMap R) → Qd H) :
    ∃ W : Nat → Nat → Hp → Prop, (∃ m, W 0 m (upd H1 D (.lst []))) ∧ ∀ i m H, W i m H →
      (J.stop i H ∧ Qd H) ∨ (J.go i H ∧ ∃ Nx : Hp → Prop, (∀ H', Nx H' → ∃ m', m' < m ∧ W (i + 1) m' H') ∧ ∀ x H', J.yld i H x H' → g x (wipe σ vs) H' fun σ2 H2 => wipe σ2 vs = wipe σ vs ∧ tt σ2 H2 fun b H3 =>
        if b = true then te σ2 H3 fun y H4 => ∃ acc, H4 D = some (.lst acc) ∧ acc.length < sizeLine ∧ Nx (upd H4 D (.lst (acc ++ [y]))) else Nx H3) := by
  refine lc_gen w (fun i acc H => i ≤ n ∧ Same H1 H ∧ Paired (ρ H) acc ((List.range i).filterMap R)) ⟨Nat.zero_le _, Same.new hD, .nil⟩ (fun i acc H s _ => hG H s.2.1) (fun i acc H s => ?_) (fun i x H H' acc kn ky hi s hacc y h1 h2 => ?_) (fun acc H s e => ?_)
  · obtain ⟨hle, _, p⟩ := s
    rw [paired_len p]
    exact Nat.lt_of_le_of_lt (Nat.le_trans (filterMap_le R i) (Nat.le_trans hle hn)) (small1000 (Nat.le_refl _))
  · obtain ⟨_, sm, p⟩ := s
    refine hs i x H H' kn ky hi sm y (fun H3 s3 e => h1 H3 (s3 _ _ hacc) ⟨hi, sm.trans s3, ?_⟩) (fun v a H4 s4 e r => h2 v H4 (s4 _ _ hacc) ⟨hi, Same.mut (sm.trans s4) hD, ?_⟩)
    · rw [filterMap_succ, e]
      show Paired (ρ H3) acc (_ ++ [])
      rw [List.append_nil]
      exact paired_mono (fun v a r => mono _ _ _ _ _ _ hacc (Smt.of s3) r) p
    · have hD4 := s4 _ _ hacc
      rw [filterMap_succ, e]
      refine paired_app (paired_mono (fun v a r => mono _ _ _ _ _ _ hacc ((Smt.of s4).trans Smt.upd) r) p) ?_
      exact .cons (mono _ _ _ _ _ _ hD4 Smt.upd r) .nil
  · exact hd acc H s.2.1 e s.2.2
theorem paired_ints : ∀ {ys : List V} {zs : List Int}, Paired (fun v z => v = V.int z) ys zs → ys = vi zs
  | _, _, .nil => rfl
  | _, _, .cons r t => by rw [r, paired_ints t]; rfl
theorem paired_bls : ∀ {ys : List V} {zs : List Bool}, Paired (fun v z => v = V.bl z) ys zs → ys = zs.map V.bl
  | _, _, .nil => rfl
  | _, _, .cons r t => by rw [r, paired_bls t]; rfl
/-- items that are ints -/
theorem lc_ints (w : Walk J n G Y) (hD : H1 D = none) (hn : n ≤ 1000) (R : Nat → Option Int) (hG : ∀ H, Same H1 H → G H)
    (hs : ∀ i x H H' (kn : Hp → Prop) (ky : V → Hp → Prop), i < n → Same H1 H → Y i H x H' → (∀ H3, Same H H3 → R i = none → kn H3) → (∀ z H4, Same H H4 → R i = some z → ky (.int z) H4) →
      g x (wipe σ vs) H' fun σ2 H2 => wipe σ2 vs = wipe σ vs ∧ tt σ2 H2 fun b H3 => if b = true then te σ2 H3 ky else kn H3)
    (hd : ∀ H, Same H1 H → H D = some (.lst (vi ((List.range n).filterMap R))) → Qd H) :
    ∃ W : Nat → Nat → Hp → Prop, (∃ m, W 0 m (upd H1 D (.lst []))) ∧ ∀ i m H, W i m H →
      (J.stop i H ∧ Qd H) ∨ (J.go i H ∧ ∃ Nx : Hp → Prop, (∀ H', Nx H' → ∃ m', m' < m ∧ W (i + 1) m' H') ∧ ∀ x H', J.yld i H x H' → g x (wipe σ vs) H' fun σ2 H2 => wipe σ2 vs = wipe σ vs ∧ tt σ2 H2 fun b H3 =>
        if b = true then te σ2 H3 fun y H4 => ∃ acc, H4 D = some (.lst acc) ∧ acc.length < sizeLine ∧ Nx (upd H4 D (.lst (acc ++ [y]))) else Nx H3) :=
  lc_rel w hD hn (fun _ v z => v = V.int z) (fun _ _ _ _ _ _ _ _ r => r) R hG (fun i x H H' kn ky hi sm y h1 h2 => hs i x H H' kn ky hi sm y h1 fun z H4 s e => h2 _ z H4 s e rfl) (fun ys H sm e p => hd H sm (by rw [e, paired_ints p]))
theorem lc_bls (w : Walk J n G Y) (hD : H1 D = none) (hn : n ≤ 1000) (R : Nat → Option Bool) (hG : ∀ H, Same H1 H → G H)
    (hs : ∀ i x H H' (kn : Hp → Prop) (ky : V → Hp → Prop), i < n → Same H1 H → Y i H x H' → (∀ H3, Same H H3 → R i = none → kn H3) → (∀ z H4, Same H H4 → R i = some z → ky (.bl z) H4) →
      g x (wipe σ vs) H' fun σ2 H2 => wipe σ2 vs = wipe σ vs ∧ tt σ2 H2 fun b H3 => if b = true then te σ2 H3 ky else kn H3)
    (hd : ∀ H, Same H1 H → H D = some (.lst (((List.range n).filterMap R).map V.bl)) → Qd H) :
    ∃ W : Nat → Nat → Hp → Prop, (∃ m, W 0 m (upd H1 D (.lst []))) ∧ ∀ i m H, W i m H →
      (J.stop i H ∧ Qd H) ∨ (J.go i H ∧ ∃ Nx : Hp → Prop, (∀ H', Nx H' → ∃ m', m' < m ∧ W (i + 1) m' H') ∧ ∀ x H', J.yld i H x H' → g x (wipe σ vs) H' fun σ2 H2 => wipe σ2 vs = wipe σ vs ∧ tt σ2 H2 fun b H3 =>
        if b = true then te σ2 H3 fun y H4 => ∃ acc, H4 D = some (.lst acc) ∧ acc.length < sizeLine ∧ Nx (upd H4 D (.lst (acc ++ [y]))) else Nx H3) :=
  lc_rel w hD hn (fun _ v z => v = V.bl z) (fun _ _ _ _ _ _ _ _ r => r) R hG (fun i x H H' kn ky hi sm y h1 h2 => hs i x H H' kn ky hi sm y h1 fun z H4 s e => h2 _ z H4 s e rfl) (fun ys H sm e p => hd H sm (by rw [e, paired_bls p]))
/-- the tape t is read on the way; the items are ints, I tells of them -/
theorem lc_tape (w : Walk J n G Y) {t a : Addr} (ht : TapeAt H1 t a) (hD : H1 D = none) (hn : n ≤ 1000) (I : Nat → List Int → Prop) (h0 : I 0 []) (hl : ∀ i zs, I i zs → zs.length ≤ i) (hG : ∀ H, Smt t H1 H → G H)
    (hs : ∀ i x H H' zs (kn : Hp → Prop) (ky : V → Hp → Prop), i < n → Smt t H1 H → TapeAt H t a → I i zs → Y i H x H' → (∀ H3, Smt t H H3 → TapeAt H3 t a → I (i + 1) zs → kn H3) →
      (∀ z H4, Smt t H H4 → TapeAt H4 t a → I (i + 1) (zs ++ [z]) → ky (.int z) H4) →
      g x (wipe σ vs) H' fun σ2 H2 => wipe σ2 vs = wipe σ vs ∧ tt σ2 H2 fun b H3 => if b = true then te σ2 H3 ky else kn H3)
    (hd : ∀ zs H, Smt t H1 H → TapeAt H t a → H D = some (.lst (vi zs)) → I n zs → Qd H) :
    ∃ W : Nat → Nat → Hp → Prop, (∃ m, W 0 m (upd H1 D (.lst []))) ∧ ∀ i m H, W i m H →
      (J.stop i H ∧ Qd H) ∨ (J.go i H ∧ ∃ Nx : Hp → Prop, (∀ H', Nx H' → ∃ m', m' < m ∧ W (i + 1) m' H') ∧ ∀ x H', J.yld i H x H' → g x (wipe σ vs) H' fun σ2 H2 => wipe σ2 vs = wipe σ vs ∧ tt σ2 H2 fun b H3 =>
        if b = true then te σ2 H3 fun y H4 => ∃ acc, H4 D = some (.lst acc) ∧ acc.length < sizeLine ∧ Nx (upd H4 D (.lst (acc ++ [y]))) else Nx H3) := by
  have hDt : t ≠ D := ht.ne_none hD
  have hDa : a ≠ D := ht.ne_none2 hD
  refine lc_gen w (fun i acc H => i ≤ n ∧ Smt t H1 H ∧ TapeAt H t a ∧ ∃ zs, acc = vi zs ∧ I i zs) ⟨Nat.zero_le _, Smt.of (Same.new hD), ht.upd hD, [], rfl, h0⟩ (fun i acc H s _ => hG H s.2.1) (fun i acc H s => ?_) (fun i x H H' acc kn ky hi s hacc y h1 h2 => ?_) (fun acc H s e => ?_)
  · obtain ⟨hle, _, _, zs, rfl, hI⟩ := s
    rw [vi_len]
    exact Nat.lt_of_le_of_lt (Nat.le_trans (hl _ _ hI) (Nat.le_trans hle hn)) (small1000 (Nat.le_refl _))
  · obtain ⟨_, sm, hT, zs, rfl, hI⟩ := s
    refine hs i x H H' zs kn ky hi sm hT hI y (fun H3 s3 t3 e => h1 H3 (s3 _ _ hacc hDt.symm) ⟨hi, sm.trans s3, t3, zs, rfl, e⟩) (fun z H4 s4 t4 e => h2 (.int z) H4 (s4 _ _ hacc hDt.symm) ⟨hi, (sm.trans s4).new hD, t4.but Smt.upd hDt hDa, zs ++ [z], (vi_snoc zs z).symm, e⟩)
  · obtain ⟨_, sm, hT, zs, rfl, hI⟩ := s
    exact hd zs H sm hT e hI
end
end LF
/-! ### la_tup: sum and sorted of tuples of ints -/
namespace LF
open PySem PySem.Spec PyProof.Rows L2
section
variable {prog : Program} {w : World} {A : Around} {E : Value → Shared → Prop} {s : Shared}
theorem sum_tup {l : Addr} {its : List Value} {ns : List Int} {Q : Value → Shared → Prop} (hh : A.handled = none) (hl : s.heap.IsTuple l its.toArray) (hi : IntsAre its ns)
    (h : ∀ h' tk t', (∀ b o, s.heap.get? b = some o → h'.get? b = some o) → Q (.int ns.sum t') { s with heap := h', toks := tk }) : wpAny (model prog w) A (call (.builtin "sum") [.ref l]) Q E s := by
  obtain ⟨xs, e⟩ := hi.allInts.items
  have hn : numsOf (intItems xs).toList = ns := by rw [← e]; exact hi.numsOf
  rw [nums_intItems] at hn
  rw [e] at hl
  obtain ⟨o, ho, hc, n, hd⟩ := id hl
  have hlt : l < s.heap.objs.size := Heap.lt_size ho
  refine call_sum_walkG (wpAny_pyIter_tuple hl ⟨s.heap.objs.size, [s.heap.objs.size, l], [s.heap.objs.size], (intItems xs).size, _, _, numAt xs, rfl, Walks.tuple (A := A.in1) hh _ l (Nat.ne_of_lt hlt) (intItems xs), ?_, ?_, (fun _ _ => intItems_at), fun h' tk t' hk => ?_⟩)
  · exact ⟨⟨_, Heap.get?_push_size _ rfl, rfl, rfl⟩, o, Heap.get?_push_of_some _ ho, hc, n, hd⟩
  · intro b hb
    show b < (s.heap.push _).objs.size
    rw [Heap.size_push]
    have e' : b = s.heap.objs.size ∨ b = l := by simpa using hb
    rcases e' with z | z
    · rw [z]; exact Nat.lt_succ_self _
    · rw [z]; exact Nat.lt_succ_of_lt hlt
  · have q := h h' tk t' fun b o e => hk b o (fun m => Nat.ne_of_lt (Heap.lt_size e) (by simpa using m)) (Heap.get?_push_of_some _ e)
    rw [preSum_eq, List.take_of_length_le (by simp [intItems]), hn]
    exact q
theorem collect_tup {l : Addr} {vs : List Value} {Q : List Value → Shared → Prop} (hl : s.heap.IsTuple l vs.toArray)
    (h : Q vs { s with heap := (s.heap.push (seqObj "list" #[] 0)).update s.heap.objs.size (Obj.mapSeq (· ++ vs.toArray)) }) (hsz : vs.length ≤ sizeLine) :
    wpAny (model prog w) A (collect (.ref l)) Q E s := by
  obtain ⟨o, ho, hc, n, hd⟩ := hl
  have ho' : (s.heap.push (seqObj "list" #[] 0)).get? l = some o := Heap.get?_push_of_some _ ho
  have hN : (s.heap.push (seqObj "list" #[] 0)).get? s.heap.objs.size = some (seqObj "list" #[] 0) := Heap.get?_push_size _ rfl
  unfold collect
  refine wpAny_bind (wpAny_runValue (codeAny_builtin entry_proto_collect' ?_))
  show wpAny _ _ (do again (.builtin "list.__iadd__" ⟨[← newList [], .ref l], []⟩)) _ _ s
  refine wpAny_bind (wpAny_newList (wpAny_pure ⟨Code.quiet_builtin _ (by decide +kernel), codeAny_builtin entry_list_iadd' ?_⟩))
  show wpAny _ _ (Builtin.List.listExtendWith (.ref s.heap.objs.size) (.ref l) (.ref s.heap.objs.size)) _ _ { s with heap := s.heap.push (seqObj "list" #[] 0) }
  unfold Builtin.List.listExtendWith
  refine wpAny_bind (wpAny_typeOf (T := "tuple") ⟨o, ho', hc⟩ ?_)
  have ht : (Value.type "tuple" == Value.type "tuple") = true := by rfl
  rw [if_pos (by rw [ht, Bool.or_true])]
  refine wpAny_bind (listItems_at ho' hd (wpAny_bind (listItems_at (xs := #[]) (n := 0) hN rfl ?_)))
  rw [if_neg (by simp)]
  refine wpAny_bind (listUpdate_at (xs := #[]) (n := 0) hN rfl (wpAny_pure ?_) (Nat.zero_le _) (by show (#[] ++ vs.toArray).size ≤ sizeLine + 1; simp only [Array.size_append, List.size_toArray, List.length_nil]; omega))
  show wpAny (model prog w) A (do
      let o ← load s.heap.objs.size
      match o.data with
      | .seq xs _ => pure xs.toList
      | _ => unsupported "internal:collect") Q E { s with heap := (s.heap.push (seqObj "list" #[] 0)).update s.heap.objs.size (Obj.mapSeq (· ++ vs.toArray)) }
  refine wpAny_bind (wpAny_load (get?_update_seq hN _) ?_)
  show wpAny _ _ (pure ((#[] : Array Value) ++ vs.toArray).toList) Q E _
  have e0 : ((#[] : Array Value) ++ vs.toArray).toList = vs := by simp
  rw [e0]
  exact wpAny_pure h
theorem sorted_tup {l : Addr} {vs : List Value} {ltv : Value → Value → Bool} {Q : Value → Shared → Prop} (O : SrtO.Swo ltv) (hl : s.heap.IsTuple l vs.toArray) (hz : vs.length ≤ sizeLine)
    (hS : 2 ≤ vs.length → ∀ (h₁ : Heap) (a : Addr), h₁.get? a = some (seqObj "list" vs.toArray 0) → (∀ b o, s.heap.get? b = some o → b ≠ a ∧ h₁.get? b = some o) → SrtO.SortableO prog w A.in1.in1 { s with heap := h₁ } a vs ltv)
    (h : ∀ out : List Value, SrtO.Srtd ltv out → SrtO.Stb ltv out vs → Q (.ref (s.heap.objs.size + 1)) { s with heap := PyProof.Rows.sortedAll s.heap vs out.toArray }) :
    wpAny (model prog w) A (call (.builtin "sorted") [.ref l]) Q E s := by
  refine Calls.call_function_entry kind_sorted plain_sorted entry_sorted (args_sorted1 _) ?_
  unfold Builtin.«sorted»
  refine wpAny_bind (m := checkCount "sorted" 1 1 _) (wpAny_pure (wpAny_bind (collect_tup hl (wpAny_bind (wpAny_newList ?_ hz)) hz)))
  have hsz : ((s.heap.push (seqObj "list" #[] 0)).update s.heap.objs.size (Obj.mapSeq (· ++ vs.toArray))).objs.size = s.heap.objs.size + 1 := by
    rw [Heap.size_update, Heap.size_push]
  have hoL : (((s.heap.push (seqObj "list" #[] 0)).update s.heap.objs.size (Obj.mapSeq (· ++ vs.toArray))).push (seqObj "list" vs.toArray 0)).get? (s.heap.objs.size + 1) = some (seqObj "list" vs.toArray 0) := by
    rw [← hsz]; exact Heap.get?_push_size _ rfl
  have keep : ∀ b o, s.heap.get? b = some o → b ≠ s.heap.objs.size + 1 ∧ (((s.heap.push (seqObj "list" #[] 0)).update s.heap.objs.size (Obj.mapSeq (· ++ vs.toArray))).push (seqObj "list" vs.toArray 0)).get? b = some o := fun b o q => by
    have hlt : b < s.heap.objs.size := Heap.lt_size q
    exact ⟨Nat.ne_of_lt (Nat.lt_succ_of_lt hlt), Heap.get?_push_of_some _ (by rw [Heap.get?_update_ne _ _ _ _ (Nat.ne_of_lt hlt)]; exact Heap.get?_push_of_some _ q)⟩
  show wpAny _ _ _ _ _ { s with heap := ((s.heap.push (seqObj "list" #[] 0)).update s.heap.objs.size (Obj.mapSeq (· ++ vs.toArray))).push (seqObj "list" vs.toArray 0) }
  rw [hsz]
  exact wpAny_bind (wpAny_holding (wpAny_call_entry slot_list_sort ⟨_, hoL, rfl⟩ entry_list_sort (SrtO.list_sort_ord O hoL hz (fun h2 => hS h2 _ _ hoL keep) fun out hs hb => ⟨_, rfl, wpAny_pure ⟨_, rfl, h out hs hb⟩⟩) (args_list_sort _)))
end
section
variable {X : Cx}
def rSumB (K : PySem.W.Frag) (tp : Bool) : List V → Hp → VK → Prop := fun vs H Q => ∃ (a : Addr) (ns : List Int), vs = [V.ref a] ∧ SqB K tp H a (vi ns) ∧ Q (.int ns.sum) H
theorem cr_sumT (hc : X.calm = true) : CallR X (.builtin "sum") (rSumB X.K true) := by
  intro pins s σ H vs us Q I r h
  obtain ⟨a, ns, rfl, hs, q⟩ := h
  obtain ⟨its, rv, hl, _⟩ := I.tuple hs
  rw [Vals.ref1 r]
  exact sum_tup (I.ok.hd hc) hl rv.ints fun h' tk t' hk => ⟨.int _, H, I.kept hk, ⟨_, rfl⟩, q⟩
def rSortedB (K : PySem.W.Frag) (tp : Bool) : List V → Hp → VK → Prop := fun vs H Q => ∃ (a : Addr) (ns : List Int), vs = [V.ref a] ∧ SqB K tp H a (vi ns) ∧ ∀ (ns' : List Int) (p : Addr), ns'.Perm ns → ns'.Pairwise (· ≤ ·) → H p = none → Q (.ref p) (upd H p (.lst (vi ns')))
theorem cr_sortedT : CallR X (.builtin "sorted") (rSortedB X.K true) := by
  intro pins s σ H vs us Q I r h
  obtain ⟨a, ns, rfl, hs, q⟩ := h
  obtain ⟨its, rv, hl, hz⟩ := I.tuple hs
  rw [Vals.ref1 r]
  have hi := rv.ints
  refine sorted_tup SrtO.swo_int hl (by rw [← rv.length]; exact hz) (fun h2 h₁ a' _ _ => SrtO.ints_sortable hi h2) fun out h1 h2 => ?_
  obtain ⟨k1, k2, k3⟩ := SrtO.ints_out hi h1 h2
  obtain ⟨ep, he'⟩ := PyProof.Rows.sortedAll_at s.heap its out.toArray
  have hlen : (vi (out.map SrtO.iv)).length ≤ sizeLine := by
    rw [vi_len, k2.length_eq]
    rw [vi_len] at hz
    exact hz
  exact ⟨.ref _, upd H (s.heap.objs.size + 1) (.lst (vi (out.map SrtO.iv))), I.laid (t' := s.toks) (fun _ _ => PyProof.Rows.sortedAll_old) (Nat.le_succ _) ⟨hlen, out, ep, vals_of_ints k1, he'⟩, rfl, q _ _ k2 k3 (I.hok.fresh (Nat.le_succ _))⟩
end
end LF
/-! ### la_k: the rules over the written part as a letter -/
namespace LF
open PySem PySem.Spec PyProof.Rows L2
def rTupOf (K : PySem.W.Frag) : List V → Hp → VK → Prop := fun xs H Q => ∃ p ys, xs = [.ref p] ∧ ((SqL K H p ys ∧ ∀ l, H l = none → Q (.ref l) (upd H l (.tup ys))) ∨ (SqT K H p ys ∧ Q (.ref p) H))
def rListOf (K : PySem.W.Frag) : List V → Hp → VK → Prop := fun xs H Q => ∃ p ys, xs = [.ref p] ∧ (SqL K H p ys ∨ SqT K H p ys) ∧ ∀ l, H l = none → Q (.ref l) (upd H l (.lst ys))
def rLenOf (K : PySem.W.Frag) : List V → Hp → VK → Prop := fun xs H Q => ∃ p ys, xs = [.ref p] ∧ (SqL K H p ys ∨ SqT K H p ys) ∧ Q (.int ys.length) H
section
variable {X : Cx}
theorem pe_gint {x : Str} {v : Int} {pos : Pos} (hg : Gl X x) (hm : ∃ tk : Tok, X.mg x = some (.int v tk)) (hd : (x == ("__debug__" : Str)) = false := by decide) : PE X (.Name x pos) (tC (.int v)) := by
  obtain ⟨tk, h⟩ := hm
  exact pe_glob hg h ⟨_, rfl⟩ hd
theorem lenK (K : PySem.W.Frag) (h : X.K = K := by rfl) : CallR X (.builtin "len") (rLenOf K) := by subst h; exact call_len_seq
theorem sumK (K : PySem.W.Frag) (h : X.K = K := by rfl) (hc : X.calm = true := by rfl) : CallR X (.builtin "sum") (rSum K) := by subst h; exact cr_sum hc
theorem sumTK (K : PySem.W.Frag) (h : X.K = K := by rfl) (hc : X.calm = true := by rfl) : CallR X (.builtin "sum") (rSumB K true) := by subst h; exact cr_sumT hc
theorem allK (K : PySem.W.Frag) (h : X.K = K := by rfl) (hc : X.calm = true := by rfl) : CallR X (.builtin "all") (rAll K) := by subst h; exact cr_all hc
theorem anyK (K : PySem.W.Frag) (h : X.K = K := by rfl) (hc : X.calm = true := by rfl) : CallR X (.builtin "any") (rAny K) := by subst h; exact cr_any hc
theorem maxK (K : PySem.W.Frag) (h : X.K = K := by rfl) (hc : X.calm = true := by rfl) : CallR X (.builtin "max") (rMax K) := by subst h; exact cr_max hc
theorem minK (K : PySem.W.Frag) (h : X.K = K := by rfl) (hc : X.calm = true := by rfl) : CallR X (.builtin "min") (rMin K) := by subst h; exact cr_min hc
theorem sortedK (K : PySem.W.Frag) (h : X.K = K := by rfl) : CallR X (.builtin "sorted") (rSortedI K) := by subst h; exact cr_sortedI
theorem sortedTK (K : PySem.W.Frag) (h : X.K = K := by rfl) : CallR X (.builtin "sorted") (rSortedB K true) := by subst h; exact cr_sortedT
theorem sortedPK (K : PySem.W.Frag) (h : X.K = K := by rfl) : CallR X (.builtin "sorted") (rSortedPO K) := by subst h; exact cr_sortedPO
theorem tupleK (K : PySem.W.Frag) (h : X.K = K := by rfl) : CallR X (.type "tuple") (rTupOf K) := by subst h; exact call_tuple_of
theorem listK (K : PySem.W.Frag) (h : X.K = K := by rfl) : CallR X (.type "list") (rListOf K) := by subst h; exact call_list_of
theorem isiK (K : PySem.W.Frag) (h : X.K = K := by rfl) : CallR X (.builtin "isinstance") (rIsi K) := by subst h; exact call_isi
theorem isiTK (K : PySem.W.Frag) (h : X.K = K := by rfl) : CallR X (.builtin "isinstance") (rIsiT K) := by subst h; exact call_isiT
theorem ixL (K : PySem.W.Frag) (h : X.K = K := by rfl) : IxR X (rIxL K) := by subst h; exact ix_list
theorem ixT (K : PySem.W.Frag) (h : X.K = K := by rfl) : IxR X (rIxT K) := by subst h; exact ix_tup
theorem ixA (K : PySem.W.Frag) (h : X.K = K := by rfl) : IxR X (rIx K) := by subst h; exact ix_seq
theorem slL (K : PySem.W.Frag) (h : X.K = K := by rfl) : SlR X (rSlL K) := by subst h; exact sl_list
theorem slT (K : PySem.W.Frag) (h : X.K = K := by rfl) : SlR X (rSlA K) := by subst h; exact sl_tupA
theorem catK (K : PySem.W.Frag) (h : X.K = K := by rfl) : OpR X (binaryOp .Add) (rCatA K) := by subst h; exact op_catA
theorem inK (K : PySem.W.Frag) (h : X.K = K := by rfl) : OpR X (compareOp .In) (rIn K false) := by subst h; exact op_in_seq
theorem notinK (K : PySem.W.Frag) (h : X.K = K := by rfl) : OpR X (compareOp .NotIn) (rIn K true) := by subst h; exact op_notIn_seq
theorem eqDK (K : PySem.W.Frag) (hu : X.A.units + 64 < cLine) (h : X.K = K := by rfl) : OpR X (compareOp .Eq) (rEqD K) := by subst h; exact op_eqD hu
theorem neDK (K : PySem.W.Frag) (hu : X.A.units + 64 < cLine) (h : X.K = K := by rfl) : OpR X (compareOp .NotEq) (rNeD K) := by subst h; exact op_neD hu
theorem pgT (K : PySem.W.Frag) (n : Nat) {es : List Expr} {k : Nat} {pos : Pos} {t : TGs} (hc : X.calm = true) (hg : PGs X es t) (h : X.K = K := by rfl) (hn : (assignEach es X.env).length = n := by rfl) (hst : (assignEach es X.env).findIdx? (·.1) = none := by rfl) : PG X (.Tuple es k pos) (gTup K n t) := by subst h; exact pg_tup hc hg hn hst
theorem piL (K : PySem.W.Frag) {tg l : Expr} {tl : TE} (hl : PE X l tl) (h : X.K = K := by rfl) : PI X tg l (iList K tl) := by subst h; exact pi_list hl
theorem piT (K : PySem.W.Frag) {tg l : Expr} {tl : TE} (hl : PE X l tl) (h : X.K = K := by rfl) : PI X tg l (iTup K tl) := by subst h; exact pi_tup hl
theorem enumK (K : PySem.W.Frag) (tp : Bool) {e : Expr} {ta : TA} {p pos tpos : Pos} {elts : List Expr} {kk : Nat} (hg : Gl X "enumerate") (hm : X.mg "enumerate" = none) (ha : PA X [e] ta) (h : X.K = K := by rfl) (hs : starEach [e] X.env = [(false, eval e X.env)] := by rfl) :
    PI X (.Tuple elts kk tpos) (.Call (.Name "enumerate" p) [e] [] pos) (iEnumB K tp ta) := by subst h; exact pi_enumB tp hg hm ha hs
theorem zipK (K : PySem.W.Frag) (ka kb : Bool) {e e2 : Expr} {ta : TA} {p pos tpos : Pos} {elts : List Expr} {kk : Nat} (hg : Gl X "zip") (hm : X.mg "zip" = none) (ha : PA X [e, e2] ta) (h : X.K = K := by rfl)
    (hs : starEach [e, e2] X.env = (false, eval e X.env) :: starEach [e2] X.env := by rfl) (hpl : (backTo pos (starEach [e2] X.env)).any (·.1) = false := by rfl) :
    PI X (.Tuple elts kk tpos) (.Call (.Name "zip" p) [e, e2] [] pos) (iZipB K ka kb ta) := by subst h; exact pi_zipB ka kb hg hm ha hs hpl
theorem pe_revK (K : PySem.W.Frag) {e : Expr} {te : TE} {k : Nat} {p1 p2 p3 pos : Pos} (he : PE X e te) (h : X.K = K := by rfl) : PE X (.Subscript e (.Slice none none (some (.UnaryOp .USub (.Constant (.int 1) k p1) p2)) p3) pos) (tRevL K te) := by subst h; exact pe_revL he
end
end LF
namespace LF
open PySem PySem.Spec PyProof.Rows L2
def ItB (K : PySem.W.Frag) : Bool → Addr → It
  | false => Itl K
  | true => Itt K
/-- a for over a list or a tuple -/
def iSeq (K : PySem.W.Frag) (tp : Bool) (tl : TE) : TI := fun σ H R => tl σ H fun x H1 => ∃ a, x = .ref a ∧ (∃ xs, SqB K tp H1 a xs) ∧ R (ItB K tp a) H1
theorem piB {X : Cx} (K : PySem.W.Frag) (tp : Bool) {tg l : Expr} {tl : TE} (hl : PE X l tl) (h : X.K = K := by rfl) : PI X tg l (iSeq K tp tl) := by
  subst h
  cases tp with
  | false => exact pi_list hl
  | true => exact pi_tup hl
theorem walk_B {K : PySem.W.Frag} {tp : Bool} {a : Addr} {xs : List V} : Walk (ItB K tp a) xs.length (fun H => SqB K tp H a xs) (YAt xs) := by
  cases tp with
  | false => exact walk_list
  | true => exact walk_tup
/-- a tracked tuple of ints -/
def VT (H : Hp) (v : V) (c : List Int) : Prop := ∃ t, v = V.ref t ∧ H t = some (.tup (vi c))
theorem VT.keep {H H' : Hp} {D : Addr} {acc : List V} {v : V} {c : List Int} (h : H D = some (.lst acc)) (s : Smt D H H') (r : VT H v c) : VT H' v c := by
  obtain ⟨t, e, ht⟩ := r
  refine ⟨t, e, s t _ ht fun z => ?_⟩
  rw [z, h] at ht
  cases ht
theorem VT.same {H H' : Hp} {v : V} {c : List Int} (s : Same H H') (r : VT H v c) : VT H' v c := by
  obtain ⟨t, e, ht⟩ := r
  exact ⟨t, e, s t _ ht⟩
end LF
/-! ### la_math: the two sums, in plain Lean -/
namespace LF
theorem fm_get {α β : Type} (g : α → Option β) : ∀ (l : List α), (List.range l.length).filterMap (fun i => l[i]?.bind g) = l.filterMap g
  | [] => rfl
  | x :: r => by
    have ih := fm_get g r
    rw [List.length_cons, List.range_succ_eq_map, List.filterMap_cons, List.filterMap_map]
    have e : (List.range r.length).filterMap ((fun i => (x :: r)[i]?.bind g) ∘ Nat.succ) = r.filterMap g := by
      rw [← ih]
      rfl
    rw [e]
    rw [List.filterMap_cons]
    show (match g x with | none => r.filterMap g | some b => b :: r.filterMap g) = _
    cases g x <;> rfl
theorem fm_map {α β : Type} (f : α → β) (l : List α) : l.filterMap (fun x => some (f x)) = l.map f := by
  induction l with
  | nil => rfl
  | cons x r ih => rw [List.filterMap_cons, List.map_cons, ih]
theorem fm_idx {α β : Type} : ∀ (l : List α) (g : Nat → α → β), (List.range l.length).filterMap (fun i => l[i]?.bind fun x => some (g i x)) = l.mapIdx g
  | [], _ => rfl
  | x :: r, g => by
    have ih := fm_idx r fun i => g (i + 1)
    rw [List.length_cons, List.range_succ_eq_map, List.filterMap_cons, List.filterMap_map, List.mapIdx_cons, ← ih]
    rfl
/-- items by place -/
theorem fm_at {α β : Type} (f : α → β) (l : List α) : (List.range l.length).filterMap (fun i => l[i]?.bind fun x => some (f x)) = l.map f := by rw [fm_get, fm_map]
theorem fm_range {β : Type} (f : Nat → β) (n : Nat) : (List.range n).filterMap (fun i => some (f i)) = (List.range n).map f := fm_map f _
def srt (ds : List Int) : List Int := ds.mergeSort (fun a b => decide (a ≤ b))
theorem srt_perm (ds : List Int) : (srt ds).Perm ds := List.mergeSort_perm ds _
theorem srt_up (ds : List Int) : (srt ds).Pairwise (· ≤ ·) := by
  have h := List.pairwise_mergeSort (le := fun a b : Int => decide (a ≤ b)) (fun a b c h1 h2 => by simp only [decide_eq_true_eq] at *; omega) (fun a b => by simp only [Bool.or_eq_true, decide_eq_true_eq]; omega) ds
  exact h.imp fun h => of_decide_eq_true h
theorem srt_is {ns ds : List Int} (h : ns.Perm ds) (u : ns.Pairwise (· ≤ ·)) : ns = srt ds :=
  List.Perm.eq_of_pairwise (fun _ _ _ _ h1 h2 => Int.le_antisymm h1 h2) u (srt_up ds) (h.trans (srt_perm ds).symm)
theorem srt_len (ds : List Int) : (srt ds).length = ds.length := (srt_perm ds).length_eq
theorem srt_of_perm {a b : List Int} (h : a.Perm b) : srt a = srt b := srt_is ((srt_perm a).trans h) (srt_up a)
/-- what candles have for k ticks -/
def cnt (cs : List Int) (k : Int) : Int := (cs.map fun w => if k < w then k else w).sum
/-- what draughts want for k ticks -/
def wnt (ds : List Int) (k : Nat) : Int := (((srt ds).drop (ds.length - k)).map fun d => d + 1).sum
def spr (cs ds : List Int) : List Int := (List.range ds.length).map fun (i : Nat) => cnt cs ((i : Int) + 1) - wnt ds (i + 1)
def can (cs ds : List Int) : Bool := (spr cs ds).all fun s => decide (0 ≤ s)
def fails (cs ds : List Int) : List Int := (List.range (spr cs ds).length).filterMap fun (i : Nat) => (spr cs ds)[i]?.bind fun s => if s < 0 then some ((i : Int) + 1) else none
theorem spr_len (cs ds : List Int) : (spr cs ds).length = ds.length := by
  unfold spr
  rw [List.length_map, List.length_range]
theorem cnt_eq (cs : List Int) (k : Int) : (cs.map fun w => if w < k then w else k).sum = cnt cs k := by
  unfold cnt
  congr 1
  refine List.map_congr_left fun w _ => ?_
  by_cases h : w < k
  · rw [if_pos h, if_neg (by omega)]
  · by_cases h2 : k < w
    · rw [if_neg h, if_pos h2]
    · rw [if_neg h, if_neg h2]
      omega
theorem sum_succ (l : List Int) : (l.map fun d => d + 1).sum = l.sum + l.length := by
  induction l with
  | nil => rfl
  | cons x r ih =>
    rw [List.map_cons, List.sum_cons, List.sum_cons, ih, List.length_cons]
    omega
theorem sum_rev (l : List Int) : l.reverse.sum = l.sum := by
  induction l with
  | nil => rfl
  | cons x r ih =>
    rw [List.reverse_cons, List.sum_append, ih, List.sum_cons]
    show r.sum + (x + 0) = x + r.sum
    omega
/-- the law's way: the strongest first -/
theorem wnt_eq (ds : List Int) (k : Nat) (h : k ≤ ds.length) : wnt ds k = ((srt ds).reverse.take k).sum + k := by
  unfold wnt
  rw [sum_succ, List.take_reverse, sum_rev, srt_len, List.length_drop, srt_len]
  have e : ds.length - (ds.length - k) = k := by omega
  rw [e]
theorem can_iff (cs ds : List Int) : can cs ds = true ↔ ∀ k, 1 ≤ k → k ≤ ds.length → wnt ds k ≤ cnt cs k := by
  unfold can spr
  rw [List.all_eq_true]
  constructor
  · intro h k h1 h2
    have q := h (cnt cs (((k - 1 : Nat) : Int) + 1) - wnt ds (k - 1 + 1)) (List.mem_map.mpr ⟨k - 1, List.mem_range.mpr (by omega), rfl⟩)
    have q := of_decide_eq_true q
    have e1 : k - 1 + 1 = k := by omega
    have e2 : ((k - 1 : Nat) : Int) + 1 = (k : Int) := by omega
    rw [e1, e2] at q
    omega
  · intro h s hs
    obtain ⟨i, hi, rfl⟩ := List.mem_map.mp hs
    have q := h (i + 1) (by omega) (by have := List.mem_range.mp hi; omega)
    have e2 : ((i + 1 : Nat) : Int) = (i : Int) + 1 := by omega
    rw [e2] at q
    exact decide_eq_true (by omega)
/-- the law's own word for it -/
theorem can_min {cs ds : List Int} {m : Int} (h1 : m ∈ 0 :: spr cs ds) (h2 : ∀ y, y ∈ 0 :: spr cs ds → m ≤ y) : decide (m = 0) = can cs ds := by
  unfold can
  have h0 := h2 0 List.mem_cons_self
  by_cases e : m = 0
  · rw [decide_eq_true e]
    refine (List.all_eq_true.mpr fun y hy => ?_).symm
    have := h2 y (List.mem_cons_of_mem _ hy)
    exact decide_eq_true (by omega)
  · rw [decide_eq_false e]
    rcases List.mem_cons.mp h1 with z | z
    · exact absurd z e
    · cases q : (spr cs ds).all fun s => decide (0 ≤ s) with
      | false => rfl
      | true =>
        have := of_decide_eq_true (List.all_eq_true.mp q m z)
        omega
end LF
/-! ### la_data: data as the library's == sees them -/
namespace LF
open PySem PySem.Spec PyProof.Rows L2
/-- data that == may be asked of, at most n deep -/
def Okd (n : Nat) (d : PyData) : Prop := d.canLay0 = true ∧ d.depth ≤ n
theorem Okd.mono {n m : Nat} {d : PyData} (h : Okd n d) (l : n ≤ m) : Okd m d := ⟨h.1, Nat.le_trans h.2 l⟩
theorem okd_int (n : Nat) (i : Int) : Okd n (.int i) := ⟨by simp only [PyData.canLay0], by simp only [PyData.depth]; exact Nat.zero_le _⟩
theorem okd_bool (n : Nat) (b : Bool) : Okd n (.bool b) := ⟨by simp only [PyData.canLay0], by simp only [PyData.depth]; exact Nat.zero_le _⟩
theorem okd_none (n : Nat) : Okd n .none := ⟨by simp only [PyData.canLay0], by simp only [PyData.depth]; exact Nat.zero_le _⟩
theorem okd_all {n : Nat} : ∀ {ds : List PyData}, (∀ d ∈ ds, Okd n d) → PyData.canLayAll0 ds = true ∧ PyData.depthAll ds ≤ n
  | [], _ => ⟨by simp only [PyData.canLayAll0], by simp only [PyData.depthAll]; exact Nat.zero_le _⟩
  | d :: r, h => by
    have h1 := h d List.mem_cons_self
    have h2 := okd_all fun x hx => h x (List.mem_cons_of_mem _ hx)
    simp only [PyData.canLayAll0, PyData.depthAll]
    exact ⟨by rw [h1.1, h2.1]; rfl, Nat.max_le.mpr ⟨h1.2, h2.2⟩⟩
theorem okd_list {n : Nat} {ds : List PyData} (h : ∀ d ∈ ds, Okd n d) : Okd (n + 1) (.list ds) := by
  have q := okd_all h
  exact ⟨by simp only [PyData.canLay0]; exact q.1, by simp only [PyData.depth]; exact Nat.succ_le_succ q.2⟩
theorem okd_tup {n : Nat} {ds : List PyData} (h : ∀ d ∈ ds, Okd n d) : Okd (n + 1) (.tuple ds) := by
  have q := okd_all h
  exact ⟨by simp only [PyData.canLay0]; exact q.1, by simp only [PyData.depth]; exact Nat.succ_le_succ q.2⟩
theorem Okd.shaped {n : Nat} {d : PyData} (h : Okd n d) (l : n ≤ 64) : SeqAt.shaped d = true := by
  unfold SeqAt.shaped
  rw [h.1, decide_eq_true (Nat.le_trans h.2 l)]
  rfl
abbrev di (ns : List Int) : List PyData := ns.map PyData.int
theorem okd_ints (n : Nat) (ns : List Int) : ∀ d ∈ di ns, Okd n d := fun d hd => by
  obtain ⟨i, _, rfl⟩ := List.mem_map.mp hd
  exact okd_int n i
theorem shaped_ints (ns : List Int) : SeqAt.shaped (.list (di ns)) = true := (okd_list (okd_ints 0 ns)).shaped (by decide)
theorem shaped_tints (ns : List Int) : SeqAt.shaped (.tuple (di ns)) = true := (okd_tup (okd_ints 0 ns)).shaped (by decide)
theorem dp_ints {K : PySem.W.Frag} {H : Hp} : ∀ ns : List Int, DpAll K H (vi ns) (di ns)
  | [] => .nil
  | n :: r => .cons (.int n) (dp_ints r)
theorem dp_list {K : PySem.W.Frag} {H : Hp} {p : Addr} {ns : List Int} (h : SqL K H p (vi ns)) : Dp K H (.ref p) (.list (di ns)) := .lst h (dp_ints ns)
theorem dp_tup {K : PySem.W.Frag} {H : Hp} {p : Addr} {ns : List Int} (h : SqT K H p (vi ns)) : Dp K H (.ref p) (.tuple (di ns)) := .tup h (dp_ints ns)
theorem eqvAll_ints : ∀ ns ms : List Int, PyData.eqvAll (di ns) (di ms) = decide (ns = ms)
  | [], [] => by simp only [List.map_nil, PyData.eqvAll]; rfl
  | [], _ :: _ => by simp [PyData.eqvAll]
  | _ :: _, [] => by simp [PyData.eqvAll]
  | n :: r, m :: r' => by
    have ih := eqvAll_ints r r'
    show PyData.eqvAll (PyData.int n :: di r) (PyData.int m :: di r') = _
    rw [PyData.eqvAll, ih, PyData.eqv]
    by_cases h : n = m
    · by_cases h2 : r = r'
      · simp [h, h2]
      · simp [h, h2]
    · simp [h]
theorem eqv_lists (ns ms : List Int) : PyData.eqv (.list (di ns)) (.list (di ms)) = decide (ns = ms) := by
  rw [PyData.eqv]
  exact eqvAll_ints ns ms
theorem eqv_tups (ns ms : List Int) : PyData.eqv (.tuple (di ns)) (.tuple (di ms)) = decide (ns = ms) := by
  rw [PyData.eqv]
  exact eqvAll_ints ns ms
end LF
namespace L2
open PySem
mutual
theorem Dp.same {K : PySem.W.Frag} {H H' : Hp} (e : Same H H') : ∀ {d : PyData} {v : V}, Dp K H v d → Dp K H' v d
  | _, _, .non => .non
  | _, _, .bl b => .bl b
  | _, _, .int i => .int i
  | _, _, .str x => .str x
  | _, _, .lst h a => .lst (e.seq h) (DpAll.same e a)
  | _, _, .tup h a => .tup (e.sqt h) (DpAll.same e a)
theorem DpAll.same {K : PySem.W.Frag} {H H' : Hp} (e : Same H H') : ∀ {ds : List PyData} {vs : List V}, DpAll K H vs ds → DpAll K H' vs ds
  | _, _, .nil => .nil
  | _, _, .cons h a => .cons (Dp.same e h) (DpAll.same e a)
end
end L2
namespace LF
open PySem PySem.Spec PyProof.Rows L2
theorem dpall_len {K : PySem.W.Frag} {H : Hp} : ∀ {vs : List V} {ds : List PyData}, DpAll K H vs ds → vs.length = ds.length
  | _, _, .nil => rfl
  | _, _, .cons _ t => congrArg (· + 1) (dpall_len t)
theorem dpall_get {K : PySem.W.Frag} {H : Hp} : ∀ {vs : List V} {ds : List PyData} {i : Nat} {d : PyData}, DpAll K H vs ds → ds[i]? = some d → ∃ v, vs[i]? = some v ∧ Dp K H v d
  | _, _, i, d, .nil, e => by simp at e
  | _, _, 0, d, .cons h _, e => by
    cases Option.some.inj e
    exact ⟨_, rfl, h⟩
  | _, _, i + 1, d, .cons _ t, e => dpall_get (i := i) t e
/-- the class of a datum -/
def dty : PyData → String
  | .none => "NoneType"
  | .bool _ => "bool"
  | .int _ => "int"
  | .str _ => "str"
  | .list _ => "list"
  | .tuple _ => "tuple"
  | .dict _ => "dict"
def isSeq : PyData → Bool
  | .list _ => true
  | .tuple _ => true
  | _ => false
theorem dp_ty {K : PySem.W.Frag} {H : Hp} {v : V} {d : PyData} (h : Dp K H v d) : TyX K H v (.type (dty d)) := by
  cases h with
  | non => exact .base .non
  | bl b => exact .base (.bl b)
  | int i => exact .base (.int i)
  | str x => exact .base (.str x)
  | lst h a =>
    rcases h with (h | ⟨o, h⟩) | ⟨o, its, n, hk, hc, _⟩
    · exact .base (.lst h)
    · exact .base (.frz h)
    · exact .kList hk hc
  | tup h a =>
    rcases h with (h | ⟨o, h⟩) | ⟨o, its, n, hk, hc, _⟩
    · exact .base (.tup h)
    · exact .fTuple h
    · exact .kTuple hk hc
/-- is it of the class T, by names -/
def isN (a T : String) : Bool := decide (a = T) || (decide (a = "bool") && decide (T = "int"))
def dis (T : String) (d : PyData) : Bool := isN (dty d) T
def tyNames : List String := ["NoneType", "bool", "int", "str", "list", "tuple", "dict"]
theorem kit_names : ∀ a ∈ tyNames, ∀ T ∈ ["int", "bool", "list", "tuple", "str"], kitB a T = some (isN a T) := by decide +kernel
theorem dty_mem (d : PyData) : dty d ∈ tyNames := by
  cases d <;> simp [dty, tyNames]
theorem kit_d {K : PySem.W.Frag} (d : PyData) {T : String} (hT : T ∈ ["int", "bool", "list", "tuple", "str"]) : PySem.W.kitOne K (.type (dty d)) (.type T) = some (dis T d) := kit_ty (kit_names _ (dty_mem d) T hT)
theorem seq_names : ∀ a ∈ tyNames, isN a "list" = true ∨ isN a "tuple" = true ↔ (a = "list" ∨ a = "tuple") := by decide +kernel
theorem isSeq_n (d : PyData) : isSeq d = (dis "list" d || dis "tuple" d) := by
  cases d <;> simp [isSeq, dis, isN, dty]
theorem kit_lt {K : PySem.W.Frag} (d : PyData) : PySem.W.kitAny K (.type (dty d)) [.type "list", .type "tuple"] = some (isSeq d) := by
  rw [isSeq_n]
  refine kitAny_cons (kit_d d (by simp)) (fun h => ?_) (fun h => by rw [h]; rfl)
  rw [h, Bool.false_or]
  refine kitAny_cons (kit_d d (by simp)) (fun h2 => by rw [h2]; exact kitAny_nil) (fun h2 => h2)
theorem kit_tl {K : PySem.W.Frag} (d : PyData) : PySem.W.kitAny K (.type (dty d)) [.type "tuple", .type "list"] = some (isSeq d) := by
  rw [isSeq_n, Bool.or_comm]
  refine kitAny_cons (kit_d d (by simp)) (fun h => ?_) (fun h => by rw [h]; rfl)
  rw [h, Bool.false_or]
  refine kitAny_cons (kit_d d (by simp)) (fun h2 => by rw [h2]; exact kitAny_nil) (fun h2 => h2)
/-- data at most n - 1 deep, no list of more than a thousand -/
def Fit : Nat → PyData → Prop
  | 0, _ => False
  | n + 1, .list ds => ds.length ≤ 1000 ∧ ∀ d ∈ ds, Fit n d
  | n + 1, .tuple ds => ds.length ≤ 1000 ∧ ∀ d ∈ ds, Fit n d
  | _ + 1, .dict _ => False
  | _ + 1, _ => True
theorem fit_ints {n : Nat} {ns : List Int} (h : ns.length ≤ 1000) : Fit (n + 2) (.list (di ns)) := ⟨by rw [List.length_map]; exact h, fun d hd => by
  obtain ⟨i, _, rfl⟩ := List.mem_map.mp hd
  exact True.intro⟩
theorem fit_tints {n : Nat} {ns : List Int} (h : ns.length ≤ 1000) : Fit (n + 2) (.tuple (di ns)) := ⟨by rw [List.length_map]; exact h, fun d hd => by
  obtain ⟨i, _, rfl⟩ := List.mem_map.mp hd
  exact True.intro⟩
theorem sqb_or {K : PySem.W.Frag} {H : Hp} {a : Addr} {xs : List V} {tp : Bool} (h : SqB K tp H a xs) : SqL K H a xs ∨ SqT K H a xs := by
  cases tp with
  | false => exact .inl h
  | true => exact .inr h
theorem ix_b {K : PySem.W.Frag} {H : Hp} {a : Addr} {xs : List V} {tp : Bool} {i : Int} {v : V} {Q : VK} (h : SqB K tp H a xs) (e : atI xs i = some v) (q : Q v H) : rIx K (.ref a) (.int i) H Q := by
  cases tp with
  | false => exact .inl ⟨a, xs, i, v, rfl, rfl, h, e, q⟩
  | true => exact .inr (.inl ⟨a, xs, i, v, rfl, rfl, h, e, q⟩)
end LF
namespace LF
open PySem PySem.Spec PyProof.Rows L2
abbrev dts (css : List (List Int)) : List PyData := css.map fun c => PyData.tuple (di c)
theorem dp_vts {K : PySem.W.Frag} {H : Hp} : ∀ {xs : List V} {css : List (List Int)}, Paired (VT H) xs css → DpAll K H xs (dts css)
  | _, _, .nil => .nil
  | _, _, .cons r t => by
    obtain ⟨a, e, ha⟩ := r
    subst e
    exact .cons (dp_tup (SqT.of ha)) (dp_vts t)
theorem fit_dts {n : Nat} {css : List (List Int)} (h : css.length ≤ 1000) (h2 : ∀ c ∈ css, c.length ≤ 1000) : Fit (n + 3) (.list (dts css)) := ⟨by rw [List.length_map]; exact h, fun d hd => by
  obtain ⟨c, hc, rfl⟩ := List.mem_map.mp hd
  exact fit_tints (h2 c hc)⟩
theorem shaped_dts (css : List (List Int)) : SeqAt.shaped (.list (dts css)) = true := (okd_list (n := 1) fun d hd => by
  obtain ⟨c, _, rfl⟩ := List.mem_map.mp hd
  exact okd_tup (okd_ints 0 c)).shaped (by decide)
theorem eqv_nil (ds : List PyData) : PyData.eqv (.list ds) (.list (di [])) = ds.isEmpty := by
  rw [PyData.eqv]
  cases ds with
  | nil => simp only [List.map_nil, PyData.eqvAll]; rfl
  | cons x r => simp only [List.map_nil, PyData.eqvAll]; rfl
theorem inV_ints (z : Int) (ns : List Int) : inV (.int z) (vi ns) = decide (z ∈ ns) := by
  induction ns with
  | nil => rfl
  | cons n r ih =>
    show (eqV (.int n) (.int z) || inV (.int z) (vi r)) = _
    rw [ih]
    show ((n == z) || decide (z ∈ r)) = decide (z ∈ n :: r)
    by_cases h : n = z
    · simp [h]
    · have h2 : ¬ z = n := fun e => h e.symm
      simp [h, h2]
def spSpares (K : PySem.W.Frag) : Sp := fun vs H Q _ => ∃ (a b : Addr) (cs ds : List Int), vs = [.ref a, .ref b] ∧ SqT K H a (vi cs) ∧ SqT K H b (vi ds) ∧ cs.length ≤ 1000 ∧ ds.length ≤ 1000 ∧ ∀ H' p, Same H H' → H p = none → H' p = some (.lst (vi (spr cs ds))) → Q (.ref p) H'
def spCan (K : PySem.W.Frag) : Sp := fun vs H Q _ => ∃ (a b : Addr) (cs ds : List Int), vs = [.ref a, .ref b] ∧ SqT K H a (vi cs) ∧ SqT K H b (vi ds) ∧ cs.length ≤ 1000 ∧ ds.length ≤ 1000 ∧ ∀ H', Same H H' → Q (.bl (can cs ds)) H'
end LF
/-! ### la_keep: whom the keeper lights, in plain Lean -/
namespace LF
/-- pairs in Python's order -/
def leP (p q : Int × Int) : Bool := decide (p.1 < q.1) || (decide (p.1 = q.1) && decide (p.2 ≤ q.2))
theorem leP_iff {p q : Int × Int} : leP p q = true ↔ p.1 < q.1 ∨ (p.1 = q.1 ∧ p.2 ≤ q.2) := by
  unfold leP
  simp only [Bool.or_eq_true, Bool.and_eq_true, decide_eq_true_eq]
def srtP (l : List (Int × Int)) : List (Int × Int) := l.mergeSort leP
theorem srtP_perm (l : List (Int × Int)) : (srtP l).Perm l := List.mergeSort_perm l _
theorem srtP_up (l : List (Int × Int)) : (srtP l).Pairwise (fun p q => leP p q = true) :=
  List.pairwise_mergeSort (le := leP) (fun a b c h1 h2 => by rw [leP_iff] at *; omega) (fun a b => by rw [Bool.or_eq_true, leP_iff, leP_iff]; omega) l
theorem srtP_is {m l : List (Int × Int)} (h : m.Perm l) (u : m.Pairwise (fun p q => leP p q = true)) : m = srtP l :=
  List.Perm.eq_of_pairwise (fun p q _ _ h1 h2 => by
    rw [leP_iff] at h1 h2
    exact Prod.ext (by omega) (by omega)) u (srtP_up l) (h.trans (srtP_perm l).symm)
/-- the candles that have wax: most first, of as much the lesser places -/
def rowsOf (cs : List Int) : List (Int × Int) := (List.range cs.length).filterMap fun (i : Nat) => cs[i]?.bind fun w => if 0 < w then some (-w, (i : Int)) else none
def lightsF (cs : List Int) (d : Int) : Option (List Int) := if ((rowsOf cs).length : Int) ≤ d then none else some (srt (((srtP (rowsOf cs)).take (d + 1).toNat).map Prod.snd))
/-- the candles behind a tick -/
def bit (lit out : List Int) (i : Int) : Int := if i ∈ lit ∧ i ∉ out then 1 else 0
def burntF (cs lit out : List Int) : List Int := cs.mapIdx fun i w => w - bit lit out i
theorem burntF_eq (cs lit out : List Int) : burntF cs lit out = cs.mapIdx fun i w => w - bit lit out i := rfl
theorem burntF_len (cs lit out : List Int) : (burntF cs lit out).length = cs.length := by
  rw [burntF_eq, List.length_mapIdx]
theorem burntF_get {cs lit out : List Int} {i : Nat} {w : Int} (h : cs[i]? = some w) : (burntF cs lit out)[i]? = some (w - bit lit out i) := by
  rw [burntF_eq, List.getElem?_mapIdx, h]
  rfl
theorem rowsOf_mem {cs : List Int} {p : Int × Int} : p ∈ rowsOf cs ↔ ∃ (i : Nat) (w : Int), cs[i]? = some w ∧ 0 < w ∧ p = (-w, (i : Int)) := by
  unfold rowsOf
  rw [List.mem_filterMap]
  constructor
  · rintro ⟨i, hi, e⟩
    cases h : cs[i]? with
    | none =>
      rw [h] at e
      cases e
    | some w =>
      rw [h] at e
      by_cases hw : 0 < w
      · have e : (if 0 < w then some (-w, (i : Int)) else none) = some p := e
        rw [if_pos hw] at e
        exact ⟨i, w, h, hw, (Option.some.inj e).symm⟩
      · have e : (if 0 < w then some (-w, (i : Int)) else none) = some p := e
        rw [if_neg hw] at e
        cases e
  · rintro ⟨i, w, h, hw, rfl⟩
    refine ⟨i, List.mem_range.mpr (List.getElem?_eq_some_iff.mp h).1, ?_⟩
    rw [h]
    exact if_pos hw
theorem rowsOf_nodup (cs : List Int) : ((rowsOf cs).map Prod.snd).Nodup := by
  have e0 : (rowsOf cs).map Prod.snd = (List.range cs.length).filterMap (fun (i : Nat) => (cs[i]?.bind fun w => if 0 < w then some (-w, (i : Int)) else none).map Prod.snd) := by
    unfold rowsOf
    exact List.map_filterMap
  rw [e0]
  have h : (List.range cs.length).Pairwise (fun a b => a < b) := List.pairwise_lt_range
  have h2 : ((List.range cs.length).filterMap (fun (i : Nat) => (cs[i]?.bind fun w => if 0 < w then some (-w, (i : Int)) else none).map Prod.snd)).Pairwise (fun a b : Int => a < b) := by
    refine List.Pairwise.filterMap (R := fun a b : Nat => a < b) _ (fun a a' haa b hb b' hb' => ?_) h
    have key : ∀ (a : Nat) (b : Int), (cs[a]?.bind fun w => if 0 < w then some (-w, (a : Int)) else none).map Prod.snd = some b → b = (a : Int) := fun a b e => by
      cases q : cs[a]? with
      | none =>
        rw [q] at e
        cases e
      | some w =>
        rw [q] at e
        have e : ((if 0 < w then some (-w, (a : Int)) else none)).map Prod.snd = some b := e
        by_cases hw : 0 < w
        · rw [if_pos hw] at e
          exact (Option.some.inj e).symm
        · rw [if_neg hw] at e
          cases e
    rw [key a b hb, key a' b' hb']
    omega
  exact h2.imp fun h => Int.ne_of_lt h
/-- what is known of those that are lit -/
structure Lit (cs : List Int) (d : Int) (lit : List Int) : Prop where
  len : (lit.length : Int) = d + 1
  up : lit.Pairwise (· < ·)
  wax : ∀ i ∈ lit, ∃ (k : Nat) (w : Int), i = (k : Int) ∧ cs[k]? = some w ∧ 0 < w
  top : ∀ i ∈ lit, ∀ (k j : Nat) (w v : Int), i = (k : Int) → cs[k]? = some w → cs[j]? = some v → (j : Int) ∉ lit → v ≤ w
theorem Lit.nd {cs : List Int} {d : Int} {lit : List Int} (h : Lit cs d lit) : lit.Nodup := h.up.imp fun h => Int.ne_of_lt h
theorem srt_lt {l : List Int} (h : l.Nodup) : (srt l).Pairwise (· < ·) := by
  have h1 := srt_up l
  have h2 : (srt l).Pairwise (· ≠ ·) := (srt_perm l).nodup_iff.mpr h
  exact h1.imp₂ (fun a b h1 h2 => by omega) h2
theorem lights_lit {cs lit : List Int} {d : Int} (h0 : 0 ≤ d) (h : lightsF cs d = some lit) : Lit cs d lit := by
  unfold lightsF at h
  by_cases hc : ((rowsOf cs).length : Int) ≤ d
  · rw [if_pos hc] at h
    cases h
  rw [if_neg hc] at h
  have e := (Option.some.inj h).symm
  subst e
  have hp := srtP_perm (rowsOf cs)
  have hsub : ((srtP (rowsOf cs)).take (d + 1).toNat).map Prod.snd |>.Sublist ((srtP (rowsOf cs)).map Prod.snd) := (List.take_sublist _ _).map _
  have hnd : (((srtP (rowsOf cs)).take (d + 1).toNat).map Prod.snd).Nodup := hsub.nodup ((hp.map Prod.snd).nodup_iff.mpr (rowsOf_nodup cs))
  have hlen : (srtP (rowsOf cs)).length = (rowsOf cs).length := hp.length_eq
  have mem : ∀ i, i ∈ srt (((srtP (rowsOf cs)).take (d + 1).toNat).map Prod.snd) ↔ ∃ p ∈ (srtP (rowsOf cs)).take (d + 1).toNat, p.2 = i := fun i => by
    rw [(srt_perm _).mem_iff, List.mem_map]
  refine ⟨?_, srt_lt hnd, fun i hi => ?_, fun i hi k j w v ek hk hj hn => ?_⟩
  · rw [srt_len, List.length_map, List.length_take, hlen]
    omega
  · obtain ⟨p, hpm, e⟩ := (mem i).mp hi
    obtain ⟨k, w, h1, h2, rfl⟩ := rowsOf_mem.mp (hp.mem_iff.mp ((List.take_sublist _ _).mem hpm))
    exact ⟨k, w, e.symm, h1, h2⟩
  · obtain ⟨p, hpm, e⟩ := (mem i).mp hi
    obtain ⟨k', w', h1, h2, rfl⟩ := rowsOf_mem.mp (hp.mem_iff.mp ((List.take_sublist _ _).mem hpm))
    have ekk : k' = k := by
      have : (k' : Int) = i := e
      omega
    subst ekk
    rw [hk] at h1
    cases h1
    by_cases hv : 0 < v
    · have hq : ((-v, (j : Int)) : Int × Int) ∈ srtP (rowsOf cs) := hp.mem_iff.mpr (rowsOf_mem.mpr ⟨j, v, hj, hv, rfl⟩)
      have hd : ((-v, (j : Int)) : Int × Int) ∈ (srtP (rowsOf cs)).drop (d + 1).toNat := by
        rw [← List.take_append_drop (d + 1).toNat (srtP (rowsOf cs))] at hq
        rcases List.mem_append.mp hq with q | q
        · exact absurd ((mem _).mpr ⟨_, q, rfl⟩) hn
        · exact q
      have hup := srtP_up (rowsOf cs)
      rw [← List.take_append_drop (d + 1).toNat (srtP (rowsOf cs))] at hup
      have q := (List.pairwise_append.mp hup).2.2 _ hpm _ hd
      rw [leP_iff] at q
      have q : -w < -v ∨ (-w = -v ∧ (k' : Int) ≤ (j : Int)) := q
      omega
    · omega
/-- ticks one behind the other: lit, then what is left -/
def lotsF (cs : List Int) : List Int → Option (List (List Int × List Int))
  | [] => some []
  | d :: r => match lightsF cs d with
    | none => none
    | some lit => (lotsF (burntF cs lit []) r).map fun l => (lit, burntF cs lit []) :: l
theorem lotsF_cons (cs : List Int) (d : Int) (r : List Int) : lotsF cs (d :: r) = (match lightsF cs d with
    | none => none
    | some lit => (lotsF (burntF cs lit []) r).map fun l => (lit, burntF cs lit []) :: l) := rfl
theorem lotsF_len {ds : List Int} : ∀ {cs : List Int} {l : List (List Int × List Int)}, lotsF cs ds = some l → l.length = ds.length := by
  induction ds with
  | nil =>
    intro cs l h
    cases Option.some.inj h
    rfl
  | cons d r ih =>
    intro cs l h
    unfold lotsF at h
    cases e : lightsF cs d with
    | none =>
      rw [e] at h
      cases h
    | some lit =>
      rw [e] at h
      obtain ⟨l', h1, h2⟩ := Option.map_eq_some_iff.mp h
      rw [← h2, List.length_cons, List.length_cons, ih h1]
theorem sum_bits : ∀ (lit : List Int) (cs : List Int) (s : Nat), lit.Nodup → (∀ i ∈ lit, (s : Int) ≤ i ∧ i < (s : Int) + cs.length) → (cs.mapIdx fun i w => w - bit lit [] ((i + s : Nat) : Int)).sum = cs.sum - lit.length := by
  intro lit cs
  induction cs generalizing lit with
  | nil =>
    intro s _ h
    cases lit with
    | nil => rfl
    | cons x r =>
      have := h x List.mem_cons_self
      simp at this
      omega
  | cons c r ih =>
    intro s hn h
    rw [List.mapIdx_cons, List.sum_cons, List.sum_cons]
    have hm : (r.mapIdx fun i w => w - bit lit [] ((i + 1 + s : Nat) : Int)) = r.mapIdx fun i w => w - bit (lit.filter fun x => decide (x ≠ (s : Int))) [] ((i + (s + 1) : Nat) : Int) := by
      congr 1
      funext i w
      have e : i + 1 + s = i + (s + 1) := by omega
      rw [e]
      unfold bit
      have e2 : (((i + (s + 1) : Nat) : Int) ∈ lit) ↔ (((i + (s + 1) : Nat) : Int) ∈ lit.filter fun x => decide (x ≠ (s : Int))) := by
        rw [List.mem_filter]
        constructor
        · intro q
          exact ⟨q, decide_eq_true (by omega)⟩
        · intro q
          exact q.1
      simp only [← e2]
    rw [hm, ih (lit.filter fun x => decide (x ≠ (s : Int))) (s + 1) (hn.filter _) (fun i hi => ?_)]
    · by_cases hs : (s : Int) ∈ lit
      · have e3 : bit lit [] ((0 + s : Nat) : Int) = 1 := by
          unfold bit
          rw [Nat.zero_add, if_pos ⟨hs, by simp⟩]
        have e4 : (lit.filter fun x => decide (x ≠ (s : Int))).length + 1 = lit.length := by
          have q := List.length_erase_of_mem hs
          have q2 : lit.erase (s : Int) = lit.filter fun x => decide (x ≠ (s : Int)) := by
            rw [hn.erase_eq_filter]
            congr 1
            funext x
            by_cases hx : x = (s : Int) <;> simp [hx]
          rw [← q2, q]
          have := List.length_pos_of_mem hs
          omega
        rw [e3]
        omega
      · have e3 : bit lit [] ((0 + s : Nat) : Int) = 0 := by
          unfold bit
          rw [Nat.zero_add, if_neg (fun q => hs q.1)]
        have e4 : (lit.filter fun x => decide (x ≠ (s : Int))) = lit := List.filter_eq_self.mpr fun x hx => decide_eq_true fun e => hs (e ▸ hx)
        rw [e3, e4]
        omega
    · obtain ⟨h1, h2⟩ := List.mem_filter.mp hi
      have := h i h1
      have h2 := of_decide_eq_true h2
      rw [List.length_cons] at this
      omega
theorem burnt_sum {cs lit : List Int} {d : Int} (h : Lit cs d lit) : (burntF cs lit []).sum = cs.sum - (d + 1) := by
  rw [burntF_eq, ← h.len]
  have q := sum_bits lit cs 0 h.nd (fun i hi => by
    obtain ⟨k, w, e, hk, _⟩ := h.wax i hi
    have := (List.getElem?_eq_some_iff.mp hk).1
    omega)
  exact q
end LF
namespace LF
theorem burnt_step {cs L out : List Int} {i : Int} {k : Nat} {w : Int} (hi : i ∉ L) (ho : i ∉ out) (e : i = (k : Int)) (hk : cs[k]? = some w) : (burntF cs L out).set k (w - 1) = burntF cs (L ++ [i]) out := by
  apply List.ext_getElem?
  intro j
  rw [List.getElem?_set, burntF_len]
  by_cases hj : k = j
  · subst hj
    have hlt := (List.getElem?_eq_some_iff.mp hk).1
    rw [if_pos rfl, if_pos hlt, burntF_get hk]
    unfold bit
    rw [if_pos ⟨List.mem_append_right _ (by rw [← e]; exact List.mem_singleton.mpr rfl), by rw [← e]; exact ho⟩]
  · rw [if_neg hj]
    cases q : cs[j]? with
    | none =>
      rw [List.getElem?_eq_none (by rw [burntF_len]; exact List.getElem?_eq_none_iff.mp q), List.getElem?_eq_none (by rw [burntF_len]; exact List.getElem?_eq_none_iff.mp q)]
    | some v =>
      rw [burntF_get q, burntF_get q]
      have e2 : bit (L ++ [i]) out (j : Int) = bit L out (j : Int) := by
        unfold bit
        have e3 : ((j : Int) ∈ L ++ [i]) ↔ (j : Int) ∈ L := by
          rw [List.mem_append, List.mem_singleton]
          constructor
          · rintro (z | z)
            · exact z
            · omega
          · exact Or.inl
        simp only [e3]
      rw [e2]
theorem burnt_same {cs L out : List Int} {i : Int} (ho : i ∈ out) : burntF cs (L ++ [i]) out = burntF cs L out := by
  unfold burntF
  congr 1
  funext j w
  have e2 : bit (L ++ [i]) out (j : Int) = bit L out (j : Int) := by
    unfold bit
    by_cases hj : (j : Int) ∈ out
    · rw [if_neg (fun q => q.2 hj), if_neg (fun q => q.2 hj)]
    · have e3 : ((j : Int) ∈ L ++ [i]) ↔ (j : Int) ∈ L := by
        rw [List.mem_append, List.mem_singleton]
        constructor
        · rintro (z | z)
          · exact z
          · rw [z] at hj
            exact absurd ho hj
        · exact Or.inl
      simp only [e3]
  rw [e2]
theorem burnt_none (cs out : List Int) : burntF cs [] out = cs := by
  apply List.ext_getElem?
  intro j
  cases q : cs[j]? with
  | none => rw [List.getElem?_eq_none (by rw [burntF_len]; exact List.getElem?_eq_none_iff.mp q)]
  | some v =>
    rw [burntF_get q]
    unfold bit
    rw [if_neg (fun q => nomatch q.1), Int.sub_zero]
/-- the next of the places -/
theorem take_next {α : Type} {l : List α} {i : Nat} {x : α} (h : l[i]? = some x) : l.take (i + 1) = l.take i ++ [x] := by
  rw [List.take_add_one, h]
  rfl
theorem drop_next {α : Type} {l : List α} {i : Nat} {x : α} (h : l[i]? = some x) : l.drop i = x :: l.drop (i + 1) := by
  obtain ⟨hi, e⟩ := List.getElem?_eq_some_iff.mp h
  rw [← e]
  exact List.drop_eq_getElem_cons hi
theorem nodup_next {l : List Int} {i : Nat} {x : Int} (h : l.Nodup) (e : l[i]? = some x) : x ∉ l.take i := by
  intro hm
  obtain ⟨j, hj⟩ := List.mem_iff_getElem?.mp hm
  have hlt : j < i := by
    have := (List.getElem?_eq_some_iff.mp hj).1
    rw [List.length_take] at this
    omega
  rw [List.getElem?_take_of_lt hlt] at hj
  obtain ⟨h1, e1⟩ := List.getElem?_eq_some_iff.mp hj
  obtain ⟨h2, e2⟩ := List.getElem?_eq_some_iff.mp e
  have := (List.getElem_inj (i := j) (j := i) h).mp (e1.trans e2.symm)
  omega
/-- all is burnt that is wanted -/
theorem lots_sum : ∀ (ds cs : List Int) (l : List (List Int × List Int)), (∀ d ∈ ds, 0 ≤ d) → lotsF cs ds = some l → ∀ p, l.getLast? = some p → p.2.sum = cs.sum - ds.sum - ds.length := by
  intro ds
  induction ds with
  | nil =>
    intro cs l _ h p hp
    cases Option.some.inj h
    cases hp
  | cons d r ih =>
    intro cs l h0 h p hp
    unfold lotsF at h
    cases e : lightsF cs d with
    | none =>
      rw [e] at h
      cases h
    | some lit =>
      rw [e] at h
      obtain ⟨l', h1, h2⟩ := Option.map_eq_some_iff.mp h
      have hb := burnt_sum (lights_lit (h0 d List.mem_cons_self) e)
      rw [List.sum_cons, List.length_cons]
      subst h2
      cases q : l'.getLast? with
      | none =>
        have e0 : l' = [] := List.getLast?_eq_none_iff.mp q
        have e1 := lotsF_len h1
        rw [e0] at e1 hp
        have e2 : r = [] := List.length_eq_zero_iff.mp e1.symm
        cases Option.some.inj hp
        show (burntF cs lit []).sum = _
        rw [hb, e2]
        show _ = cs.sum - (d + 0) - _
        simp
        omega
      | some p' =>
        have e1 : p' = p := by
          have := List.getLast?_cons (a := (lit, burntF cs lit [])) (l := l')
          rw [this, q] at hp
          exact Option.some.inj hp
        subst e1
        rw [ih (burntF cs lit []) l' (fun x hx => h0 x (List.mem_cons_of_mem _ hx)) h1 p' q, hb]
        omega
theorem lots_lens : ∀ (ds cs : List Int) (l : List (List Int × List Int)), lotsF cs ds = some l → ∀ p ∈ l, p.2.length = cs.length := by
  intro ds
  induction ds with
  | nil =>
    intro cs l h p hp
    cases Option.some.inj h
    cases hp
  | cons d r ih =>
    intro cs l h p hp
    unfold lotsF at h
    cases e : lightsF cs d with
    | none =>
      rw [e] at h
      cases h
    | some lit =>
      rw [e] at h
      obtain ⟨l', h1, h2⟩ := Option.map_eq_some_iff.mp h
      subst h2
      rcases List.mem_cons.mp hp with z | z
      · rw [z]
        exact burntF_len _ _ _
      · rw [ih _ _ h1 p z]
        exact burntF_len _ _ _
end LF
/-! ### la_rep: (x,) * k for every k -/
namespace LF
open PySem PySem.Spec PyProof.Rows L2
theorem tup_mul_one (l : Addr) (items : Array Value) (n : Nat) (dd : Option Addr) (sl : Array (Option Value)) (x : Int) (u : Tok) (c0 : (decide (x < -(2 ^ 63)) || decide (x ≥ 2 ^ 63)) = false) (c1 : (items.isEmpty || x == 1) = true) :
    Meets (Builtin.«tuple.__mul__» ⟨[.ref l, .int x u], []⟩) (fun _ R s => s.heap.get? l = some { cls := .type "tuple", dict := dd, data := .seq items n, slots := sl } ∧ R (.ok (.ret (Value.ref l))) s) :=
  .of_wp fun prog w A R s h => by
    obtain ⟨hp, g, d, tk, os⟩ := s
    obtain ⟨hl, h⟩ := h
    have f1 := AutoSeq1.idx_int
    wp_walk using wpAny_loadPart' hl
    repeat (first
      | (refine wpAny_ite_false (decide_eq_false (by rw [c0]; exact Bool.false_ne_true)) ?_; wp_walk using wpAny_loadPart' hl)
      | (refine wpAny_ite_true (decide_eq_true c1) ?_; wp_walk using wpAny_loadPart' hl))
    all_goals exact ⟨_, rfl, h⟩
theorem tup_mul_nought (l : Addr) (items : Array Value) (n : Nat) (dd : Option Addr) (sl : Array (Option Value)) (x : Int) (u : Tok) (c0 : (decide (x < -(2 ^ 63)) || decide (x ≥ 2 ^ 63)) = false) (c1 : (items.isEmpty || x == 1) = false) (c2 : (decide (x ≤ 0) || items.isEmpty) = true) :
    Meets (Builtin.«tuple.__mul__» ⟨[.ref l, .int x u], []⟩) (fun _ R s => s.heap.get? l = some { cls := .type "tuple", dict := dd, data := .seq items n, slots := sl } ∧
      R (.ok (.ret (Value.ref s.heap.objs.size))) { s with heap := s.heap.push { cls := Value.type "tuple", data := Data.seq #[] }, toks := s.toks }) :=
  .of_wp fun prog w A R s h => by
    obtain ⟨hp, g, d, tk, os⟩ := s
    obtain ⟨hl, h⟩ := h
    have f1 := AutoSeq1.idx_int
    wp_walk using wpAny_loadPart' hl
    repeat (first
      | (refine wpAny_ite_false (decide_eq_false (by rw [c0]; exact Bool.false_ne_true)) ?_; wp_walk using wpAny_loadPart' hl)
      | (refine wpAny_ite_false (decide_eq_false (by rw [c1]; exact Bool.false_ne_true)) ?_; wp_walk using wpAny_loadPart' hl)
      | (refine wpAny_ite_true (decide_eq_true c2) ?_; wp_walk using wpAny_loadPart' hl))
    all_goals exact ⟨_, rfl, h⟩
/-- of one thing: the thing so many times -/
def rRepA (K : PySem.W.Frag) : R2 := fun x y H Q => ∃ l k z, x = .ref l ∧ y = .int k ∧ SqT K H l [z] ∧ 0 ≤ k ∧ k ≤ 1000 ∧ (k = 1 → Q (.ref l) H) ∧ (k ≠ 1 → ∀ p, H p = none → Q (.ref p) (upd H p (.tup (List.replicate k.toNat z))))
section
variable {X : Cx}
theorem flat_one {α : Type} (z : α) : ∀ n : Nat, (List.replicate n [z]).flatten = List.replicate n z
  | 0 => rfl
  | n + 1 => by
    rw [List.replicate_succ, List.flatten_cons, flat_one z n]
    rfl
theorem op_repA : OpR X (binaryOp .Mult) (rRepA X.K) := by
  intro pins s σ H x y v u Q I rx ry h
  obtain ⟨l, k, z, rfl, rfl, hT, h1, h2, q1, q2⟩ := h
  by_cases k2 : 2 ≤ k
  · refine op_repT pins s σ H _ _ v u Q I rx ry ⟨l, k, [z], rfl, rfl, hT, (by simp), k2, h2, (by show 1 ≤ 1000; decide), fun p np => ?_⟩
    rw [flat_one]
    exact q2 (by omega) p np
  cases rx
  obtain ⟨t, rfl⟩ := ry
  obtain ⟨its, r, ⟨⟨cls, dd, data, sl⟩, ho, hc, n, hd⟩, hs⟩ := I.tuple hT
  simp only at hc hd
  subst hc hd
  have hle : its.length = 1 := r.length.symm
  have hi : its.toArray.isEmpty = false := by
    cases its with
    | nil => cases hle
    | cons a b => rfl
  have c0 : (decide (k < -(2 ^ 63)) || decide (k ≥ 2 ^ 63)) = false := by
    rw [decide_eq_false (by omega), decide_eq_false (by omega)] <;> rfl
  by_cases k1 : k = 1
  · have c1 : (its.toArray.isEmpty || k == 1) = true := by
      rw [k1, Bool.or_eq_true]
      exact .inr rfl
    exact wpAny_binaryOp_repeat_ref (T := "tuple") (U := "int") (by decide) ⟨_, ho, rfl⟩ (fun s' => typeIs_int s' k t) noFill_tuple_mul F.fills_int_mul F.slot_int_rmul repeat_tuple F.slot_int_index.lookup
      (call_meets F.slot_int_rmul (typeIs_int s k t) F.entry_int_rmul (F.args_int_rmul_2 _ _) (int_rmul_tuple k t l its.toArray n dd sl)
        ⟨ho, rfl, ⟨_, ho, rfl⟩, call_meets F.slot_tuple_mul ⟨_, ho, rfl⟩ F.entry_tuple_mul (F.args_tuple_mul_2 _ _) (tup_mul_one l its.toArray n dd sl k t c0 c1) ⟨ho, ⟨.ref l, H, I, rfl, q1 k1⟩⟩⟩)
  · have k0 : k = 0 := by omega
    have c1 : (its.toArray.isEmpty || k == 1) = false := by
      rw [hi, Bool.false_or]
      exact beq_eq_false_iff_ne.mpr k1
    have c2 : (decide (k ≤ 0) || its.toArray.isEmpty) = true := by
      rw [decide_eq_true (by omega), Bool.true_or]
    refine wpAny_binaryOp_repeat_ref (T := "tuple") (U := "int") (by decide) ⟨_, ho, rfl⟩ (fun s' => typeIs_int s' k t) noFill_tuple_mul F.fills_int_mul F.slot_int_rmul repeat_tuple F.slot_int_index.lookup
      (call_meets F.slot_int_rmul (typeIs_int s k t) F.entry_int_rmul (F.args_int_rmul_2 _ _) (int_rmul_tuple k t l its.toArray n dd sl)
        ⟨ho, rfl, ⟨_, ho, rfl⟩, call_meets F.slot_tuple_mul ⟨_, ho, rfl⟩ F.entry_tuple_mul (F.args_tuple_mul_2 _ _) (tup_mul_nought l its.toArray n dd sl k t c0 c1 c2) ⟨ho, ?_⟩⟩)
    have q := q2 k1 s.heap.objs.size (I.hok.fresh (Nat.le_refl _))
    rw [k0] at q
    refine ⟨.ref s.heap.objs.size, _, I.laid (t' := s.toks) (o := .tup []) (fun b ob e => Heap.get?_push_of_some _ e) (Nat.le_refl _) ?_, rfl, q⟩
    exact ⟨Nat.zero_le _, [], .nil, IsTup.new _ _⟩
theorem repK (K : PySem.W.Frag) (h : X.K = K := by rfl) : OpR X (binaryOp .Mult) (rRepA K) := by subst h; exact op_repA
end
end LF
/-! tuples put together, cut, repeated: whichever object it is -/
namespace LF
open PySem PySem.Spec PyProof.Rows L2
theorem cat_any {K : PySem.W.Frag} {H : Hp} {a b : Addr} {xs ys : List V} {Q : VK} (ha : SqT K H a xs) (hb : SqT K H b ys) (hl : xs.length + ys.length ≤ 1000) (h : ∀ H' p, Same H H' → SqT K H' p (xs ++ ys) → Q (.ref p) H') : rCatA K (.ref a) (.ref b) H Q := by
  refine ⟨a, b, xs, ys, rfl, rfl, ha, hb, sz3 hl, fun e => h H b (Same.refl _) ?_, fun _ e => h H a (Same.refl _) ?_, fun _ _ p np => h _ p (Same.new np) (SqT.of upd_same)⟩
  · rw [e]
    exact hb
  · rw [e, List.append_nil]
    exact ha
theorem sl_any {K : PySem.W.Frag} {H : Hp} {a : Addr} {xs : List V} {lo hi : Option Int} {Q : VK} (ha : SqT K H a xs) (h : ∀ H' p, Same H H' → SqT K H' p (cutV xs lo hi) → Q (.ref p) H') : rSlA K (.ref a) lo hi H Q := by
  refine ⟨a, xs, rfl, ha, fun e => h H a (Same.refl _) ?_, fun _ p np => h _ p (Same.new np) (SqT.of upd_same)⟩
  unfold cutV
  rw [e.1, e.2, List.drop_zero, Nat.sub_zero, List.take_length]
  exact ha
theorem noPart {σ : L2.St} {H : Hp} {Q : Option Int → Hp → Prop} (h : Q none H) : tNoPart σ H Q := h
theorem rep_any {K : PySem.W.Frag} {H : Hp} {a : Addr} {z : V} {k : Int} {Q : VK} (ha : SqT K H a [z]) (h0 : 0 ≤ k) (h1 : k ≤ 1000) (h : ∀ H' p, Same H H' → SqT K H' p (List.replicate k.toNat z) → Q (.ref p) H') : rRepA K (.ref a) (.int k) H Q := by
  refine ⟨a, k, z, rfl, rfl, ha, h0, h1, fun e => h H a (Same.refl _) ?_, fun _ p np => h _ p (Same.new np) (SqT.of upd_same)⟩
  rw [e]
  exact ha
theorem vi_rep (n : Nat) (z : Int) : List.replicate n (V.int z) = vi (List.replicate n z) := List.map_replicate.symm
theorem cut_take (ns : List Int) (k : Nat) (h : k ≤ ns.length) : cutV (vi ns) none (some (k : Int)) = vi (ns.take k) := by
  unfold cutV
  rw [HT.sIx_nat, HT.sIx_none, vi_len, Nat.min_eq_left h, Nat.sub_zero, List.drop_zero]
  exact List.map_take.symm
theorem cut_drop (ns : List Int) (k : Nat) (h : k ≤ ns.length) : cutV (vi ns) (some (k : Int)) none = vi (ns.drop k) := by
  unfold cutV
  rw [HT.sIx_nat, HT.sIx_none, vi_len, Nat.min_eq_left h, List.take_of_length_le (by rw [List.length_drop, vi_len]; exact Nat.le_refl _)]
  exact List.map_drop.symm
theorem set_cut (ds : List Int) (i : Nat) (d : Int) (h : i < ds.length) : ds.take i ++ [d] ++ ds.drop (i + 1) = ds.set i d := by
  rw [List.set_eq_take_append_cons_drop, if_pos h, List.append_assoc]
  rfl
end LF
/-! ### la_can: whether a flame can be kept, told by lots of draughts -/
namespace LF
theorem top_sub : ∀ (L S : List Int), L.Pairwise (· ≤ ·) → S.Sublist L → S.sum ≤ (L.drop (L.length - S.length)).sum := by
  intro L
  induction L with
  | nil =>
    intro S _ h
    rw [List.sublist_nil.mp h]
    exact Int.le_refl _
  | cons x r ih =>
    intro S hp h
    have hp2 := (List.pairwise_cons.mp hp)
    cases h with
    | cons _ h1 =>
      have q := ih S hp2.2 h1
      have hl := h1.length_le
      rw [List.length_cons, show r.length + 1 - S.length = (r.length - S.length) + 1 by omega, List.drop_succ_cons]
      exact q
    | cons_cons _ h1 =>
      rename_i S'
      have q := ih S' hp2.2 h1
      have hl := h1.length_le
      rw [List.length_cons, List.length_cons, Nat.add_sub_add_right, List.sum_cons]
      by_cases e : r.length - S'.length = 0
      · rw [e, List.drop_zero, List.sum_cons]
        rw [e, List.drop_zero] at q
        omega
      · obtain ⟨m, hm⟩ : ∃ m, r.length - S'.length = m + 1 := ⟨r.length - S'.length - 1, by omega⟩
        rw [hm, List.drop_succ_cons]
        rw [hm] at q
        have hml : m < r.length := by omega
        rw [List.drop_eq_getElem_cons hml, List.sum_cons]
        have := hp2.1 r[m] (List.getElem_mem _)
        omega
theorem wnt_sum (ds : List Int) (k : Nat) (h : k ≤ ds.length) : wnt ds k = ((srt ds).drop (ds.length - k)).sum + k := by
  unfold wnt
  rw [sum_succ, List.length_drop, srt_len]
  have e : ds.length - (ds.length - k) = k := by omega
  rw [e]
theorem perm_sum {a b : List Int} (h : a.Perm b) : a.sum = b.sum := by
  induction h with
  | nil => rfl
  | cons x _ ih => rw [List.sum_cons, List.sum_cons, ih]
  | swap x y l =>
    rw [List.sum_cons, List.sum_cons, List.sum_cons, List.sum_cons]
    omega
  | trans _ _ h1 h2 => exact h1.trans h2
/-- each lot of draughts has what it wants -/
theorem can_sub {cs ds : List Int} : can cs ds = true ↔ ∀ S : List Int, S.Sublist ds → S ≠ [] → S.sum + S.length ≤ cnt cs S.length := by
  rw [can_iff]
  constructor
  · intro h S hS hn
    obtain ⟨S', hp, hs⟩ := List.exists_perm_sublist hS (srt_perm ds).symm
    have hl := hS.length_le
    have hpos : 1 ≤ S.length := List.length_pos_iff.mpr hn
    have q := h S.length hpos hl
    rw [wnt_sum ds S.length hl] at q
    have t := top_sub (srt ds) S' (srt_up ds) hs
    rw [perm_sum hp, srt_len, hp.length_eq] at t
    omega
  · intro h k h1 h2
    rw [wnt_sum ds k h2]
    have hs : ((srt ds).drop (ds.length - k)).Sublist (srt ds) := List.drop_sublist _ _
    obtain ⟨S, hp, hS⟩ := List.exists_perm_sublist hs (srt_perm ds)
    have hl : S.length = k := by
      rw [hp.length_eq, List.length_drop, srt_len]
      omega
    have q := h S hS (fun e => by rw [e] at hl; simp at hl; omega)
    rw [hl] at q
    rw [← perm_sum hp]
    exact q
theorem can_perm_ds {cs ds es : List Int} (h : ds.Perm es) : can cs ds = can cs es := by
  have key : ∀ {a b : List Int}, a.Perm b → can cs a = true → can cs b = true := fun {a b} hp hc => by
    rw [can_iff] at *
    intro k h1 h2
    have q := hc k h1 (by rw [hp.length_eq]; exact h2)
    unfold wnt at *
    rw [srt_of_perm hp, hp.length_eq] at q
    exact q
  cases h1 : can cs ds with
  | true => exact (key h h1).symm
  | false =>
    cases h2 : can cs es with
    | false => rfl
    | true =>
      rw [key h.symm h2] at h1
      cases h1
theorem cnt_nil (k : Int) : cnt [] k = 0 := rfl
theorem cnt_cons (c : Int) (r : List Int) (k : Int) : cnt (c :: r) k = (if k < c then k else c) + cnt r k := by
  unfold cnt
  rw [List.map_cons, List.sum_cons]
theorem cnt_app (a b : List Int) (k : Int) : cnt (a ++ b) k = cnt a k + cnt b k := by
  unfold cnt
  rw [List.map_append, List.sum_append]
theorem cnt_perm {a b : List Int} (h : a.Perm b) (k : Int) : cnt a k = cnt b k := perm_sum (h.map _)
theorem cnt_le_sum {cs : List Int} (k : Int) : cnt cs k ≤ cs.sum := by
  induction cs with
  | nil => exact Int.le_refl _
  | cons c r ih =>
    rw [cnt_cons, List.sum_cons]
    by_cases h : k < c
    · rw [if_pos h]
      omega
    · rw [if_neg h]
      omega
theorem cnt_one_le {cs : List Int} : cnt cs 1 ≤ cs.length := by
  induction cs with
  | nil => exact Int.le_refl _
  | cons c r ih =>
    rw [cnt_cons, List.length_cons]
    by_cases h : 1 < c
    · rw [if_pos h]
      omega
    · rw [if_neg h]
      omega
theorem can_perm_cs {a b ds : List Int} (h : a.Perm b) : can a ds = can b ds := by
  unfold can spr
  congr 1
  refine List.map_congr_left fun i _ => ?_
  rw [cnt_perm h]
/-- the draught that is strongest is less than candles are many -/
theorem can_lt {cs ds : List Int} (h : can cs ds = true) {d : Int} (hd : d ∈ ds) : d + 1 ≤ cs.length := by
  have q := can_sub.mp h [d] (List.singleton_sublist.mpr hd) (by simp)
  have e : ([d] : List Int).sum = d := by
    rw [List.sum_cons]
    exact Int.add_zero d
  rw [e] at q
  have := cnt_one_le (cs := cs)
  have q : d + 1 ≤ cnt cs 1 := q
  omega
/-! many ticks of one draught -/
theorem sum_rep (n : Nat) (z : Int) : (List.replicate n z).sum = n * z := by
  induction n with
  | zero =>
    rw [List.replicate_zero]
    show (0 : Int) = ((0 : Nat) : Int) * z
    rw [Int.natCast_zero, Int.zero_mul]
  | succ n ih =>
    rw [List.replicate_succ, List.sum_cons, ih]
    have e : ((n + 1 : Nat) : Int) = (n : Int) + 1 := by omega
    rw [e, Int.add_mul, Int.one_mul, Int.add_comm]
theorem srt_rep (n : Nat) (d : Int) : srt (List.replicate n d) = List.replicate n d :=
  (srt_is (List.Perm.refl _) (List.pairwise_replicate.mpr (.inr (Int.le_refl d)))).symm
theorem wnt_rep (n k : Nat) (d : Int) (h : k ≤ n) : wnt (List.replicate n d) k = k * (d + 1) := by
  rw [wnt_sum _ _ (by rw [List.length_replicate]; exact h), srt_rep, List.length_replicate, List.drop_replicate, sum_rep]
  have e : n - (n - k) = k := by omega
  rw [e, Int.mul_add, Int.mul_one]
theorem can_rep {cs : List Int} {n : Nat} {d : Int} : can cs (List.replicate n d) = true ↔ ∀ k : Nat, 1 ≤ k → k ≤ n → (k : Int) * (d + 1) ≤ cnt cs k := by
  rw [can_iff, List.length_replicate]
  constructor
  · intro h k h1 h2
    have q := h k h1 h2
    rw [wnt_rep n k d h2] at q
    exact q
  · intro h k h1 h2
    rw [wnt_rep n k d h2]
    exact h k h1 h2
/-- for more ticks a candle has no more to each -/
theorem cnt_slope {cs : List Int} (h0 : ∀ c ∈ cs, 0 ≤ c) {k t : Int} (hk : 0 ≤ k) (hkt : k ≤ t) : k * cnt cs t ≤ t * cnt cs k := by
  induction cs with
  | nil =>
    rw [cnt_nil, cnt_nil, Int.mul_zero, Int.mul_zero]
    exact Int.le_refl _
  | cons c r ih =>
    have ih := ih fun x hx => h0 x (List.mem_cons_of_mem _ hx)
    have hc := h0 c List.mem_cons_self
    rw [cnt_cons, cnt_cons, Int.mul_add, Int.mul_add]
    have one : k * (if t < c then t else c) ≤ t * (if k < c then k else c) := by
      by_cases h1 : t < c
      · rw [if_pos h1, if_pos (by omega), Int.mul_comm]
        exact Int.le_refl _
      · rw [if_neg h1]
        by_cases h2 : k < c
        · rw [if_pos h2, Int.mul_comm t k]
          exact Int.mul_le_mul_of_nonneg_left (by omega) hk
        · rw [if_neg h2]
          exact Int.mul_le_mul_of_nonneg_right hkt hc
    omega
theorem can_rep2 {cs : List Int} (h0 : ∀ c ∈ cs, 0 ≤ c) {n : Nat} {d : Int} (hn : 1 ≤ n) : can cs (List.replicate n d) = true ↔ (n : Int) * (d + 1) ≤ cnt cs n := by
  rw [can_rep]
  constructor
  · intro h
    exact h n hn (Nat.le_refl _)
  · intro h k h1 h2
    have s := cnt_slope h0 (k := (k : Int)) (t := (n : Int)) (by omega) (by omega)
    have a : (k : Int) * ((n : Int) * (d + 1)) ≤ (k : Int) * cnt cs n := Int.mul_le_mul_of_nonneg_left h (by omega)
    have e : (k : Int) * ((n : Int) * (d + 1)) = (n : Int) * ((k : Int) * (d + 1)) := Int.mul_left_comm _ _ _
    rw [e] at a
    exact Int.le_of_mul_le_mul_left (Int.le_trans a s) (by omega)
theorem can_rep_mono {cs : List Int} {n m : Nat} {d : Int} (h : can cs (List.replicate n d) = true) (hm : m ≤ n) : can cs (List.replicate m d) = true := by
  rw [can_rep] at *
  exact fun k h1 h2 => h k h1 (Nat.le_trans h2 hm)
theorem can_rep_le {cs : List Int} {n : Nat} {d : Int} (hd : 0 ≤ d) (h : can cs (List.replicate n d) = true) : (n : Int) ≤ cs.sum ∨ n = 0 := by
  by_cases hn : n = 0
  · exact .inr hn
  · rw [can_rep] at h
    have q := h n (by omega) (Nat.le_refl _)
    have q2 := cnt_le_sum (cs := cs) (n : Int)
    have q3 : (n : Int) * 1 ≤ (n : Int) * (d + 1) := Int.mul_le_mul_of_nonneg_left (by omega) (by omega)
    rw [Int.mul_one] at q3
    exact .inl (by omega)
theorem can_nil (cs : List Int) : can cs [] = true := rfl
end LF
/-! ### la_min: the least of a list of (int, ints) -/
namespace LF
open PySem PySem.Spec PyProof.Rows L2
abbrev rowD (r : Int × List Int) : PyData := .tuple [.int r.1, .tuple (di r.2)]
theorem di_inj : ∀ {a b : List Int}, di a = di b → a = b
  | [], [], _ => rfl
  | [], _ :: _, h => by cases h
  | _ :: _, [], h => by cases h
  | x :: a, y :: b, h => by
    injection h with h1 h2
    injection h1 with h1
    rw [h1, di_inj h2]
theorem rowD_inj {r q : Int × List Int} (h : rowD r = rowD q) : r = q := by
  obtain ⟨k, c⟩ := r
  obtain ⟨k', c'⟩ := q
  injection h with h
  injection h with h1 h2
  injection h1 with h1
  injection h2 with h2 _
  injection h2 with h2
  have h1 : k = k' := h1
  have h2 : c = c' := di_inj h2
  rw [h1, h2]
/-- the least row, as data -/
def best : List (Int × List Int) → PyData
  | [] => .none
  | r :: rs => PySem.W.minD (rowD r) (rs.map rowD)
def VS (K : PySem.W.Frag) (H : Hp) (v : V) (c : List Int) : Prop := ∃ t, v = .ref t ∧ SqT K H t (vi c)
theorem sqt_keep {K : PySem.W.Frag} {H H' : Hp} {D a : Addr} {acc xs : List V} (h : H D = some (.lst acc)) (s : Smt D H H') (e : SqT K H a xs) : SqT K H' a xs := by
  rcases e with (e | ⟨o, e⟩) | e
  · refine .inl (.inl (s a _ e fun z => ?_))
    rw [z, h] at e
    cases e
  · refine .inl (.inr ⟨o, s a _ e fun z => ?_⟩)
    rw [z, h] at e
    cases e
  · exact .inr e
theorem VS.keep {K : PySem.W.Frag} {H H' : Hp} {D : Addr} {acc : List V} {v : V} {c : List Int} (h : H D = some (.lst acc)) (s : Smt D H H') (r : VS K H v c) : VS K H' v c := by
  obtain ⟨t, e, ht⟩ := r
  exact ⟨t, e, sqt_keep h s ht⟩
theorem VS.same {K : PySem.W.Frag} {H H' : Hp} {v : V} {c : List Int} (s : Same H H') (r : VS K H v c) : VS K H' v c := by
  obtain ⟨t, e, ht⟩ := r
  exact ⟨t, e, s.sqt ht⟩
/-- a row: its number and its lot -/
def RV (K : PySem.W.Frag) (H : Hp) (v : V) (r : Int × List Int) : Prop := ∃ t u, v = .ref t ∧ H t = some (.tup [.int r.1, .ref u]) ∧ SqT K H u (vi r.2)
theorem RV.keep {K : PySem.W.Frag} {H H' : Hp} {D : Addr} {acc : List V} {v : V} {r : Int × List Int} (h : H D = some (.lst acc)) (s : Smt D H H') (q : RV K H v r) : RV K H' v r := by
  obtain ⟨t, u, e, ht, hu⟩ := q
  refine ⟨t, u, e, s t _ ht fun z => ?_, sqt_keep h s hu⟩
  rw [z, h] at ht
  cases ht
theorem RV.same {K : PySem.W.Frag} {H H' : Hp} {v : V} {r : Int × List Int} (s : Same H H') (q : RV K H v r) : RV K H' v r := by
  obtain ⟨t, u, e, ht, hu⟩ := q
  exact ⟨t, u, e, s t _ ht, s.sqt hu⟩
theorem dp_row {K : PySem.W.Frag} {H : Hp} {v : V} {r : Int × List Int} (q : RV K H v r) : Dp K H v (rowD r) := by
  obtain ⟨t, u, e, ht, hu⟩ := q
  subst e
  exact .tup (SqT.of ht) (.cons (.int r.1) (.cons (dp_tup hu) .nil))
theorem dp_rows {K : PySem.W.Frag} {H : Hp} : ∀ {xs : List V} {rows : List (Int × List Int)}, Paired (RV K H) xs rows → DpAll K H xs (rows.map rowD)
  | _, _, .nil => .nil
  | _, _, .cons q t => .cons (dp_row q) (dp_rows t)
theorem alike_ints : ∀ a b : List Int, PySem.W.alikeAll (di a) (di b) = true
  | [], _ => by simp only [List.map_nil, PySem.W.alikeAll]
  | _ :: _, [] => by simp only [List.map_nil, List.map_cons, PySem.W.alikeAll]
  | x :: a, y :: b => by
    show PySem.W.alikeAll (.int x :: di a) (.int y :: di b) = true
    simp only [PySem.W.alikeAll, PySem.W.alike, alike_ints a b, Bool.true_and]
theorem alike_rows (rows : List (Int × List Int)) : PySem.W.AlikeAll (rows.map rowD) := by
  constructor
  · intro x hx y hy
    obtain ⟨r, _, rfl⟩ := List.mem_map.mp hx
    obtain ⟨q, _, rfl⟩ := List.mem_map.mp hy
    simp only [PySem.W.alikeAll, PySem.W.alike, alike_ints r.2 q.2, Bool.true_and]
  · intro x hx
    obtain ⟨r, _, rfl⟩ := List.mem_map.mp hx
    exact fun z => by cases z
theorem okd_row (r : Int × List Int) : Okd 2 (rowD r) := okd_tup fun d hd => by
  rcases List.mem_cons.mp hd with rfl | hd
  · exact okd_int 1 _
  · rcases List.mem_cons.mp hd with rfl | hd
    · exact okd_tup (okd_ints 0 _)
    · cases hd
theorem depth_rows (rows : List (Int × List Int)) : PyData.canLayAll0 (rows.map rowD) = true ∧ PyData.depthAll (rows.map rowD) ≤ 2 := okd_all fun d hd => by
  obtain ⟨r, _, rfl⟩ := List.mem_map.mp hd
  exact okd_row r
theorem paired_get2 {α β : Type} {F : α → β → Prop} : ∀ {xs : List α} {ys : List β} {i : Nat} {y : β}, Paired F xs ys → ys[i]? = some y → ∃ x, xs[i]? = some x ∧ F x y
  | _, _, i, _, .nil, e => by simp at e
  | _, _, 0, _, .cons h _, e => by
    cases Option.some.inj e
    exact ⟨_, rfl, h⟩
  | _, _, i + 1, _, .cons _ t, e => paired_get2 (i := i) t e
theorem readsAll_get {h : Heap} : ∀ {vs : List Value} {ds : List PyData} {as : List Addr} {i : Nat} {u : Value}, ReadsAll h vs ds as → vs[i]? = some u → ∃ d bs, ds[i]? = some d ∧ Reads h u d bs
  | _, _, _, i, _, .nil, e => by simp at e
  | _, _, _, 0, _, .cons r _, e => by
    cases Option.some.inj e
    exact ⟨_, _, rfl, r⟩
  | _, _, _, i + 1, _, .cons _ t, e => readsAll_get (i := i) t e
section
variable {X : Cx}
def rMinR (K : PySem.W.Frag) : List V → Hp → VK → Prop := fun vs H Q => ∃ (a : Addr) (xs : List V) (rows : List (Int × List Int)), vs = [V.ref a] ∧ SqL K H a xs ∧ Paired (RV K H) xs rows ∧ rows ≠ [] ∧ ∀ v r, RV K H v r → rowD r = best rows → r ∈ rows → Q v H
theorem cr_minR (hu : X.A.units + 64 < cLine) (hc : X.calm = true) : CallR X (.builtin "min") (rMinR X.K) := by
  intro pins s σ H vs us Q I rr h
  obtain ⟨a, xs, rows, rfl, hS, hp, hne, q⟩ := h
  obtain ⟨its, rv, hl, _⟩ := I.list hS
  rw [Vals.ref1 rr]
  cases rows with
  | nil => exact absurd rfl hne
  | cons r0 rs =>
    obtain ⟨as, ra⟩ := Dp.readsAll I ((r0 :: rs).map rowD) xs its (dp_rows hp) rv
    have hdep := depth_rows (r0 :: rs)
    refine PySem.W.min_list_data (I.ok.hd hc) hl.isList (x := rowD r0) (xs := rs.map rowD) ra (alike_rows (r0 :: rs)) (by have := hdep.2; show X.A.units + 1 + PyData.depthAll ((r0 :: rs).map rowD) < _; omega) fun i u h' tk bs hi hr hk => ?_
    have hi : its[i]? = some u := by
      rw [← hi]
      simp
    have hx : ∃ v, xs[i]? = some v := by
      have hlen := rv.length
      have hi2 := (List.getElem?_eq_some_iff.mp hi).1
      exact ⟨xs[i]'(by omega), List.getElem?_eq_getElem (by omega)⟩
    obtain ⟨v, hv⟩ := hx
    obtain ⟨r, hr1, hrv⟩ := paired_get hp hv
    obtain ⟨u', hu', hrel⟩ := rv.get hv
    rw [hi] at hu'
    cases Option.some.inj hu'
    obtain ⟨d, bs', hd, hrd⟩ := readsAll_get ra hi
    rw [List.getElem?_map, hr1] at hd
    cases Option.some.inj hd
    have e : rowD r = best (r0 :: rs) := SeqAt.Reads.unique _ _ _ _ _ (okd_row r).1 (Reads.keeps hk hrd) hr
    exact ⟨v, H, I.kept hk, hrel, q v r hrv e (List.mem_of_getElem? hr1)⟩
theorem minRK (K : PySem.W.Frag) (hu : X.A.units + 64 < cLine) (h : X.K = K := by rfl) (hc : X.calm = true := by rfl) : CallR X (.builtin "min") (rMinR K) := by subst h; exact cr_minR hu hc
end
theorem eqv_rows_nil (rows : List (Int × List Int)) : PyData.eqv (.list (rows.map rowD)) (.list (di [])) = rows.isEmpty := by
  rw [eqv_nil]
  cases rows <;> rfl
theorem shaped_rows (rows : List (Int × List Int)) : SeqAt.shaped (.list (rows.map rowD)) = true := (okd_list (n := 2) fun d hd => by
  obtain ⟨r, _, rfl⟩ := List.mem_map.mp hd
  exact okd_row r).shaped (by decide)
end LF
/-! ### la_add: what must be added, what can be spared -/
namespace LF
/-- the stubs that are lacking -/
def Stb (cs ds : List Int) (m : Int) : Prop := 0 ≤ m ∧ (∀ k, 1 ≤ k → k ≤ ds.length → wnt ds k ≤ cnt cs k + m) ∧ (0 < m → ∃ k, 1 ≤ k ∧ k ≤ ds.length ∧ wnt ds k = cnt cs k + m)
theorem stb_of {cs ds : List Int} {m : Int} (h1 : m ∈ 0 :: (spr cs ds).map fun s => -s) (h2 : ∀ y, y ∈ 0 :: (spr cs ds).map (fun s => -s) → y ≤ m) : Stb cs ds m := by
  have h0 := h2 0 List.mem_cons_self
  refine ⟨h0, fun k k1 k2 => ?_, fun hm => ?_⟩
  · have e1 : k - 1 + 1 = k := by omega
    have e2 : ((k - 1 : Nat) : Int) + 1 = (k : Int) := by omega
    have q := h2 (-(cnt cs (((k - 1 : Nat) : Int) + 1) - wnt ds (k - 1 + 1))) (List.mem_cons_of_mem _ (List.mem_map.mpr ⟨_, List.mem_map.mpr ⟨k - 1, List.mem_range.mpr (by omega), rfl⟩, rfl⟩))
    rw [e1, e2] at q
    omega
  · rcases List.mem_cons.mp h1 with z | z
    · omega
    · obtain ⟨s, hs, e⟩ := List.mem_map.mp z
      obtain ⟨i, hi, e2⟩ := List.mem_map.mp hs
      have hi := List.mem_range.mp hi
      have e3 : ((i + 1 : Nat) : Int) = (i : Int) + 1 := by omega
      refine ⟨i + 1, by omega, by omega, ?_⟩
      rw [e3]
      omega
theorem cnt_rep1 (n : Nat) (k : Int) (hk : 1 ≤ k) : cnt (List.replicate n 1) k = n := by
  unfold cnt
  rw [List.map_replicate, if_neg (by omega), sum_rep, Int.mul_one]
theorem cnt_one (w k : Int) : cnt [w] k = if k < w then k else w := by
  rw [cnt_cons, cnt_nil, Int.add_zero]
theorem stb_can {cs ds : List Int} {m : Int} (h : Stb cs ds m) : can (cs ++ List.replicate m.toNat 1) ds = true := by
  refine (can_iff _ _).mpr fun k k1 k2 => ?_
  rw [cnt_app, cnt_rep1 _ _ (by omega), Int.toNat_of_nonneg h.1]
  exact h.2.1 k k1 k2
theorem stb_not {cs ds : List Int} {m : Int} (h : Stb cs ds m) (hm : 0 < m) : can (cs ++ List.replicate (m - 1).toNat 1) ds = false := by
  cases c : can (cs ++ List.replicate (m - 1).toNat 1) ds with
  | false => rfl
  | true =>
    obtain ⟨k, k1, k2, e⟩ := h.2.2 hm
    have q := (can_iff _ _).mp c k k1 k2
    rw [cnt_app, cnt_rep1 _ _ (by omega), Int.toNat_of_nonneg (by omega)] at q
    omega
/-- if any candle more is enough, one of that wax is -/
theorem one_of {cs ds : List Int} {m w : Int} (h : Stb cs ds m) (c : can (cs ++ [w]) ds = true) : can (cs ++ [m]) ds = true := by
  refine (can_iff _ _).mpr fun k k1 k2 => ?_
  have q := (can_iff _ _).mp c k k1 k2
  have q2 := h.2.1 k k1 k2
  rw [cnt_app, cnt_one] at q ⊢
  by_cases a : (k : Int) < w
  · rw [if_pos a] at q
    by_cases b : (k : Int) < m
    · rw [if_pos b]
      exact q
    · rw [if_neg b]
      exact q2
  · rw [if_neg a] at q
    by_cases b : (k : Int) < m
    · rw [if_pos b]
      omega
    · rw [if_neg b]
      exact q2
theorem one_not {cs ds : List Int} {m : Int} (h : Stb cs ds m) (hm : 0 < m) : can (cs ++ [m - 1]) ds = false := by
  cases c : can (cs ++ [m - 1]) ds with
  | false => rfl
  | true =>
    obtain ⟨k, k1, k2, e⟩ := h.2.2 hm
    have q := (can_iff _ _).mp c k k1 k2
    rw [cnt_app, cnt_one] at q
    by_cases a : (k : Int) < m - 1
    · rw [if_pos a] at q
      omega
    · rw [if_neg a] at q
      omega
theorem sub_sum {S ds : List Int} (h : S.Sublist ds) (h0 : ∀ d ∈ ds, 0 ≤ d) : S.sum ≤ ds.sum := by
  induction h with
  | slnil => exact Int.le_refl _
  | cons a h ih =>
    rw [List.sum_cons]
    have := ih fun d hd => h0 d (List.mem_cons_of_mem _ hd)
    have := h0 a List.mem_cons_self
    omega
  | cons_cons a h ih =>
    rw [List.sum_cons, List.sum_cons]
    have := ih fun d hd => h0 d (List.mem_cons_of_mem _ hd)
    omega
theorem cnt_nonneg {cs : List Int} (h0 : ∀ c ∈ cs, 0 ≤ c) {k : Int} (hk : 0 ≤ k) : 0 ≤ cnt cs k := by
  induction cs with
  | nil => exact Int.le_refl _
  | cons c r ih =>
    have := ih fun x hx => h0 x (List.mem_cons_of_mem _ hx)
    have := h0 c List.mem_cons_self
    rw [cnt_cons]
    by_cases a : k < c
    · rw [if_pos a]
      omega
    · rw [if_neg a]
      omega
theorem cnt_sub {S cs : List Int} (h : S.Sublist cs) (h0 : ∀ c ∈ cs, 0 ≤ c) {k : Int} (hk : 0 ≤ k) : cnt S k ≤ cnt cs k := by
  unfold cnt
  refine sub_sum (h.map _) fun d hd => ?_
  obtain ⟨c, hc, rfl⟩ := List.mem_map.mp hd
  have := h0 c hc
  show 0 ≤ if k < c then k else c
  by_cases a : k < c
  · rw [if_pos a]
    exact hk
  · rw [if_neg a]
    exact this
theorem can_sub_cs {S cs ds : List Int} (h : S.Sublist cs) (h0 : ∀ c ∈ cs, 0 ≤ c) (c : can S ds = true) : can cs ds = true :=
  (can_iff _ _).mpr fun k k1 k2 => Int.le_trans ((can_iff _ _).mp c k k1 k2) (cnt_sub h h0 (by omega))
theorem stb_le {cs ds : List Int} {m b : Int} (h : Stb cs ds m) (h0 : ∀ c ∈ cs, 0 ≤ c) (hd : ∀ d ∈ ds, 0 ≤ d ∧ d ≤ b) (hb : 0 ≤ b) : m ≤ (b + 1) * ds.length := by
  have hpos : 0 ≤ (b + 1) * (ds.length : Int) := Int.mul_nonneg (by omega) (by omega)
  by_cases hm : 0 < m
  · obtain ⟨k, k1, k2, e⟩ := h.2.2 hm
    have hc := cnt_nonneg h0 (k := (k : Int)) (by omega)
    have hw : wnt ds k ≤ (b + 1) * ds.length := by
      rw [wnt_sum _ _ k2]
      have hs : ((srt ds).drop (ds.length - k)).sum ≤ (srt ds).sum := sub_sum (List.drop_sublist _ _) fun d hd' => (hd d ((srt_perm ds).mem_iff.mp hd')).1
      rw [perm_sum (srt_perm ds)] at hs
      have hsum : ∀ l : List Int, (∀ d ∈ l, d ≤ b) → l.sum ≤ b * l.length := by
        intro l
        induction l with
        | nil =>
          intro _
          show (0 : Int) ≤ b * ((0 : Nat) : Int)
          rw [Int.natCast_zero, Int.mul_zero]
          exact Int.le_refl _
        | cons x r ih =>
          intro hl
          have := ih fun d hd => hl d (List.mem_cons_of_mem _ hd)
          have := hl x List.mem_cons_self
          have e : ((r.length + 1 : Nat) : Int) = (r.length : Int) + 1 := by omega
          rw [List.sum_cons, List.length_cons, e, Int.mul_add, Int.mul_one]
          omega
      have := hsum ds fun d h => (hd d h).2
      rw [Int.add_mul, Int.one_mul]
      omega
    omega
  · omega
/-- the lots of some places, one by one -/
def lotsPF (ps : List Int) : List (List Int) := ps.foldl (fun found p => found ++ found.map (· ++ [p])) [[]]
theorem lotsPF_snoc (ps : List Int) (p : Int) : lotsPF (ps ++ [p]) = lotsPF ps ++ (lotsPF ps).map (· ++ [p]) := by
  unfold lotsPF
  rw [List.foldl_append]
  rfl
theorem lotsPF_len (ps : List Int) : (lotsPF ps).length = 2 ^ ps.length := by
  suffices h : ∀ (ps : List Int) (acc : List (List Int)), (ps.foldl (fun found p => found ++ found.map (· ++ [p])) acc).length = acc.length * 2 ^ ps.length by
    rw [lotsPF, h ps [[]]]
    show 1 * _ = _
    rw [Nat.one_mul]
  intro ps
  induction ps with
  | nil => intro acc; simp
  | cons p r ih =>
    intro acc
    rw [List.foldl_cons, ih, List.length_append, List.length_map, List.length_cons, Nat.pow_succ]
    have : acc.length + acc.length = acc.length * 2 := by omega
    rw [this, Nat.mul_assoc, Nat.mul_comm 2]
theorem lotsPF_nil_mem (ps : List Int) : [] ∈ lotsPF ps := by
  suffices h : ∀ (ps : List Int) (acc : List (List Int)), [] ∈ acc → [] ∈ ps.foldl (fun found p => found ++ found.map (· ++ [p])) acc from h ps [[]] List.mem_cons_self
  intro ps
  induction ps with
  | nil => intro acc h; exact h
  | cons p r ih =>
    intro acc h
    rw [List.foldl_cons]
    exact ih _ (List.mem_append_left _ h)
theorem lotsPF_lens (ps : List Int) : ∀ l ∈ lotsPF ps, l.length ≤ ps.length := by
  suffices h : ∀ (ps : List Int) (acc : List (List Int)) (n : Nat), (∀ l ∈ acc, l.length ≤ n) → ∀ l ∈ ps.foldl (fun found p => found ++ found.map (· ++ [p])) acc, l.length ≤ n + ps.length by
    intro l hl
    have := h ps [[]] 0 (fun l hl => by
      rcases List.mem_cons.mp hl with rfl | hl
      · exact Nat.le_refl _
      · cases hl) l hl
    omega
  intro ps
  induction ps with
  | nil => intro acc n h l hl; exact h l hl
  | cons p r ih =>
    intro acc n h l hl
    rw [List.foldl_cons] at hl
    have := ih _ (n + 1) (fun l hl => by
      rcases List.mem_append.mp hl with hl | hl
      · exact Nat.le_succ_of_le (h l hl)
      · obtain ⟨x, hx, rfl⟩ := List.mem_map.mp hl
        rw [List.length_append]
        exact Nat.succ_le_succ (h x hx)) l hl
    rw [List.length_cons]
    omega
/-- the candles without those at the places of a lot -/
def remF (cs lot : List Int) : List Int := (List.range cs.length).filterMap fun (i : Nat) => if (i : Int) ∈ lot then none else cs[i]?
theorem rem_sub_gen (cs : List Int) : ∀ p : Nat → Bool, ((List.range cs.length).filterMap fun i => if p i then none else cs[i]?).Sublist cs := by
  induction cs with
  | nil => intro p; exact List.Sublist.refl _
  | cons c r ih =>
    intro p
    rw [List.length_cons, List.range_succ_eq_map, List.filterMap_cons, List.filterMap_map]
    have q := ih fun i => p (i + 1)
    have e : (List.range r.length).filterMap ((fun i => if p i then none else (c :: r)[i]?) ∘ Nat.succ) = (List.range r.length).filterMap fun i => if p (i + 1) then none else r[i]? := rfl
    rw [e]
    by_cases h : p 0 = true
    · rw [if_pos h]
      exact q.cons c
    · rw [if_neg h]
      exact q.cons_cons c
theorem rem_sub (cs lot : List Int) : (remF cs lot).Sublist cs := by
  have q := rem_sub_gen cs fun i => decide ((i : Int) ∈ lot)
  simp only [decide_eq_true_eq] at q
  exact q
theorem rem_nil (cs : List Int) : remF cs [] = cs := by
  have e := fm_get (fun x : Int => some x) cs
  rw [List.filterMap_some] at e
  unfold remF
  refine Eq.trans ?_ e
  congr 1
  funext i
  rw [if_neg (fun h => nomatch h)]
  cases cs[i]? <;> rfl
def rowOf (cs ds lot : List Int) : Option (Int × List Int) := if can (remF cs lot) ds then some (-(lot.length : Int), lot) else none
/-- the lots that can be spared -/
def rowsP (cs ds : List Int) (lots : List (List Int)) : List (Int × List Int) := lots.filterMap (rowOf cs ds)
def placesF (cs : List Int) : List Int := (List.range cs.length).map fun (i : Nat) => (i : Int)
def sparedF (cs ds : List Int) : List (Int × List Int) := rowsP cs ds (lotsPF (placesF cs))
theorem spared_can {cs ds : List Int} (h : can cs ds = true) : sparedF cs ds ≠ [] := by
  intro e
  have q : ((-(([] : List Int).length : Int)), ([] : List Int)) ∈ sparedF cs ds := List.mem_filterMap.mpr ⟨[], lotsPF_nil_mem _, by rw [rowOf, rem_nil, h]; rfl⟩
  rw [e] at q
  cases q
theorem spared_not {cs ds : List Int} (h0 : ∀ c ∈ cs, 0 ≤ c) (h : can cs ds = false) : sparedF cs ds = [] := by
  refine List.filterMap_eq_nil_iff.mpr fun lot _ => ?_
  unfold rowOf
  cases c : can (remF cs lot) ds with
  | false => rfl
  | true =>
    rw [can_sub_cs (rem_sub cs lot) h0 c] at h
    cases h
theorem rowsP_snoc (cs ds : List Int) (l : List (List Int)) (lot : List Int) : rowsP cs ds (l ++ [lot]) = rowsP cs ds l ++ (rowOf cs ds lot).toList := by
  unfold rowsP
  rw [List.filterMap_append, List.filterMap_cons, List.filterMap_nil]
  cases rowOf cs ds lot <;> rfl
end LF
namespace LF
open PySem PySem.Spec PyProof.Rows L2
/-- all lots of some places, as a list of tuples -/
def LotsQ (K : PySem.W.Frag) (H : Hp) (Q : VK) (ps : List Int) : Prop := ∀ H' p xs, Same H H' → H p = none → H' p = some (.lst xs) → Paired (VS K H') xs (lotsPF ps) → Q (.ref p) H'
/-- how many lots -/
theorem lots_small {ps : List Int} (h : ps.length ≤ 8) : (lotsPF ps).length ≤ 256 := by
  rw [lotsPF_len]
  exact Nat.le_trans (Nat.pow_le_pow_right (by decide) h) (by decide)
end LF
/-! ### la_main: the keeper keeps the flame just where no spare is below nought -/
namespace LF
def mn (k w : Int) : Int := if k < w then k else w
theorem mn_le (k w : Int) : mn k w ≤ k ∧ mn k w ≤ w ∧ (mn k w = k ∨ mn k w = w) := by
  unfold mn
  by_cases h : k < w
  · rw [if_pos h]
    exact ⟨Int.le_refl _, by omega, .inl rfl⟩
  · rw [if_neg h]
    exact ⟨by omega, Int.le_refl _, .inr rfl⟩
theorem mn_lo {k w x : Int} (h1 : x ≤ k) (h2 : x ≤ w) : x ≤ mn k w := by
  rcases (mn_le k w).2.2 with e | e <;> omega
theorem mapIdx_le : ∀ (cs : List Int) (f g : Nat → Int → Int), (∀ i w, cs[i]? = some w → f i w ≤ g i w) → (cs.mapIdx f).sum ≤ (cs.mapIdx g).sum
  | [], _, _, _ => Int.le_refl _
  | c :: r, f, g, h => by
    rw [List.mapIdx_cons, List.mapIdx_cons, List.sum_cons, List.sum_cons]
    have h0 := h 0 c rfl
    have h1 := mapIdx_le r (fun i => f (i + 1)) (fun i => g (i + 1)) fun i w e => h (i + 1) w e
    omega
theorem map_mapIdx (cs : List Int) (f : Int → Int) (g : Nat → Int → Int) : (cs.mapIdx g).map f = cs.mapIdx fun i w => f (g i w) := by
  apply List.ext_getElem?
  intro j
  rw [List.getElem?_map, List.getElem?_mapIdx, List.getElem?_mapIdx, Option.map_map]
  rfl
theorem mapIdx_map' (cs : List Int) (f : Int → Int) (g : Nat → Int → Int) : (cs.map f).mapIdx g = cs.mapIdx fun i w => g i (f w) := by
  apply List.ext_getElem?
  intro j
  rw [List.getElem?_mapIdx, List.getElem?_mapIdx, List.getElem?_map, Option.map_map]
  rfl
theorem mapIdx_id (cs : List Int) (f : Int → Int) : (cs.mapIdx fun _ w => f w) = cs.map f := by
  apply List.ext_getElem?
  intro j
  rw [List.getElem?_mapIdx, List.getElem?_map]
theorem cnt_mn (cs : List Int) (k : Int) : cnt cs k = (cs.mapIdx fun _ w => mn k w).sum := by
  rw [mapIdx_id]
  rfl
theorem cnt_burnt (cs lit out : List Int) (k : Int) : cnt (burntF cs lit out) k = (cs.mapIdx fun i w => mn k (w - bit lit out i)).sum := by
  rw [burntF_eq]
  show ((cs.mapIdx fun (i : Nat) w => w - bit lit out (i : Int)).map fun w => mn k w).sum = _
  rw [map_mapIdx]
theorem bit01 (lit out : List Int) (i : Int) : bit lit out i = 0 ∨ bit lit out i = 1 := by
  unfold bit
  by_cases h : i ∈ lit ∧ i ∉ out
  · rw [if_pos h]
    exact .inr rfl
  · rw [if_neg h]
    exact .inl rfl
theorem bit_in {lit : List Int} {i : Int} (h : i ∈ lit) : bit lit [] i = 1 := if_pos ⟨h, fun z => nomatch z⟩
theorem bit_no {lit out : List Int} {i : Int} (h : i ∉ lit) : bit lit out i = 0 := if_neg fun z => h z.1
theorem sub_bits {cs lit : List Int} {d : Int} (h : Lit cs d lit) (f : Int → Int) : (cs.mapIdx fun i w => f w - bit lit [] (i : Int)).sum = (cs.map f).sum - (d + 1) := by
  have q := sum_bits lit (cs.map f) 0 h.nd fun i hi => by
    obtain ⟨k, w, e, hk, _⟩ := h.wax i hi
    have := (List.getElem?_eq_some_iff.mp hk).1
    rw [List.length_map]
    omega
  rw [mapIdx_map', h.len] at q
  exact q
/-- what the candles have behind a tick -/
theorem burnt_cnt {cs lit : List Int} {d k : Int} (h : Lit cs d lit) : cnt cs k ≤ cnt (burntF cs lit []) k ∨ cnt cs (k + 1) - (d + 1) ≤ cnt (burntF cs lit []) k := by
  by_cases hB : ∃ (j : Nat) (v : Int), cs[j]? = some v ∧ (j : Int) ∉ lit ∧ k + 1 ≤ v
  · obtain ⟨j, v, hj, hn, hv⟩ := hB
    refine .inl ?_
    rw [cnt_mn, cnt_burnt]
    refine mapIdx_le cs _ _ fun i w hi => ?_
    by_cases hl : (i : Int) ∈ lit
    · have := h.top _ hl i j w v rfl hi hj hn
      rw [bit_in hl]
      have := mn_le k w
      exact mn_lo (by omega) (by omega)
    · rw [bit_no hl, Int.sub_zero]
      exact Int.le_refl _
  · refine .inr ?_
    have e := sub_bits h (fun w => mn (k + 1) w)
    have e2 : cnt cs (k + 1) = (cs.map fun w => mn (k + 1) w).sum := rfl
    rw [e2, ← e, cnt_burnt]
    refine mapIdx_le cs _ _ fun i w hi => ?_
    have := mn_le (k + 1) w
    by_cases hl : (i : Int) ∈ lit
    · rw [bit_in hl]
      exact mn_lo (by omega) (by omega)
    · rw [bit_no hl]
      have : ¬ k + 1 ≤ w := fun z => hB ⟨i, w, hi, hl, z⟩
      exact mn_lo (by omega) (by omega)
/-- behind a tick the rest can be kept -/
theorem can_step {cs lit r : List Int} {d : Int} (h : Lit cs d lit) (c : can cs (d :: r) = true) : can (burntF cs lit []) r = true := by
  refine can_sub.mpr fun S hS hne => ?_
  have c := can_sub.mp c
  have h1 := c S (hS.cons d) hne
  have h2 := c (d :: S) (hS.cons_cons d) (fun e => nomatch e)
  rw [List.sum_cons, List.length_cons] at h2
  have e : ((S.length + 1 : Nat) : Int) = (S.length : Int) + 1 := by omega
  rw [e] at h2
  rcases burnt_cnt (k := (S.length : Int)) h with q | q <;> omega
theorem cnt_mono {a b : List Int} (hl : a.length = b.length) (h : ∀ (i : Nat) (v w : Int), a[i]? = some v → b[i]? = some w → v ≤ w) (k : Int) : cnt a k ≤ cnt b k := by
  induction a generalizing b with
  | nil =>
    cases b with
    | nil => exact Int.le_refl _
    | cons x r => cases hl
  | cons x r ih =>
    cases b with
    | nil => cases hl
    | cons y r' =>
      have q := ih (by simpa using hl) fun i v w h1 h2 => h (i + 1) v w h1 h2
      have q0 := h 0 x y rfl rfl
      rw [cnt_cons, cnt_cons]
      have := mn_le k x
      have : mn k x ≤ mn k y := mn_lo (by omega) (by omega)
      unfold mn at this
      omega
theorem can_mono_cs {a b ds : List Int} (hl : a.length = b.length) (h : ∀ (i : Nat) (v w : Int), a[i]? = some v → b[i]? = some w → v ≤ w) (c : can a ds = true) : can b ds = true :=
  (can_iff _ _).mpr fun k k1 k2 => Int.le_trans ((can_iff _ _).mp c k k1 k2) (cnt_mono hl h k)
/-- what is put out burns less -/
theorem can_step_out {cs lit out r : List Int} {d : Int} (h : Lit cs d lit) (c : can cs (d :: r) = true) : can (burntF cs lit out) r = true := by
  refine can_mono_cs (by rw [burntF_len, burntF_len]) (fun i v w hv hw => ?_) (can_step h c)
  rw [burntF_eq, List.getElem?_mapIdx] at hv hw
  cases e : cs[i]? with
  | none =>
    rw [e] at hv
    cases hv
  | some x =>
    rw [e] at hv hw
    have hv : x - bit lit [] i = v := Option.some.inj hv
    have hw : x - bit lit out i = w := Option.some.inj hw
    have hb : bit lit out i ≤ bit lit [] i := by
      by_cases hl : (i : Int) ∈ lit
      · rw [bit_in hl]
        rcases bit01 lit out i with q | q <;> omega
      · rw [bit_no hl, bit_no hl]
        exact Int.le_refl _
    omega
/-- no candle goes below nought -/
theorem burnt_nonneg {cs lit out : List Int} {d : Int} (h : Lit cs d lit) (h0 : ∀ c ∈ cs, 0 ≤ c) : ∀ c ∈ burntF cs lit out, 0 ≤ c := by
  intro c hc
  obtain ⟨i, hi⟩ := List.getElem?_of_mem hc
  rw [burntF_eq, List.getElem?_mapIdx] at hi
  cases e : cs[i]? with
  | none =>
    rw [e] at hi
    cases hi
  | some x =>
    rw [e] at hi
    have hi : x - bit lit out i = c := Option.some.inj hi
    have hx := h0 x (List.mem_of_getElem? e)
    by_cases hl : (i : Int) ∈ lit
    · obtain ⟨k, w, ek, hk, hw⟩ := h.wax _ hl
      have : i = k := by omega
      subst this
      rw [e] at hk
      cases hk
      rcases bit01 lit out i with q | q <;> omega
    · rw [bit_no hl] at hi
      omega
theorem rows_len {β : Type} : ∀ (cs : List Int) (g : Nat → Int → β), ((List.range cs.length).filterMap fun i => cs[i]?.bind fun w => if 0 < w then some (g i w) else none).length = (cs.filter fun w => decide (0 < w)).length
  | [], _ => rfl
  | c :: r, g => by
    have ih := rows_len r fun i => g (i + 1)
    rw [List.length_cons, List.range_succ_eq_map, List.filterMap_cons, List.filterMap_map, List.filter_cons]
    have e : (List.range r.length).filterMap ((fun i => (c :: r)[i]?.bind fun w => if 0 < w then some (g i w) else none) ∘ Nat.succ) = (List.range r.length).filterMap fun i => r[i]?.bind fun w => if 0 < w then some (g (i + 1) w) else none := rfl
    rw [e]
    show (match (if 0 < c then some (g 0 c) else none) with | none => (List.range r.length).filterMap fun i => r[i]?.bind fun w => if 0 < w then some (g (i + 1) w) else none | some b => b :: (List.range r.length).filterMap fun i => r[i]?.bind fun w => if 0 < w then some (g (i + 1) w) else none).length = _
    by_cases h : 0 < c
    · rw [if_pos h, if_pos (decide_eq_true h), List.length_cons, List.length_cons, ih]
    · rw [if_neg h, if_neg (by rw [decide_eq_false h]; decide), ih]
theorem cnt1 : ∀ (cs : List Int), (∀ c ∈ cs, 0 ≤ c) → cnt cs 1 = ((cs.filter fun w => decide (0 < w)).length : Int)
  | [], _ => rfl
  | c :: r, h => by
    have ih := cnt1 r fun x hx => h x (List.mem_cons_of_mem _ hx)
    have h0 := h c List.mem_cons_self
    rw [cnt_cons, ih, List.filter_cons]
    by_cases hc : 0 < c
    · rw [if_pos (decide_eq_true hc), List.length_cons]
      have e : (((r.filter fun w => decide (0 < w)).length + 1 : Nat) : Int) = ((r.filter fun w => decide (0 < w)).length : Int) + 1 := by omega
      rw [e]
      by_cases h1 : 1 < c
      · rw [if_pos h1]
        omega
      · rw [if_neg h1]
        omega
    · rw [if_neg (by omega), if_neg (by rw [decide_eq_false hc]; decide)]
      omega
/-- as many can be lit as must be -/
theorem can_lights {cs r : List Int} {d : Int} (h0 : ∀ c ∈ cs, 0 ≤ c) (c : can cs (d :: r) = true) : ∃ lit, lightsF cs d = some lit := by
  have q := can_sub.mp c [d] (List.singleton_sublist.mpr List.mem_cons_self) (fun e => nomatch e)
  have e1 : ([d] : List Int).sum = d := by
    show d + 0 = d
    omega
  rw [e1] at q
  have q : d + 1 ≤ cnt cs 1 := q
  rw [cnt1 cs h0, ← rows_len cs fun i w => ((-w, (i : Int)) : Int × Int)] at q
  have q : d + 1 ≤ ((rowsOf cs).length : Int) := q
  unfold lightsF
  rw [if_neg (by omega)]
  exact ⟨_, rfl⟩
/-- one tick taken back -/
theorem burnt_back {cs lit : List Int} {d k : Int} (h : Lit cs d lit) : cnt (burntF cs lit []) (k - 1) + (d + 1) ≤ cnt cs k := by
  have e := sub_bits h (fun w => mn k w)
  have e2 : cnt cs k = (cs.map fun w => mn k w).sum := rfl
  have q : (cs.mapIdx fun i w => mn (k - 1) (w - bit lit [] (i : Int))).sum ≤ (cs.mapIdx fun i w => mn k w - bit lit [] (i : Int)).sum := mapIdx_le cs _ _ fun i w hi => by
    have a := mn_le (k - 1) (w - bit lit [] (i : Int))
    by_cases hl : (i : Int) ∈ lit
    · rw [bit_in hl] at a ⊢
      have : mn (k - 1) (w - 1) + 1 ≤ mn k w := mn_lo (by omega) (by omega)
      omega
    · rw [bit_no hl] at a ⊢
      have : mn (k - 1) (w - 0) ≤ mn k w := mn_lo (by omega) (by omega)
      omega
  rw [cnt_burnt, e2]
  omega
theorem burnt_less (cs lit : List Int) (k : Int) : cnt (burntF cs lit []) k ≤ cnt cs k := by
  rw [cnt_mn cs, cnt_burnt]
  refine mapIdx_le cs _ _ fun i w hi => ?_
  have := mn_le k (w - bit lit [] (i : Int))
  rcases bit01 lit [] (i : Int) with q | q <;> exact mn_lo (by omega) (by omega)
theorem can_back {cs lit r : List Int} {d : Int} (h0 : ∀ c ∈ cs, 0 ≤ c) (h : Lit cs d lit) (c : can (burntF cs lit []) r = true) : can cs (d :: r) = true := by
  refine can_sub.mpr fun S hS hne => ?_
  have c := can_sub.mp c
  cases hS with
  | cons _ hS =>
    have := c S hS hne
    have := burnt_less cs lit S.length
    omega
  | cons_cons _ hS =>
    rename_i S'
    rw [List.sum_cons, List.length_cons]
    have e : ((S'.length + 1 : Nat) : Int) = (S'.length : Int) + 1 := by omega
    rw [e]
    have q := burnt_back (k := (S'.length : Int) + 1) h
    have e2 : (S'.length : Int) + 1 - 1 = S'.length := by omega
    rw [e2] at q
    by_cases hn : S' = []
    · subst hn
      have z : 0 ≤ cnt (burntF cs lit []) ((([] : List Int).length : Nat) : Int) := cnt_nonneg (burnt_nonneg h h0) (Int.le_refl _)
      have z1 : ([] : List Int).sum = 0 := rfl
      have z2 : ((([] : List Int).length : Nat) : Int) = 0 := rfl
      rw [z2] at q z
      rw [z1, z2]
      omega
    · have := c S' hS hn
      omega
/-- the law of the game: the keeper's lots go through just where it can be kept -/
theorem keeper : ∀ (ds cs : List Int), (∀ c ∈ cs, 0 ≤ c) → (∀ d ∈ ds, 0 ≤ d) → (lotsF cs ds).isSome = can cs ds
  | [], _, _, _ => rfl
  | d :: r, cs, h0, hd => by
    have hd0 := hd d List.mem_cons_self
    have hr := fun x hx => hd x (List.mem_cons_of_mem d hx)
    rw [lotsF_cons]
    cases e : lightsF cs d with
    | none =>
      show false = _
      cases c : can cs (d :: r) with
      | false => rfl
      | true =>
        obtain ⟨lit, q⟩ := can_lights h0 c
        rw [q] at e
        cases e
    | some lit =>
      have L := lights_lit hd0 e
      have ih := keeper r (burntF cs lit []) (burnt_nonneg L h0) hr
      show ((lotsF (burntF cs lit []) r).map _).isSome = _
      rw [Option.isSome_map, ih, Bool.eq_iff_iff]
      exact ⟨can_back h0 L, can_step L⟩
end LF
/-! ### la_ten: more wax, weaker draughts, other orders -/
namespace LF
theorem wnt_ge {ds S : List Int} (h : S.Sublist ds) : S.sum + S.length ≤ wnt ds S.length := by
  obtain ⟨S', hp, hs⟩ := List.exists_perm_sublist h (srt_perm ds).symm
  have hl := h.length_le
  rw [wnt_sum ds S.length hl]
  have t := top_sub (srt ds) S' (srt_up ds) hs
  rw [perm_sum hp, srt_len, hp.length_eq] at t
  omega
theorem wnt_at {ds : List Int} {k : Nat} (h : k ≤ ds.length) : ∃ S : List Int, S.Sublist ds ∧ S.length = k ∧ wnt ds k = S.sum + k := by
  have hs : ((srt ds).drop (ds.length - k)).Sublist (srt ds) := List.drop_sublist _ _
  obtain ⟨S, hp, hS⟩ := List.exists_perm_sublist hs (srt_perm ds)
  refine ⟨S, hS, ?_, ?_⟩
  · rw [hp.length_eq, List.length_drop, srt_len]
    omega
  · rw [wnt_sum ds k h, perm_sum hp]
theorem wnt_sub {es ds : List Int} {k : Nat} (h : es.Sublist ds) (hk : k ≤ es.length) : wnt es k ≤ wnt ds k := by
  obtain ⟨S, hS, hl, e⟩ := wnt_at hk
  have q := wnt_ge (hS.trans h)
  rw [hl] at q
  omega
theorem set_sub : ∀ (ds : List Int) (i : Nat) (v x : Int), ds[i]? = some x → v ≤ x → ∀ S : List Int, S.Sublist (ds.set i v) → ∃ S' : List Int, S'.Sublist ds ∧ S'.length = S.length ∧ S.sum ≤ S'.sum
  | [], _, _, _, h, _, _, _ => by simp at h
  | d :: r, 0, v, x, h, hv, S, hS => by
    have h : d = x := Option.some.inj h
    subst h
    rw [List.set_cons_zero] at hS
    cases hS with
    | cons _ hS => exact ⟨S, hS.cons d, rfl, Int.le_refl _⟩
    | cons_cons _ hS =>
      rename_i S0
      refine ⟨d :: S0, hS.cons_cons d, rfl, ?_⟩
      rw [List.sum_cons, List.sum_cons]
      omega
  | d :: r, i + 1, v, x, h, hv, S, hS => by
    rw [List.set_cons_succ] at hS
    cases hS with
    | cons _ hS =>
      obtain ⟨S', h1, h2, h3⟩ := set_sub r i v x h hv S hS
      exact ⟨S', h1.cons d, h2, h3⟩
    | cons_cons _ hS =>
      rename_i S0
      obtain ⟨S', h1, h2, h3⟩ := set_sub r i v x h hv S0 hS
      refine ⟨d :: S', h1.cons_cons d, by rw [List.length_cons, List.length_cons, h2], ?_⟩
      rw [List.sum_cons, List.sum_cons]
      omega
theorem wnt_set {ds : List Int} {i k : Nat} {v x : Int} (h : ds[i]? = some x) (hv : v ≤ x) (hk : k ≤ ds.length) : wnt (ds.set i v) k ≤ wnt ds k := by
  obtain ⟨S, hS, hl, e⟩ := wnt_at (ds := ds.set i v) (k := k) (by rw [List.length_set]; exact hk)
  obtain ⟨S', h1, h2, h3⟩ := set_sub ds i v x h hv S hS
  have q := wnt_ge h1
  rw [h2, hl] at q
  omega
/-- as good a night, or a better one -/
def Eas (cs ds cs' ds' : List Int) : Prop := ∀ k : Nat, 1 ≤ k → k ≤ ds'.length → k ≤ ds.length ∧ wnt ds' k ≤ wnt ds k ∧ cnt cs k ≤ cnt cs' k
theorem Eas.can {cs ds cs' ds' : List Int} (h : Eas cs ds cs' ds') (c : can cs ds = true) : LF.can cs' ds' = true :=
  (can_iff _ _).mpr fun k k1 k2 => by
    obtain ⟨a, b, d⟩ := h k k1 k2
    have := (can_iff _ _).mp c k k1 a
    omega
theorem Eas.stb {cs ds cs' ds' : List Int} {m n : Int} (h : Eas cs ds cs' ds') (hm : Stb cs ds m) (hn : Stb cs' ds' n) : n ≤ m := by
  by_cases h0 : 0 < n
  · obtain ⟨k, k1, k2, e⟩ := hn.2.2 h0
    obtain ⟨a, b, d⟩ := h k k1 k2
    have := hm.2.1 k k1 a
    omega
  · have := hm.1
    omega
theorem eas_cs {cs cs' : List Int} (ds : List Int) (h : ∀ k : Int, 0 ≤ k → cnt cs k ≤ cnt cs' k) : Eas cs ds cs' ds := fun k _ k2 => ⟨k2, Int.le_refl _, h k (by omega)⟩
theorem eas_set (cs : List Int) {ds : List Int} {i : Nat} {v x : Int} (h : ds[i]? = some x) (hv : v ≤ x) : Eas cs ds cs (ds.set i v) := fun k _ k2 => by
  rw [List.length_set] at k2
  exact ⟨k2, wnt_set h hv k2, Int.le_refl _⟩
theorem eas_sub (cs : List Int) {es ds : List Int} (h : es.Sublist ds) : Eas cs ds cs es := fun _ _ k2 => ⟨Nat.le_trans k2 h.length_le, wnt_sub h k2, Int.le_refl _⟩
/-- one longer -/
theorem cnt_longer {cs : List Int} {i : Nat} {x : Int} (h : cs[i]? = some x) (k : Int) : cnt cs k ≤ cnt (cs.set i (x + 1)) k :=
  cnt_mono (by rw [List.length_set]) (fun j v w hv hw => by
    by_cases e : i = j
    · subst e
      rw [List.getElem?_set_self (List.getElem?_eq_some_iff.mp h).1] at hw
      cases hw
      rw [h] at hv
      cases hv
      omega
    · rw [List.getElem?_set_ne e] at hw
      rw [hv] at hw
      cases hw
      omega) k
/-- one more -/
theorem cnt_more (cs : List Int) {w : Int} (h : 0 ≤ w) {k : Int} (hk : 0 ≤ k) : cnt cs k ≤ cnt (cs ++ [w]) k := by
  rw [cnt_app, cnt_one]
  by_cases a : k < w
  · rw [if_pos a]
    omega
  · rw [if_neg a]
    omega
theorem long_mono {cs cs' : List Int} {d : Int} {r q : Nat} (h : ∀ ds, can cs ds = true → can cs' ds = true) (h1 : can cs (List.replicate r d) = true) (h2 : can cs' (List.replicate (q + 1) d) = false) : r ≤ q := by
  by_cases c : r ≤ q
  · exact c
  · have := h _ (can_rep_mono h1 (m := q + 1) (by omega))
    rw [h2] at this
    cases this
theorem spr_le {cs cs' ds : List Int} (h : ∀ k : Int, 0 ≤ k → cnt cs k ≤ cnt cs' k) (i : Nat) (x y : Int) (hx : (spr cs ds)[i]? = some x) (hy : (spr cs' ds)[i]? = some y) : x ≤ y := by
  unfold spr at hx hy
  rw [List.getElem?_map] at hx hy
  obtain ⟨j, hj, rfl⟩ := Option.map_eq_some_iff.mp hx
  rw [hj] at hy
  have hy := (Option.some.inj hy).symm
  subst hy
  have := h ((j : Int) + 1) (by omega)
  show cnt cs ((j : Int) + 1) - wnt ds (j + 1) ≤ cnt cs' ((j : Int) + 1) - wnt ds (j + 1)
  omega
theorem wnt_perm {a b : List Int} (h : a.Perm b) (k : Nat) : wnt a k = wnt b k := by
  unfold wnt
  rw [srt_of_perm h, h.length_eq]
theorem spr_perm {cs cs' ds ds' : List Int} (h : cs.Perm cs') (g : ds.Perm ds') : spr cs ds = spr cs' ds' := by
  unfold spr
  rw [g.length_eq]
  refine List.map_congr_left fun i _ => ?_
  rw [cnt_perm h, wnt_perm g]
theorem can_perm {cs cs' ds ds' : List Int} (h : cs.Perm cs') (g : ds.Perm ds') : can cs ds = can cs' ds' := by
  unfold can
  rw [spr_perm h g]
/-- the least row comes first by its number -/
theorem rowLt (y a : Int × List Int) (e : y.1 ≠ a.1) : PySem.W.dataLt (rowD y) (rowD a) = decide (y.1 < a.1) := by
  have h1 : PySem.W.alike (.int y.1) (.int a.1) = true := by simp only [PySem.W.alike]
  rw [PySem.W.dataLt_tuple, PySem.W.dataLt_all_no h1 (by rw [PySem.PyData.eqv]; exact beq_eq_false_iff_ne.mpr e)]
  exact PySem.W.dataLt_int _ _
theorem best_fold : ∀ (rs : List (Int × List Int)) (a : Int × List Int), ∃ r, r ∈ a :: rs ∧ PySem.W.minD (rowD a) (rs.map rowD) = rowD r ∧ r.1 ≤ a.1 ∧ ∀ q ∈ rs, r.1 ≤ q.1
  | [], a => ⟨a, List.mem_cons_self, rfl, Int.le_refl _, fun q h => nomatch h⟩
  | y :: rs, a => by
    show ∃ r, r ∈ a :: y :: rs ∧ (rs.map rowD).foldl (fun a y => if PySem.W.dataLt y a then y else a) (if PySem.W.dataLt (rowD y) (rowD a) then rowD y else rowD a) = rowD r ∧ _
    have L := rowLt y a
    cases c : PySem.W.dataLt (rowD y) (rowD a) with
    | true =>
      rw [if_pos rfl]
      obtain ⟨r, h1, h2, h3, h4⟩ := best_fold rs y
      have hle : y.1 ≤ a.1 := by
        by_cases e : y.1 = a.1
        · omega
        · have L := L e
          rw [c] at L
          have := of_decide_eq_true L.symm
          omega
      refine ⟨r, List.mem_cons_of_mem _ h1, h2, by omega, fun q hq => ?_⟩
      rcases List.mem_cons.mp hq with rfl | hq
      · exact h3
      · exact h4 q hq
    | false =>
      rw [if_neg (by decide)]
      obtain ⟨r, h1, h2, h3, h4⟩ := best_fold rs a
      have hle : a.1 ≤ y.1 := by
        by_cases e : y.1 = a.1
        · omega
        · have L := L e
          rw [c] at L
          have := of_decide_eq_false L.symm
          omega
      refine ⟨r, ?_, h2, h3, fun q hq => ?_⟩
      · rcases List.mem_cons.mp h1 with rfl | h1
        · exact List.mem_cons_self
        · exact List.mem_cons_of_mem _ (List.mem_cons_of_mem _ h1)
      · rcases List.mem_cons.mp hq with rfl | hq
        · omega
        · exact h4 q hq
theorem best_min {rows : List (Int × List Int)} {r : Int × List Int} (hne : rows ≠ []) (h : rowD r = best rows) : r ∈ rows ∧ ∀ q ∈ rows, r.1 ≤ q.1 := by
  cases rows with
  | nil => exact absurd rfl hne
  | cons a rs =>
    obtain ⟨r', h1, h2, h3, h4⟩ := best_fold rs a
    have e : r = r' := rowD_inj (h.trans h2)
    subst e
    refine ⟨h1, fun q hq => ?_⟩
    rcases List.mem_cons.mp hq with rfl | hq
    · exact h3
    · exact h4 q hq
abbrev plN (n : Nat) : List Int := (List.range n).map fun (i : Nat) => (i : Int)
theorem plN_succ (n : Nat) : plN (n + 1) = plN n ++ [(n : Int)] := by
  show (List.range (n + 1)).map _ = _
  rw [List.range_succ, List.map_append]
  rfl
theorem lots_iff : ∀ (n : Nat) (l : List Int), l ∈ lotsPF (plN n) ↔ l.Sublist (plN n)
  | 0, l => by
    show l ∈ [[]] ↔ l.Sublist []
    rw [List.mem_singleton, List.sublist_nil]
  | n + 1, l => by
    rw [plN_succ, lotsPF_snoc, List.mem_append, List.mem_map]
    constructor
    · rintro (h | ⟨x, h, rfl⟩)
      · exact ((lots_iff n l).mp h).trans (List.sublist_append_left _ _)
      · exact ((lots_iff n x).mp h).append (List.Sublist.refl _)
    · intro h
      obtain ⟨l1, l2, rfl, h1, h2⟩ := List.sublist_append_iff.mp h
      cases h2 with
      | cons _ h2 =>
        rw [List.sublist_nil.mp h2, List.append_nil]
        exact .inl ((lots_iff n l1).mpr h1)
      | cons_cons _ h2 =>
        rw [List.sublist_nil.mp h2]
        exact .inr ⟨l1, (lots_iff n l1).mpr h1, rfl⟩
theorem plN_nodup (n : Nat) : (plN n).Nodup := List.pairwise_map.mpr (List.nodup_range.imp fun h z => h (by omega))
theorem sub_filter {L l : List Int} (h : l.Sublist L) : L.Nodup → (L.filter fun x => decide (x ∉ l)).length + l.length = L.length := by
  induction h with
  | slnil => intro _; rfl
  | cons a h ih =>
    rename_i l L
    intro hn
    have hn := List.nodup_cons.mp hn
    have ha : a ∉ l := fun z => hn.1 (h.mem z)
    rw [List.filter_cons, if_pos (decide_eq_true ha), List.length_cons, List.length_cons]
    have := ih hn.2
    omega
  | cons_cons a h ih =>
    rename_i l L
    intro hn
    have hn := List.nodup_cons.mp hn
    rw [List.filter_cons, if_neg (by simp), List.length_cons, List.length_cons]
    have e : (L.filter fun x => decide (x ∉ a :: l)) = L.filter fun x => decide (x ∉ l) := by
      refine List.filter_congr fun x hx => ?_
      have : x ≠ a := fun z => hn.1 (z ▸ hx)
      simp [this]
    rw [e]
    have := ih hn.2
    omega
theorem fm_len {α β : Type} (p : α → Bool) (g : α → Option β) : ∀ l : List α, (∀ x ∈ l, (g x).isSome = p x) → (l.filterMap g).length = (l.filter p).length
  | [], _ => rfl
  | x :: r, h => by
    have ih := fm_len p g r fun y hy => h y (List.mem_cons_of_mem _ hy)
    have h0 := h x List.mem_cons_self
    rw [List.filterMap_cons, List.filter_cons]
    cases e : g x with
    | none =>
      rw [e] at h0
      rw [← h0]
      exact ih
    | some y =>
      rw [e] at h0
      rw [← h0]
      show (_ :: _).length = (_ :: _).length
      rw [List.length_cons, List.length_cons, ih]
theorem rem_len {cs lot : List Int} (h : lot ∈ lotsPF (placesF cs)) : (remF cs lot).length + lot.length = cs.length := by
  have hs := (lots_iff cs.length lot).mp h
  have q := sub_filter hs (plN_nodup _)
  have e : (remF cs lot).length = ((List.range cs.length).filter fun (i : Nat) => decide ((i : Int) ∉ lot)).length := fm_len _ _ _ fun i hi => by
    have hi := List.mem_range.mp hi
    by_cases c : (i : Int) ∈ lot
    · rw [if_pos c, decide_eq_false (fun z => z c)]
      rfl
    · rw [if_neg c, decide_eq_true c, List.getElem?_eq_getElem hi]
      rfl
  have e2 : ((plN cs.length).filter fun x => decide (x ∉ lot)).length = ((List.range cs.length).filter fun (i : Nat) => decide ((i : Int) ∉ lot)).length := by
    show (((List.range cs.length).map fun (i : Nat) => (i : Int)).filter fun x => decide (x ∉ lot)).length = _
    rw [List.filter_map, List.length_map]
    rfl
  have e3 : (plN cs.length).length = cs.length := by
    show ((List.range cs.length).map _).length = _
    rw [List.length_map, List.length_range]
  omega
theorem rem_mask {R cs : List Int} (h : R.Sublist cs) : ∃ p : Nat → Bool, ((List.range cs.length).filterMap fun i => if p i = true then none else cs[i]?) = R := by
  induction h with
  | slnil => exact ⟨fun _ => true, rfl⟩
  | cons a h ih =>
    rename_i R cs
    obtain ⟨p, e⟩ := ih
    refine ⟨fun i => match i with | 0 => true | j + 1 => p j, ?_⟩
    rw [List.length_cons, List.range_succ_eq_map, List.filterMap_cons, List.filterMap_map]
    show (List.range cs.length).filterMap (fun i => if p i = true then none else cs[i]?) = _
    exact e
  | cons_cons a h ih =>
    rename_i R cs
    obtain ⟨p, e⟩ := ih
    refine ⟨fun i => match i with | 0 => false | j + 1 => p j, ?_⟩
    rw [List.length_cons, List.range_succ_eq_map, List.filterMap_cons, List.filterMap_map]
    show a :: (List.range cs.length).filterMap (fun i => if p i = true then none else cs[i]?) = _
    rw [e]
theorem fm_congr {α β : Type} {f g : α → Option β} : ∀ l : List α, (∀ x ∈ l, f x = g x) → l.filterMap f = l.filterMap g
  | [], _ => rfl
  | x :: r, h => by
    rw [List.filterMap_cons, List.filterMap_cons, h x List.mem_cons_self, fm_congr r fun y hy => h y (List.mem_cons_of_mem _ hy)]
theorem rem_is {R cs : List Int} (h : R.Sublist cs) : ∃ lot, lot ∈ lotsPF (placesF cs) ∧ remF cs lot = R := by
  obtain ⟨p, e⟩ := rem_mask h
  refine ⟨(plN cs.length).filter fun x => p x.toNat, (lots_iff _ _).mpr List.filter_sublist, ?_⟩
  rw [← e]
  refine fm_congr _ fun i hi => ?_
  have hi := List.mem_range.mp hi
  by_cases c : p i = true
  · rw [if_pos c, if_pos]
    refine List.mem_filter.mpr ⟨List.mem_map.mpr ⟨i, List.mem_range.mpr hi, rfl⟩, ?_⟩
    rw [Int.toNat_natCast]
    exact c
  · rw [if_neg c, if_neg]
    intro z
    have z := (List.mem_filter.mp z).2
    rw [Int.toNat_natCast] at z
    exact c z
theorem spared_mem {cs ds : List Int} {r : Int × List Int} (h : r ∈ sparedF cs ds) : r.2 ∈ lotsPF (placesF cs) ∧ can (remF cs r.2) ds = true ∧ r.1 = -(r.2.length : Int) := by
  obtain ⟨lot, hl, e⟩ := List.mem_filterMap.mp h
  unfold rowOf at e
  by_cases c : can (remF cs lot) ds = true
  · rw [if_pos c] at e
    cases Option.some.inj e
    exact ⟨hl, c, rfl⟩
  · rw [if_neg c] at e
    cases e
theorem spared_other {cs cs' ds ds' : List Int} (h : cs.Perm cs') (g : ds.Perm ds') {r : Int × List Int} (hr : r ∈ sparedF cs ds) : ∃ r' ∈ sparedF cs' ds', r'.1 = r.1 := by
  obtain ⟨h1, h2, h3⟩ := spared_mem hr
  obtain ⟨R', hp, hR⟩ := List.exists_perm_sublist (rem_sub cs r.2) h
  obtain ⟨lot, hl, e⟩ := rem_is hR
  have c : can (remF cs' lot) ds' = true := by
    rw [e, ← h2]
    exact can_perm hp g.symm
  refine ⟨(-(lot.length : Int), lot), List.mem_filterMap.mpr ⟨lot, hl, if_pos c⟩, ?_⟩
  have l1 := rem_len h1
  have l2 := rem_len hl
  rw [e, hp.length_eq, ← h.length_eq] at l2
  rw [h3]
  show -(lot.length : Int) = _
  omega
/-- as many can be spared in other orders -/
theorem spared_perm {cs cs' ds ds' : List Int} (h : cs.Perm cs') (g : ds.Perm ds') {r r' : Int × List Int} (c : can cs ds = true) (hr : rowD r = best (sparedF cs ds)) (hr' : rowD r' = best (sparedF cs' ds')) : r.2.length = r'.2.length := by
  have c' : can cs' ds' = true := by
    rw [← can_perm h g]
    exact c
  obtain ⟨m1, b1⟩ := best_min (spared_can c) hr
  obtain ⟨m2, b2⟩ := best_min (spared_can c') hr'
  obtain ⟨q, hq, e⟩ := spared_other h g m1
  obtain ⟨q', hq', e'⟩ := spared_other h.symm g.symm m2
  have i1 := b2 q hq
  have i2 := b1 q' hq'
  have i3 := (spared_mem m1).2.2
  have i4 := (spared_mem m2).2.2
  omega
end LF
/-! ### la_judge: places, ticks, rows, among any data -/
namespace LF
open PySem PySem.Spec PyProof.Rows L2
noncomputable def cd (P : Prop) : Bool := @decide P (Classical.propDecidable P)
theorem cd_t {P : Prop} (h : P) : cd P = true := @decide_eq_true P (Classical.propDecidable P) h
theorem cd_f {P : Prop} (h : ¬P) : cd P = false := @decide_eq_false P (Classical.propDecidable P) h
theorem cd_of {P : Prop} (h : cd P = true) : P := @of_decide_eq_true P (Classical.propDecidable P) h
theorem cd_no {P : Prop} (h : cd P = false) : ¬P := @of_decide_eq_false P (Classical.propDecidable P) h
theorem cd_iff {P Q : Prop} (h : P ↔ Q) : cd P = cd Q := by rw [propext h]
theorem cd_and {P Q : Prop} (h : P) : cd (P ∧ Q) = cd Q := cd_iff ⟨fun z => z.2, fun z => ⟨h, z⟩⟩
theorem cd_b {P : Prop} {b : Bool} (h : b = true ↔ P) : b = cd P := by
  cases b with
  | true => exact (cd_t (h.mp rfl)).symm
  | false => exact (cd_f fun z => by cases h.mpr z).symm
def IsWithin (lo hi : Int) (d : PyData) : Prop := ∃ i, d = .int i ∧ lo ≤ i ∧ i ≤ hi
def Rise (l : List Int) : Prop := ∀ (i : Nat) (x y : Int), l[i]? = some x → l[i + 1]? = some y → x < y
/-- places of n candles -/
def Pl (n : Nat) (l : List Int) : Prop := (∀ i ∈ l, 0 ≤ i ∧ i ≤ (n : Int) - 1) ∧ Rise l
def IsPlaces (n : Nat) (d : PyData) : Prop := ∃ l, d = .tuple (di l) ∧ Pl n l
/-- lit and put out -/
structure TickOk (cs : List Int) (k : Int) (lit out : List Int) : Prop where
  pl : Pl cs.length lit
  po : Pl cs.length out
  wax : ∀ j : Nat, (j : Int) ∈ lit → cs[j]? ≠ some 0
  few : (out.length : Int) ≤ k
  sub : ∀ i ∈ out, i ∈ lit
abbrev tickD (t : List Int × List Int) : PyData := .tuple [.tuple (di t.1), .tuple (di t.2)]
def IsTick (cs : List Int) (k : Int) (d : PyData) : Prop := ∃ lit out, d = tickD (lit, out) ∧ TickOk cs k lit out
def RowOk : List Int → Bool → List Int → List (List Int × List Int) → Prop
  | _, _, _, [] => True
  | _, _, [], _ :: _ => False
  | cs, fl, d :: r, t :: ts => fl = true ∧ TickOk cs d t.1 t.2 ∧ RowOk (burntF cs t.1 t.2) (decide (t.2.length < t.1.length)) r ts
def IsRow (cs ds : List Int) (d : PyData) : Prop := ∃ ts, d = .list (ts.map tickD) ∧ RowOk cs true ds ts
theorem all_within {lo hi : Int} : ∀ {ds : List PyData}, (∀ d ∈ ds, IsWithin lo hi d) → ∃ l, ds = di l ∧ ∀ i ∈ l, lo ≤ i ∧ i ≤ hi
  | [], _ => ⟨[], rfl, fun i h => nomatch h⟩
  | d :: r, h => by
    obtain ⟨l, e, hl⟩ := all_within fun x hx => h x (List.mem_cons_of_mem _ hx)
    obtain ⟨i, rfl, h1, h2⟩ := h d List.mem_cons_self
    refine ⟨i :: l, by rw [e]; rfl, fun j hj => ?_⟩
    rcases List.mem_cons.mp hj with rfl | hj
    · exact ⟨h1, h2⟩
    · exact hl j hj
theorem dp_int {K : PySem.W.Frag} {H : Hp} {v : V} {i : Int} (h : Dp K H v (.int i)) : v = .int i := by
  cases h
  rfl
theorem dpall_ints {K : PySem.W.Frag} {H : Hp} : ∀ {vs : List V} {l : List Int}, DpAll K H vs (di l) → vs = vi l
  | [], [], _ => rfl
  | [], _ :: _, h => by cases h
  | _ :: _, [], h => by cases h
  | v :: vs, i :: l, h => by
    cases h with
    | cons h t =>
      rw [dp_int h, dpall_ints t]
      rfl
theorem dp_tup_get {K : PySem.W.Frag} {H : Hp} {v : V} {ds : List PyData} (h : Dp K H v (.tuple ds)) : ∃ p vs, v = .ref p ∧ SqT K H p vs ∧ DpAll K H vs ds := by
  cases h with
  | tup h a => exact ⟨_, _, rfl, h, a⟩
theorem dp_lst_get {K : PySem.W.Frag} {H : Hp} {v : V} {ds : List PyData} (h : Dp K H v (.list ds)) : ∃ p vs, v = .ref p ∧ SqL K H p vs ∧ DpAll K H vs ds := by
  cases h with
  | lst h a => exact ⟨_, _, rfl, h, a⟩
theorem dp_tints {K : PySem.W.Frag} {H : Hp} {v : V} {l : List Int} (h : Dp K H v (.tuple (di l))) : ∃ p, v = .ref p ∧ SqT K H p (vi l) := by
  obtain ⟨p, vs, e, hs, ha⟩ := dp_tup_get h
  rw [dpall_ints ha] at hs
  exact ⟨p, e, hs⟩
theorem dpall_get1 {K : PySem.W.Frag} {H : Hp} : ∀ {vs : List V} {ds : List PyData} {i : Nat} {v : V}, DpAll K H vs ds → vs[i]? = some v → ∃ d, ds[i]? = some d ∧ Dp K H v d
  | _, _, i, d, .nil, e => by simp at e
  | _, _, 0, d, .cons h _, e => by
    cases Option.some.inj e
    exact ⟨_, rfl, h⟩
  | _, _, i + 1, d, .cons _ t, e => dpall_get1 (i := i) t e
theorem dpall_app {K : PySem.W.Frag} {H : Hp} : ∀ {vs ws : List V} {ds es : List PyData}, DpAll K H vs ds → DpAll K H ws es → DpAll K H (vs ++ ws) (ds ++ es)
  | _, _, _, _, .nil, h => h
  | _, _, _, _, .cons h t, g => .cons h (dpall_app t g)
theorem is_tup {d : PyData} (h : dis "tuple" d = true) : ∃ ds, d = .tuple ds := by
  cases d with
  | tuple ds => exact ⟨ds, rfl⟩
  | _ => cases h
theorem is_lst {d : PyData} (h : dis "list" d = true) : ∃ ds, d = .list ds := by
  cases d with
  | list ds => exact ⟨ds, rfl⟩
  | _ => cases h
theorem is_int {d : PyData} (h1 : dis "int" d = true) (h2 : dis "bool" d = false) : ∃ i, d = .int i := by
  cases d with
  | int i => exact ⟨i, rfl⟩
  | bool _ => cases h2
  | _ => cases h1
theorem sat_map {α : Type} (p : α → Bool) (l : List α) : (l.map p).all id = true ↔ ∀ x ∈ l, p x = true := by
  rw [List.all_map, List.all_eq_true]
  exact Iff.rfl
/-- so many numbers, none beyond -/
def IsAre (least most top : Int) (d : PyData) : Prop := ∃ l : List Int, d = .tuple (di l) ∧ least ≤ l.length ∧ (l.length : Int) ≤ most ∧ ∀ i ∈ l, 0 ≤ i ∧ i ≤ top
theorem are_iff {least most top : Int} {ds : List PyData} (h1 : least ≤ ds.length) (h2 : (ds.length : Int) ≤ most) : IsAre least most top (.tuple ds) ↔ ∀ d ∈ ds, IsWithin 0 top d := by
  constructor
  · rintro ⟨l, e, _, _, h⟩ d hd
    have e := PyData.tuple.inj e
    rw [e] at hd
    obtain ⟨i, hi, rfl⟩ := List.mem_map.mp hd
    exact ⟨i, rfl, h i hi⟩
  · intro h
    obtain ⟨l, rfl, hl⟩ := all_within h
    rw [List.length_map] at h1 h2
    exact ⟨l, rfl, h1, h2, hl⟩
theorem are_len {least most top : Int} {ds : List PyData} (h : IsAre least most top (.tuple ds)) : least ≤ ds.length ∧ (ds.length : Int) ≤ most := by
  obtain ⟨l, e, h1, h2, _⟩ := h
  rw [PyData.tuple.inj e, List.length_map]
  exact ⟨h1, h2⟩
theorem are_all {least most top : Int} {ds : List PyData} (h1 : least ≤ ds.length) (h2 : (ds.length : Int) ≤ most) : (ds.map fun x => cd (IsWithin 0 top x)).all id = cd (IsAre least most top (.tuple ds)) :=
  cd_b (by rw [sat_map, are_iff h1 h2]; exact ⟨fun h x hx => cd_of (h x hx), fun h x hx => cd_t (h x hx)⟩)
end LF
/-! ### la_drawn: data that is drawn from the tape, whatever it be -/
namespace LF
open PySem PySem.Spec PyProof.Rows L2
/-- the heap without what is written yet -/
noncomputable def hid (B : Addr → Prop) (H : Hp) : Hp := fun a => @ite _ (B a) (Classical.propDecidable _) none (H a)
theorem hid_get {B : Addr → Prop} {H : Hp} {a : Addr} {u : HO} (h : H a = some u) (n : ¬B a) : hid B H a = some u := by
  unfold hid
  rw [if_neg n]
  exact h
theorem hid_of {B : Addr → Prop} {H : Hp} {a : Addr} {u : HO} (h : hid B H a = some u) : H a = some u ∧ ¬B a := by
  unfold hid at h
  by_cases c : B a
  · rw [if_pos c] at h
    cases h
  · rw [if_neg c] at h
    exact ⟨h, c⟩
theorem hid_same {B B' : Addr → Prop} {H H' : Hp} (h : ∀ a u, H a = some u → ¬B a → H' a = some u ∧ ¬B' a) : Same (hid B H) (hid B' H') := fun a u e => by
  obtain ⟨e1, n1⟩ := hid_of e
  obtain ⟨e2, n2⟩ := h a u e1 n1
  exact hid_get e2 n2
theorem hid_le {B : Addr → Prop} {H : Hp} : Same (hid B H) H := fun a u e => (hid_of e).1
theorem hid_smt {B : Addr → Prop} {H H' : Hp} {t : Addr} (s : Smt t H H') (b : B t) : Same (hid B H) (hid B H') := hid_same fun a u e n => ⟨s a u e fun z => n (z ▸ b), n⟩
theorem hid_s {B : Addr → Prop} {H H' : Hp} (s : Same H H') : Same (hid B H) (hid B H') := hid_same fun a u e n => ⟨s a u e, n⟩
def addB (B : Addr → Prop) (r : Addr) : Addr → Prop := fun a => B a ∨ a = r
theorem hid_add {B : Addr → Prop} {H H' : Hp} {t r : Addr} (s : Smt t H H') (b : B t) (n : H r = none) : Same (hid B H) (hid (addB B r) H') := hid_same fun a u e na => ⟨s a u e fun z => na (z ▸ b), fun z => by
  rcases z with z | z
  · exact na z
  · rw [z, n] at e
    cases e⟩
theorem hid_drop {B : Addr → Prop} {H : Hp} {r : Addr} : Same (hid (addB B r) H) (hid B H) := hid_same fun a u e n => ⟨e, fun z => n (.inl z)⟩
theorem hid_mut {B : Addr → Prop} {H : Hp} {r : Addr} {o : HO} (b : B r) : Same (hid B H) (hid B (upd H r o)) := hid_same fun a u e n => ⟨by have c : a ≠ r := (fun z => by subst z; exact n b); rw [upd_ne c]; exact e, n⟩
/-- what is hidden stands -/
def Bk (B : Addr → Prop) (H : Hp) : Prop := ∀ a, B a → ∃ u, H a = some u
theorem Bk.fresh {B : Addr → Prop} {H : Hp} {p : Addr} (h : Bk B H) (n : H p = none) : ¬B p := fun b => by
  obtain ⟨u, e⟩ := h p b
  rw [n] at e
  cases e
theorem Bk.same {B : Addr → Prop} {H H' : Hp} (h : Bk B H) (s : Same H H') : Bk B H' := fun a b => by
  obtain ⟨u, e⟩ := h a b
  exact ⟨u, s a u e⟩
theorem Bk.smt {B : Addr → Prop} {H H' : Hp} {t l : Addr} (h : Bk B H) (s : Smt t H H') (hT : TapeAt H' t l) : Bk B H' := fun a b => by
  obtain ⟨u, e⟩ := h a b
  by_cases c : a = t
  · subst c
    obtain ⟨xs, e⟩ := hT.ex
    exact ⟨_, e⟩
  · exact ⟨u, s a u e c⟩
theorem Bk.upd {B : Addr → Prop} {H : Hp} {r : Addr} {o : HO} (h : Bk B H) : Bk B (upd H r o) := fun a b => by
  by_cases c : a = r
  · subst c
    exact ⟨o, upd_same⟩
  · rw [upd_ne c]
    exact h a b
theorem Bk.add {B : Addr → Prop} {H : Hp} {r : Addr} {o : HO} (h : Bk B H) (e : H r = some o) : Bk (addB B r) H := fun a b => by
  rcases b with b | b
  · exact h a b
  · rw [b]
    exact ⟨o, e⟩
/-- data less than n deep, none longer than m -/
def Fz (m : Nat) : Nat → PyData → Prop
  | 0, _ => False
  | n + 1, .list ds => ds.length ≤ m ∧ ∀ d ∈ ds, Fz m n d
  | n + 1, .tuple ds => ds.length ≤ m ∧ ∀ d ∈ ds, Fz m n d
  | _ + 1, .dict _ => False
  | _ + 1, .str x => x.length ≤ m
  | _ + 1, _ => True
theorem Fz.mono {m m' : Nat} (hm : m ≤ m') : ∀ {n n' : Nat} {d : PyData}, n ≤ n' → Fz m n d → Fz m' n' d
  | 0, _, _, _, h => h.elim
  | n + 1, 0, _, hn, _ => absurd hn (by omega)
  | n + 1, n' + 1, .list ds, hn, h => ⟨Nat.le_trans h.1 hm, fun d hd => Fz.mono hm (by omega) (h.2 d hd)⟩
  | n + 1, n' + 1, .tuple ds, hn, h => ⟨Nat.le_trans h.1 hm, fun d hd => Fz.mono hm (by omega) (h.2 d hd)⟩
  | n + 1, n' + 1, .dict _, hn, h => h.elim
  | n + 1, n' + 1, .str _, hn, h => Nat.le_trans h hm
  | n + 1, n' + 1, .none, hn, h => True.intro
  | n + 1, n' + 1, .bool _, hn, h => True.intro
  | n + 1, n' + 1, .int _, hn, h => True.intro
theorem Fz.fit {m : Nat} (hm : m ≤ 1000) : ∀ {n : Nat} {d : PyData}, Fz m n d → Fit n d
  | 0, _, h => h.elim
  | n + 1, .list ds, h => ⟨Nat.le_trans h.1 hm, fun d hd => Fz.fit hm (h.2 d hd)⟩
  | n + 1, .tuple ds, h => ⟨Nat.le_trans h.1 hm, fun d hd => Fz.fit hm (h.2 d hd)⟩
  | n + 1, .dict _, h => h.elim
  | n + 1, .str _, h => True.intro
  | n + 1, .none, h => True.intro
  | n + 1, .bool _, h => True.intro
  | n + 1, .int _, h => True.intro
theorem fz_ints {m n : Nat} {l : List Int} (h : l.length ≤ m) : Fz m (n + 2) (.tuple (di l)) := ⟨by rw [List.length_map]; exact h, fun d hd => by
  obtain ⟨i, _, rfl⟩ := List.mem_map.mp hd
  exact True.intro⟩
theorem fz_lints {m n : Nat} {l : List Int} (h : l.length ≤ m) : Fz m (n + 2) (.list (di l)) := ⟨by rw [List.length_map]; exact h, fun d hd => by
  obtain ⟨i, _, rfl⟩ := List.mem_map.mp hd
  exact True.intro⟩
theorem dpall_set {K : PySem.W.Frag} {H : Hp} {v : V} {d : PyData} (hv : Dp K H v d) : ∀ {vs : List V} {ds : List PyData} (i : Nat), DpAll K H vs ds → DpAll K H (vs.set i v) (ds.set i d)
  | _, _, _, .nil => .nil
  | _, _, 0, .cons _ t => .cons hv t
  | _, _, i + 1, .cons h t => .cons h (dpall_set hv i t)
theorem dpall_take {K : PySem.W.Frag} {H : Hp} : ∀ {vs : List V} {ds : List PyData} (i : Nat), DpAll K H vs ds → DpAll K H (vs.take i) (ds.take i)
  | _, _, 0, _ => .nil
  | _, _, _ + 1, .nil => .nil
  | _, _, i + 1, .cons h t => .cons h (dpall_take i t)
theorem dpall_drop {K : PySem.W.Frag} {H : Hp} : ∀ {vs : List V} {ds : List PyData} (i : Nat), DpAll K H vs ds → DpAll K H (vs.drop i) (ds.drop i)
  | _, _, 0, h => h
  | _, _, _ + 1, .nil => .nil
  | _, _, i + 1, .cons _ t => dpall_drop i t
theorem dpall_erase {K : PySem.W.Frag} {H : Hp} : ∀ {vs : List V} {ds : List PyData} (i : Nat), DpAll K H vs ds → DpAll K H (vs.eraseIdx i) (ds.eraseIdx i)
  | _, _, _, .nil => .nil
  | _, _, 0, .cons _ t => t
  | _, _, i + 1, .cons h t => .cons h (dpall_erase i t)
theorem dpall_rev {K : PySem.W.Frag} {H : Hp} : ∀ {vs : List V} {ds : List PyData}, DpAll K H vs ds → DpAll K H vs.reverse ds.reverse
  | _, _, .nil => .nil
  | _, _, .cons h t => by
    rw [List.reverse_cons, List.reverse_cons]
    exact dpall_app (dpall_rev t) (.cons h .nil)
section
variable {X : Cx}
theorem lenA (K : PySem.W.Frag) (h : X.K = K := by rfl) : CallR X (.builtin "len") (fun xs H Q => ∃ x n, xs = [x] ∧ LenV K x H n ∧ Q (.int n) H) := by subst h; exact call_len
end
theorem str_len (x : Str) : x.length = x.cps.toList.length := (Array.length_toList).symm
theorem slice_to_len (x : Str) {i : Int} (h : 0 ≤ i) : (Txt.slice x none (some i)).length ≤ x.length := by
  have e : x = SX.S x.cps.toList := by
    cases x
    rfl
  rw [e, SX.slice_to h, SX.S_len, SX.S_len, List.length_take]
  exact Nat.min_le_right _ _
theorem slice_from_len (x : Str) {i : Int} (h : 0 ≤ i) : (Txt.slice x (some i) none).length ≤ x.length := by
  have e : x = SX.S x.cps.toList := by
    cases x
    rfl
  rw [e, SX.slice_from h, SX.S_len, SX.S_len, List.length_drop]
  exact Nat.sub_le _ _
theorem str_app_len (x y : Str) : (x ++ y).length = x.length + y.length := by
  show (x.cps ++ y.cps).size = _
  rw [Array.size_append]
  rfl
theorem at_in {xs : List V} {i : Int} (h0 : 0 ≤ i) (h1 : i < xs.length) : ∃ v, atI xs i = some v ∧ v ∈ xs := by
  obtain ⟨k, rfl⟩ := Int.eq_ofNat_of_zero_le h0
  have hk : k < xs.length := by omega
  exact ⟨xs[k], atI_nat (List.getElem?_eq_getElem hk), List.getElem_mem hk⟩
theorem fz_pair {m n : Nat} (h : 2 ≤ m) (a b : Int) : Fz m (n + 2) (.tuple [.int a, .int b]) := ⟨h, fun d hd => by
  rcases List.mem_cons.mp hd with rfl | hd
  · exact True.intro
  · rcases List.mem_cons.mp hd with rfl | hd
    · exact True.intro
    · cases hd⟩
theorem slice_both (x : Str) {i : Int} (h : 0 ≤ i) : (Txt.slice x none (some i)).length + (Txt.slice x (some i) none).length = x.length := by
  have e : x = SX.S x.cps.toList := by
    cases x
    rfl
  rw [e, SX.slice_to h, SX.slice_from h, SX.S_len, SX.S_len, SX.S_len, List.length_take, List.length_drop]
  omega
def seqD (tp : Bool) (ds : List PyData) : PyData := if tp = true then .tuple ds else .list ds
theorem seq_get {K : PySem.W.Frag} {H : Hp} {v : V} {d : PyData} (h : Dp K H v d) (hs : isSeq d = true) : ∃ (tp : Bool) (p : Addr) (xs : List V) (ds : List PyData), v = .ref p ∧ SqB K tp H p xs ∧ DpAll K H xs ds ∧ d = seqD tp ds := by
  cases h with
  | lst h a => exact ⟨false, _, _, _, rfl, h, a, rfl⟩
  | tup h a => exact ⟨true, _, _, _, rfl, h, a, rfl⟩
  | _ => cases hs
theorem seqD_dis (tp : Bool) (ds : List PyData) : dis "tuple" (seqD tp ds) = tp := by
  cases tp <;> rfl
theorem seqD_fz {m n : Nat} {tp : Bool} {ds : List PyData} : Fz m (n + 1) (seqD tp ds) ↔ ds.length ≤ m ∧ ∀ d ∈ ds, Fz m n d := by
  cases tp <;> exact Iff.rfl
theorem seqD_dp {K : PySem.W.Frag} {H : Hp} {p : Addr} {xs : List V} {ds : List PyData} {tp : Bool} (h : SqB K tp H p xs) (a : DpAll K H xs ds) : Dp K H (.ref p) (seqD tp ds) := by
  cases tp with
  | false => exact .lst h a
  | true => exact .tup h a
theorem lenV_b {K : PySem.W.Frag} {H : Hp} {p : Addr} {xs : List V} {tp : Bool} (h : SqB K tp H p xs) : LenV K (.ref p) H xs.length := by
  cases tp with
  | false => exact .inl ⟨xs, h, rfl⟩
  | true => exact .inr ⟨xs, h, rfl⟩
theorem kit_names_str (d : PyData) {K : PySem.W.Frag} : PySem.W.kitOne K (.type (dty d)) (.type "str") = some (dis "str" d) := kit_d d (by simp)
theorem is_str {d : PyData} (h : dis "str" d = true) : ∃ x, d = .str x := by
  cases d with
  | str x => exact ⟨x, rfl⟩
  | _ => cases h
theorem dp_str {K : PySem.W.Frag} {H : Hp} {v : V} {x : Str} (h : Dp K H v (.str x)) : v = .str x := by
  cases h
  rfl
theorem not_seq_of {d : PyData} (h : dis "tuple" d = true) : isSeq d = true := by
  obtain ⟨ds, rfl⟩ := is_tup h
  rfl
theorem ix_nat {n j : Nat} (hj : j < n) : ixN n (j : Int) = some j := by
  unfold ixN
  rw [if_pos (by omega), if_pos (by omega)]
  rfl
theorem tup_ne {H : Hp} {t l a : Addr} {xs : List V} (hT : TapeAt H t l) (h : H a = some (.tup xs)) : ¬ a = t := fun z => by
  obtain ⟨ys, e⟩ := hT.ex
  rw [z, e] at h
  cases h
theorem bk_t {H : Hp} {t l : Addr} (hT : TapeAt H t l) : Bk (fun a => a = t) H := fun a b => by
  obtain ⟨ys, e⟩ := hT.ex
  exact ⟨_, b ▸ e⟩
/-- data that stand apart from the tape -/
def Apart (K : PySem.W.Frag) (t : Addr) (H : Hp) (v : V) : Prop := ∃ e, Dp K (hid (fun a => a = t) H) v e ∧ Fz 27 8 e
theorem Apart.same {K : PySem.W.Frag} {t : Addr} {H H' : Hp} {v : V} (s : Same H H') (h : Apart K t H v) : Apart K t H' v := by
  obtain ⟨e, h, f⟩ := h
  exact ⟨e, h.same (hid_s s), f⟩
theorem apart_all {K : PySem.W.Frag} {t : Addr} {H : Hp} : ∀ {vs : List V}, (∀ v ∈ vs, Apart K t H v) → ∃ es, DpAll K (hid (fun a => a = t) H) vs es ∧ ∀ e ∈ es, Fz 27 8 e
  | [], _ => ⟨[], .nil, fun e h => nomatch h⟩
  | v :: r, h => by
    obtain ⟨e, h1, f1⟩ := h v List.mem_cons_self
    obtain ⟨es, h2, f2⟩ := apart_all fun x hx => h x (List.mem_cons_of_mem _ hx)
    refine ⟨e :: es, .cons h1 h2, fun x hx => ?_⟩
    rcases List.mem_cons.mp hx with rfl | hx
    · exact f1
    · exact f2 x hx
theorem apart_tup {K : PySem.W.Frag} {H : Hp} {t l a : Addr} {ns : List Int} (hT : TapeAt H t l) (h : H a = some (.tup (vi ns))) (hl : ns.length ≤ 27) : Apart K t H (.ref a) := ⟨.tuple (di ns), dp_tup (SqT.of (hid_get h (tup_ne hT h))), fz_ints hl⟩
theorem apart_lst {K : PySem.W.Frag} {H : Hp} {t a : Addr} {ns : List Int} (n : a ≠ t) (h : H a = some (.lst (vi ns))) (hl : ns.length ≤ 27) : Apart K t H (.ref a) := ⟨.list (di ns), dp_list (SqL.of (hid_get h n)), fz_lints hl⟩
theorem apart_one {K : PySem.W.Frag} {H : Hp} {t l a : Addr} {v : V} {d : PyData} (hT : TapeAt H t l) (h : H a = some (.tup [v])) (hv : Dp K (hid (fun a => a = t) H) v d) (hf : Fz 27 7 d) : Apart K t H (.ref a) := ⟨.tuple [d], .tup (SqT.of (hid_get h (tup_ne hT h))) (.cons hv .nil), ⟨by show 1 ≤ 27; decide, fun x hx => by
  rw [List.mem_singleton.mp hx]
  exact hf⟩⟩
theorem mem_app_all {α : Type} {P : α → Prop} {a b : List α} (h : ∀ x ∈ a, P x) (g : ∀ x ∈ b, P x) : ∀ x ∈ a ++ b, P x := fun x hx => by
  rcases List.mem_append.mp hx with hx | hx
  · exact h x hx
  · exact g x hx
/-- one thing more in a list o, on the way the tape t is read -/
theorem grow_keep {H H' : Hp} {t o : Addr} {u : HO} (s : Smt t H H') {a : Addr} {x : HO} (h : H a = some x) (ht : a ≠ t) (ho : a ≠ o) : (upd H' o u) a = some x := by
  rw [upd_ne ho]
  exact s _ _ h ht
theorem lst_ne {H : Hp} {o a : Addr} {xs ys : List V} (hO : H o = some (.lst ys)) (h : H a = some (.tup xs)) : a ≠ o := fun z => by
  rw [z, hO] at h
  cases h
theorem grow_data {K : PySem.W.Frag} {H H' : Hp} {t o : Addr} {ws : List V} {es : List PyData} {w : V} {e : PyData} (s : Smt t H H') (he : DpAll K (hid (addB (fun a => a = t) o) H) ws es) (hf : ∀ e ∈ es, Fz 27 8 e) (hw : Dp K (hid (addB (fun a => a = t) o) H') w e) (hwf : Fz 27 8 e) :
    DpAll K (hid (addB (fun a => a = t) o) (upd H' o (.lst (ws ++ [w])))) (ws ++ [w]) (es ++ [e]) ∧ (∀ x ∈ es ++ [e], Fz 27 8 x) := by
  have hm : Same (hid (addB (fun a => a = t) o) H') (hid (addB (fun a => a = t) o) (upd H' o (.lst (ws ++ [w])))) := hid_mut (.inr rfl)
  exact ⟨dpall_app (DpAll.same ((hid_smt s (.inl rfl)).trans hm) he) (.cons (hw.same hm) .nil), all_snoc hf hwf⟩
end LF
/-! ### la_kw: calls by names alone -/
namespace LF
open PySem PySem.Spec PyProof.Rows L2
def tCallK0 (m : Nat) (sp : Sp) (gV : List V → List V → List V) (E : XK) (tk : TA) : TE := fun σ H Q => tk σ H fun zs H2 => zs.length = m ∧ sp (gV [] zs) H2 Q E
section
variable {X : Cx} {CX : CXT} {k : Nat} {f : Addr} {fd : FuncData} {ps ks : List Str} {sp : Sp} {E : XK} {x : Str} {p pos : Pos} {kws : List Keyword} {tk : TA} {g : List Value → List Value → List Value} {gV : List V → List V → List V}
theorem pe_callK0 (F : FnOk X.prog X.w X.K X.mg X.base CX k f fd ps sp) (hr : Room k X.A) (hg : Gl X x) (hm : X.mg x = some (.ref f)) (hk : PySem.W.keepIn X.K (.ref f) = true) (hb : KBn X.K fd ps 0 ks g gV) (hx : Passes CX X E)
    (hkw : PK X kws tk) (hall : (backToKw pos (keywordEach kws X.env)).all (·.1.isSome) = true := by rfl) (hks : (backToKw pos (keywordEach kws X.env)).filterMap (·.1) = ks := by rfl)
    (hdb : (x == ("__debug__" : Str)) = false := by decide) (hpl : ((backTo pos (starEach [] X.env)).any (·.1) || (backToKw pos (keywordEach kws X.env)).any (·.1.isNone)) = false := by rfl) :
    PE X (.Call (.Name x p) [] kws pos) (tCallK0 ks.length sp gV E tk) := by
  refine ⟨fun pins s σ H Q I h => ?_⟩
  refine wpAny_Call_Name_kw (ld_glob I hg hm ?_ hdb)
  refine PySem.W.callWith_KW0 (h₀ := X.base) I.ok.mod.kin hk hall (thn (hkw.run pos pins s σ H _ I h) fun ws s2 ⟨zs, H2, I2, rz, l2, q2⟩ => ⟨I2.kIn, ?_⟩) hpl
  rw [hks]
  exact run_fnN F hr hb hx I2 .nil rz rfl l2 q2
end
section
variable {K : PySem.W.Frag} {x qual : Str} {st : Stmt} {f : Addr} {fd : FuncData} {ps ks : List Str}
/-- the names in the parameters' order -/
theorem kb_same (F : Fun K x qual st f fd) (h : ∀ (kV doc pm : Value) (an : Option Addr) (cdv ct : Value) (us ws : List Value), us.length = 0 → ws.length = ks.length → bindArgs (PySem.W.fnOf x qual (defArgs st) (defBody st) (defScope st) .none kV doc pm an cdv ct) ⟨us, ks.zip ws⟩ = pure (ps.zip ws)) : KBn K fd ps 0 ks (fun _ ws => ws) (fun _ zs => zs) := by
  obtain ⟨oc, od, kV, doc, pm, an, cdv, ct, osl, rfl, lk, hcd⟩ := F.ex
  exact ⟨fun s us ws _ l1 l2 => .of_eq (h kV doc pm an cdv ct us ws l1 l2), fun _ r => r⟩
theorem vals_rev : ∀ {vs : List V} {us : List Value}, Vals vs us → Vals vs.reverse us.reverse := fun h => by
  induction h with
  | nil => exact .nil
  | cons r t ih =>
    rw [List.reverse_cons, List.reverse_cons]
    exact paired_app ih (.cons r .nil)
/-- the last first -/
theorem kb_rev (F : Fun K x qual st f fd) (h : ∀ (kV doc pm : Value) (an : Option Addr) (cdv ct : Value) (us ws : List Value), us.length = 0 → ws.length = ks.length → bindArgs (PySem.W.fnOf x qual (defArgs st) (defBody st) (defScope st) .none kV doc pm an cdv ct) ⟨us, ks.zip ws⟩ = pure (ps.zip ws.reverse)) : KBn K fd ps 0 ks (fun _ ws => ws.reverse) (fun _ zs => zs.reverse) := by
  obtain ⟨oc, od, kV, doc, pm, an, cdv, ct, osl, rfl, lk, hcd⟩ := F.ex
  exact ⟨fun s us ws _ l1 l2 => .of_eq (h kV doc pm an cdv ct us ws l1 l2), fun _ r => vals_rev r⟩
end
end LF
/-! ### la_case: written cases, by a sorting that can be gone through -/
namespace LF
open PySem PySem.Spec PyProof.Rows L2
def insI (x : Int) : List Int → List Int
  | [] => [x]
  | y :: r => if x ≤ y then x :: y :: r else y :: insI x r
def srtI : List Int → List Int
  | [] => []
  | x :: r => insI x (srtI r)
theorem insI_perm (x : Int) : ∀ l, (insI x l).Perm (x :: l)
  | [] => List.Perm.refl _
  | y :: r => by
    unfold insI
    by_cases h : x ≤ y
    · rw [if_pos h]
    · rw [if_neg h]
      exact ((insI_perm x r).cons y).trans (List.Perm.swap x y r)
theorem insI_up (x : Int) : ∀ l : List Int, l.Pairwise (· ≤ ·) → (insI x l).Pairwise (· ≤ ·)
  | [], _ => List.pairwise_singleton _ _
  | y :: r, h => by
    unfold insI
    obtain ⟨h1, h2⟩ := List.pairwise_cons.mp h
    by_cases c : x ≤ y
    · rw [if_pos c]
      refine List.pairwise_cons.mpr ⟨fun z hz => ?_, h⟩
      rcases List.mem_cons.mp hz with rfl | hz
      · exact c
      · exact Int.le_trans c (h1 z hz)
    · rw [if_neg c]
      refine List.pairwise_cons.mpr ⟨fun z hz => ?_, insI_up x r h2⟩
      rcases List.mem_cons.mp ((insI_perm x r).mem_iff.mp hz) with rfl | hz
      · omega
      · exact h1 z hz
theorem srtI_perm : ∀ l, (srtI l).Perm l
  | [] => List.Perm.refl _
  | x :: r => (insI_perm x (srtI r)).trans ((srtI_perm r).cons x)
theorem srtI_up : ∀ l, (srtI l).Pairwise (· ≤ ·)
  | [] => .nil
  | x :: r => insI_up x _ (srtI_up r)
theorem srt_I (l : List Int) : srt l = srtI l := (srt_is (srtI_perm l) (srtI_up l)).symm
def insP (x : Int × Int) : List (Int × Int) → List (Int × Int)
  | [] => [x]
  | y :: r => if leP x y = true then x :: y :: r else y :: insP x r
def srtPI : List (Int × Int) → List (Int × Int)
  | [] => []
  | x :: r => insP x (srtPI r)
theorem insP_perm (x : Int × Int) : ∀ l, (insP x l).Perm (x :: l)
  | [] => List.Perm.refl _
  | y :: r => by
    unfold insP
    by_cases h : leP x y = true
    · rw [if_pos h]
    · rw [if_neg h]
      exact ((insP_perm x r).cons y).trans (List.Perm.swap x y r)
theorem leP_or (x y : Int × Int) (h : ¬ leP x y = true) : leP y x = true := by
  rw [leP_iff] at *
  omega
theorem leP_tr {x y z : Int × Int} (h1 : leP x y = true) (h2 : leP y z = true) : leP x z = true := by
  rw [leP_iff] at *
  omega
theorem insP_up (x : Int × Int) : ∀ l : List (Int × Int), l.Pairwise (fun p q => leP p q = true) → (insP x l).Pairwise (fun p q => leP p q = true)
  | [], _ => List.pairwise_singleton _ _
  | y :: r, h => by
    unfold insP
    obtain ⟨h1, h2⟩ := List.pairwise_cons.mp h
    by_cases c : leP x y = true
    · rw [if_pos c]
      refine List.pairwise_cons.mpr ⟨fun z hz => ?_, h⟩
      rcases List.mem_cons.mp hz with rfl | hz
      · exact c
      · exact leP_tr c (h1 z hz)
    · rw [if_neg c]
      refine List.pairwise_cons.mpr ⟨fun z hz => ?_, insP_up x r h2⟩
      rcases List.mem_cons.mp ((insP_perm x r).mem_iff.mp hz) with rfl | hz
      · exact leP_or _ _ c
      · exact h1 z hz
theorem srtPI_perm : ∀ l, (srtPI l).Perm l
  | [] => List.Perm.refl _
  | x :: r => (insP_perm x (srtPI r)).trans ((srtPI_perm r).cons x)
theorem srtPI_up : ∀ l, (srtPI l).Pairwise (fun p q => leP p q = true)
  | [] => .nil
  | x :: r => insP_up x _ (srtPI_up r)
theorem srtP_I (l : List (Int × Int)) : srtP l = srtPI l := (srtP_is (srtPI_perm l) (srtPI_up l)).symm
def wntI (ds : List Int) (k : Nat) : Int := (((srtI ds).drop (ds.length - k)).map fun d => d + 1).sum
theorem wnt_I (ds : List Int) (k : Nat) : wnt ds k = wntI ds k := by
  unfold wnt wntI
  rw [srt_I]
def sprI (cs ds : List Int) : List Int := (List.range ds.length).map fun (i : Nat) => cnt cs ((i : Int) + 1) - wntI ds (i + 1)
theorem spr_I (cs ds : List Int) : spr cs ds = sprI cs ds := by
  unfold spr sprI
  exact congrArg (fun f => (List.range ds.length).map f) (funext fun i => by rw [wnt_I])
def canI (cs ds : List Int) : Bool := (sprI cs ds).all fun s => decide (0 ≤ s)
theorem can_I (cs ds : List Int) : can cs ds = canI cs ds := by
  unfold can canI
  rw [spr_I]
def failsI (cs ds : List Int) : List Int := (List.range (sprI cs ds).length).filterMap fun (i : Nat) => (sprI cs ds)[i]?.bind fun s => if s < 0 then some ((i : Int) + 1) else none
theorem fails_I (cs ds : List Int) : fails cs ds = failsI cs ds := by
  unfold fails failsI
  rw [spr_I]
def lightsI (cs : List Int) (d : Int) : Option (List Int) := if ((rowsOf cs).length : Int) ≤ d then none else some (srtI (((srtPI (rowsOf cs)).take (d + 1).toNat).map Prod.snd))
theorem lights_I (cs : List Int) (d : Int) : lightsF cs d = lightsI cs d := by
  unfold lightsF lightsI
  rw [srt_I, srtP_I]
def lotsI (cs : List Int) : List Int → Option (List (List Int × List Int))
  | [] => some []
  | d :: r => match lightsI cs d with
    | none => none
    | some lit => (lotsI (burntF cs lit []) r).map fun l => (lit, burntF cs lit []) :: l
theorem lots_I : ∀ (ds cs : List Int), lotsF cs ds = lotsI cs ds
  | [], _ => rfl
  | d :: r, cs => by
    rw [lotsF_cons]
    unfold lotsI
    rw [lights_I]
    cases lightsI cs d with
    | none => rfl
    | some lit =>
      show Option.map _ (lotsF _ r) = Option.map _ (lotsI _ r)
      rw [lots_I r]
end LF
namespace LF
open PySem PySem.Spec PyProof.Rows L2
def rowOfI (cs ds lot : List Int) : Option (Int × List Int) := if canI (remF cs lot) ds = true then some (-(lot.length : Int), lot) else none
theorem rowOf_I (cs ds lot : List Int) : rowOf cs ds lot = rowOfI cs ds lot := by
  unfold rowOf rowOfI
  rw [can_I]
def sparedI (cs ds : List Int) : List (Int × List Int) := (lotsPF (placesF cs)).filterMap (rowOfI cs ds)
theorem spared_I (cs ds : List Int) : sparedF cs ds = sparedI cs ds := by
  unfold sparedF sparedI rowsP
  exact fm_congr _ fun lot _ => rowOf_I cs ds lot
end LF
/-! ### la_revt: t[::-1] of a tuple -/
namespace HT
open PySem PySem.Spec PyProof.Rows
section
variable {prog : Program} {w : World} {A : Around} {E : Value → Shared → Prop} {s : Shared}
theorem bounds_back (n : Nat) : Builtin.Slice.sliceAdjust none none (-1) (n : Int) = ((n : Int) - 1, -1) := rfl
theorem places_back (n : Nat) : Builtin.Slice.slicePlaces ((n : Int) - 1) (-1) (-1) = n := by
  unfold Builtin.Slice.slicePlaces
  rw [if_neg (show ¬ (-1 : Int) > 0 by decide)]
  by_cases c : (n : Int) - 1 > -1
  · rw [if_pos c, show (- -1 : Int) = 1 by decide, Int.ediv_one]
    omega
  · rw [if_neg c]
    omega
theorem back_list (items : Array Value) : (List.range items.size).filterMap (fun (k : Nat) => items[((items.size : Int) - 1 + (k : Int) * -1).toNat]?) = items.toList.reverse := by
  have e : items.toList.reverse = (List.range items.size).filterMap (fun (k : Nat) => items.toList.reverse[k]?) := by
    have q := LF.fm_get (fun x : Value => some x) items.toList.reverse
    rw [List.filterMap_some, List.length_reverse, Array.length_toList] at q
    refine q.symm.trans ?_
    exact LF.fm_congr _ fun k _ => by cases items.toList.reverse[k]? <;> rfl
  rw [e]
  refine LF.fm_congr _ fun k hk => ?_
  have hk := List.mem_range.mp hk
  have ek : ((items.size : Int) - 1 + (k : Int) * -1).toNat = items.size - 1 - k := by omega
  rw [ek, List.getElem?_reverse (by rw [Array.length_toList]; exact hk), Array.length_toList, Array.getElem?_toList]
theorem applied_back {sl : Addr} {v1 v2 v3 : Value} {n : Nat} {Q : Int × Int × Nat → Shared → Prop} (hsl : s.heap.IsSliceOf sl v1 v2 v3) (p1 : IsPart v1 none) (p2 : IsPart v2 none) (p3 : IsPart v3 (some (-1)))
    (h : Q ((n : Int) - 1, -1, n) s) : wpAny (model prog w) A (Builtin.Slice.sliceApplied (.ref sl) (pure (n : Int))) Q E s := by
  obtain ⟨ob, hob, hcl, hdat⟩ := id hsl
  unfold Builtin.Slice.sliceApplied Builtin.Slice.sliceFields
  refine wpAny_bind (wpAny_bind (wpAny_field hob hdat (x := v1) rfl (wpAny_bind (wpAny_field hob hdat (x := v2) rfl (wpAny_bind (wpAny_field hob hdat (x := v3) rfl (wpAny_pure ?_)))))))
  refine wpAny_bind (slicePart_ p3 ?_)
  show wpAny _ _ (if ((-1 : Int) == 0) = true then _ else _) _ _ s
  rw [if_neg (show ¬ ((-1 : Int) == 0) = true by decide)]
  refine wpAny_bind (slicePart_ p1 (wpAny_bind (slicePart_ p2 (wpAny_bind (wpAny_pure ?_)))))
  show wpAny _ _ (match Builtin.Slice.sliceAdjust none none (-1) (n : Int) with | (lo, hi) => pure (lo, (-1 : Int), Builtin.Slice.slicePlaces lo hi (-1))) _ _ s
  rw [bounds_back n]
  show wpAny _ _ (pure ((n : Int) - 1, (-1 : Int), Builtin.Slice.slicePlaces ((n : Int) - 1) (-1) (-1))) _ _ s
  rw [places_back]
  exact wpAny_pure h
theorem tuple_back {t sl : Addr} {items : Array Value} {v1 v2 v3 : Value} {Q : Value → Shared → Prop} (ht : IsTup s.heap t items) (hsl : s.heap.IsSliceOf sl v1 v2 v3) (p1 : IsPart v1 none) (p2 : IsPart v2 none) (p3 : IsPart v3 (some (-1)))
    (h : Q (.ref s.heap.objs.size) { s with heap := s.heap.push { cls := .type "tuple", data := .seq items.toList.reverse.toArray } }) (hsz : items.size ≤ sizeLine) : wpAny (model prog w) A (getItem (.ref t) (.ref sl)) Q E s := by
  have hok : sizeOk (.seq items.toList.reverse.toArray) := by
    show items.toList.reverse.toArray.size ≤ sizeLine
    rw [List.size_toArray, List.length_reverse, Array.length_toList]
    exact hsz
  obtain ⟨ob, hob, hcl, hdat⟩ := id hsl
  have hty : s.TypeIs (.ref sl) "slice" := ⟨ob, hob, hcl⟩
  unfold getItem
  try with_reducible refine wpAny_holding ?_
  first | refine wpAny_bind (wpAny_pure ?_) | skip
  refine wpAny_bind (wpAny_sequenceKey ht.typeIs (by decide) ?_)
  refine wpAny_bind (wpAny_callSpecial?_slot (name := Str.ofString "__getitem__") ht.typeIs PyProof.Rows.slot_tuple_getitem (wpAny_call_entry PyProof.Rows.slot_tuple_getitem ht.typeIs entry_tuple_getitem ?_ (args_tuple_getitem _ _)))
  show wpAny _ _ (Builtin.Tuple.tupleItemsOf (.ref t) >>= _) _ _ s
  refine wpAny_bind (tupleItemsOf_ ht (wpAny_bind (wpAny_typeOf hty ?_)))
  rw [if_pos (by decide)]
  refine wpAny_bind (applied_back hsl p1 p2 p3 ?_)
  have hno : ¬ ((((items.size : Int) - 1) == 0 && (-1 : Int) == 1 && items.size == items.size) = true) := by
    rw [show ((-1 : Int) == 1) = false by decide, Bool.and_false, Bool.false_and]
    exact Bool.false_ne_true
  show wpAny _ _ (if ((((items.size : Int) - 1) == 0 && (-1 : Int) == 1 && items.size == items.size) = true) then _ else _) _ _ s
  rw [if_neg hno, back_list]
  first
    | exact wpAny_bind (m := Builtin.Tuple.tupleExact _) (wpAny_newObj_type (wpAny_pure ⟨_, rfl, wpAny_pure h⟩) hok)
    | exact wpAny_bind (m := Builtin.Tuple.tupleExact _) (wpAny_newObj_type (wpAny_bind (wpAny_pure (wpAny_pure ⟨_, rfl, wpAny_pure h⟩))) hok)
    | exact wpAny_bind (wpAny_bind (m := Builtin.Tuple.tupleExact _) (wpAny_newObj_type (wpAny_pure (wpAny_pure ⟨_, rfl, wpAny_pure h⟩)) hok))
    | exact wpAny_bind (wpAny_bind (m := Builtin.Tuple.tupleExact _) (wpAny_newObj_type (wpAny_pure ⟨_, rfl, wpAny_pure h⟩) hok))
end
end HT
namespace LF
open PySem PySem.Spec PyProof.Rows L2
def tRevT (K : PySem.W.Frag) (te : TE) : TE := fun σ H Q => te σ H fun x H1 => ∃ a xs, x = .ref a ∧ SqT K H1 a xs ∧ ∀ p, H1 p = none → Q (.ref p) (upd H1 p (.tup xs.reverse))
section
variable {X : Cx}
theorem pe_revT {e : Expr} {te : TE} {k : Nat} {p1 p2 p3 pos : Pos} (he : PE X e te) : PE X (.Subscript e (.Slice none none (some (.UnaryOp .USub (.Constant (.int 1) k p1) p2)) p3) pos) (tRevT X.K te) := by
  refine ⟨fun pins s σ H Q I h => Subscript_ (thn (he.run pins s σ H _ I h) fun v s1 ⟨x, H1, I1, r1, q1⟩ => ?_)⟩
  obtain ⟨a, xs, ex, hx, q⟩ := q1
  subst ex
  cases r1
  have minus : PO X (some (.UnaryOp .USub (.Constant (.int 1) k p1) p2)) (tPart (tUn (rU fun i => .int (-i)) (tC (.int 1)))) := po_some (pe_un un_neg pe_int)
  refine wpAny_Slice (thn (po_none.run pins s1 σ H1 (fun o H2 => o = none ∧ H2 = H1) I1 ⟨rfl, rfl⟩) fun vl s2 ⟨l, H2, I2, pl, el, e2⟩ => ?_)
  subst el e2
  refine thn (po_none.run pins s2 σ H2 (fun o H3 => o = none ∧ H3 = H2) I2 ⟨rfl, rfl⟩) fun vu s3 ⟨u, H3, I3, pu, eu, e3⟩ => ?_
  subst eu e3
  refine thn (minus.run pins s3 σ H3 (fun o H4 => o = some (-1) ∧ H4 = H3) I3 ⟨1, rfl, -1, rfl, rfl, rfl⟩) fun vs s4 ⟨o, H4, I4, ps, eo, e4⟩ => ?_
  subst eo e4
  have I5 : Inv X pins σ H4 { s4 with heap := s4.heap.push { cls := .type "slice", data := .fields #[vl, vu, vs] } } := I4.kept (t' := s4.toks) fun b ob q => Heap.get?_push_of_some _ q
  obtain ⟨its, r, ht, hz⟩ := I5.tuple hx
  have hlen := r.length
  show wpAny (model X.prog X.w) X.A (subscriptTail e (.Slice none none (some (.UnaryOp .USub (.Constant (.int 1) k p1) p2)) p3) (.ref a) (.ref s4.heap.objs.size)) (EP X pins σ Q) X.xe { s4 with heap := s4.heap.push { cls := .type "slice", data := .fields #[vl, vu, vs] } }
  refine tail_any (ops := [.ref a, .ref s4.heap.objs.size]) ht.typeIs (PyProof.Rows.slot_tuple_getitem.lookup) ?_ (by with_unfolding_all rfl)
  refine HT.tuple_back ht (Heap.IsSliceOf.new _ vl vu vs) pl pu ps ?_ (by rw [List.size_toArray]; omega)
  refine ⟨.ref _, _, I5.laid (t' := s4.toks) (o := .tup xs.reverse) (fun b ob q => Heap.get?_push_of_some _ q) (Nat.le_refl _) ?_, rfl, q _ (I5.hok.fresh (Nat.le_refl _))⟩
  exact ⟨by rw [List.length_reverse]; exact hz, _, r.reverse, IsTup.new _ _⟩
theorem pe_revTK (K : PySem.W.Frag) {e : Expr} {te : TE} {k : Nat} {p1 p2 p3 pos : Pos} (he : PE X e te) (h : X.K = K := by rfl) : PE X (.Subscript e (.Slice none none (some (.UnaryOp .USub (.Constant (.int 1) k p1) p2)) p3) pos) (tRevT K te) := by subst h; exact pe_revT he
end
end LF
/-! ### la_dic: a dict of truths, its keys two tuples of whole numbers in a tuple -/
namespace LF
open PySem PySem.Spec PyProof.Rows L2
abbrev NKey := List Int × List Int
def nkT (l : List Int) : NestedKey := .tup (l.map NestedKey.num)
def nk (x : NKey) : NestedKey := .tup [nkT x.1, nkT x.2]
theorem num_inj : ∀ {a b : List Int}, a.map NestedKey.num = b.map NestedKey.num → a = b
  | [], [], _ => rfl
  | [], _ :: _, h => by cases h
  | _ :: _, [], h => by cases h
  | x :: a, y :: b, h => by
    injection h with h1 h2
    injection h1 with h1
    rw [h1, num_inj h2]
theorem nk_inj {x y : NKey} (h : nk x = nk y) : x = y := by
  injection h with h
  injection h with h1 h
  injection h with h2 _
  injection h1 with h1
  injection h2 with h2
  exact Prod.ext (num_inj h1) (num_inj h2)
theorem depth_nums : ∀ l : List Int, NestedKey.depthAll (l.map NestedKey.num) = 0
  | [] => by rw [List.map_nil, NestedKey.depthAll]
  | x :: r => by
    rw [List.map_cons, NestedKey.depthAll, NestedKey.depth, depth_nums r]
    rfl
theorem depth_nk (x : NKey) : (nk x).depth ≤ 8 := by
  unfold nk nkT
  rw [NestedKey.depth, NestedKey.depthAll, NestedKey.depthAll, NestedKey.depthAll, NestedKey.depth, NestedKey.depth, depth_nums, depth_nums]
  decide
/-- a key, where it was laid, what is told of it -/
abbrev Row := NKey × Addr × Bool
abbrev rowE (x : Row) : NestedKey × Addr × Value := (nk x.1, x.2.1, .bool x.2.2)
def DicO (P : Program) (w : World) (a : Addr) (xs : List Row) : HO := .ext fun h => (a == sysModules) = false ∧ ∃ o es ep, h.get? a = some o ∧ o.ExactDict ∧ o.data = .dict es ep ∧ es.toList = (xs.map rowE).map (entryOfKey (nestedKind P w)) ∧ ((xs.map rowE).map (·.1)).Nodup
def KeyAt (H : Hp) (b : Addr) (x : NKey) : Prop := ∃ u v, H b = some (.tup [.ref u, .ref v]) ∧ H u = some (.tup (vi x.1)) ∧ H v = some (.tup (vi x.2))
def KeysN (H : Hp) (xs : List Row) : Prop := ∀ x ∈ xs, KeyAt H x.2.1 x.1
def look (xs : List Row) (k : NKey) : Option Bool := (xs.find? fun x => decide (x.1 = k)).map (·.2.2)
def putN (xs : List Row) (k : NKey) (b : Addr) (v : Bool) : List Row := if (look xs k).isSome then xs.map (fun x => if x.1 = k then (x.1, x.2.1, v) else x) else xs ++ [(k, b, v)]
theorem at_rows (k : NKey) : ∀ xs : List Row, (atKey (xs.map rowE) (nk k)).map (·.2) = (look xs k).map Value.bool
  | [] => rfl
  | x :: r => by
    have ih := at_rows k r
    unfold atKey look at ih ⊢
    rw [List.map_cons, List.find?_cons, List.find?_cons]
    by_cases h : x.1 = k
    · rw [decide_eq_true (show (rowE x).1 = nk k by rw [← h]), decide_eq_true h]
      rfl
    · rw [decide_eq_false (show ¬ (rowE x).1 = nk k from fun z => h (nk_inj z)), decide_eq_false h]
      exact ih
theorem at_some (xs : List Row) (k : NKey) : (atKey (xs.map rowE) (nk k)).isSome = (look xs k).isSome := by
  have h := congrArg Option.isSome (at_rows k xs)
  rw [Option.isSome_map, Option.isSome_map] at h
  exact h
theorem stored_rows (xs : List Row) (k : NKey) (b : Addr) (v : Bool) : storedH (xs.map rowE) (nk k) b (.bool v) = (putN xs k b v).map rowE := by
  unfold storedH putN
  rw [at_some]
  by_cases h : (look xs k).isSome = true
  · rw [if_pos h, if_pos h, List.map_map, List.map_map]
    refine List.map_congr_left fun x _ => ?_
    show putAt (nk k) (.bool v) (rowE x) = rowE (if x.1 = k then (x.1, x.2.1, v) else x)
    unfold putAt
    by_cases c : x.1 = k
    · rw [if_pos c, if_pos (show (rowE x).1 = nk k by rw [← c])]
    · rw [if_neg c, if_neg (show ¬ (rowE x).1 = nk k from fun z => c (nk_inj z))]
  · rw [if_neg h, if_neg h, List.map_append]
    rfl
theorem vals_nums {h : Heap} : ∀ {l : List Int} {its : List Value}, Vals (vi l) its → NestedAll h (l.map NestedKey.num) its
  | [], _, r => by
    cases r
    exact .nil
  | x :: l, _, r => by
    cases r with
    | cons r1 r2 =>
      obtain ⟨t, rfl⟩ := r1
      exact .cons (.int x t) (vals_nums r2)
theorem nested_tup {P : Program} {w : World} {H : Hp} {h : Heap} {u : Addr} {l : List Int} (ok : HOk P w H h) (hu : H u = some (.tup (vi l))) : NestedIs h (nkT l) (.ref u) := by
  obtain ⟨_, its, r, o, h1, h2, n, h3⟩ := (show ObjOk P w H h u (.tup (vi l)) from ok u _ hu)
  exact .tup h1 h2 h3 (by simpa using vals_nums r)
theorem key_nested {P : Program} {w : World} {H : Hp} {h : Heap} {b : Addr} {x : NKey} (ok : HOk P w H h) (hk : KeyAt H b x) : (nestedKind P w).is h (nk x) b := by
  obtain ⟨u, v, hb, hu, hv⟩ := hk
  obtain ⟨_, its, r, o, h1, h2, n, h3⟩ := (show ObjOk P w H h b (.tup [.ref u, .ref v]) from ok b _ hb)
  refine ⟨.tup h1 h2 h3 ?_, depth_nk x⟩
  cases r with
  | cons r1 r2 =>
    cases r2 with
    | cons r2 r3 =>
      cases r3
      obtain rfl := r1
      obtain rfl := r2
      show NestedAll h [nkT x.1, nkT x.2] _
      exact .cons (nested_tup ok hu) (.cons (nested_tup ok hv) .nil)
theorem dic_of {P : Program} {w : World} {H : Hp} {h : Heap} {a : Addr} {xs : List Row} (ok : HOk P w H h) (ha : H a = some (DicO P w a xs)) (hk : KeysN H xs) : (a == sysModules) = false ∧ h.DictOfH (nestedKind P w) a (xs.map rowE) := by
  obtain ⟨⟨h0, o, es, ep, h1, h2, h3, h4, h5⟩, _⟩ := (show ObjOk P w H h a (DicO P w a xs) from ok a _ ha)
  refine ⟨h0, o, es, ep, h1, h2, h3, h4, fun y hy => ?_, h5⟩
  obtain ⟨x, hx, rfl⟩ := List.mem_map.mp hy
  exact key_nested ok (hk x hx)
theorem dic_ok {P : Program} {w : World} {H : Hp} {h : Heap} {a : Addr} {xs : List Row} (h0 : (a == sysModules) = false) (d : h.DictOfH (nestedKind P w) a (xs.map rowE)) : ObjOk P w H h a (DicO P w a xs) := by
  obtain ⟨o, es, ep, h1, h2, h3, h4, _, h5⟩ := d
  exact ⟨⟨h0, o, es, ep, h1, h2, h3, h4, h5⟩, ⟨o, h1⟩, fun g1 g2 ⟨q0, o, es, ep, q1, q2⟩ hk => ⟨q0, o, es, ep, hk _ q1, q2⟩⟩
section
variable {X : Cx}
/-- {} -/
def tDNewN (P : Program) (w : World) : TE := fun _ H Q => ∀ p, H p = none → Q (.ref p) (upd H p (DicO P w p []))
theorem pe_dnewN {pos : Pos} (P : Program) (w : World) (hP : X.prog = P := by rfl) (hw : X.w = w := by rfl) : PE X (.Dict [] [] pos) (tDNewN P w) := by
  subst hP hw
  refine ⟨fun pins s σ H Q I h => wpAny_Dict_empty ⟨.ref s.heap.objs.size, _, I.laid (a := s.heap.objs.size) (o := DicO X.prog X.w s.heap.objs.size []) (t' := s.toks) (fun _ _ q => Heap.get?_push_of_some _ q) (Nat.le_refl _) ?_, rfl, h _ (I.hok.fresh (Nat.le_refl _))⟩⟩
  exact dic_ok (beq_eq_false_iff_ne.mpr (Ne.symm (Nat.ne_of_lt I.big))) (Heap.DictOfH.new s.heap)
def rDNotIn (P : Program) (w : World) : R2 := fun y x H Q => ∃ a xs b k, x = .ref a ∧ H a = some (DicO P w a xs) ∧ KeysN H xs ∧ y = .ref b ∧ KeyAt H b k ∧ Q (.bl (!(look xs k).isSome)) H
theorem op_dnotin (P : Program) (w : World) (hu : X.A.units + 64 < cLine) (hP : X.prog = P := by rfl) (hw : X.w = w := by rfl) : OpR X (compareOp .NotIn) (rDNotIn P w) := by
  subst hP hw
  intro pins s σ H y x u v Q I ry rx h
  obtain ⟨a, xs, b, k, rfl, ha, hk, rfl, hb, q⟩ := h
  cases rx
  cases ry
  obtain ⟨h0, d⟩ := dic_of I.hok ha hk
  refine wpAny_notIn_heap (show X.A.in1.units + 8 < cLine from by show X.A.units + 1 + 8 < cLine; omega) (key_nested I.hok hb) h0 d ?_
  rw [at_some]
  exact ⟨.bl _, H, I.tok _, rfl, q⟩
def tDGetN (P : Program) (w : World) (td ty : TE) : TE := fun σ H Q => td σ H fun x H1 => ty σ H1 fun y H2 => ∃ a xs b k v, x = .ref a ∧ H2 a = some (DicO P w a xs) ∧ KeysN H2 xs ∧ y = .ref b ∧ KeyAt H2 b k ∧ look xs k = some v ∧ Q (.bl v) H2
theorem pe_dgetN {o i : Expr} {pos : Pos} {td ty : TE} (P : Program) (w : World) (hu : X.A.units + 64 < cLine) (ho : PE X o td) (hi : PE X i ty) (hs : NoSl i) (hP : X.prog = P := by rfl) (hw : X.w = w := by rfl) : PE X (.Subscript o i pos) (tDGetN P w td ty) := by
  subst hP hw
  refine ⟨fun pins s σ H Q I h => subD_of PySem.F.slot_dict_getitem.lookup hs (thn (ho.run pins s σ H _ I h) fun u s1 ⟨x, H1, I1, rx, q1⟩ => thn (hi.run pins s1 σ H1 _ I1 q1) fun iv s2 ⟨y, H2, I2, ry, a, xs, b, k, v, ex, ha, hk, ey, hb, hl, q2⟩ => ?_)⟩
  subst ex ey
  cases rx
  cases ry
  obtain ⟨h0, d⟩ := dic_of I2.hok ha hk
  have e := at_rows k xs
  rw [hl] at e
  obtain ⟨p, hp, hp2⟩ := Option.map_eq_some_iff.mp e
  refine ⟨d.typeIs, wpAny_getItem_heap (show X.A.in1.units + 8 < cLine from by show X.A.units + 1 + 8 < cLine; omega) (key_nested I2.hok hb) d hp ?_⟩
  rw [hp2]
  exact ⟨.bl v, H2, I2.tok _, rfl, q2⟩
def sDPutN (P : Program) (w : World) (td ty tv : TE) : TS := fun D σ H => tv σ H fun v H1 => td σ H1 fun x H2 => ty σ H2 fun y H3 => ∃ a xs b k t, v = .bl t ∧ x = .ref a ∧ H3 a = some (DicO P w a xs) ∧ KeysN H3 xs ∧ y = .ref b ∧ KeyAt H3 b k ∧ xs.length < sizeLine ∧ D.nx σ (upd H3 a (DicO P w a (putN xs k b t)))
theorem ps_dputN {o i value : Expr} {pos pos' : Pos} {td ty tv : TE} (P : Program) (w : World) (hu : X.A.units + 64 < cLine) (ho : PE X o td) (hi : PE X i ty) (hv : PE X value tv) (hs : swapsWith value (some (.Subscript o i pos')) pos.line X.env = pure false := by rfl) (hP : X.prog = P := by rfl) (hw : X.w = w := by rfl) :
    PS X (.Assign [.Subscript o i pos'] value pos) (sDPutN P w td ty tv) := by
  subst hP hw
  refine ⟨fun pins s σ H D I h => wpAny_Assign_Subscript (thn (hv.run pins s σ H _ I h) fun r s1 ⟨v, H1, I1, rv, q1⟩ => thn (ho.run pins s1 σ H1 _ I1 q1) fun u s2 ⟨x, H2, I2, rx, q2⟩ => thn (hi.run pins s2 σ H2 _ I2 q2) fun iv s3 ⟨y, H3, I3, ry, a, xs, b, k, t, ev, ex, ha, hk, ey, hb, hz, q3⟩ => ?_) hs⟩
  subst ev ex ey
  cases rx
  cases ry
  cases rv
  obtain ⟨h0, d⟩ := dic_of I3.hok ha hk
  refine wpAny_setItem_heap (hsz := by rw [List.length_map]; exact Nat.le_of_lt hz) (show X.A.in1.units + 8 < cLine from by show X.A.units + 1 + 8 < cLine; omega) (key_nested I3.hok hb) d fun h' d' hsb => ⟨σ, _, ?_, q3⟩
  rw [stored_rows] at d'
  have he : ∃ q, h'.get? a = some q := let ⟨q, _, _, hq, _⟩ := d'; ⟨q, hq⟩
  exact I3.write (x := a) (e := a) (by rw [ha]; exact True.intro) (.inl rfl) (fun b q hb z => (hsb.2 b hb).trans z) he (dic_ok h0 d')
end
end LF
/-! ### la_game: the game gone through -/
namespace LF
open PySem PySem.Spec PyProof.Rows L2
/-- a lot that can be lit -/
structure Lw (cs lit : List Int) : Prop where
  nd : lit.Nodup
  wax : ∀ i ∈ lit, ∃ (k : Nat) (w : Int), i = (k : Int) ∧ cs[k]? = some w ∧ 0 < w
theorem Lit.lw {cs lit : List Int} {d : Int} (h : Lit cs d lit) : Lw cs lit := ⟨h.nd, h.wax⟩
theorem sub_bits2 {cs lit : List Int} (h : Lw cs lit) (f : Int → Int) : (cs.mapIdx fun i w => f w - bit lit [] (i : Int)).sum = (cs.map f).sum - lit.length := by
  have q := sum_bits lit (cs.map f) 0 h.nd fun i hi => by
    obtain ⟨k, w, e, hk, _⟩ := h.wax i hi
    have := (List.getElem?_eq_some_iff.mp hk).1
    rw [List.length_map]
    omega
  rw [mapIdx_map'] at q
  exact q
theorem burnt_back2 {cs lit : List Int} {k : Int} (h : Lw cs lit) : cnt (burntF cs lit []) (k - 1) + lit.length ≤ cnt cs k := by
  have e := sub_bits2 h (fun w => mn k w)
  have e2 : cnt cs k = (cs.map fun w => mn k w).sum := rfl
  have q : (cs.mapIdx fun i w => mn (k - 1) (w - bit lit [] (i : Int))).sum ≤ (cs.mapIdx fun i w => mn k w - bit lit [] (i : Int)).sum := mapIdx_le cs _ _ fun i w hi => by
    have a := mn_le (k - 1) (w - bit lit [] (i : Int))
    by_cases hl : (i : Int) ∈ lit
    · rw [bit_in hl] at a ⊢
      have : mn (k - 1) (w - 1) + 1 ≤ mn k w := mn_lo (by omega) (by omega)
      omega
    · rw [bit_no hl] at a ⊢
      have : mn (k - 1) (w - 0) ≤ mn k w := mn_lo (by omega) (by omega)
      omega
  rw [cnt_burnt, e2]
  omega
theorem burnt_in {cs lit out : List Int} {b : Int} (h : Lw cs lit) (h0 : ∀ c ∈ cs, 0 ≤ c ∧ c ≤ b) : ∀ c ∈ burntF cs lit out, 0 ≤ c ∧ c ≤ b := by
  intro c hc
  obtain ⟨i, hi⟩ := List.getElem?_of_mem hc
  rw [burntF_eq, List.getElem?_mapIdx] at hi
  cases e : cs[i]? with
  | none =>
    rw [e] at hi
    cases hi
  | some x =>
    rw [e] at hi
    have hi : x - bit lit out i = c := Option.some.inj hi
    have hx := h0 x (List.mem_of_getElem? e)
    by_cases hl : (i : Int) ∈ lit
    · obtain ⟨k, w, ek, hk, hw⟩ := h.wax _ hl
      have : k = i := by omega
      subst this
      rw [e] at hk
      cases hk
      rcases bit01 lit out (k : Int) with q | q <;> omega
    · rw [bit_no hl] at hi
      omega
theorem burnt_nn {cs lit out : List Int} (h : Lw cs lit) (h0 : ∀ c ∈ cs, 0 ≤ c) : ∀ c ∈ burntF cs lit out, 0 ≤ c := by
  intro c hc
  obtain ⟨i, hi⟩ := List.getElem?_of_mem hc
  rw [burntF_eq, List.getElem?_mapIdx] at hi
  cases e : cs[i]? with
  | none =>
    rw [e] at hi
    cases hi
  | some x =>
    rw [e] at hi
    have hi : x - bit lit out i = c := Option.some.inj hi
    have hx := h0 x (List.mem_of_getElem? e)
    by_cases hl : (i : Int) ∈ lit
    · obtain ⟨k, w, ek, hk, hw⟩ := h.wax _ hl
      have : k = i := by omega
      subst this
      rw [e] at hk
      cases hk
      rcases bit01 lit out (k : Int) with q | q <;> omega
    · rw [bit_no hl] at hi
      omega
theorem can_back2 {cs lit r : List Int} {d : Int} (h0 : ∀ c ∈ cs, 0 ≤ c) (h : Lw cs lit) (hd : d + 1 ≤ lit.length) (c : can (burntF cs lit []) r = true) : can cs (d :: r) = true := by
  have hb := burnt_nn (out := []) h h0
  refine can_sub.mpr fun S hS hne => ?_
  have c := can_sub.mp c
  cases hS with
  | cons _ hS =>
    have := c S hS hne
    have := burnt_less cs lit S.length
    omega
  | cons_cons _ hS =>
    rename_i S'
    rw [List.sum_cons, List.length_cons]
    have e : ((S'.length + 1 : Nat) : Int) = (S'.length : Int) + 1 := by omega
    rw [e]
    have q := burnt_back2 (k := (S'.length : Int) + 1) h
    have e2 : (S'.length : Int) + 1 - 1 = S'.length := by omega
    rw [e2] at q
    by_cases hn : S' = []
    · subst hn
      have z : 0 ≤ cnt (burntF cs lit []) ((([] : List Int).length : Nat) : Int) := cnt_nonneg hb (Int.le_refl _)
      have z1 : ([] : List Int).sum = 0 := rfl
      have z2 : ((([] : List Int).length : Nat) : Int) = 0 := rfl
      rw [z2] at q z
      rw [z1, z2]
      omega
    · have := c S' hS hn
      omega
/-- the places with wax -/
def litP (cs : List Int) : List Int := (List.range cs.length).filterMap fun (i : Nat) => cs[i]?.bind fun w => if 0 < w then some (i : Int) else none
theorem litP_get {cs : List Int} {i : Nat} {z : Int} (h : (cs[i]?.bind fun w => if 0 < w then some (i : Int) else none) = some z) : z = (i : Int) ∧ ∃ w, cs[i]? = some w ∧ 0 < w := by
  cases e : cs[i]? with
  | none =>
    rw [e] at h
    cases h
  | some w =>
    rw [e] at h
    have h : (if 0 < w then some (i : Int) else none) = some z := h
    by_cases c : 0 < w
    · rw [if_pos c] at h
      exact ⟨(Option.some.inj h).symm, w, rfl, c⟩
    · rw [if_neg c] at h
      cases h
theorem litP_up (cs : List Int) : (litP cs).Pairwise (· < ·) := by
  refine List.Pairwise.filterMap _ (fun a a' haa b hb b' hb' => ?_) List.pairwise_lt_range
  rw [(litP_get hb).1, (litP_get hb').1]
  omega
theorem litP_mem {cs : List Int} {z : Int} : z ∈ litP cs ↔ ∃ (k : Nat) (w : Int), z = (k : Int) ∧ cs[k]? = some w ∧ 0 < w := by
  constructor
  · intro h
    obtain ⟨i, _, hi⟩ := List.mem_filterMap.mp h
    obtain ⟨e, w, hw, h0⟩ := litP_get hi
    exact ⟨i, w, e, hw, h0⟩
  · rintro ⟨k, w, rfl, hk, hw⟩
    refine List.mem_filterMap.mpr ⟨k, List.mem_range.mpr (List.getElem?_eq_some_iff.mp hk).1, ?_⟩
    rw [hk]
    exact if_pos hw
theorem litP_len (cs : List Int) : (litP cs).length ≤ cs.length := by
  have h := List.length_filterMap_le (fun (i : Nat) => cs[i]?.bind fun w => if 0 < w then some (i : Int) else none) (List.range cs.length)
  rw [List.length_range] at h
  exact h
theorem sub_lw {cs l : List Int} (h : l.Sublist (litP cs)) : Lw cs l := ⟨(List.Pairwise.sublist h (litP_up cs)).imp fun h => Int.ne_of_lt h, fun i hi => litP_mem.mp (h.subset hi)⟩
theorem up_sub : ∀ {b a : List Int}, a.Pairwise (· < ·) → b.Pairwise (· < ·) → (∀ x ∈ a, x ∈ b) → a.Sublist b
  | [], [], _, _, _ => List.Sublist.refl _
  | [], x :: a, _, _, h => nomatch h x List.mem_cons_self
  | y :: b, [], _, _, _ => List.nil_sublist _
  | y :: b, x :: a, ha, hb, h => by
    obtain ⟨h1, h2⟩ := List.pairwise_cons.mp ha
    obtain ⟨h3, h4⟩ := List.pairwise_cons.mp hb
    by_cases c : x = y
    · subst c
      refine (up_sub h2 h4 fun z hz => ?_).cons_cons x
      rcases List.mem_cons.mp (h z (List.mem_cons_of_mem _ hz)) with e | q
      · have := h1 z hz
        omega
      · exact q
    · have hxy : y < x := by
        rcases List.mem_cons.mp (h x List.mem_cons_self) with e | q
        · exact absurd e c
        · exact h3 x q
      refine (up_sub ha h4 fun z hz => ?_).cons y
      rcases List.mem_cons.mp (h z hz) with e | q
      · exfalso
        rcases List.mem_cons.mp hz with e2 | q
        · omega
        · have := h1 z q
          omega
      · exact q
theorem lotsPF_iff : ∀ (n : Nat) (ps l : List Int), ps.length = n → (l ∈ lotsPF ps ↔ l.Sublist ps)
  | 0, ps, l, hn => by
    rw [List.length_eq_zero_iff.mp hn]
    show l ∈ [[]] ↔ _
    rw [List.mem_singleton]
    exact ⟨fun h => by rw [h]; exact List.Sublist.refl _, fun h => List.sublist_nil.mp h⟩
  | n + 1, ps, l, hn => by
    rcases List.eq_nil_or_concat ps with rfl | ⟨q, x, rfl⟩
    · cases hn
    · rw [List.concat_eq_append] at hn ⊢
      rw [List.length_append] at hn
      have hq : q.length = n := Nat.succ.inj hn
      rw [lotsPF_snoc, List.mem_append, lotsPF_iff n q l hq, List.mem_map]
      constructor
      · rintro (h | ⟨m, hm, rfl⟩)
        · exact h.trans (List.sublist_append_left _ _)
        · exact ((lotsPF_iff n q m hq).mp hm).append (List.Sublist.refl _)
      · intro h
        obtain ⟨l1, l2, rfl, h1, h2⟩ := List.sublist_append_iff.mp h
        have h3 : l2 = [] ∨ l2 = [x] := by
          cases h2 with
          | cons _ h => exact .inl (List.sublist_nil.mp h)
          | cons_cons _ h => exact .inr (by rw [List.sublist_nil.mp h])
        rcases h3 with rfl | rfl
        · rw [List.append_nil]
          exact .inl h1
        · exact .inr ⟨l1, (lotsPF_iff n q l1 hq).mpr h1, rfl⟩
theorem lots_sub {ps l : List Int} : l ∈ lotsPF ps ↔ l.Sublist ps := lotsPF_iff _ ps l rfl
theorem lots_first (ps : List Int) : (lotsPF ps)[0]? = some [] := by
  have key : ∀ (ps : List Int) (a : List (List Int)), a[0]? = some [] → (ps.foldl (fun found p => found ++ found.map (· ++ [p])) a)[0]? = some [] := by
    intro ps
    induction ps with
    | nil => exact fun a h => h
    | cons p r ih =>
      intro a h
      refine ih _ ?_
      have := (List.getElem?_eq_some_iff.mp h).1
      rw [List.getElem?_append_left this]
      exact h
  exact key ps [[]] rfl
theorem at_perm {ds : List Int} {i : Nat} {d : Int} (h : ds[i]? = some d) : (d :: (ds.take i ++ ds.drop (i + 1))).Perm ds := by
  have e : ds = ds.take i ++ d :: ds.drop (i + 1) := by
    have q := (List.take_append_drop i ds).symm
    rw [drop_next h] at q
    exact q
  exact List.perm_middle.symm.trans (List.Perm.of_eq e.symm)
theorem win_lit {cs ds : List Int} {i : Nat} {d : Int} (h0 : ∀ c ∈ cs, 0 ≤ c) (hd0 : ∀ d ∈ ds, 0 ≤ d) (hd : ds[i]? = some d) (hc : can cs ds = true) :
    ∃ lit, lit ∈ lotsPF (litP cs) ∧ (lit.length : Int) = d + 1 ∧ ∀ gone, can (burntF cs lit gone) (ds.take i ++ ds.drop (i + 1)) = true := by
  have hc : can cs (d :: (ds.take i ++ ds.drop (i + 1))) = true := by
    rw [can_perm_ds (at_perm hd)]
    exact hc
  obtain ⟨lit, hl⟩ := can_lights h0 hc
  have L := lights_lit (hd0 d (List.mem_of_getElem? hd)) hl
  exact ⟨lit, lots_sub.mpr (up_sub L.up (litP_up cs) fun x hx => litP_mem.mpr (L.wax x hx)), L.len, fun gone => can_step_out L hc⟩
theorem lose_lit {cs ds lit : List Int} {i : Nat} {d : Int} (h0 : ∀ c ∈ cs, 0 ≤ c) (hd : ds[i]? = some d) (hc : can cs ds = false) (hl : lit ∈ lotsPF (litP cs)) (hlen : d + 1 ≤ lit.length) : can (burntF cs lit []) (ds.take i ++ ds.drop (i + 1)) = false := by
  cases h : can (burntF cs lit []) (ds.take i ++ ds.drop (i + 1)) with
  | false => rfl
  | true =>
    have := can_back2 h0 (sub_lw (lots_sub.mp hl)) hlen h
    rw [can_perm_ds (at_perm hd), hc] at this
    cases this
/-! the table -/
def KIn (x : NKey) : Prop := x.1.length ≤ 4 ∧ x.2.length ≤ 4 ∧ (∀ c ∈ x.1, 0 ≤ c ∧ c ≤ 3) ∧ ∀ c ∈ x.2, 0 ≤ c ∧ c ≤ 3
structure TabOk (xs : List Row) : Prop where
  nd : (xs.map (·.1)).Nodup
  inn : ∀ x ∈ xs, KIn x.1
  good : ∀ x ∈ xs, x.2.2 = can x.1.1 x.1.2
theorem nodup_le2 {α : Type} [DecidableEq α] {a : List α} : ∀ {b : List α}, a.Nodup → (∀ x ∈ a, x ∈ b) → a.length ≤ b.length := by
  induction a with
  | nil => exact fun _ _ => Nat.zero_le _
  | cons x r ih =>
    intro b hn hs
    obtain ⟨h1, h2⟩ := List.nodup_cons.mp hn
    have hx := hs x List.mem_cons_self
    have q := ih (b := b.erase x) h2 fun y hy => (List.mem_erase_of_ne (fun z => by rw [z] at hy; exact h1 hy)).mpr (hs y (List.mem_cons_of_mem _ hy))
    rw [List.length_erase_of_mem hx] at q
    have := List.length_pos_of_mem hx
    show r.length + 1 ≤ _
    omega
def wrds : Nat → List (List Int)
  | 0 => [[]]
  | n + 1 => [] :: (wrds n).flatMap fun s => [0 :: s, 1 :: s, 2 :: s, 3 :: s]
theorem flat4_len : ∀ l : List (List Int), (l.flatMap fun s => [0 :: s, 1 :: s, 2 :: s, 3 :: s]).length = 4 * l.length
  | [] => rfl
  | s :: r => by
    simp only [List.flatMap_cons, List.length_append, flat4_len r, List.length_cons, List.length_nil]
    omega
theorem wrds_len4 : (wrds 4).length = 341 := by
  simp only [wrds, List.length_cons, flat4_len, List.length_nil]
theorem wrds_mem : ∀ (n : Nat) (l : List Int), l.length ≤ n → (∀ c ∈ l, 0 ≤ c ∧ c ≤ 3) → l ∈ wrds n
  | 0, [], _, _ => List.mem_singleton.mpr rfl
  | n + 1, [], _, _ => List.mem_cons_self
  | n + 1, x :: r, hl, h => by
    have ih := wrds_mem n r (Nat.le_of_succ_le_succ hl) fun c hc => h c (List.mem_cons_of_mem _ hc)
    have hx := h x List.mem_cons_self
    refine List.mem_cons_of_mem _ (List.mem_flatMap.mpr ⟨r, ih, ?_⟩)
    have : x = 0 ∨ x = 1 ∨ x = 2 ∨ x = 3 := by omega
    rcases this with rfl | rfl | rfl | rfl <;> simp
theorem pairs_len (B : List (List Int)) : ∀ A : List (List Int), (A.flatMap fun a => B.map fun b => (a, b)).length = A.length * B.length
  | [] => by simp
  | a :: r => by
    rw [List.flatMap_cons, List.length_append, pairs_len B r, List.length_map, List.length_cons, Nat.succ_mul, Nat.add_comm]
theorem TabOk.len {xs : List Row} (h : TabOk xs) : xs.length < sizeLine := by
  have q := nodup_le2 (b := (wrds 4).flatMap fun a => (wrds 4).map fun b => (a, b)) h.nd fun k hk => by
    obtain ⟨x, hx, rfl⟩ := List.mem_map.mp hk
    obtain ⟨h1, h2, h3, h4⟩ := h.inn x hx
    exact List.mem_flatMap.mpr ⟨_, wrds_mem 4 _ h1 h3, List.mem_map.mpr ⟨_, wrds_mem 4 _ h2 h4, rfl⟩⟩
  rw [List.length_map, pairs_len, wrds_len4] at q
  have hsl : sizeLine = 16777216 := sizeLine_eq
  omega
theorem TabOk.at {xs : List Row} {k : NKey} {v : Bool} (h : TabOk xs) (e : look xs k = some v) : v = can k.1 k.2 := by
  obtain ⟨x, hx, rfl⟩ := Option.map_eq_some_iff.mp e
  have := List.find?_some hx
  have ek : x.1 = k := of_decide_eq_true this
  rw [← ek]
  exact h.good x (List.mem_of_find?_eq_some hx)
theorem put_keys (xs : List Row) (k : NKey) (b : Addr) (v : Bool) : (putN xs k b v).map (·.1) = if (look xs k).isSome then xs.map (·.1) else xs.map (·.1) ++ [k] := by
  unfold putN
  by_cases h : (look xs k).isSome = true
  · rw [if_pos h, if_pos h, List.map_map]
    refine List.map_congr_left fun x _ => ?_
    show (if x.1 = k then (x.1, x.2.1, v) else x).1 = x.1
    by_cases c : x.1 = k
    · rw [if_pos c]
    · rw [if_neg c]
  · rw [if_neg h, if_neg h, List.map_append]
    rfl
theorem put_mem {xs : List Row} {k : NKey} {b : Addr} {v : Bool} {y : Row} (h : y ∈ putN xs k b v) : (y.1 = k ∧ y.2.2 = v ∧ (y.2.1 = b ∨ ∃ x ∈ xs, x.1 = k ∧ x.2.1 = y.2.1)) ∨ y ∈ xs := by
  unfold putN at h
  by_cases c : (look xs k).isSome = true
  · rw [if_pos c] at h
    obtain ⟨x, hx, e⟩ := List.mem_map.mp h
    by_cases c2 : x.1 = k
    · rw [if_pos c2] at e
      rw [← e]
      exact .inl ⟨c2, rfl, .inr ⟨x, hx, c2, rfl⟩⟩
    · rw [if_neg c2] at e
      rw [← e]
      exact .inr hx
  · rw [if_neg c] at h
    rcases List.mem_append.mp h with h | h
    · exact .inr h
    · rw [List.mem_singleton.mp h]
      exact .inl ⟨rfl, rfl, .inl rfl⟩
theorem look_none {xs : List Row} {k : NKey} (h : ¬ (look xs k).isSome = true) : k ∉ xs.map (·.1) := fun hm => by
  obtain ⟨x, hx, e⟩ := List.mem_map.mp hm
  unfold look at h
  rw [Option.isSome_map] at h
  refine h (List.find?_isSome.mpr ⟨x, hx, decide_eq_true e⟩)
theorem TabOk.put {xs : List Row} {k : NKey} {b : Addr} {v : Bool} (h : TabOk xs) (hk : KIn k) (hv : v = can k.1 k.2) : TabOk (putN xs k b v) := by
  refine ⟨?_, fun y hy => ?_, fun y hy => ?_⟩
  · rw [put_keys]
    by_cases c : (look xs k).isSome = true
    · rw [if_pos c]
      exact h.nd
    · rw [if_neg c]
      refine List.nodup_append.mpr ⟨h.nd, List.pairwise_singleton _ _, fun u hu w hw e => ?_⟩
      rw [List.mem_singleton.mp hw] at e
      rw [e] at hu
      exact look_none c hu
  · rcases put_mem hy with ⟨e, _⟩ | hy
    · rw [e]
      exact hk
    · exact h.inn y hy
  · rcases put_mem hy with ⟨e, e2, _⟩ | hy
    · rw [e, e2]
      exact hv
    · exact h.good y hy
theorem look_in {xs : List Row} {k : NKey} (h : k ∈ xs.map (·.1)) : ∃ v, look xs k = some v := by
  cases e : look xs k with
  | some v => exact ⟨v, rfl⟩
  | none => exact absurd h (look_none (by rw [e]; decide))
theorem look_put (xs : List Row) (k : NKey) (b : Addr) (v : Bool) : ∃ t, look (putN xs k b v) k = some t := by
  refine look_in ?_
  rw [put_keys]
  by_cases c : (look xs k).isSome = true
  · rw [if_pos c]
    cases e : look xs k with
    | none =>
      rw [e] at c
      cases c
    | some t =>
      obtain ⟨x, hx, _⟩ := Option.map_eq_some_iff.mp e
      have q := List.find?_some hx
      have ek : x.1 = k := of_decide_eq_true q
      exact List.mem_map.mpr ⟨x, List.mem_of_find?_eq_some hx, ek⟩
  · rw [if_neg c]
    exact List.mem_append_right _ (List.mem_singleton.mpr rfl)
theorem KeyAt.keep {H H' : Hp} (kp : ∀ x zs, H x = some (.tup zs) → H' x = some (.tup zs)) {b : Addr} {k : NKey} (h : KeyAt H b k) : KeyAt H' b k := by
  obtain ⟨u, v, h1, h2, h3⟩ := h
  exact ⟨u, v, kp _ _ h1, kp _ _ h2, kp _ _ h3⟩
theorem KeysN.keep {H H' : Hp} (kp : ∀ x zs, H x = some (.tup zs) → H' x = some (.tup zs)) {xs : List Row} (h : KeysN H xs) : KeysN H' xs := fun x hx => (h x hx).keep kp
theorem KeysN.put {H : Hp} {xs : List Row} {k : NKey} {b : Addr} {v : Bool} (h : KeysN H xs) (hb : KeyAt H b k) : KeysN H (putN xs k b v) := fun y hy => by
  rcases put_mem hy with ⟨e, _, q⟩ | hy
  · rcases q with q | ⟨x, hx, e1, e2⟩
    · rw [e, q]
      exact hb
    · rw [e, ← e2, ← e1]
      exact h x hx
  · exact h y hy
/-- the table, as it should be -/
def Tab (P : Program) (w : World) (tb : Addr) (H : Hp) : Prop := ∃ xs, H tb = some (DicO P w tb xs) ∧ KeysN H xs ∧ TabOk xs
theorem Tab.ne {P : Program} {w : World} {tb : Addr} {H : Hp} (h : Tab P w tb H) {a : Addr} {zs : List V} (ha : H a = some (.tup zs)) : a ≠ tb := fun z => by
  obtain ⟨xs, h1, _⟩ := h
  rw [z, h1] at ha
  cases ha
theorem Tab.ne_l {P : Program} {w : World} {tb : Addr} {H : Hp} (h : Tab P w tb H) {a : Addr} {zs : List V} (ha : H a = some (.lst zs)) : a ≠ tb := fun z => by
  obtain ⟨xs, h1, _⟩ := h
  rw [z, h1] at ha
  cases ha
theorem Tab.ne_n {P : Program} {w : World} {tb : Addr} {H : Hp} (h : Tab P w tb H) {a : Addr} (ha : H a = none) : a ≠ tb := fun z => by
  obtain ⟨xs, h1, _⟩ := h
  rw [z, h1] at ha
  cases ha
theorem Tab.same {P : Program} {w : World} {tb : Addr} {H H' : Hp} (h : Tab P w tb H) (s : Same H H') : Tab P w tb H' := by
  obtain ⟨xs, h1, h2, h3⟩ := h
  exact ⟨xs, s _ _ h1, h2.keep fun x zs q => s _ _ q, h3⟩
/-- a list is written -/
theorem Tab.upd {P : Program} {w : World} {tb o : Addr} {H : Hp} {zs ys : List V} (h : Tab P w tb H) (ho : H o = some (.lst zs)) : Tab P w tb (upd H o (.lst ys)) := by
  have n := h.ne_l ho
  obtain ⟨xs, h1, h2, h3⟩ := h
  refine ⟨xs, ?_, h2.keep fun x ws q => ?_, h3⟩
  · rw [upd_ne n.symm]
    exact h1
  · rw [upd_ne (lst_ne ho q)]
    exact q
theorem Tab.tup {P : Program} {w : World} {tb : Addr} {H H' : Hp} (h : Tab P w tb H) (s : Smt tb H H') {a : Addr} {zs : List V} (ha : H a = some (.tup zs)) : H' a = some (.tup zs) := s _ _ ha (h.ne ha)
theorem Tab.sqt {P : Program} {w : World} {K : PySem.W.Frag} {tb : Addr} {H H' : Hp} (h : Tab P w tb H) (s : Smt tb H H') {a : Addr} {zs : List V} (ha : SqT K H a zs) : SqT K H' a zs := by
  rcases ha with (ha | ⟨o, ha⟩) | ha
  · exact .inl (.inl (h.tup s ha))
  · refine .inl (.inr ⟨o, s _ _ ha fun z => ?_⟩)
    obtain ⟨xs, h1, _⟩ := h
    rw [z, h1] at ha
    cases ha
  · exact .inr ha
theorem fails_none {cs ds : List Int} : fails cs ds = [] ↔ can cs ds = true := by
  constructor
  · intro h
    refine List.all_eq_true.mpr fun x hx => decide_eq_true ?_
    obtain ⟨i, hi⟩ := List.getElem?_of_mem hx
    have q := List.filterMap_eq_nil_iff.mp h i (List.mem_range.mpr (List.getElem?_eq_some_iff.mp hi).1)
    rw [hi] at q
    have q : (if x < 0 then some ((i : Int) + 1) else none) = none := q
    by_cases c : x < 0
    · rw [if_pos c] at q
      cases q
    · omega
  · intro h
    refine List.filterMap_eq_nil_iff.mpr fun i _ => ?_
    cases e : (spr cs ds)[i]? with
    | none => rfl
    | some x =>
      have := of_decide_eq_true (List.all_eq_true.mp h x (List.mem_of_getElem? e))
      exact if_neg (by omega)
end LF
namespace LF
open PySem PySem.Spec PyProof.Rows L2
def topS (i : Nat) : Stmt := PySem.Challenge.pw_lastflame_k04_whole_the_game_gone_throug.main.body.getD i (.Pass ⟨0, 0, 0, 0⟩)
section
variable {P : Program} {w : World} {K : PySem.W.Frag} {mg : Str → Option Value} {base : Heap}
/-! def counted -/
abbrev s_counted : Stmt := topS 1
theorem sc_counted : FnScope ["candles", "ticks", "wax"] ["candles", "ticks"] (defScope s_counted) := ⟨rfl, rfl, rfl, by decide +kernel, rfl, by decide +kernel, by decide +kernel⟩
def spCounted (K : PySem.W.Frag) : Sp := fun vs H Q _ => ∃ (a : Addr) (cs : List Int) (k : Int), vs = [.ref a, .int k] ∧ SqT K H a (vi cs) ∧ cs.length ≤ 1000 ∧ ∀ H', Same H H' → Q (.int (cnt cs k)) H'
theorem ok_counted {f : Addr} {fd : FuncData} (T : Bl mg) (F : Fun K "counted" "counted" s_counted f fd) : FnOk P w K mg base CX0 1 f fd ["candles", "ticks"] (spCounted K) := by
  refine F.ok sc_counted (fun vs H Q E h => ?_) (fun cdv A outer s H vs Q E hr h => ?_)
  · obtain ⟨a, cs, k, rfl, _⟩ := h
    rfl
  obtain ⟨a, cs, k, rfl, hS, hl, q⟩ := h
  refine ⟨_, (pss_one (ps_ret (pe_callB (sumK K) rfl T.sum (by decide +kernel) (pa_cons (pe_lc (own := [("wax", 2)]) rfl sc_counted.nd (piT K (pv 0)) (blkOk_by (N := ["candles", "ticks", "wax"]) (sc := defScope s_counted) (own := [("wax", 2)]) (by decide +kernel)) (fun _ _ _ _ _ => (pg_name (i := 2) sc_counted.nd rfl (.inl rfl))) (fun _ _ _ _ _ => pts_nil) (fun _ _ _ _ _ => (pe_callB (call_min2 rfl) rfl T.min (by decide +kernel) (pa_cons (pv 2) (pa_cons (pv 1) pa_nil))))) pa_nil)))), ?_⟩
  refine ⟨_, rfl, a, rfl, ⟨_, hS⟩, fun D hD => lc_ints (walk_tup (xs := vi cs)) hD (by rw [vi_len]; exact hl) (fun i => cs[i]?.bind fun w => some (if k < w then k else w)) (fun H' s => s.sqt hS) (fun i x H1 H' kn ky hi sm y h1 h2 => ?_) (fun H1 sm e => ?_)⟩
  · obtain ⟨rfl, hx⟩ := y
    obtain ⟨z, hz, rfl⟩ := vi_get hx
    exact ⟨rfl, lc_yes ⟨_, rfl, _, rfl, _, _, rfl, h2 _ _ (Same.refl _) (by rw [hz]; rfl)⟩⟩
  · rw [vi_len, fm_at] at e
    exact ⟨D, _, rfl, SqL.of e, q _ sm⟩
/-! def wanted -/
abbrev s_wanted : Stmt := topS 2
theorem sc_wanted : FnScope ["draughts", "ticks", "draught"] ["draughts", "ticks"] (defScope s_wanted) := ⟨rfl, rfl, rfl, by decide +kernel, rfl, by decide +kernel, by decide +kernel⟩
theorem cutV_from (xs : List V) (n k : Nat) (h : (n : Int) - (k : Int) = ((n - k : Nat) : Int)) : cutV xs (some ((n : Int) - (k : Int))) none = xs.drop (n - k) := by
  unfold cutV
  rw [h, HT.sIx_nat, HT.sIx_none]
  by_cases c : n - k ≤ xs.length
  · rw [show min (n - k) xs.length = n - k by omega]
    exact List.take_of_length_le (by rw [List.length_drop]; omega)
  · rw [show min (n - k) xs.length = xs.length by omega, Nat.sub_self, List.take_zero]
    exact (List.drop_of_length_le (by omega)).symm
def spWanted (K : PySem.W.Frag) : Sp := fun vs H Q _ => ∃ (a : Addr) (ds : List Int) (k : Nat), vs = [.ref a, .int (k : Int)] ∧ SqT K H a (vi ds) ∧ ds.length ≤ 1000 ∧ k ≤ ds.length ∧ ∀ H', Same H H' → Q (.int (wnt ds k)) H'
theorem ok_wanted {f : Addr} {fd : FuncData} (T : Bl mg) (F : Fun K "wanted" "wanted" s_wanted f fd) : FnOk P w K mg base CX0 1 f fd ["draughts", "ticks"] (spWanted K) := by
  refine F.ok sc_wanted (fun vs H Q E h => ?_) (fun cdv A outer s H vs Q E hr h => ?_)
  · obtain ⟨a, ds, k, rfl, _⟩ := h
    rfl
  obtain ⟨a, ds, k, rfl, hS, hl, hk, q⟩ := h
  refine ⟨_, (pss_one (ps_ret (pe_callB (sumK K) rfl T.sum (by decide +kernel) (pa_cons (pe_lc (own := [("draught", 2)]) rfl sc_wanted.nd (piL K (pe_slice (slL K) (pe_callB (sortedTK K) rfl T.sorted (by decide +kernel) (pa_cons (pv 0) pa_nil)) (po_some (pe_op op_sub (pe_callB (lenK K) rfl T.len (by decide +kernel) (pa_cons (pv 0) pa_nil)) (pv 1))) po_none)) (blkOk_by (N := ["draughts", "ticks", "draught"]) (sc := defScope s_wanted) (own := [("draught", 2)]) (by decide +kernel)) (fun _ _ _ _ _ => (pg_name (i := 2) sc_wanted.nd rfl (.inl rfl))) (fun _ _ _ _ _ => pts_nil) (fun _ _ _ _ _ => (pe_op op_add (pv 2) pe_int))) pa_nil)))), ?_⟩
  refine ⟨_, rfl, a, ds, rfl, hS, fun ns p hp hu np => ?_⟩
  have es := srt_is hp hu
  subst es
  have s1 : Same H (upd H p (.lst (vi (srt ds)))) := Same.new np
  refine ⟨_, rfl, a, vi ds, rfl, .inr (s1.sqt hS), _, rfl, _, _, rfl, rfl, _, rfl, p, _, rfl, SqL.of upd_same, fun c nc => ?_⟩
  have ec : cutV (vi (srt ds)) (some ((((vi ds).length : Nat) : Int) - (k : Int))) none = vi ((srt ds).drop (ds.length - k)) := by
    rw [vi_len, cutV_from _ _ _ (by omega)]
    exact List.map_drop.symm
  rw [ec]
  have s2 := s1.trans (Same.new (o := .lst (vi ((srt ds).drop (ds.length - k)))) nc)
  have hC : SqL K (upd (upd H p (.lst (vi (srt ds)))) c (.lst (vi ((srt ds).drop (ds.length - k))))) c (vi ((srt ds).drop (ds.length - k))) := SqL.of upd_same
  refine ⟨c, rfl, ⟨_, hC⟩, fun D hD => lc_ints (walk_list (xs := vi ((srt ds).drop (ds.length - k)))) hD ?_ (fun i => ((srt ds).drop (ds.length - k))[i]?.bind fun d => some (d + 1)) (fun H' s => s.seq hC) (fun i x H1 H' kn ky hi sm y h1 h2 => ?_) (fun H1 sm e => ?_)⟩
  · rw [vi_len, List.length_drop, srt_len]
    omega
  · obtain ⟨rfl, hx⟩ := y
    obtain ⟨z, hz, rfl⟩ := vi_get hx
    exact ⟨rfl, lc_yes ⟨_, rfl, _, _, rfl, rfl, h2 _ _ (Same.refl _) (by rw [hz]; rfl)⟩⟩
  · rw [vi_len, fm_at] at e
    exact ⟨D, _, rfl, SqL.of e, q _ (s2.trans sm)⟩
/-! def spares -/
abbrev s_spares : Stmt := topS 3
theorem sc_spares : FnScope ["candles", "draughts", "many"] ["candles", "draughts"] (defScope s_spares) := ⟨rfl, rfl, rfl, by decide +kernel, rfl, by decide +kernel, by decide +kernel⟩
theorem ok_spares {f fC fW : Addr} {fd fdC fdW : FuncData} (T : Bl mg) (F : Fun K "spares" "spares" s_spares f fd) (D_counted : FnAt K mg "counted" "counted" s_counted ["candles", "ticks"] fC fdC) (D_wanted : FnAt K mg "wanted" "wanted" s_wanted ["draughts", "ticks"] fW fdW) : FnOk P w K mg base CX0 2 f fd ["candles", "draughts"] (spSpares K) := by
  have G_counted : FnOk P w K mg base CX0 1 fC fdC ["candles", "ticks"] (spCounted K) := ok_counted T D_counted.F
  have G_wanted : FnOk P w K mg base CX0 1 fW fdW ["draughts", "ticks"] (spWanted K) := ok_wanted T D_wanted.F
  refine F.ok sc_spares (fun vs H Q E h => ?_) (fun cdv A outer s H vs Q E hr h => ?_)
  · obtain ⟨a, b, cs, ds, rfl, _⟩ := h
    rfl
  obtain ⟨a, b, cs, ds, rfl, hS, hB, hl, hlb, q⟩ := h
  refine ⟨_, (pss_one (ps_ret (pe_lc (own := [("many", 2)]) rfl sc_spares.nd (pi_range2 rfl T.range (pa_cons pe_int (pa_cons (pe_op op_add (pe_callB (lenK K) rfl T.len (by decide +kernel) (pa_cons (pv 1) pa_nil)) pe_int) pa_nil))) (blkOk_by (N := ["candles", "draughts", "many"]) (sc := defScope s_spares) (own := [("many", 2)]) (by decide +kernel)) (fun _ _ _ _ _ => (pg_name (i := 2) sc_spares.nd rfl (.inl rfl))) (fun _ _ _ _ _ => pts_nil) (fun _ _ _ _ _ => (pe_op op_sub (pe_call G_counted hr rfl D_counted.g D_counted.F.kp D_counted.b .nil pass0 (pa_cons (pv 0) (pa_cons (pv 2) pa_nil))) (pe_call G_wanted hr rfl D_wanted.g D_wanted.F.kp D_wanted.b .nil pass0 (pa_cons (pv 1) (pa_cons (pv 2) pa_nil)))))))), ?_⟩
  refine ⟨_, rfl, b, vi ds, rfl, .inr hB, _, _, rfl, rfl, _, _, rfl, ⟨by omega, by omega, by rw [vi_len]; omega, by rw [vi_len]; omega⟩, fun D hD => ?_⟩
  have en : ((((vi ds).length : Nat) : Int) + 1 - 1).toNat = ds.length := by
    rw [vi_len]
    omega
  rw [en]
  refine lc_ints walk_range hD hlb (fun i => some (cnt cs ((i : Int) + 1) - wnt ds (i + 1))) (fun _ _ => trivial) (fun i x H1 H' kn ky hi sm y h1 h2 => ?_) (fun H1 sm e => ?_)
  · obtain ⟨rfl, rfl⟩ := y
    have e1 : (1 : Int) + (i : Int) = ((i + 1 : Nat) : Int) := by omega
    refine ⟨rfl, lc_yes ⟨_, rfl, _, rfl, a, cs, _, rfl, sm.sqt hS, hl, fun H2 s2 => ⟨_, rfl, _, rfl, b, ds, i + 1, congrArg (fun z => [V.ref b, V.int z]) e1, (sm.trans s2).sqt hB, hlb, hi, fun H3 s3 => ⟨_, _, rfl, rfl, h2 _ _ (s2.trans s3) ?_⟩⟩⟩⟩
    rw [Int.add_comm]
  · rw [fm_range] at e
    exact q _ D sm hD e
/-! def can_keep -/
abbrev s_can_keep : Stmt := topS 4
theorem sc_can_keep : FnScope ["candles", "draughts", "spare"] ["candles", "draughts"] (defScope s_can_keep) := ⟨rfl, rfl, rfl, by decide +kernel, rfl, by decide +kernel, by decide +kernel⟩
theorem ok_can_keep {f fS fC fW : Addr} {fd fdS fdC fdW : FuncData} (T : Bl mg) (F : Fun K "can_keep" "can_keep" s_can_keep f fd) (D_spares : FnAt K mg "spares" "spares" s_spares ["candles", "draughts"] fS fdS) (D_counted : FnAt K mg "counted" "counted" s_counted ["candles", "ticks"] fC fdC) (D_wanted : FnAt K mg "wanted" "wanted" s_wanted ["draughts", "ticks"] fW fdW) : FnOk P w K mg base CX0 3 f fd ["candles", "draughts"] (spCan K) := by
  have G_spares : FnOk P w K mg base CX0 2 fS fdS ["candles", "draughts"] (spSpares K) := ok_spares T D_spares.F D_counted D_wanted
  refine F.ok sc_can_keep (fun vs H Q E h => ?_) (fun cdv A outer s H vs Q E hr h => ?_)
  · obtain ⟨a, b, cs, ds, rfl, _⟩ := h
    rfl
  obtain ⟨a, b, cs, ds, rfl, hS, hB, hl, hlb, q⟩ := h
  refine ⟨_, (pss_one (ps_ret (pe_callB (allK K) rfl T.all (by decide +kernel) (pa_cons (pe_lc (own := [("spare", 2)]) rfl sc_can_keep.nd (piL K (pe_call G_spares hr rfl D_spares.g D_spares.F.kp D_spares.b .nil pass0 (pa_cons (pv 0) (pa_cons (pv 1) pa_nil)))) (blkOk_by (N := ["candles", "draughts", "spare"]) (sc := defScope s_can_keep) (own := [("spare", 2)]) (by decide +kernel)) (fun _ _ _ _ _ => (pg_name (i := 2) sc_can_keep.nd rfl (.inl rfl))) (fun _ _ _ _ _ => pts_nil) (fun _ _ _ _ _ => (pe_cmpR op_ge (pv 2) pe_int (nomark _)))) pa_nil)))), ?_⟩
  refine ⟨_, rfl, _, rfl, a, b, cs, ds, rfl, hS, hB, hl, hlb, fun H1 p s1 np ep => ?_⟩
  have hC : SqL K H1 p (vi (spr cs ds)) := SqL.of ep
  refine ⟨p, rfl, ⟨_, hC⟩, fun D hD => lc_bls (walk_list (xs := vi (spr cs ds))) hD (by rw [vi_len, spr_len]; exact hlb) (fun i => (spr cs ds)[i]?.bind fun s => some (decide (0 ≤ s))) (fun H' s => s.seq hC) (fun i x H2 H' kn ky hi sm y h1 h2 => ?_) (fun H2 sm e => ?_)⟩
  · obtain ⟨rfl, hx⟩ := y
    obtain ⟨z, hz, rfl⟩ := vi_get hx
    exact ⟨rfl, lc_yes ⟨_, rfl, _, _, rfl, rfl, h2 _ _ (Same.refl _) (by rw [hz]; rfl)⟩⟩
  · rw [vi_len, fm_at] at e
    refine ⟨D, _, rfl, SqL.of e, ?_⟩
    have e2 : ((spr cs ds).map fun s => decide (0 ≤ s)).all id = can cs ds := by
      unfold can
      rw [List.all_map]
      rfl
    rw [e2]
    exact q _ (s1.trans sm)
/-! def fails_at -/
abbrev s_fails_at : Stmt := topS 5
theorem sc_fails_at : FnScope ["candles", "draughts", "some", "at", "spare"] ["candles", "draughts"] (defScope s_fails_at) := ⟨rfl, rfl, rfl, by decide +kernel, rfl, by decide +kernel, by decide +kernel⟩
/-- the first place below nought, None where there is none -/
def firstV : List Int → V
  | [] => .non
  | x :: _ => .int x
def spFails (K : PySem.W.Frag) : Sp := fun vs H Q _ => ∃ (a b : Addr) (cs ds : List Int), vs = [.ref a, .ref b] ∧ SqT K H a (vi cs) ∧ SqT K H b (vi ds) ∧ cs.length ≤ 1000 ∧ ds.length ≤ 1000 ∧ ∀ H', Same H H' → Q (firstV (fails cs ds)) H'
theorem ok_fails_at {f fS fC fW : Addr} {fd fdS fdC fdW : FuncData} (T : Bl mg) (F : Fun K "fails_at" "fails_at" s_fails_at f fd) (D_spares : FnAt K mg "spares" "spares" s_spares ["candles", "draughts"] fS fdS) (D_counted : FnAt K mg "counted" "counted" s_counted ["candles", "ticks"] fC fdC) (D_wanted : FnAt K mg "wanted" "wanted" s_wanted ["draughts", "ticks"] fW fdW) : FnOk P w K mg base CX0 3 f fd ["candles", "draughts"] (spFails K) := by
  have G_spares : FnOk P w K mg base CX0 2 fS fdS ["candles", "draughts"] (spSpares K) := ok_spares T D_spares.F D_counted D_wanted
  refine F.ok sc_fails_at (fun vs H Q E h => ?_) (fun cdv A outer s H vs Q E hr h => ?_)
  · obtain ⟨a, b, cs, ds, rfl, _⟩ := h
    rfl
  obtain ⟨a, b, cs, ds, rfl, hS, hB, hl, hlb, q⟩ := h
  refine ⟨_, (pss_cons (ps_setLc (i := 2) (own := [("at", 3), ("spare", 4)]) rfl sc_fails_at.nd rfl rfl (sw_true rfl rfl rfl (by decide +kernel)) (enumK K false rfl T.enumerate (pa_cons (pe_call G_spares hr rfl D_spares.g D_spares.F.kp D_spares.b .nil pass0 (pa_cons (pv 0) (pa_cons (pv 1) pa_nil))) pa_nil)) (blkOk_by (N := ["candles", "draughts", "some", "at", "spare"]) (sc := defScope s_fails_at) (own := [("at", 3), ("spare", 4)]) (by decide +kernel)) (fun _ _ _ _ _ => (pgT K 2 rfl (pgs_cons (pg_name (i := 3) sc_fails_at.nd rfl (.inl rfl)) (pgs_cons (pg_name (i := 4) sc_fails_at.nd rfl (.inl rfl)) pgs_nil)))) (fun _ _ _ _ _ => (pts_one (pt_cmpR op_lt (pv 4) pe_int (nomark _)))) (fun _ _ _ _ _ => (pe_op op_add (pv 3) pe_int)))
  (pss_one (ps_ret (pe_ifExp (pt_cmpR (neDK K hr.units) (pv 2) (pe_lst pa_nil) (nomark _)) (pe_ix (ixL K) (pv 2) pe_int (fun _ _ => rfl)) pe_non)))), ?_⟩
  refine ⟨_, rfl, _, rfl, a, b, cs, ds, rfl, hS, hB, hl, hlb, fun H1 p s1 np ep => ⟨p, vi (spr cs ds), rfl, SqL.of ep, fun D hD => lc_ints (walk_enumB (tp := false) (xs := vi (spr cs ds))) hD (by rw [vi_len, spr_len]; exact hlb) (fun i => (spr cs ds)[i]?.bind fun s => if s < 0 then some ((i : Int) + 1) else none) (fun H' s => s.seq (SqL.of ep)) (fun i x H2 H' kn ky hi sm y h1 h2 => ?_) (fun H2 sm e => ?_)⟩⟩
  · obtain ⟨tt, x1, x2, rfl, nT, rfl, e1, e2⟩ := y
    cases Option.some.inj e1
    obtain ⟨z, hz, rfl⟩ := vi_get e2
    refine ⟨tt, _, rfl, SqT.of upd_same, rfl, _, _, rfl, _, _, rfl, rfl, rfl, _, rfl, _, _, rfl, rfl, _, rfl, if_b (fun c => ?_) (fun c => h1 _ (Same.new nT) ?_)⟩
    · refine ⟨_, rfl, _, _, rfl, rfl, h2 _ _ (Same.new nT) ?_⟩
      rw [hz]
      exact if_pos (of_decide_eq_true c)
    · rw [hz]
      exact if_neg (of_decide_eq_false c)
  · rw [vi_len] at e
    have hC : SqL K H2 D (vi (fails cs ds)) := SqL.of e
    refine ⟨_, rfl, Nat.zero_le _, fun c nc => ?_⟩
    have s3 : Same H2 (upd H2 c (.lst [])) := Same.new nc
    refine ⟨.list (di (fails cs ds)), .list (di []), dp_list (s3.seq hC), dp_list (SqL.of upd_same), shaped_ints _, shaped_ints _, _, rfl, ?_⟩
    rw [eqv_lists]
    have q2 := q _ ((s1.trans sm).trans s3)
    generalize fails cs ds = l at *
    cases l with
    | nil => exact q2
    | cons x r => exact ⟨_, rfl, D, _, 0, _, rfl, rfl, s3.seq hC, atI_nat (j := 0) rfl, q2⟩
/-! def _law_draw -/
abbrev s__law_draw : Stmt := topS 7
theorem sc__law_draw : FnScope ["tape", "many", "prime", "cell", "found"] ["tape", "many"] (defScope s__law_draw) := ⟨rfl, rfl, rfl, by decide +kernel, rfl, by decide +kernel, by decide +kernel⟩
theorem draw_nn (x : Int) : 0 ≤ x % 2305843009213693951 ∧ x % 2305843009213693951 < 2305843009213693951 := ⟨Int.emod_nonneg x (by decide), Int.emod_lt_of_pos x (by decide)⟩
def spDraw : Sp := fun vs H Q _ => ∃ (t a : Addr) (many : Int), vs = [.ref t, .int many] ∧ TapeAt H t a ∧ 0 < many ∧ many < 2 ^ 100 ∧
  ∀ (r : Int) (H' : Hp), 0 ≤ r → r < many → TapeAt H' t a → Smt t H H' → Q (.int r) H'
theorem ok__law_draw {f : Addr} {fd : FuncData} (T : Bl mg) (F : Fun K "_law_draw" "_law_draw" s__law_draw f fd) : FnOk P w K mg base CX0 1 f fd ["tape", "many"] spDraw := by
  refine F.ok sc__law_draw (fun vs H Q E h => ?_) (fun cdv A outer s H vs Q E hr h => ?_)
  · obtain ⟨t, a, many, rfl, _⟩ := h
    rfl
  obtain ⟨t, a, many, rfl, hT, hm, hm2, q⟩ := h
  refine ⟨_, (pss_cons (ps_set (i := 2) sc__law_draw.nd rfl (.inl rfl) pe_int)
  (C8.pss_cut (ps_if (pt_cmpR op_lt (pe_ix (ixL K) (pv 0) pe_int (fun _ _ => rfl)) (pv 1) (nomark _)) (pss_cons (ps_set (i := 3) sc__law_draw.nd rfl (.inl rfl) pe_int)
  (C8.pss_cut (ps_if (pt_cmpR op_gt (pe_callB (lenK K) rfl T.len (by decide +kernel) (pa_cons (pe_ix (ixL K) (pv 0) pe_int (fun _ _ => rfl)) pa_nil)) pe_int (nomark _)) (pss_one (ps_set (i := 3) sc__law_draw.nd rfl (.inl rfl) (pe_ix (ixL K) (pe_ix (ixL K) (pv 0) pe_int (fun _ _ => rfl)) (pe_op op_mod (pe_ix (ixL K) (pv 0) pe_int (fun _ _ => rfl)) (pe_callB (lenK K) rfl T.len (by decide +kernel) (pa_cons (pe_ix (ixL K) (pv 0) pe_int (fun _ _ => rfl)) pa_nil))) (fun _ _ => rfl)))) pss_nil)
  (C8.pss_cut (ps_if (PW.pt (pw_or (pt_cmpR op_ge (pe_ix (ixL K) (pv 0) pe_int (fun _ _ => rfl)) (pe_callB (lenK K) rfl T.len (by decide +kernel) (pa_cons (pe_ix (ixL K) (pv 0) pe_int (fun _ _ => rfl)) pa_nil)) (nomark _)) (pw_or1 (pt_cmpR op_lt (pv 3) (pe_op op_pow pe_int pe_int) (nomark _))))) (pss_cons (ps_set (i := 3) sc__law_draw.nd rfl (.inl rfl) (pe_op op_mod (pe_op op_add (pv 3) (pe_op op_mul pe_int (pe_ix (ixL K) (pv 0) pe_int (fun _ _ => rfl)))) (pv 2)))
  (pss_cons (ps_set (i := 3) sc__law_draw.nd rfl (.inl rfl) (pe_op op_mod (pe_op op_add (pe_op op_add (pe_op op_mul (pv 3) (pv 3)) (pe_op op_mul pe_int (pv 3))) pe_int) (pv 2)))
  (pss_one (ps_set (i := 3) sc__law_draw.nd rfl (.inl rfl) (pe_op op_mod (pe_op op_add (pe_op op_mul (pv 3) (pv 3)) pe_int) (pv 2)))))) pss_nil)
  (pss_cons (ps_asg (pe_op op_add (pe_ix (ixL K) (pv 0) pe_int (fun _ _ => rfl)) pe_int) (pg_sub (pv 0) pe_int set_list))
  (pss_one (ps_asg (pv 3) (pg_sub (pv 0) pe_int set_list))))))) pss_nil)
  (pss_cons (ps_set (i := 4) sc__law_draw.nd rfl (.inl rfl) (pe_op op_mod (pe_ix (ixL K) (pv 0) pe_int (fun _ _ => rfl)) (pv 1)))
  (pss_cons (ps_asg (pe_op op_fdivW (pe_ix (ixL K) (pv 0) pe_int (fun _ _ => rfl)) (pv 1)) (pg_sub (pv 0) pe_int set_list))
  (pss_one (ps_ret (pv 4))))))), ?_⟩
  have hta : a ≠ t := hT.ta
  obtain ⟨ns, i, c, ht, ha, hc⟩ := hT
  -- if tape[2] < many
  refine ⟨fun σ' H' => ∃ (i' c' : Int) (y : Option V), σ' = [some (.ref t), some (.int many), some (.int 2305843009213693951), y, none] ∧ H' t = some (.lst [.ref a, .int i', .int c']) ∧ H' a = some (.lst (vi ns)) ∧ 0 ≤ c' ∧ Smt t H H', ?_, ?_⟩
  · refine ⟨_, rfl, t, _, 2, _, rfl, rfl, SqL.of ht, rfl, _, rfl, _, _, rfl, rfl, _, rfl, if_b (fun _ => ?_) (fun _ => ?_)⟩
    · -- cell = 0; if len(tape[0]) > 0
      refine ⟨fun σ' H' => ∃ z : Int, σ' = [some (.ref t), some (.int many), some (.int 2305843009213693951), some (.int z), none] ∧ H' = H, ?_, ?_⟩
      · refine ⟨_, rfl, t, _, 0, _, rfl, rfl, SqL.of ht, rfl, a, vi ns, rfl, .inl (SqL.of ha), _, _, rfl, rfl, _, rfl, if_b (fun e => ?_) (fun _ => ?_)⟩
        · have e1 : (0 : Int) < (((vi ns).length : Nat) : Int) := of_decide_eq_true e
          have e2 : 0 < ns.length := by
            rw [vi_len] at e1
            omega
          obtain ⟨z, hz⟩ := atI_mod e2 i
          refine ⟨_, rfl, t, _, 0, _, rfl, rfl, SqL.of ht, rfl, _, rfl, t, _, 1, _, rfl, rfl, SqL.of ht, rfl, _, rfl, t, _, 0, _, rfl, rfl, SqL.of ht, rfl, a, vi ns, rfl, .inl (SqL.of ha), _, _, rfl, rfl, e1, a, _, _, _, rfl, rfl, SqL.of ha, hz, z, rfl, rfl⟩
        · exact ⟨0, rfl, rfl⟩
      rintro σ' H' ⟨z, rfl, rfl⟩
      -- if tape[1] >= len(tape[0]) or cell < 10 ** 18
      refine ⟨fun σ' H1 => ∃ z : Int, σ' = [some (.ref t), some (.int many), some (.int 2305843009213693951), some (.int z), none] ∧ H1 = H' ∧ 0 ≤ z, ?_, ?_⟩
      · have body : ∀ D : Ends, D.nx [some (.ref t), some (.int many), some (.int 2305843009213693951), some (.int (((((z + 1000003 * i) % 2305843009213693951) * ((z + 1000003 * i) % 2305843009213693951) + 1181783497276652981 * ((z + 1000003 * i) % 2305843009213693951) + 2049848353892358983) % 2305843009213693951 * (((((z + 1000003 * i) % 2305843009213693951) * ((z + 1000003 * i) % 2305843009213693951) + 1181783497276652981 * ((z + 1000003 * i) % 2305843009213693951) + 2049848353892358983) % 2305843009213693951)) + 1442695040888963407) % 2305843009213693951)), none] H' → _ := fun D hD => by
          have n1 := draw_nn (z + 1000003 * i)
          have n2 := draw_nn (((z + 1000003 * i) % 2305843009213693951) * ((z + 1000003 * i) % 2305843009213693951) + 1181783497276652981 * ((z + 1000003 * i) % 2305843009213693951) + 2049848353892358983)
          refine (?_ : tSeq (tAsg (tOp (rI (fun _ j => 0 < j) fun i j => .int (i % j)) (tOp (rI0 fun i j => .int (i + j)) (tVar 3) (tOp (rI CMul fun i j => .int (i * j)) (tC (.int 1000003)) (tOp (rIxL K) (tVar 0) (tC (.int 1))))) (tVar 2)) (gName 3))
            (tSeq (tAsg (tOp (rI (fun _ j => 0 < j) fun i j => .int (i % j)) (tOp (rI0 fun i j => .int (i + j)) (tOp (rI0 fun i j => .int (i + j)) (tOp (rI CMul fun i j => .int (i * j)) (tVar 3) (tVar 3)) (tOp (rI CMul fun i j => .int (i * j)) (tC (.int 1181783497276652981)) (tVar 3))) (tC (.int 2049848353892358983))) (tVar 2)) (gName 3))
            (tAsg (tOp (rI (fun _ j => 0 < j) fun i j => .int (i % j)) (tOp (rI0 fun i j => .int (i + j)) (tOp (rI CMul fun i j => .int (i * j)) (tVar 3) (tVar 3)) (tC (.int 1442695040888963407))) (tVar 2)) (gName 3))) D [some (.ref t), some (.int many), some (.int 2305843009213693951), some (.int z), none] H')
          refine ⟨_, rfl, _, rfl, t, _, 1, _, rfl, rfl, SqL.of ht, rfl, _, _, rfl, rfl, .inl ⟨by omega, by omega⟩, _, _, rfl, rfl, _, rfl, _, _, rfl, rfl, by omega, ?_⟩
          refine ⟨_, rfl, _, rfl, _, _, rfl, rfl, .inl (by omega), _, rfl, _, _, rfl, rfl, .inl ⟨by omega, by omega⟩, _, _, rfl, rfl, _, _, rfl, rfl, _, rfl, _, _, rfl, rfl, by omega, ?_⟩
          refine ⟨_, rfl, _, rfl, _, _, rfl, rfl, .inl (by omega), _, _, rfl, rfl, _, rfl, _, _, rfl, rfl, by omega, hD⟩
        refine ⟨_, rfl, t, _, 1, _, rfl, rfl, SqL.of ht, rfl, _, rfl, t, _, 0, _, rfl, rfl, SqL.of ht, rfl, a, vi ns, rfl, .inl (SqL.of ha), _, _, rfl, rfl, _, rfl, if_b (fun _ => ?_) (fun _ => ?_)⟩
        · refine if_t rfl (body _ ⟨_, rfl, rfl, (draw_nn _).1⟩)
        · refine ⟨_, rfl, _, _, rfl, rfl, ⟨by decide, by decide, by decide⟩, _, _, rfl, rfl, _, rfl, if_b (fun _ => body _ ⟨_, rfl, rfl, (draw_nn _).1⟩) (fun e => ?_)⟩
          refine ⟨z, rfl, rfl, ?_⟩
          have e1 : ¬ z < (10 : Int) ^ (18 : Int).toNat := of_decide_eq_false e
          have e2 : (0 : Int) ≤ (10 : Int) ^ (18 : Int).toNat := by decide
          omega
      rintro σ' H1 ⟨z, rfl, rfl, hz⟩
      -- tape[1] = tape[1] + 1; tape[2] = cell
      refine ⟨_, rfl, t, _, 1, _, rfl, rfl, SqL.of ht, rfl, _, _, rfl, rfl, _, rfl, t, _, 1, 1, rfl, rfl, ht, rfl, ?_⟩
      refine ⟨_, rfl, _, rfl, t, _, 2, 2, rfl, rfl, upd_same, rfl, ?_⟩
      refine ⟨i + 1, z, some (.int z), rfl, upd_same, ?_, hz, ?_⟩
      · rw [upd_ne hta, upd_ne hta]
        exact ha
      · exact Smt.upd.trans Smt.upd
    · exact ⟨i, c, none, rfl, ht, ha, hc, Smt.refl _ _⟩
  rintro σ' H' ⟨i', c', y, rfl, ht', ha', hc', sm⟩
  refine ⟨_, rfl, t, _, 2, _, rfl, rfl, SqL.of ht', rfl, _, rfl, _, _, rfl, rfl, hm, ?_⟩
  refine ⟨_, rfl, t, _, 2, _, rfl, rfl, SqL.of ht', rfl, _, rfl, _, _, rfl, rfl, wide_div (b := 100) hm (by omega) (by decide) (by decide), _, rfl, t, _, 2, 2, rfl, rfl, ht', rfl, ?_⟩
  refine ⟨_, rfl, q _ _ (Int.emod_nonneg _ (by omega)) (Int.emod_lt_of_pos _ hm) ⟨ns, i', c' / many, upd_same, ?_, ?_⟩ (sm.trans Smt.upd)⟩
  · rw [upd_ne hta]
    exact ha'
  · exact Int.ediv_nonneg hc' (by omega)
/-! def _law_like -/
abbrev s__law_like : Stmt := topS 8
theorem sc__law_like : FnScope ["one", "two", "k"] ["one", "two"] (defScope s__law_like) := ⟨rfl, rfl, rfl, by decide +kernel, rfl, by decide +kernel, by decide +kernel⟩
/-- the same data on both sides: the answer is True -/
def spLike (K : PySem.W.Frag) (n : Nat) : Sp := fun vs H Q _ => ∃ (x y : V) (d : PyData), vs = [x, y] ∧ Dp K H x d ∧ Dp K H y d ∧ Fit n d ∧ ∀ H', Same H H' → Q (.bl true) H'
theorem like_none {f : Addr} {fd : FuncData} : FnOk P w K mg base CX0 0 f fd ["one", "two"] (spLike K 0) := by
  have no : ∀ vs H Q E, ¬ spLike K 0 vs H Q E := fun vs H Q E h => by
    obtain ⟨x, y, d, _, _, _, h1, _⟩ := h
    exact h1.elim
  exact ⟨fun vs H Q E h => absurd h (no vs H Q E), fun A outer s H args us vs Q E _ _ _ _ h => absurd h (no vs H Q E)⟩
theorem cls2 {a b : String} : Paired ClsV [.ty a, .ty b] [.type a, .type b] := .cons (.ty a) (.cons (.ty b) .nil)
theorem like_step {n : Nat} {f : Addr} {fd : FuncData} (T : Bl mg) (D__law_like : FnAt K mg "_law_like" "_law_like" s__law_like ["one", "two"] f fd) (G__law_like : FnOk P w K mg base CX0 n f fd ["one", "two"] (spLike K n)) : FnOk P w K mg base CX0 (n + 1) f fd ["one", "two"] (spLike K (n + 1)) := by
  refine D__law_like.F.ok sc__law_like (fun vs H Q E h => ?_) (fun cdv A outer s H vs Q E hr h => ?_)
  · obtain ⟨x, y, d, rfl, _⟩ := h
    rfl
  obtain ⟨x, y, d, rfl, hx, hy, hfit, q⟩ := h
  refine ⟨_, (pss_cons (ps_if (pt_val (pe_callB (isiTK K) rfl T.isinstance (by decide +kernel) (pa_cons (pv 0) (pa_cons (pe_tup (pa_cons (pe_bltn (v := .ty "list") (u := .type "list") rfl T.list (by decide +kernel) rfl) (pa_cons (pe_bltn (v := .ty "tuple") (u := .type "tuple") rfl T.tuple (by decide +kernel) rfl) pa_nil))) pa_nil)))) (pss_cons (ps_if (PW.pt (pw_or (pt_cmpR op_ne (pe_callB (isiK K) rfl T.isinstance (by decide +kernel) (pa_cons (pv 0) (pa_cons (pe_bltn (v := .ty "list") (u := .type "list") rfl T.list (by decide +kernel) rfl) pa_nil))) (pe_callB (isiK K) rfl T.isinstance (by decide +kernel) (pa_cons (pv 1) (pa_cons (pe_bltn (v := .ty "list") (u := .type "list") rfl T.list (by decide +kernel) rfl) pa_nil))) (nomark _)) (pw_or1 (pt_cmpR op_ne (pe_callB (isiK K) rfl T.isinstance (by decide +kernel) (pa_cons (pv 0) (pa_cons (pe_bltn (v := .ty "tuple") (u := .type "tuple") rfl T.tuple (by decide +kernel) rfl) pa_nil))) (pe_callB (isiK K) rfl T.isinstance (by decide +kernel) (pa_cons (pv 1) (pa_cons (pe_bltn (v := .ty "tuple") (u := .type "tuple") rfl T.tuple (by decide +kernel) rfl) pa_nil))) (nomark _))))) (pss_one (ps_ret pe_bl)) pss_nil)
  (pss_cons (ps_if (pt_cmpR op_ne (pe_callB (lenK K) rfl T.len (by decide +kernel) (pa_cons (pv 0) pa_nil)) (pe_callB (lenK K) rfl T.len (by decide +kernel) (pa_cons (pv 1) pa_nil)) (nomark _)) (pss_one (ps_ret pe_bl)) pss_nil)
  (pss_one (ps_ret (pe_cmpR (eqDK K hr.units) (pe_lc (own := [("k", 2)]) rfl sc__law_like.nd (pi_range1 rfl T.range (pa_cons (pe_callB (lenK K) rfl T.len (by decide +kernel) (pa_cons (pv 0) pa_nil)) pa_nil)) (blkOk_by (N := ["one", "two", "k"]) (sc := defScope s__law_like) (own := [("k", 2)]) (by decide +kernel)) (fun _ _ _ _ _ => (pg_name (i := 2) sc__law_like.nd rfl (.inl rfl))) (fun _ _ _ _ _ => (pts_one (pt_not (pt_val (pe_call G__law_like hr rfl D__law_like.g D__law_like.F.kp D__law_like.b .nil pass0 (pa_cons (pe_ix (ixA K) (pv 0) (pv 2) (fun _ _ => rfl)) (pa_cons (pe_ix (ixA K) (pv 1) (pv 2) (fun _ _ => rfl)) pa_nil))))))) (fun _ _ _ _ _ => (pv 2))) (pe_lst pa_nil) (nomark _)))))) pss_nil)
  (pss_cons (ps_if (pt_val (pe_callB (isiTK K) rfl T.isinstance (by decide +kernel) (pa_cons (pv 1) (pa_cons (pe_tup (pa_cons (pe_bltn (v := .ty "list") (u := .type "list") rfl T.list (by decide +kernel) rfl) (pa_cons (pe_bltn (v := .ty "tuple") (u := .type "tuple") rfl T.tuple (by decide +kernel) rfl) pa_nil))) pa_nil)))) (pss_one (ps_ret pe_bl)) pss_nil)
  (pss_one (ps_ret (pe_and (pe_cmpR op_eq (pe_callB (isiK K) rfl T.isinstance (by decide +kernel) (pa_cons (pv 0) (pa_cons (pe_bltn (v := .ty "bool") (u := .type "bool") rfl T.bool (by decide +kernel) rfl) pa_nil))) (pe_callB (isiK K) rfl T.isinstance (by decide +kernel) (pa_cons (pv 1) (pa_cons (pe_bltn (v := .ty "bool") (u := .type "bool") rfl T.bool (by decide +kernel) rfl) pa_nil))) (nomark _)) (pe_one (pe_cmpR op_eq (pv 0) (pv 1) (nomark _)))))))), ?_⟩
  -- isinstance(one, (list, tuple))
  refine ⟨_, rfl, by show 2 ≤ sizeLine; decide, fun tp ntp => ?_⟩
  have s0 : Same H (upd H tp (.tup [.ty "list", .ty "tuple"])) := Same.new ntp
  refine ⟨x, tp, _, _, _, _, rfl, upd_same, cls2, dp_ty (hx.same s0), kit_lt d, _, rfl, if_b (fun hq => ?_) (fun hq => ?_)⟩
  · -- lists, tuples
    have hx0 := hx.same s0
    have hy0 := hy.same s0
    refine ⟨_, rfl, x, _, _, _, _, rfl, .ty _, dp_ty hx0, kit_d d (by simp), _, rfl, y, _, _, _, _, rfl, .ty _, dp_ty hy0, kit_d d (by simp), rfl, _, rfl, ?_⟩
    refine if_f (by rw [decide_eq_true rfl]; rfl) ?_
    refine ⟨_, rfl, x, _, _, _, _, rfl, .ty _, dp_ty hx0, kit_d d (by simp), _, rfl, y, _, _, _, _, rfl, .ty _, dp_ty hy0, kit_d d (by simp), rfl, _, rfl, ?_⟩
    refine if_f (by rw [decide_eq_true rfl]; rfl) ?_
    have both : ∃ (a b : Addr) (xs ys : List V) (ds : List PyData) (tp1 : Bool), x = .ref a ∧ y = .ref b ∧ SqB K tp1 (upd H tp (.tup [.ty "list", .ty "tuple"])) a xs ∧ SqB K tp1 (upd H tp (.tup [.ty "list", .ty "tuple"])) b ys ∧ DpAll K (upd H tp (.tup [.ty "list", .ty "tuple"])) xs ds ∧ DpAll K (upd H tp (.tup [.ty "list", .ty "tuple"])) ys ds ∧ ds.length ≤ 1000 ∧ ∀ d ∈ ds, Fit n d := by
      cases hx0 with
      | lst h1 a1 =>
        cases hy0 with
        | lst h2 a2 =>
          exact ⟨_, _, _, _, _, false, rfl, rfl, h1, h2, a1, a2, hfit.1, hfit.2⟩
      | tup h1 a1 =>
        cases hy0 with
        | tup h2 a2 =>
          exact ⟨_, _, _, _, _, true, rfl, rfl, h1, h2, a1, a2, hfit.1, hfit.2⟩
      | _ => cases hq
    obtain ⟨a, b, xs, ys, ds, tp1, rfl, rfl, hA, hB, dA, dB, hsz, hall⟩ := both
    have lA := dpall_len dA
    have lB := dpall_len dB
    -- len(one) != len(two)
    refine ⟨_, rfl, a, xs, rfl, sqb_or hA, _, rfl, b, ys, rfl, sqb_or hB, rfl, _, rfl, ?_⟩
    refine if_f (by rw [lA, lB, decide_eq_true rfl]; rfl) ?_
    refine ⟨_, rfl, a, xs, rfl, sqb_or hA, _, rfl, by omega, by omega, fun D hD => ?_⟩
    have en : ((xs.length : Nat) : Int).toNat = xs.length := Int.toNat_natCast _
    rw [en]
    refine lc_ints walk_range hD (by omega) (fun _ => none) (fun _ _ => trivial) (fun i v H1 H' kn ky hi sm y h1 h2 => ?_) (fun H1 sm e => ?_)
    · obtain ⟨rfl, rfl⟩ := y
      have e0 : (0 : Int) + (i : Int) = (i : Int) := Int.zero_add _
      have hid : ds[i]? = some ds[i] := List.getElem?_eq_getElem (by omega)
      obtain ⟨u, hu, du⟩ := dpall_get dA hid
      obtain ⟨v, hv, dv⟩ := dpall_get dB hid
      refine ⟨rfl, _, rfl, _, rfl, ix_b (sm.sqb hA) (at_of e0 hu) ⟨_, rfl, _, rfl, ix_b (sm.sqb hB) (at_of e0 hv) ⟨u, v, ds[i], rfl, du.same sm, dv.same sm, hall _ (List.getElem_mem _), fun H2 s2 => ⟨_, rfl, if_f rfl (h1 _ s2 rfl)⟩⟩⟩⟩
    · have e1 : (List.range xs.length).filterMap (fun _ => (none : Option Int)) = [] := by simp
      rw [e1] at e
      refine ⟨Nat.zero_le _, fun c nc => ?_⟩
      have s3 : Same H1 (upd H1 c (.lst [])) := Same.new nc
      refine ⟨.list (di []), .list (di []), dp_list (s3.seq (SqL.of e)), dp_list (SqL.of upd_same), shaped_ints _, shaped_ints _, ?_⟩
      rw [eqv_lists, decide_eq_true rfl]
      exact q _ ((s0.trans sm).trans s3)
  · -- none of these
    have hx0 := hx.same s0
    have hy0 := hy.same s0
    refine ⟨_, rfl, by show 2 ≤ sizeLine; decide, fun tp2 ntp2 => ?_⟩
    have s1 : Same (upd H tp (.tup [.ty "list", .ty "tuple"])) (upd (upd H tp (.tup [.ty "list", .ty "tuple"])) tp2 (.tup [.ty "list", .ty "tuple"])) := Same.new ntp2
    refine ⟨y, tp2, _, _, _, _, rfl, upd_same, cls2, dp_ty (hy0.same s1), kit_lt d, _, rfl, if_f hq ?_⟩
    refine ⟨_, rfl, x, _, _, _, _, rfl, .ty _, dp_ty (hx0.same s1), kit_d d (by simp), _, rfl, y, _, _, _, _, rfl, .ty _, dp_ty (hy0.same s1), kit_d d (by simp), rfl, _, rfl, ?_⟩
    refine if_t (decide_eq_true rfl) ⟨_, rfl, _, rfl, ?_⟩
    have e : x = y ∧ scal x y = true := by
      cases hx <;> cases hy <;> first | exact ⟨rfl, rfl⟩ | cases hq
    obtain ⟨rfl, hs⟩ := e
    refine ⟨hs, ?_⟩
    rw [decide_eq_true rfl]
    exact q _ (s0.trans s1)
theorem ok__law_like {f : Addr} {fd : FuncData} (T : Bl mg) (D : FnAt K mg "_law_like" "_law_like" s__law_like ["one", "two"] f fd) : ∀ n : Nat, FnOk P w K mg base CX0 n f fd ["one", "two"] (spLike K n)
  | 0 => like_none
  | n + 1 => like_step T D (ok__law_like T D n)
/-! def _law_any_order -/
abbrev s__law_any_order : Stmt := topS 9
theorem sc__law_any_order : FnScope ["tape", "many", "found", "k"] ["tape", "many"] (defScope s__law_any_order) := ⟨rfl, rfl, rfl, by decide +kernel, rfl, by decide +kernel, by decide +kernel⟩
/-- the places in a drawn order -/
def spAnyOrder : Sp := fun vs H Q _ => ∃ (t a : Addr) (many : Nat), vs = [.ref t, .int (many : Int)] ∧ TapeAt H t a ∧ many ≤ 100 ∧ ∀ (H' : Hp) (p : Addr) (os : List Int), TapeAt H' t a → Smt t H H' → H' p = some (.tup (vi os)) → os.Perm (plN many) → Q (.ref p) H'
theorem ok__law_any_order {f : Addr} {fd : FuncData} (T : Bl mg) (F : Fun K "_law_any_order" "_law_any_order" s__law_any_order f fd) {f__law_draw : Addr} {fd__law_draw : FuncData} (D__law_draw : FnAt K mg "_law_draw" "_law_draw" s__law_draw ["tape", "many"] f__law_draw fd__law_draw) : FnOk P w K mg base CX0 2 f fd ["tape", "many"] spAnyOrder := by
  have G__law_draw : FnOk P w K mg base CX0 1 f__law_draw fd__law_draw _ spDraw := ok__law_draw T D__law_draw.F
  refine F.ok sc__law_any_order (fun vs H Q E h => ?_) (fun cdv A outer s H vs Q E hr h => ?_)
  · obtain ⟨t, a, many, rfl, _⟩ := h
    rfl
  obtain ⟨t, a, many, rfl, hT, hm, q⟩ := h
  refine ⟨_, (pss_cons (ps_set (i := 2) sc__law_any_order.nd rfl (.inl rfl) (pe_lst pa_nil))
  (pss_cons (ps_for PassesOwn.never rfl (pi_range1 rfl T.range (pa_cons (pv 1) pa_nil)) (pg_name (i := 3) sc__law_any_order.nd rfl (.inl rfl)) (pss_one (ps_expr (pe_bm PySem.F.plainAttrs_list PySem.F.slot_list_insert PySem.F.type_list_insert mt_insert (pv 2) (pa_cons (pe_call G__law_draw hr rfl D__law_draw.g D__law_draw.F.kp D__law_draw.b .nil pass0 (pa_cons (pv 0) (pa_cons (pe_op op_add (pv 3) pe_int) pa_nil))) (pa_cons (pv 3) pa_nil))))))
  (pss_one (ps_ret (pe_callTy (tupleK K) rfl T.tuple (by decide +kernel) (pa_cons (pv 2) pa_nil)))))), ?_⟩
  refine ⟨Nat.zero_le _, fun o no => ?_⟩
  have s0 : Same H (upd H o (.lst [])) := Same.new no
  have hT0 := hT.same s0
  have hot : o ≠ t := fun z => hT.ne_none no z.symm
  have hoa : o ≠ a := fun z => hT.ne_none2 no z.symm
  refine ⟨_, rfl, (many : Int), rfl, by omega, by omega, for_range (lo := 0) (n := many) (fun i σ H' => ∃ (os : List Int) (y3 : Option V), σ = [some (.ref t), some (.int (many : Int)), some (.ref o), y3] ∧ TapeAt H' t a ∧ Smt t H H' ∧ H' o = some (.lst (vi os)) ∧ os.Perm (plN i)) ⟨[], none, rfl, hT0, Smt.of s0, upd_same, List.Perm.refl _⟩ (fun i σ H1 hi hW => ?_) (fun σ H1 hW => ?_)⟩
  · obtain ⟨os, y3, rfl, hT1, sm, hO, hp⟩ := hW
    have hol : os.length = i := by
      rw [hp.length_eq]
      show ((List.range i).map _).length = _
      rw [List.length_map, List.length_range]
    refine ⟨_, rfl, .inl ⟨rfl, _, SqL.of hO⟩, _, rfl, _, rfl, _, _, rfl, rfl, t, a, 0 + (i : Int) + 1, rfl, hT1, by omega, by omega, fun r H2 r0 r1 hT2 s2 => ⟨_, rfl, ?_⟩⟩
    have hO2 := s2 _ _ hO hot
    refine ⟨o, vi os, r, .int (0 + (i : Int)), rfl, rfl, hO2, ?_, r0, by omega, os.take r.toNat ++ [0 + (i : Int)] ++ os.drop r.toNat, _, rfl, hT2.but Smt.upd hot.symm hoa.symm, (sm.trans s2).new no, ?_, ?_⟩
    · rw [vi_len, hol]
      exact small1000 (by omega)
    · rw [vi_app, vi_app, upd_same]
      congr 2
      rw [← List.map_take, ← List.map_drop]
      rfl
    · rw [plN_succ, Int.zero_add]
      refine List.Perm.trans ?_ (List.Perm.append_right [(i : Int)] hp)
      have e : os ++ [(i : Int)] = os.take r.toNat ++ os.drop r.toNat ++ [(i : Int)] := by rw [List.take_append_drop]
      rw [e, List.append_assoc, List.append_assoc]
      exact List.Perm.append_left _ List.perm_append_comm
  · obtain ⟨os, y3, rfl, hT1, sm, hO, hp⟩ := hW
    refine ⟨_, rfl, o, _, rfl, .inl ⟨SqL.of hO, fun p np => ?_⟩⟩
    exact q _ p os (hT1.upd np) (sm.trans (Smt.of (Same.new np))) upd_same hp
/-! def _law_candles -/
abbrev s__law_candles : Stmt := topS 10
theorem sc__law_candles : FnScope ["tape", "size", "wax", "top", "k"] ["tape", "size", "wax"] (defScope s__law_candles) := ⟨rfl, rfl, rfl, by decide +kernel, rfl, by decide +kernel, by decide +kernel⟩
def CandOk (size wax : Int) (cs : List Int) : Prop := 1 ≤ cs.length ∧ (cs.length : Int) ≤ size ∧ ∀ c ∈ cs, 0 ≤ c ∧ c ≤ wax
def spLCand : Sp := fun vs H Q _ => ∃ (t a : Addr) (size wax : Int), vs = [.ref t, .int size, .int wax] ∧ TapeAt H t a ∧ 0 < size ∧ size ≤ 100 ∧ 0 < wax ∧ wax ≤ 100 ∧
  ∀ (p : Addr) (cs : List Int) (H' : Hp), CandOk size wax cs → TapeAt H' t a → Smt t H H' → H p = none → H' p = some (.tup (vi cs)) → Q (.ref p) H'
theorem ok__law_candles {f fD : Addr} {fd fdD : FuncData} (T : Bl mg) (F : Fun K "_law_candles" "_law_candles" s__law_candles f fd) (D__law_draw : FnAt K mg "_law_draw" "_law_draw" s__law_draw ["tape", "many"] fD fdD) : FnOk P w K mg base CX0 2 f fd ["tape", "size", "wax"] spLCand := by
  have G__law_draw : FnOk P w K mg base CX0 1 fD fdD ["tape", "many"] spDraw := ok__law_draw T D__law_draw.F
  refine F.ok sc__law_candles (fun vs H Q E h => ?_) (fun cdv A outer s H vs Q E hr h => ?_)
  · obtain ⟨t, a, size, wax, rfl, _⟩ := h
    rfl
  obtain ⟨t, a, size, wax, rfl, hT, hs0, hs1, hw0, hw1, q⟩ := h
  refine ⟨_, (pss_cons (ps_set (i := 3) sc__law_candles.nd rfl (.inr rfl) (pe_op op_add pe_int (pe_call G__law_draw hr rfl D__law_draw.g D__law_draw.F.kp D__law_draw.b .nil pass0 (pa_cons (pv 0) (pa_cons (pv 2) pa_nil)))))
  (pss_one (ps_ret (pe_callTy (tupleK K) rfl T.tuple (by decide +kernel) (pa_cons (pe_lc (own := [("k", 4)]) rfl sc__law_candles.nd (pi_range1 rfl T.range (pa_cons (pe_op op_add pe_int (pe_call G__law_draw hr rfl D__law_draw.g D__law_draw.F.kp D__law_draw.b .nil pass0 (pa_cons (pv 0) (pa_cons (pv 1) pa_nil)))) pa_nil)) (blkOk_by (N := ["tape", "size", "wax", "top", "k"]) (sc := defScope s__law_candles) (own := [("k", 4)]) (by decide +kernel)) (fun _ _ _ _ _ => (pg_name (i := 4) sc__law_candles.nd rfl (.inl rfl))) (fun _ _ _ _ _ => pts_nil) (fun _ _ _ _ _ => (pe_call G__law_draw hr rfl D__law_draw.g D__law_draw.F.kp D__law_draw.b .nil pass0 (pa_cons (pv 0) (pa_cons (pe_op op_add (pv 3) pe_int) pa_nil))))) pa_nil))))), ?_⟩
  refine ⟨_, rfl, _, rfl, t, a, wax, rfl, hT, hw0, by omega, fun r H1 r0 r1 hT1 s1 => ⟨_, _, rfl, rfl, ?_⟩⟩
  refine ⟨_, rfl, _, rfl, t, a, size, rfl, hT1, hs0, by omega, fun r' H2 q0 q1 hT2 s2 => ⟨_, _, rfl, rfl, _, rfl, by omega, by omega, fun D hD => ?_⟩⟩
  refine lc_tape walk_range hT2 hD (by omega) (fun i zs => zs.length = i ∧ ∀ c ∈ zs, 0 ≤ c ∧ c ≤ wax) ⟨rfl, fun c hc => nomatch hc⟩ (fun i zs h => Nat.le_of_eq h.1) (fun _ _ => trivial) (fun i x H3 H' zs kn ky hi sm hT3 hI y h1 h2 => ?_) (fun zs H3 sm hT3 e hI => ?_)
  · obtain ⟨rfl, rfl⟩ := y
    refine ⟨rfl, lc_yes ⟨_, rfl, _, rfl, _, _, rfl, rfl, t, a, 1 + r + 1, rfl, hT3, by omega, by omega, fun z H4 z0 z1 hT4 s4 => h2 z H4 s4 hT4 ⟨?_, all_snoc hI.2 ⟨z0, by omega⟩⟩⟩⟩
    rw [List.length_append, hI.1]
    rfl
  · refine ⟨D, _, rfl, .inl ⟨SqL.of e, fun l hl => ?_⟩⟩
    have hn : zs.length = (1 + r').toNat := hI.1
    have sm' := (s1.trans s2).trans sm
    have hlt : l ≠ t := fun z => hT3.ne_none hl z.symm
    exact q l zs _ ⟨by omega, by omega, hI.2⟩ (hT3.upd hl) (sm'.trans (Smt.of (Same.new hl))) (sm'.free hl hlt) upd_same
/-! def _law_draughts -/
abbrev s__law_draughts : Stmt := topS 11
theorem sc__law_draughts : FnScope ["tape", "size", "top", "wide", "k"] ["tape", "size", "top"] (defScope s__law_draughts) := ⟨rfl, rfl, rfl, by decide +kernel, rfl, by decide +kernel, by decide +kernel⟩
def DrOk (size top : Int) (ds : List Int) : Prop := (ds.length : Int) ≤ size ∧ ∀ c ∈ ds, 0 ≤ c ∧ c ≤ top
def spLDr : Sp := fun vs H Q _ => ∃ (t a : Addr) (size top : Int), vs = [.ref t, .int size, .int top] ∧ TapeAt H t a ∧ 0 ≤ size ∧ size ≤ 100 ∧ 0 ≤ top ∧ top ≤ 100 ∧
  ∀ (p : Addr) (ds : List Int) (H' : Hp), DrOk size top ds → TapeAt H' t a → Smt t H H' → H p = none → H' p = some (.tup (vi ds)) → Q (.ref p) H'
theorem ok__law_draughts {f fD : Addr} {fd fdD : FuncData} (T : Bl mg) (F : Fun K "_law_draughts" "_law_draughts" s__law_draughts f fd) (D__law_draw : FnAt K mg "_law_draw" "_law_draw" s__law_draw ["tape", "many"] fD fdD) : FnOk P w K mg base CX0 2 f fd ["tape", "size", "top"] spLDr := by
  have G__law_draw : FnOk P w K mg base CX0 1 fD fdD ["tape", "many"] spDraw := ok__law_draw T D__law_draw.F
  refine F.ok sc__law_draughts (fun vs H Q E h => ?_) (fun cdv A outer s H vs Q E hr h => ?_)
  · obtain ⟨t, a, size, top, rfl, _⟩ := h
    rfl
  obtain ⟨t, a, size, top, rfl, hT, hs0, hs1, hw0, hw1, q⟩ := h
  refine ⟨_, (pss_cons (ps_set (i := 3) sc__law_draughts.nd rfl (.inr rfl) (pe_call G__law_draw hr rfl D__law_draw.g D__law_draw.F.kp D__law_draw.b .nil pass0 (pa_cons (pv 0) (pa_cons (pe_op op_add (pv 2) pe_int) pa_nil))))
  (pss_one (ps_ret (pe_callTy (tupleK K) rfl T.tuple (by decide +kernel) (pa_cons (pe_lc (own := [("k", 4)]) rfl sc__law_draughts.nd (pi_range1 rfl T.range (pa_cons (pe_call G__law_draw hr rfl D__law_draw.g D__law_draw.F.kp D__law_draw.b .nil pass0 (pa_cons (pv 0) (pa_cons (pe_op op_add (pv 1) pe_int) pa_nil))) pa_nil)) (blkOk_by (N := ["tape", "size", "top", "wide", "k"]) (sc := defScope s__law_draughts) (own := [("k", 4)]) (by decide +kernel)) (fun _ _ _ _ _ => (pg_name (i := 4) sc__law_draughts.nd rfl (.inl rfl))) (fun _ _ _ _ _ => pts_nil) (fun _ _ _ _ _ => (pe_call G__law_draw hr rfl D__law_draw.g D__law_draw.F.kp D__law_draw.b .nil pass0 (pa_cons (pv 0) (pa_cons (pe_op op_add (pv 3) pe_int) pa_nil))))) pa_nil))))), ?_⟩
  refine ⟨_, rfl, _, rfl, _, _, rfl, rfl, t, a, top + 1, rfl, hT, by omega, by omega, fun r H1 r0 r1 hT1 s1 => ?_⟩
  refine ⟨_, rfl, _, rfl, _, _, rfl, rfl, t, a, size + 1, rfl, hT1, by omega, by omega, fun r' H2 q0 q1 hT2 s2 => ⟨_, rfl, by omega, by omega, fun D hD => ?_⟩⟩
  refine lc_tape walk_range hT2 hD (by omega) (fun i zs => zs.length = i ∧ ∀ c ∈ zs, 0 ≤ c ∧ c ≤ top) ⟨rfl, fun c hc => nomatch hc⟩ (fun i zs h => Nat.le_of_eq h.1) (fun _ _ => trivial) (fun i x H3 H' zs kn ky hi sm hT3 hI y h1 h2 => ?_) (fun zs H3 sm hT3 e hI => ?_)
  · obtain ⟨rfl, rfl⟩ := y
    refine ⟨rfl, lc_yes ⟨_, rfl, _, rfl, _, _, rfl, rfl, t, a, r + 1, rfl, hT3, by omega, by omega, fun z H4 z0 z1 hT4 s4 => h2 z H4 s4 hT4 ⟨?_, all_snoc hI.2 ⟨z0, by omega⟩⟩⟩⟩
    rw [List.length_append, hI.1]
    rfl
  · refine ⟨D, _, rfl, .inl ⟨SqL.of e, fun l hl => ?_⟩⟩
    have hn : zs.length = r'.toNat := hI.1
    have sm' := (s1.trans s2).trans sm
    have hlt : l ≠ t := fun z => hT3.ne_none hl z.symm
    exact q l zs _ ⟨by omega, hI.2⟩ (hT3.upd hl) (sm'.trans (Smt.of (Same.new hl))) (sm'.free hl hlt) upd_same
/-! def _law_near -/
abbrev s__law_near : Stmt := topS 12
theorem sc__law_near : FnScope ["tape", "candles", "size", "top", "found", "left", "k", "draught"] ["tape", "candles", "size", "top"] (defScope s__law_near) := ⟨rfl, rfl, rfl, by decide +kernel, rfl, by decide +kernel, by decide +kernel⟩
def spNear (K : PySem.W.Frag) : Sp := fun vs H Q _ => ∃ (t a c : Addr) (cs : List Int) (size top : Int), vs = [.ref t, .ref c, .int size, .int top] ∧ TapeAt H t a ∧ SqT K H c (vi cs) ∧ 0 ≤ size ∧ size ≤ 100 ∧ 0 ≤ top ∧ top ≤ 100 ∧
  ∀ (p : Addr) (ds : List Int) (H' : Hp), DrOk size top ds → TapeAt H' t a → Smt t H H' → H p = none → H' p = some (.tup (vi ds)) → Q (.ref p) H'
theorem ok__law_near {f fD : Addr} {fd fdD : FuncData} (T : Bl mg) (F : Fun K "_law_near" "_law_near" s__law_near f fd) (D__law_draw : FnAt K mg "_law_draw" "_law_draw" s__law_draw ["tape", "many"] fD fdD) : FnOk P w K mg base CX0 2 f fd ["tape", "candles", "size", "top"] (spNear K) := by
  have G__law_draw : FnOk P w K mg base CX0 1 fD fdD ["tape", "many"] spDraw := ok__law_draw T D__law_draw.F
  refine F.ok sc__law_near (fun vs H Q E h => ?_) (fun cdv A outer s H vs Q E hr h => ?_)
  · obtain ⟨t, a, c, cs, size, top, rfl, _⟩ := h
    rfl
  obtain ⟨t, a, c, cs, size, top, rfl, hT, hC, hs0, hs1, hw0, hw1, q⟩ := h
  refine ⟨_, (pss_cons (ps_par (i := 4) (j := 5) rfl sc__law_near.nd rfl rfl (by decide) rfl rfl (pa_cons (pe_lst pa_nil) (pa_cons (pe_op op_sub (pe_op op_add (pe_callB (sumTK K) rfl T.sum (by decide +kernel) (pa_cons (pv 1) pa_nil)) (pe_call G__law_draw hr rfl D__law_draw.g D__law_draw.F.kp D__law_draw.b .nil pass0 (pa_cons (pv 0) (pa_cons pe_int pa_nil)))) pe_int) pa_nil)) (by rfl))
  (pss_cons (ps_for PassesOwn.never rfl (pi_range1 rfl T.range (pa_cons (pv 2) pa_nil)) (pg_name (i := 6) sc__law_near.nd rfl (.inl rfl)) (pss_cons (ps_set (i := 7) sc__law_near.nd rfl (.inl rfl) (pe_callB (call_min2 rfl) rfl T.min (by decide +kernel) (pa_cons (pe_call G__law_draw hr rfl D__law_draw.g D__law_draw.F.kp D__law_draw.b .nil pass0 (pa_cons (pv 0) (pa_cons (pe_op op_add (pv 3) pe_int) pa_nil))) (pa_cons (pe_callB (call_max2 rfl) rfl T.max (by decide +kernel) (pa_cons pe_int (pa_cons (pe_op op_sub (pe_callB (lenK K) rfl T.len (by decide +kernel) (pa_cons (pv 1) pa_nil)) pe_int) pa_nil))) pa_nil))))
  (pss_one (ps_if (pt_cmpR op_le (pe_op op_add (pv 7) pe_int) (pv 5) (nomark _)) (pss_cons (ps_expr (pe_bm PySem.F.plainAttrs_list PySem.F.slot_list_append PySem.F.type_list_append mt_append (pv 4) (pa_cons (pv 7) pa_nil)))
  (pss_one (ps_set (i := 5) sc__law_near.nd rfl (.inl rfl) (pe_op op_sub (pe_op op_sub (pv 5) (pv 7)) pe_int)))) pss_nil))))
  (pss_one (ps_ret (pe_callTy (tupleK K) rfl T.tuple (by decide +kernel) (pa_cons (pv 4) pa_nil)))))), ?_⟩
  -- found, left = [], sum(candles) + draw - 1
  refine ⟨Nat.zero_le _, fun l hl => ?_⟩
  have s0 : Same H (upd H l (.lst [])) := Same.new hl
  have hT0 := hT.same s0
  have hlt : l ≠ t := fun z => hT.ne_none hl z.symm
  have hla : l ≠ a := fun z => hT.ne_none2 hl z.symm
  refine ⟨_, rfl, c, cs, rfl, s0.sqt hC, _, rfl, t, a, 4, rfl, hT0, by omega, by omega, fun r H1 r0 r1 hT1 s1 => ⟨_, _, rfl, rfl, _, _, rfl, rfl, _, _, rfl, ?_⟩⟩
  have hL1 : H1 l = some (.lst (vi [])) := s1 _ _ upd_same hlt
  have sm1 : Smt t H H1 := (Smt.of s0).trans s1
  -- the loop
  refine ⟨_, rfl, size, rfl, by omega, by omega, for_range (lo := 0) (n := size.toNat) (fun i σ H' => ∃ (zs : List Int) (left : Int) (y1 y2 : Option V), σ = [some (.ref t), some (.ref c), some (.int size), some (.int top), some (.ref l), some (.int left), y1, y2] ∧
    zs.length ≤ i ∧ (∀ z ∈ zs, 0 ≤ z ∧ z ≤ top) ∧ H' l = some (.lst (vi zs)) ∧ TapeAt H' t a ∧ Smt t H H') ⟨[], _, none, none, rfl, Nat.le_refl _, (fun z hz => nomatch hz), hL1, hT1, sm1⟩ (fun i σ H2 hi hW => ?_) (fun σ H2 hW => ?_)⟩
  · obtain ⟨zs, left, y1, y2, rfl, hzl, hz, hL, hT2, sm⟩ := hW
    have hC2 : SqT K H2 c (vi cs) := sm.sqt hT hC
    -- draught = min(draw(top + 1), max(0, len(candles) - 1))
    refine ⟨_, rfl, _, rfl, _, _, rfl, rfl, t, a, top + 1, rfl, hT2, by omega, by omega, fun r' H3 q0 q1 hT3 s3 => ⟨_, rfl, c, vi cs, rfl, .inr (s3.sqt hT2 hC2), _, _, rfl, rfl, _, _, rfl, _, _, rfl, ?_⟩⟩
    have hd : ∃ d : Int, (if (if (((vi cs).length : Nat) : Int) - 1 > 0 then (((vi cs).length : Nat) : Int) - 1 else 0) < r' then (if (((vi cs).length : Nat) : Int) - 1 > 0 then (((vi cs).length : Nat) : Int) - 1 else 0) else r') = d ∧ 0 ≤ d ∧ d ≤ top := by
      by_cases e1 : (((vi cs).length : Nat) : Int) - 1 > 0
      · rw [if_pos e1]
        by_cases e2 : (((vi cs).length : Nat) : Int) - 1 < r'
        · exact ⟨_, if_pos e2, by omega, by omega⟩
        · exact ⟨_, if_neg e2, by omega, by omega⟩
      · rw [if_neg e1]
        by_cases e2 : (0 : Int) < r'
        · exact ⟨_, if_pos e2, by omega, by omega⟩
        · exact ⟨_, if_neg e2, by omega, by omega⟩
    obtain ⟨d, ed, d0, d1⟩ := hd
    rw [ed]
    have hL3 : H3 l = some (.lst (vi zs)) := s3 _ _ hL hlt
    have sm3 : Smt t H H3 := sm.trans s3
    refine ⟨_, rfl, _, _, rfl, rfl, _, rfl, _, _, rfl, rfl, _, rfl, if_b (fun _ => ?_) (fun _ => ?_)⟩
    · refine ⟨_, rfl, .inl ⟨rfl, _, SqL.of hL3⟩, _, rfl, l, _, _, rfl, rfl, hL3, ?_, _, rfl, _, rfl, _, _, rfl, rfl, _, _, rfl, rfl, zs ++ [d], _, _, _, rfl, ?_, all_snoc hz ⟨d0, d1⟩, ?_, hT3.but Smt.upd hlt.symm hla.symm, sm3.new hl⟩
      · rw [vi_len]
        exact small1000 (by omega)
      · rw [List.length_append]
        exact Nat.succ_le_succ hzl
      · rw [vi_snoc]
        exact upd_same
    · exact ⟨zs, left, _, _, rfl, Nat.le_succ_of_le hzl, hz, hL3, hT3, sm3⟩
  · obtain ⟨zs, left, y1, y2, rfl, hzl, hz, hL, hT2, sm⟩ := hW
    refine ⟨_, rfl, l, _, rfl, .inl ⟨SqL.of hL, fun p hp => ?_⟩⟩
    have hpt : p ≠ t := fun z => hT2.ne_none hp z.symm
    exact q p zs _ ⟨by omega, hz⟩ (hT2.upd hp) (sm.trans (Smt.of (Same.new hp))) (sm.free hp hpt) upd_same
/-! def _law_night -/
abbrev s__law_night : Stmt := topS 13
theorem sc__law_night : FnScope ["tape", "size", "wax", "ticks", "top", "candles"] ["tape", "size", "wax", "ticks", "top"] (defScope s__law_night) := ⟨rfl, rfl, rfl, by decide +kernel, rfl, by decide +kernel, by decide +kernel⟩
def spNight : Sp := fun vs H Q _ => ∃ (t a : Addr) (size wax ticks top : Int), vs = [.ref t, .int size, .int wax, .int ticks, .int top] ∧ TapeAt H t a ∧ 0 < size ∧ size ≤ 100 ∧ 0 < wax ∧ wax ≤ 100 ∧ 0 ≤ ticks ∧ ticks ≤ 100 ∧ 0 ≤ top ∧ top ≤ 100 ∧
  ∀ (p b c : Addr) (cs ds : List Int) (H' : Hp), CandOk size wax cs → DrOk ticks top ds → TapeAt H' t a → Smt t H H' → H' p = some (.tup [.ref b, .ref c]) → H' b = some (.tup (vi cs)) → H' c = some (.tup (vi ds)) → Q (.ref p) H'
theorem ok__law_night {f fD fC fR fN : Addr} {fd fdD fdC fdR fdN : FuncData} (T : Bl mg) (F : Fun K "_law_night" "_law_night" s__law_night f fd) (D__law_draw : FnAt K mg "_law_draw" "_law_draw" s__law_draw ["tape", "many"] fD fdD)
    (D__law_candles : FnAt K mg "_law_candles" "_law_candles" s__law_candles ["tape", "size", "wax"] fC fdC) (D__law_draughts : FnAt K mg "_law_draughts" "_law_draughts" s__law_draughts ["tape", "size", "top"] fR fdR) (D__law_near : FnAt K mg "_law_near" "_law_near" s__law_near ["tape", "candles", "size", "top"] fN fdN) :
    FnOk P w K mg base CX0 3 f fd ["tape", "size", "wax", "ticks", "top"] spNight := by
  have G__law_draw : FnOk P w K mg base CX0 2 fD fdD ["tape", "many"] spDraw := (ok__law_draw T D__law_draw.F).mono (by decide)
  have G__law_candles : FnOk P w K mg base CX0 2 fC fdC ["tape", "size", "wax"] spLCand := ok__law_candles T D__law_candles.F D__law_draw
  have G__law_draughts : FnOk P w K mg base CX0 2 fR fdR ["tape", "size", "top"] spLDr := ok__law_draughts T D__law_draughts.F D__law_draw
  have G__law_near : FnOk P w K mg base CX0 2 fN fdN ["tape", "candles", "size", "top"] (spNear K) := ok__law_near T D__law_near.F D__law_draw
  refine F.ok sc__law_night (fun vs H Q E h => ?_) (fun cdv A outer s H vs Q E hr h => ?_)
  · obtain ⟨t, a, size, wax, ticks, top, rfl, _⟩ := h
    rfl
  obtain ⟨t, a, size, wax, ticks, top, rfl, hT, hs0, hs1, hw0, hw1, ht0, ht1, hp0, hp1, q⟩ := h
  refine ⟨_, (pss_cons (ps_set (i := 5) sc__law_night.nd rfl (.inl rfl) (pe_call G__law_candles hr rfl D__law_candles.g D__law_candles.F.kp D__law_candles.b .nil pass0 (pa_cons (pv 0) (pa_cons (pv 1) (pa_cons (pv 2) pa_nil)))))
  (pss_cons (ps_if (pt_cmpR op_eq (pe_call G__law_draw hr rfl D__law_draw.g D__law_draw.F.kp D__law_draw.b .nil pass0 (pa_cons (pv 0) (pa_cons pe_int pa_nil))) pe_int (nomark _)) (pss_one (ps_ret (pe_tup (pa_cons (pv 5) (pa_cons (pe_call G__law_draughts hr rfl D__law_draughts.g D__law_draughts.F.kp D__law_draughts.b .nil pass0 (pa_cons (pv 0) (pa_cons (pv 3) (pa_cons (pv 4) pa_nil)))) pa_nil))))) pss_nil)
  (pss_one (ps_ret (pe_tup (pa_cons (pv 5) (pa_cons (pe_call G__law_near hr rfl D__law_near.g D__law_near.F.kp D__law_near.b .nil pass0 (pa_cons (pv 0) (pa_cons (pv 5) (pa_cons (pv 3) (pa_cons (pv 4) pa_nil))))) pa_nil))))))), ?_⟩
  refine ⟨_, rfl, _, rfl, _, rfl, t, a, size, wax, rfl, hT, hs0, hs1, hw0, hw1, fun b cs H1 hcs hT1 s1 _ hb => ?_⟩
  refine ⟨_, rfl, t, a, 3, rfl, hT1, by omega, by omega, fun r H2 r0 r1 hT2 s2 => ⟨rfl, _, rfl, if_b (fun _ => ?_) (fun _ => ?_)⟩⟩
  · have hb2 := s2.tup hT1 hb
    refine ⟨_, rfl, _, rfl, _, rfl, _, rfl, t, a, ticks, top, rfl, hT2, ht0, ht1, hp0, hp1, fun c ds H3 hds hT3 s3 _ hc => ⟨by show 2 ≤ sizeLine; decide, fun p hp => ?_⟩⟩
    have hb3 := s3.tup hT2 hb2
    have sn : Same H3 (upd H3 p (.tup [.ref b, .ref c])) := Same.new hp
    exact q p b c cs ds _ hcs hds (hT3.same sn) (((s1.trans s2).trans s3).trans (Smt.of sn)) upd_same (sn _ _ hb3) (sn _ _ hc)
  · have hb2 := s2.tup hT1 hb
    refine ⟨_, rfl, _, rfl, _, rfl, _, rfl, _, rfl, t, a, b, cs, ticks, top, rfl, hT2, SqT.of hb2, ht0, ht1, hp0, hp1, fun c ds H3 hds hT3 s3 _ hc => ⟨by show 2 ≤ sizeLine; decide, fun p hp => ?_⟩⟩
    have hb3 := s3.tup hT2 hb2
    have sn : Same H3 (upd H3 p (.tup [.ref b, .ref c])) := Same.new hp
    exact q p b c cs ds _ hcs hds (hT3.same sn) (((s1.trans s2).trans s3).trans (Smt.of sn)) upd_same (sn _ _ hb3) (sn _ _ hc)
/-! def _law_lots -/
abbrev s__law_lots : Stmt := topS 14
theorem sc__law_lots : FnScope ["some", "found", "place", "lot"] ["some"] (defScope s__law_lots) := ⟨rfl, rfl, rfl, by decide +kernel, rfl, by decide +kernel, by decide +kernel⟩
def spLLots (K : PySem.W.Frag) : Sp := fun vs H Q _ => ∃ (a : Addr) (ps : List Int) (tp : Bool), vs = [.ref a] ∧ SqB K tp H a (vi ps) ∧ ps.length ≤ 8 ∧ LotsQ K H Q ps
theorem ok__law_lots {f : Addr} {fd : FuncData} (T : Bl mg) (F : Fun K "_law_lots" "_law_lots" s__law_lots f fd) : FnOk P w K mg base CX0 1 f fd ["some"] (spLLots K) := by
  refine F.ok sc__law_lots (fun vs H Q E h => ?_) (fun cdv A outer s H vs Q E hr h => ?_)
  · obtain ⟨a, ps, tp, rfl, _⟩ := h
    rfl
  obtain ⟨a, ps, tp, rfl, hA, hl, q⟩ := h
  refine ⟨_, (pss_cons (ps_set (i := 1) sc__law_lots.nd rfl (.inl rfl) (pe_lst (pa_cons (pe_tup pa_nil) pa_nil)))
  (pss_cons (ps_for PassesOwn.never rfl (piB K tp (pv 0)) (pg_name (i := 2) sc__law_lots.nd rfl (.inr rfl)) (pss_one (ps_set (i := 1) sc__law_lots.nd rfl (.inl rfl) (pe_op op_cat (pv 1) (pe_lc (own := [("lot", 3)]) rfl sc__law_lots.nd (piL K (pv 1)) (blkOk_by (N := ["some", "found", "place", "lot"]) (sc := defScope s__law_lots) (own := [("lot", 3)]) (by decide +kernel)) (fun _ _ _ _ _ => (pg_name (i := 3) sc__law_lots.nd rfl (.inl rfl))) (fun _ _ _ _ _ => pts_nil) (fun _ _ _ _ _ => (pe_op (catK K) (pv 3) (pe_tup (pa_cons (pv 2) pa_nil)))))))))
  (pss_one (ps_ret (pv 1))))), ?_⟩
  refine ⟨by show 0 ≤ sizeLine; decide, fun t0 nt0 => ⟨by show 1 ≤ sizeLine; decide, fun o no => ?_⟩⟩
  have st : Same H (upd H t0 (.tup [])) := Same.new nt0
  have so : Same (upd H t0 (.tup [])) (upd (upd H t0 (.tup [])) o (.lst [.ref t0])) := Same.new no
  have s0 := st.trans so
  refine ⟨_, rfl, a, rfl, ⟨_, s0.sqb hA⟩, for_it (walk_B (K := K) (tp := tp) (a := a) (xs := vi ps)) (fun i σ H' => ∃ (r : Addr) (xs : List V) (y2 y3 : Option V), σ = [some (.ref a), some (.ref r), y2, y3] ∧ Same H H' ∧ H r = none ∧ H' r = some (.lst xs) ∧ Paired (VS K H') xs (lotsPF (ps.take i))) ⟨o, [.ref t0], none, none, rfl, s0, st.free no, upd_same, .cons ⟨t0, rfl, SqT.of (so _ _ upd_same)⟩ .nil⟩ (fun i σ H' _ ⟨_, _, _, _, _, sm, _⟩ => sm.sqb hA) (fun i x σ H1 H' _ hW hy => ?_) (fun σ H1 hW => ?_)⟩
  · obtain ⟨r, xs, y2, y3, rfl, sm, nr, hr1, hp⟩ := hW
    obtain ⟨rfl, hx⟩ := hy
    obtain ⟨pl, hpl, rfl⟩ := vi_get hx
    have hi := (List.getElem?_eq_some_iff.mp hpl).1
    have htk : (ps.take i).length ≤ 8 := by
      rw [List.length_take]
      omega
    have hsm := lots_small htk
    refine ⟨_, rfl, _, rfl, r, rfl, ⟨_, SqL.of hr1⟩, fun D hD => lc_rel (walk_list (xs := xs)) hD (by rw [paired_len hp]; omega) (VS K) (fun H H' D acc v p h s r => r.keep h s) (fun j => (lotsPF (ps.take i))[j]?.bind fun l => some (l ++ [pl])) (fun H' s => s.seq (SqL.of hr1)) (fun j x H2 H' kn ky hj sm2 y h1 h2 => ?_) (fun ys H2 sm2 e pr => ?_)⟩
    · obtain ⟨rfl, hx⟩ := y
      obtain ⟨l, hlj, t, rfl, ht⟩ := paired_get hp hx
      have hll := lotsPF_lens _ _ (List.mem_of_getElem? hlj)
      refine ⟨rfl, lc_yes ⟨_, rfl, _, rfl, by show 1 ≤ sizeLine; decide, fun e ne => ?_⟩⟩
      have s3 : Same H' (upd H' e (.tup [.int pl])) := Same.new ne
      refine cat_any ((sm2.trans s3).sqt ht) (SqT.of upd_same) (by rw [vi_len]; show _ + 1 ≤ 1000; omega) fun H4 g s4 hg => ?_
      refine h2 _ (l ++ [pl]) _ (s3.trans s4) (by rw [hlj]; rfl) ⟨g, rfl, ?_⟩
      rw [vi_snoc]
      exact hg
    · rw [paired_len hp, fm_at] at pr
      have hD1 := sm.free hD
      refine ⟨r, D, _, _, rfl, rfl, sm2 _ _ hr1, e, ?_, fun r2 nr2 => ?_⟩
      · rw [paired_len hp, paired_len pr, List.length_map]
        exact Nat.le_trans (show _ ≤ 1000 by omega) (by decide)
      have s5 : Same H2 (upd H2 r2 (.lst (xs ++ ys))) := Same.new nr2
      refine ⟨r2, xs ++ ys, _, _, rfl, (sm.trans sm2).trans s5, (sm.trans sm2).free nr2, upd_same, ?_⟩
      rw [take_next hpl, lotsPF_snoc]
      exact paired_app (paired_mono (fun v x r => r.same (sm2.trans s5)) hp) (paired_mono (fun v x r => r.same s5) pr)
  · obtain ⟨r, xs, y2, y3, rfl, sm, nr, hr1, hp⟩ := hW
    rw [vi_len, List.take_length] at hp
    exact ⟨_, rfl, q H1 r xs sm nr hr1 hp⟩
/-! def _law_burnt -/
abbrev s__law_burnt : Stmt := topS 15
theorem sc__law_burnt : FnScope ["candles", "lit", "out", "found", "place"] ["candles", "lit", "out"] (defScope s__law_burnt) := ⟨rfl, rfl, rfl, by decide +kernel, rfl, by decide +kernel, by decide +kernel⟩
def spLBurnt (K : PySem.W.Frag) : Sp := fun vs H Q _ => ∃ (a l o : Addr) (cs lit out : List Int) (t1 t2 : Bool), vs = [.ref a, .ref l, .ref o] ∧ SqT K H a (vi cs) ∧ SqB K t1 H l (vi lit) ∧ SqB K t2 H o (vi out) ∧ cs.length ≤ 1000 ∧ lit.Nodup ∧ (∀ i ∈ lit, 0 ≤ i ∧ i < (cs.length : Int)) ∧
  ∀ H' p, Same H H' → H p = none → H' p = some (.tup (vi (burntF cs lit out))) → Q (.ref p) H'
theorem ok__law_burnt {f : Addr} {fd : FuncData} (T : Bl mg) (F : Fun K "_law_burnt" "_law_burnt" s__law_burnt f fd) : FnOk P w K mg base CX0 1 f fd ["candles", "lit", "out"] (spLBurnt K) := by
  refine F.ok sc__law_burnt (fun vs H Q E h => ?_) (fun cdv A outer s H vs Q E hr h => ?_)
  · obtain ⟨a, l, o, cs, lit, out, tp, t2, rfl, _⟩ := h
    rfl
  obtain ⟨a, l, o, cs, lit, out, tp, t2, rfl, hS, hL, hO, hl, hn, hr2, q⟩ := h
  refine ⟨_, (pss_cons (ps_set (i := 3) sc__law_burnt.nd rfl (.inl rfl) (pe_callTy (listK K) rfl T.list (by decide +kernel) (pa_cons (pv 0) pa_nil)))
  (pss_cons (ps_for PassesOwn.never rfl (piB K tp (pv 1)) (pg_name (i := 4) sc__law_burnt.nd rfl (.inl rfl)) (pss_one (ps_if (pt_cmpR (notinK K) (pv 4) (pv 2) rfl) (pss_one (ps_asg (pe_op op_sub (pe_ix (ixL K) (pv 3) (pv 4) (fun _ _ => rfl)) pe_int) (pg_sub (pv 3) (pv 4) set_list))) pss_nil)))
  (pss_one (ps_ret (pe_callTy (tupleK K) rfl T.tuple (by decide +kernel) (pa_cons (pv 3) pa_nil)))))), ?_⟩
  refine ⟨_, rfl, a, vi cs, rfl, .inr hS, fun g ng => ?_⟩
  have s0 : Same H (upd H g (.lst (vi cs))) := Same.new ng
  refine ⟨_, rfl, l, rfl, ⟨_, s0.sqb hL⟩, for_it (walk_B (K := K) (tp := tp) (a := l) (xs := vi lit)) (fun i σ H' => ∃ (y4 : Option V), σ = [some (.ref a), some (.ref l), some (.ref o), some (.ref g), y4] ∧ Same H H' ∧ H' g = some (.lst (vi (burntF cs (lit.take i) out)))) ⟨none, rfl, s0, ?_⟩ (fun i σ H' _ ⟨_, _, sm, _⟩ => sm.sqb hL) (fun i x σ H1 H' hi hW hy => ?_) (fun σ H1 hW => ?_)⟩
  · rw [List.take_zero, burnt_none]
    exact upd_same
  · obtain ⟨y4, rfl, sm, hg⟩ := hW
    obtain ⟨rfl, hx⟩ := hy
    obtain ⟨z, hz, rfl⟩ := vi_get hx
    have hzm := hr2 z (List.mem_of_getElem? hz)
    refine ⟨_, rfl, _, rfl, o, vi out, rfl, sqb_or (sm.sqb hO), rfl, vi_flat _, _, rfl, if_b (fun c => ?_) (fun c => ?_)⟩
    · have c1 : z ∉ out := fun hm => by
        have c : (!inV (.int z) (vi out)) = true := c
        rw [inV_ints, decide_eq_true hm] at c
        cases c
      have ek : z = ((z.toNat : Nat) : Int) := (Int.toNat_of_nonneg hzm.1).symm
      have hkl : z.toNat < cs.length := by omega
      have hk : cs[z.toNat]? = some cs[z.toNat] := List.getElem?_eq_getElem hkl
      have hcur : (burntF cs (lit.take i) out)[z.toNat]? = some cs[z.toNat] := by
        rw [burntF_get hk]
        unfold bit
        rw [if_neg (fun q => nodup_next hn hz (by rw [← ek] at q; exact q.1)), Int.sub_zero]
      refine ⟨_, rfl, _, rfl, g, _, _, .int cs[z.toNat], rfl, rfl, SqL.of hg, at_of ek ?_, _, _, rfl, rfl, _, rfl, _, rfl, g, _, z, z.toNat, rfl, rfl, hg, ?_, _, rfl, sm.mut ng, ?_⟩
      · rw [List.getElem?_map, hcur]
        rfl
      · unfold ixN
        rw [vi_len, burntF_len, if_pos hzm.1, if_pos hzm.2]
      · rw [upd_same, take_next hz, ← burnt_step (nodup_next hn hz) c1 ek hk]
        exact congrArg (fun l => some (HO.lst l)) List.map_set.symm
    · have c1 : z ∈ out := by
        have c : (!inV (.int z) (vi out)) = false := c
        rw [inV_ints] at c
        by_cases hm : z ∈ out
        · exact hm
        · rw [decide_eq_false hm] at c
          cases c
      refine ⟨_, rfl, sm, ?_⟩
      rw [take_next hz, burnt_same c1]
      exact hg
  · obtain ⟨y4, rfl, sm, hg⟩ := hW
    rw [vi_len, List.take_length] at hg
    exact ⟨_, rfl, g, _, rfl, .inl ⟨SqL.of hg, fun p np => q _ p (sm.trans (Same.new np)) (sm.free np) upd_same⟩⟩
/-! def _law_answer -/
abbrev s__law_wins : Stmt := topS 16
theorem sc__law_wins : FnScope ["candles", "left", "table", "state", "at"] ["candles", "left", "table"] (defScope s__law_wins) := ⟨rfl, rfl, rfl, by decide +kernel, rfl, by decide +kernel, by decide +kernel⟩
abbrev s__law_answer : Stmt := topS 17
theorem sc__law_answer : FnScope ["candles", "left", "at", "table", "rest", "lit", "bad", "gone", "place", "wax"] ["candles", "left", "at", "table"] (defScope s__law_answer) := ⟨rfl, rfl, rfl, by decide +kernel, rfl, by decide +kernel, by decide +kernel⟩
theorem dp_vs {K : PySem.W.Frag} {H : Hp} : ∀ {xs : List V} {css : List (List Int)}, Paired (VS K H) xs css → DpAll K H xs (dts css)
  | _, _, .nil => .nil
  | _, _, .cons r t => by
    obtain ⟨a, e, ha⟩ := r
    subst e
    exact .cons (dp_tup ha) (dp_vs t)
theorem VS.tab {P : Program} {w : World} {K : PySem.W.Frag} {tb : Addr} {H H' : Hp} {v : V} {c : List Int} (h : Tab P w tb H) (s : Smt tb H H') (r : VS K H v c) : VS K H' v c := by
  obtain ⟨t, e, ht⟩ := r
  exact ⟨t, e, h.sqt s ht⟩
theorem VS.sm {K : PySem.W.Frag} {H H' : Hp} {v : V} {c : List Int} (s : Same H H') (r : VS K H v c) : VS K H' v c := by
  obtain ⟨t, e, ht⟩ := r
  exact ⟨t, e, s.sqt ht⟩
def spWins (P : Program) (w : World) (K : PySem.W.Frag) (n : Nat) : Sp := fun vs H Q _ => ∃ (a b tb : Addr) (cs ds : List Int), vs = [.ref a, .ref b, .ref tb] ∧ SqT K H a (vi cs) ∧ SqT K H b (vi ds) ∧ Tab P w tb H ∧ KIn (cs, ds) ∧ ds.length < n ∧ ∀ H', Smt tb H H' → Tab P w tb H' → Q (.bl (can cs ds)) H'
def spAnswer (P : Program) (w : World) (K : PySem.W.Frag) (n : Nat) : Sp := fun vs H Q _ => ∃ (a b tb : Addr) (cs ds : List Int) (z : Int) (i : Nat), vs = [.ref a, .ref b, .int z, .ref tb] ∧ z = (i : Int) ∧ SqT K H a (vi cs) ∧ SqT K H b (vi ds) ∧ Tab P w tb H ∧ KIn (cs, ds) ∧ ds.length < n + 1 ∧ i < ds.length ∧ ∀ H', Smt tb H H' → Tab P w tb H' → Q (.bl (can cs ds)) H'
theorem answer_step {n : Nat} (T : Bl mg) {f__law_answer : Addr} {fd__law_answer : FuncData} (D__law_answer : FnAt K mg "_law_answer" "_law_answer" s__law_answer ["candles", "left", "at", "table"] f__law_answer fd__law_answer) {f__law_wins : Addr} {fd__law_wins : FuncData} (D__law_wins : FnAt K mg "_law_wins" "_law_wins" s__law_wins ["candles", "left", "table"] f__law_wins fd__law_wins) {f__law_lots : Addr} {fd__law_lots : FuncData} (D__law_lots : FnAt K mg "_law_lots" "_law_lots" s__law_lots ["some"] f__law_lots fd__law_lots) {f__law_burnt : Addr} {fd__law_burnt : FuncData} (D__law_burnt : FnAt K mg "_law_burnt" "_law_burnt" s__law_burnt ["candles", "lit", "out"] f__law_burnt fd__law_burnt) (G__law_wins : FnOk P w K mg base CX0 (2 * n + 1) f__law_wins fd__law_wins ["candles", "left", "table"] (spWins P w K n)) : FnOk P w K mg base CX0 (2 * n + 2) f__law_answer fd__law_answer ["candles", "left", "at", "table"] (spAnswer P w K n) := by
  have G__law_lots : FnOk P w K mg base CX0 (2 * n + 1) f__law_lots fd__law_lots _ (spLLots K) := (ok__law_lots T D__law_lots.F).mono (by omega)
  have G__law_burnt : FnOk P w K mg base CX0 (2 * n + 1) f__law_burnt fd__law_burnt _ (spLBurnt K) := (ok__law_burnt T D__law_burnt.F).mono (by omega)
  refine D__law_answer.F.ok sc__law_answer (fun vs H Q E h => ?_) (fun cdv A outer s H vs Q E hr h => ?_)
  · obtain ⟨a, b, tb, cs, ds, z, i, rfl, _⟩ := h
    rfl
  obtain ⟨a, b, tb, cs, ds, z, i, rfl, rfl, hA, hB, hTb, hK, hdn, hi, q⟩ := h
  have hcl : cs.length ≤ 4 := hK.1
  have hdl : ds.length ≤ 4 := hK.2.1
  have hc3 : ∀ c ∈ cs, 0 ≤ c ∧ c ≤ 3 := hK.2.2.1
  have hd3 : ∀ c ∈ ds, 0 ≤ c ∧ c ≤ 3 := hK.2.2.2
  have c0 : ∀ c ∈ cs, 0 ≤ c := fun c hc => (hc3 c hc).1
  have d0 : ∀ c ∈ ds, 0 ≤ c := fun c hc => (hd3 c hc).1
  obtain ⟨d, hd⟩ : ∃ d, ds[i]? = some d := ⟨_, List.getElem?_eq_getElem hi⟩
  have hbi : atI (vi ds) ((i : Nat) : Int) = some (.int d) := atI_nat (by show (ds.map V.int)[i]? = _; rw [List.getElem?_map, hd]; rfl)
  have ei : ((i : Nat) : Int) + 1 = ((i + 1 : Nat) : Int) := by omega
  refine ⟨_, (pss_cons (ps_set (i := 4) sc__law_answer.nd rfl (.inl rfl) (pe_op (catK K) (pe_slice (slT K) (pv 1) po_none (po_some (pv 2))) (pe_slice (slT K) (pv 1) (po_some (pe_op op_add (pv 2) pe_int)) po_none)))
  (pss_cons (ps_for PassesOwn.never rfl (piL K (pe_call G__law_lots hr rfl D__law_lots.g D__law_lots.F.kp D__law_lots.b .nil pass0 (pa_cons (pe_lc (own := [("place", 8), ("wax", 9)]) rfl sc__law_answer.nd (enumK K true rfl T.enumerate (pa_cons (pv 0) pa_nil)) (blkOk_by (N := ["candles", "left", "at", "table", "rest", "lit", "bad", "gone", "place", "wax"]) (sc := defScope s__law_answer) (own := [("place", 8), ("wax", 9)]) (by decide +kernel)) (fun _ _ _ _ _ => (pgT K 2 rfl (pgs_cons (pg_name (i := 8) sc__law_answer.nd rfl (.inl rfl)) (pgs_cons (pg_name (i := 9) sc__law_answer.nd rfl (.inl rfl)) pgs_nil)))) (fun _ _ _ _ _ => (pts_one (pt_cmpR op_gt (pv 9) pe_int (nomark _)))) (fun _ _ _ _ _ => (pv 8))) pa_nil))) (pg_name (i := 5) sc__law_answer.nd rfl (.inl rfl)) (pss_one (ps_if (pt_cmpR op_gt (pe_callB (lenK K) rfl T.len (by decide +kernel) (pa_cons (pv 5) pa_nil)) (pe_ix (ixT K) (pv 1) (pv 2) (fun _ _ => rfl)) (nomark _)) (pss_cons (ps_set (i := 6) sc__law_answer.nd rfl (.inl rfl) (pe_lst pa_nil))
  (pss_cons (ps_for PassesOwn.never rfl (piL K (pe_call G__law_lots hr rfl D__law_lots.g D__law_lots.F.kp D__law_lots.b .nil pass0 (pa_cons (pv 5) pa_nil))) (pg_name (i := 7) sc__law_answer.nd rfl (.inl rfl)) (pss_one (ps_if (PW.pt (pw_and (pt_cmpR op_le (pe_callB (lenK K) rfl T.len (by decide +kernel) (pa_cons (pv 7) pa_nil)) (pe_ix (ixT K) (pv 1) (pv 2) (fun _ _ => rfl)) (nomark _)) (pw_and (pt_cmpR (eqDK K hr.units) (pv 6) (pe_lst pa_nil) (nomark _)) (pw_and1 (pt_not (pt_val (pe_call G__law_wins hr rfl D__law_wins.g D__law_wins.F.kp D__law_wins.b .nil pass0 (pa_cons (pe_call G__law_burnt hr rfl D__law_burnt.g D__law_burnt.F.kp D__law_burnt.b .nil pass0 (pa_cons (pv 0) (pa_cons (pv 5) (pa_cons (pv 7) pa_nil)))) (pa_cons (pv 4) (pa_cons (pv 3) pa_nil)))))))))) (pss_one (ps_expr (pe_bm PySem.F.plainAttrs_list PySem.F.slot_list_append PySem.F.type_list_append mt_append (pv 6) (pa_cons (pv 7) pa_nil)))) pss_nil)))
  (pss_one (ps_if (pt_cmpR (eqDK K hr.units) (pv 6) (pe_lst pa_nil) (nomark _)) (pss_one (ps_ret pe_bl)) pss_nil)))) pss_nil)))
  (pss_one (ps_ret pe_bl)))), ?_⟩
  -- rest = left[:at] + left[at + 1:]
  refine ⟨_, rfl, _, rfl, _, rfl, sl_any hB fun H1 g1 s1 hg1 => ?_⟩
  rw [cut_take ds i (by omega)] at hg1
  refine ⟨_, rfl, _, rfl, _, _, rfl, rfl, _, rfl, noPart (sl_any (s1.sqt hB) fun H2 g2 s2 hg2 => ?_)⟩
  rw [ei, cut_drop ds (i + 1) (by omega)] at hg2
  refine cat_any (s2.sqt hg1) hg2 (by rw [vi_len, vi_len, List.length_take, List.length_drop]; omega) fun H3 g3 s3 hg3 => ?_
  rw [← vi_app] at hg3
  have s13 := s1.trans (s2.trans s3)
  have hA3 := s13.sqt hA
  have hB3 := s13.sqt hB
  have hT3 := hTb.same s13
  have hrl : (ds.take i ++ ds.drop (i + 1)).length < n := by
    rw [List.length_append, List.length_take, List.length_drop]
    omega
  have hrl4 : (ds.take i ++ ds.drop (i + 1)).length ≤ 4 := by
    rw [List.length_append, List.length_take, List.length_drop]
    omega
  have hr3 : ∀ c ∈ ds.take i ++ ds.drop (i + 1), 0 ≤ c ∧ c ≤ 3 := mem_app_all (fun c hc => hd3 c (List.mem_of_mem_take hc)) (fun c hc => hd3 c (List.mem_of_mem_drop hc))
  -- [place for place, wax in enumerate(candles) if wax > 0]
  have hCB : SqB K true H3 a (vi cs) := hA3
  refine ⟨_, rfl, a, vi cs, rfl, hCB, fun D hD => ?_⟩
  refine lc_ints (walk_enumB (tp := true) (xs := vi cs)) hD (by rw [vi_len]; omega) (fun i => cs[i]?.bind fun w => if 0 < w then some (i : Int) else none) (fun H' s => s.sqt hA3) (fun j x H4 H' kn ky hj sm y h1 h2 => ?_) (fun H4 s4 e => ?_)
  · obtain ⟨tt, x1, x2, rfl, nT, rfl, e1, e2⟩ := y
    cases Option.some.inj e1
    obtain ⟨z, hz, rfl⟩ := vi_get e2
    have sn : Same H4 (upd H4 tt (.tup [.int (j : Nat), .int z])) := Same.new nT
    refine ⟨tt, _, rfl, SqT.of upd_same, rfl, _, _, rfl, _, _, rfl, rfl, rfl, _, rfl, _, _, rfl, rfl, _, rfl, if_b (fun c => ?_) (fun c => ?_)⟩
    · exact ⟨_, rfl, h2 _ _ sn (by rw [hz]; exact if_pos (of_decide_eq_true c))⟩
    · exact h1 _ sn (by rw [hz]; exact if_neg (of_decide_eq_false c))
  rw [vi_len] at e
  have e : H4 D = some (.lst (vi (litP cs))) := e
  refine ⟨D, litP cs, false, rfl, SqL.of e, by have := litP_len cs; omega, fun H5 p xs s5 np hp hpr => ?_⟩
  have s35 := s4.trans s5
  have hA5 := s35.sqt hA3
  have hB5 := s35.sqt hB3
  have hg5 := s35.sqt hg3
  have hT5 := hT3.same s35
  have s05 : Smt tb H H5 := Smt.of (s13.trans s35)
  have hll : (lotsPF (litP cs)).length ≤ 256 := lots_small (by have := litP_len cs; omega)
  -- the lot that goes, where one goes
  obtain ⟨js, hjs⟩ : ∃ js : Nat, can cs ds = true → ∃ l, (lotsPF (litP cs))[js]? = some l ∧ (l.length : Int) = d + 1 ∧ ∀ gone, can (burntF cs l gone) (ds.take i ++ ds.drop (i + 1)) = true := by
    cases hc : can cs ds with
    | false => exact ⟨0, fun z => by cases z⟩
    | true =>
      obtain ⟨l, hl, h1, h2⟩ := win_lit c0 d0 hd hc
      obtain ⟨js, hj⟩ := List.getElem?_of_mem hl
      exact ⟨js, fun _ => ⟨l, hj, h1, h2⟩⟩
  refine ⟨p, rfl, ⟨_, SqL.of hp⟩, for_list (K := K) (a := p) (xs := xs) (fun j σ H' => ∃ (y5 y6 y7 y8 y9 : Option V), σ = [some (.ref a), some (.ref b), some (.int (i : Int)), some (.ref tb), some (.ref g3), y5, y6, y7, y8, y9] ∧ Smt tb H5 H' ∧ Tab P w tb H' ∧ (can cs ds = true → j ≤ js)) ⟨_, _, _, _, _, rfl, Smt.refl _ _, hT5, fun _ => Nat.zero_le _⟩ (fun j σ H' _ hW => ?_) (fun j x σ H6 hx hW => ?_) (fun σ H6 hW => ?_)⟩
  · obtain ⟨_, _, _, _, _, _, sm, _, _⟩ := hW
    exact SqL.of (sm _ _ hp (hT5.ne_l hp))
  · obtain ⟨y5, y6, y7, y8, y9, rfl, sm, hT6, hjj⟩ := hW
    obtain ⟨l, hl, hv⟩ := paired_get hpr hx
    obtain ⟨t, rfl, ht6⟩ := hv.tab hT5 sm
    have hlm := List.mem_of_getElem? hl
    have hlw := sub_lw (lots_sub.mp hlm)
    have hl4 : l.length ≤ 4 := by
      have := lotsPF_lens _ _ hlm
      have := litP_len cs
      omega
    have hB6 := hT5.sqt sm hB5
    refine ⟨_, rfl, t, vi l, rfl, .inr ht6, _, rfl, _, rfl, b, _, _, _, rfl, rfl, hB6, hbi, _, _, rfl, rfl, _, rfl, if_b (fun c => ?_) (fun c => ?_)⟩
    · have c := of_decide_eq_true c
      rw [vi_len] at c
      -- bad = []
      refine ⟨Nat.zero_le _, fun ba nba => ?_⟩
      have s7 : Same H6 (upd H6 ba (.lst [])) := Same.new nba
      have hba7 : (upd H6 ba (.lst [])) ba = some (.lst []) := upd_same
      have hT7 := hT6.same s7
      have ht7 := s7.sqt ht6
      refine ⟨_, rfl, t, l, true, rfl, ht7, by omega, fun H8 p2 xs2 s8 np2 hp2 hpr2 => ?_⟩
      have xp2 : p2 ≠ ba := fun z => by
        rw [z, hba7] at np2
        cases np2
      have hba8 := s8 _ _ hba7
      have hT8 := hT7.same s8
      have sm8 : Smt tb H6 H8 := Smt.of (s7.trans s8)
      have xba : ba ≠ tb := hT8.ne_l hba8
      refine ⟨p2, rfl, ⟨_, SqL.of hp2⟩, for_list (K := K) (a := p2) (xs := xs2) (fun m σ H' => ∃ (bs : List V) (B : List (List Int)) (y7 : Option V), σ = [some (.ref a), some (.ref b), some (.int (i : Int)), some (.ref tb), some (.ref g3), some (.ref t), some (.ref ba), y7, y8, y9] ∧ Smt tb H6 H' ∧ Tab P w tb H' ∧ H' ba = some (.lst bs) ∧ H' p2 = some (.lst xs2) ∧ Paired (VS K H') xs2 (lotsPF l) ∧ Paired (VS K H') bs B ∧ B.length ≤ 1 ∧ (can cs ds = true → j = js → B = []) ∧ (can cs ds = false → 1 ≤ m → B ≠ []) ∧ (m = 0 → B = [])) ⟨[], [], _, rfl, sm8, hT8, hba8, hp2, hpr2, .nil, Nat.zero_le _, fun _ _ => rfl, (fun _ z => absurd z (by decide)), fun _ => rfl⟩ (fun m σ H' _ hW => ?_) (fun m x σ H9 hx2 hW => ?_) (fun σ H9 hW => ?_)⟩
      · obtain ⟨_, _, _, _, _, _, _, h, _⟩ := hW
        exact SqL.of h
      · obtain ⟨bs, B, y7, rfl, sm9, hT9, hba9, hp29, hpr9, hpB, hB1, hBt, hBf, hB0⟩ := hW
        obtain ⟨g, hg, t2, rfl, ht2⟩ := paired_get hpr9 hx2
        have hgm := List.mem_of_getElem? hg
        have hgl := lotsPF_lens _ _ hgm
        have hB9 := hT6.sqt sm9 hB6
        have first : m = 0 → g = [] := fun z => by
          rw [z, lots_first] at hg
          exact (Option.some.inj hg).symm
        -- if len(gone) <= left[at] and bad == [] and not _law_wins(..)
        refine ⟨_, rfl, t2, vi g, rfl, .inr ht2, _, rfl, _, rfl, b, _, _, _, rfl, rfl, hB9, hbi, _, _, rfl, rfl, _, rfl, if_b (fun c1 => ?_) (fun c1 => if_f rfl ?_)⟩
        · refine ⟨_, rfl, Nat.zero_le _, fun em nem => ?_⟩
          have sa : Same H9 (upd H9 em (.lst [])) := Same.new nem
          refine ⟨.list (dts B), .list (di []), .lst (SqL.of (sa _ _ hba9)) (dp_vs (paired_mono (fun v x (r : VS K _ v x) => r.sm sa) hpB)), dp_list (SqL.of upd_same), shaped_dts _, shaped_ints _, _, rfl, ?_⟩
          rw [eqv_nil]
          have hT10 := hT9.same sa
          have sm10 := sm9.trans (Smt.of sa)
          have hba10 := sa _ _ hba9
          have hp10 := sa _ _ hp29
          have hpr10 := paired_mono (fun v x (r : VS K _ v x) => r.sm sa) hpr9
          have hpB10 := paired_mono (fun v x (r : VS K _ v x) => r.sm sa) hpB
          have ht10 := sa.sqt ht2
          generalize upd H9 em (.lst []) = H10 at sa hT10 sm10 hba10 hp10 hpr10 hpB10 ht10
          refine if_b (fun c2 => ?_) (fun c2 => if_f rfl ?_)
          · have hBn : B = [] := by
              cases B with
              | nil => rfl
              | cons x r => cases c2
            subst hBn
            cases hpB10
            -- _law_burnt(candles, lit, gone)
            refine ⟨_, rfl, _, rfl, _, rfl, a, t, t2, cs, l, g, true, true, rfl, hT5.sqt (sm.trans sm10) hA5, hT6.sqt sm10 ht6, ht10, by omega, hlw.nd, fun x hx => ?_, fun H11 p3 s11 np3 hp3 => ?_⟩
            · obtain ⟨k, w, rfl, hk, _⟩ := hlw.wax x hx
              have := (List.getElem?_eq_some_iff.mp hk).1
              omega
            have hT11 := hT10.same s11
            refine ⟨_, rfl, _, rfl, p3, g3, tb, burntF cs l g, ds.take i ++ ds.drop (i + 1), rfl, SqT.of hp3, hT5.sqt (sm.trans (sm10.trans (Smt.of s11))) hg5, hT11, ⟨by show (burntF cs l g).length ≤ 4; rw [burntF_len]; exact hcl, hrl4, burnt_in hlw hc3, hr3⟩, hrl, fun H12 s12 hT12 => ⟨_, rfl, ?_⟩⟩
            have sm12 := sm10.trans ((Smt.of s11).trans s12)
            have s1012 : Smt tb H10 H12 := (Smt.of s11).trans s12
            have hba12 := s1012 _ _ hba10 xba
            have hp12 := s1012 _ _ hp10 (hT10.ne_l hp10)
            have hpr12 := paired_mono (fun v x (r : VS K _ v x) => r.tab hT10 s1012) hpr10
            have ht12 := hT10.sqt s1012 ht10
            cases hw : can (burntF cs l g) (ds.take i ++ ds.drop (i + 1)) with
            | true =>
              refine if_f rfl ?_
              refine ⟨[], [], _, rfl, sm12, hT12, hba12, hp12, hpr12, .nil, Nat.zero_le _, fun _ _ => rfl, fun hf h1 => ?_, fun _ => rfl⟩
              exfalso
              by_cases hm : m = 0
              · have hg0 := first hm
                subst hg0
                rw [lose_lit c0 hd hf hlm (by omega)] at hw
                cases hw
              · exact hBf hf (by omega) rfl
            | false =>
              refine if_t rfl ?_
              -- bad.append(gone)
              refine ⟨_, rfl, .inl ⟨rfl, _, SqL.of hba12⟩, _, rfl, ba, _, _, rfl, rfl, hba12, small1000 (by decide), ?_⟩
              have su : Smt ba H12 (upd H12 ba (.lst ([] ++ [V.ref t2]))) := Smt.upd
              refine ⟨[] ++ [V.ref t2], [] ++ [g], _, rfl, sm12.new nba, hT12.upd hba12, upd_same, ?_, paired_mono (fun v x (r : VS K _ v x) => r.keep hba12 su) hpr12, .cons ⟨t2, rfl, sqt_keep hba12 su ht12⟩ .nil, Nat.le_refl _, fun ht hj => ?_, (fun _ _ z => by cases z), fun z => by cases z⟩
              · rw [upd_ne xp2]
                exact hp12
              · exfalso
                obtain ⟨l2, hl2, _, hall⟩ := hjs ht
                rw [← hj, hl] at hl2
                cases hl2
                rw [hall g] at hw
                cases hw
          · have hBn : B ≠ [] := fun z => by
              rw [z] at c2
              cases c2
            exact ⟨bs, B, _, rfl, sm10, hT10, hba10, hp10, hpr10, hpB10, hB1, hBt, fun _ _ => hBn, fun z => by cases z⟩
        · have c1 := of_decide_eq_false c1
          rw [vi_len] at c1
          have hd0 := d0 d (List.mem_of_getElem? hd)
          refine ⟨bs, B, _, rfl, sm9, hT9, hba9, hp29, hpr9, hpB, hB1, hBt, fun hf h1 => ?_, fun z => by cases z⟩
          by_cases hm : m = 0
          · rw [first hm] at c1
            have c1 : ¬ (0 : Int) ≤ d := c1
            omega
          · exact hBf hf (by omega)
      · obtain ⟨bs, B, y7, rfl, sm9, hT9, hba9, hp29, hpr9, hpB, hB1, hBt, hBf, hB0⟩ := hW
        have hx1 : 1 ≤ xs2.length := by
          rw [paired_len hpr9]
          have := (List.getElem?_eq_some_iff.mp (lots_first l)).1
          omega
        -- if bad == []
        refine ⟨_, rfl, Nat.zero_le _, fun em nem => ?_⟩
        have sa : Same H9 (upd H9 em (.lst [])) := Same.new nem
        refine ⟨.list (dts B), .list (di []), .lst (SqL.of (sa _ _ hba9)) (dp_vs (paired_mono (fun v x (r : VS K _ v x) => r.sm sa) hpB)), dp_list (SqL.of upd_same), shaped_dts _, shaped_ints _, _, rfl, ?_⟩
        rw [eqv_nil]
        have sm0 : Smt tb H5 (upd H9 em (.lst [])) := sm.trans (sm9.trans (Smt.of sa))
        have hTe := hT9.same sa
        refine if_b (fun c2 => ?_) (fun c2 => ?_)
        · have hBn : B = [] := by
            cases B with
            | nil => rfl
            | cons x r => cases c2
          have hct : can cs ds = true := by
            cases hc : can cs ds with
            | true => rfl
            | false => exact absurd hBn (hBf hc hx1)
          rw [hct] at q
          exact q _ (s05.trans sm0) hTe
        · refine ⟨_, _, _, _, _, rfl, sm0, hTe, fun hc => ?_⟩
          have hle := hjj hc
          by_cases hj : j = js
          · rw [hBt hc hj] at c2
            cases c2
          · omega
    · have c := of_decide_eq_false c
      rw [vi_len] at c
      refine ⟨_, _, _, _, _, rfl, sm, hT6, fun hc => ?_⟩
      have hle := hjj hc
      by_cases hj : j = js
      · obtain ⟨l2, hl2, hlen, _⟩ := hjs hc
        rw [← hj, hl] at hl2
        cases hl2
        omega
      · omega
  · obtain ⟨y5, y6, y7, y8, y9, rfl, sm, hT6, hjj⟩ := hW
    have hcf : can cs ds = false := by
      cases hc : can cs ds with
      | false => rfl
      | true =>
        obtain ⟨l2, hl2, _⟩ := hjs hc
        have h1 := (List.getElem?_eq_some_iff.mp hl2).1
        have h2 := hjj hc
        rw [paired_len hpr] at h2
        omega
    rw [hcf] at q
    exact q _ (s05.trans sm) hT6
/-! def _law_wins -/
theorem wins_none {f : Addr} {fd : FuncData} : FnOk P w K mg base CX0 1 f fd ["candles", "left", "table"] (spWins P w K 0) := by
  have no : ∀ vs H Q E, ¬ spWins P w K 0 vs H Q E := fun vs H Q E h => by
    obtain ⟨a, b, tb, cs, ds, _, _, _, _, _, h0, _⟩ := h
    exact absurd h0 (Nat.not_lt_zero _)
  exact ⟨fun vs H Q E h => absurd h (no vs H Q E), fun A outer s H args us vs Q E _ _ _ _ h => absurd h (no vs H Q E)⟩
theorem kin_perm {cs ds as bs : List Int} (h : KIn (cs, ds)) (h1 : as.Perm cs) (h2 : bs.Perm ds) : KIn (as, bs) :=
  ⟨by have := h1.length_eq; have q : cs.length ≤ 4 := h.1; show as.length ≤ 4; omega, by have := h2.length_eq; have q : ds.length ≤ 4 := h.2.1; show bs.length ≤ 4; omega, fun c hc => h.2.2.1 c (h1.mem_iff.mp hc), fun c hc => h.2.2.2 c (h2.mem_iff.mp hc)⟩
theorem wins_step {n : Nat} (T : Bl mg) {f__law_answer : Addr} {fd__law_answer : FuncData} (D__law_answer : FnAt K mg "_law_answer" "_law_answer" s__law_answer ["candles", "left", "at", "table"] f__law_answer fd__law_answer) {f__law_wins : Addr} {fd__law_wins : FuncData} (D__law_wins : FnAt K mg "_law_wins" "_law_wins" s__law_wins ["candles", "left", "table"] f__law_wins fd__law_wins) (G__law_answer : FnOk P w K mg base CX0 (2 * n + 2) f__law_answer fd__law_answer ["candles", "left", "at", "table"] (spAnswer P w K n)) : FnOk P w K mg base CX0 (2 * n + 3) f__law_wins fd__law_wins ["candles", "left", "table"] (spWins P w K (n + 1)) := by
  refine D__law_wins.F.ok sc__law_wins (fun vs H Q E h => ?_) (fun cdv A outer s H vs Q E hr h => ?_)
  · obtain ⟨a, b, tb, cs, ds, rfl, _⟩ := h
    rfl
  obtain ⟨a, b, tb, cs, ds, rfl, hA, hB, hTb, hK, hdn, q⟩ := h
  have hdl : ds.length ≤ 4 := hK.2.1
  refine ⟨_, (pss_cons (ps_set (i := 3) sc__law_wins.nd rfl (.inr rfl) (pe_tup (pa_cons (pe_callTy (tupleK K) rfl T.tuple (by decide +kernel) (pa_cons (pe_callB (sortedTK K) rfl T.sorted (by decide +kernel) (pa_cons (pv 0) pa_nil)) pa_nil)) (pa_cons (pe_callTy (tupleK K) rfl T.tuple (by decide +kernel) (pa_cons (pe_callB (sortedTK K) rfl T.sorted (by decide +kernel) (pa_cons (pv 1) pa_nil)) pa_nil)) pa_nil))))
  (C8.pss_cut (ps_if (pt_cmpR (op_dnotin P w hr.units) (pv 3) (pv 2) rfl) (pss_one (ps_dputN P w hr.units (pv 2) (pv 3) (pe_cmpR (eqDK K hr.units) (pe_lc (own := [("at", 4)]) rfl sc__law_wins.nd (pi_range1 rfl T.range (pa_cons (pe_callB (lenK K) rfl T.len (by decide +kernel) (pa_cons (pv 1) pa_nil)) pa_nil)) (blkOk_by (N := ["candles", "left", "table", "state", "at"]) (sc := defScope s__law_wins) (own := [("at", 4)]) (by decide +kernel)) (fun _ _ _ _ _ => (pg_name (i := 4) sc__law_wins.nd rfl (.inl rfl))) (fun _ _ _ _ _ => (pts_one (pt_not (pt_val (pe_call G__law_answer hr rfl D__law_answer.g D__law_answer.F.kp D__law_answer.b .nil pass0 (pa_cons (pe_ix (ixT K) (pv 3) pe_int (fun _ _ => rfl)) (pa_cons (pe_ix (ixT K) (pv 3) pe_int (fun _ _ => rfl)) (pa_cons (pv 4) (pa_cons (pv 2) pa_nil))))))))) (fun _ _ _ _ _ => pe_int)) (pe_lst pa_nil) (nomark _)))) pss_nil)
  (pss_one (ps_ret (pe_dgetN P w hr.units (pv 2) (pv 3) (fun _ _ => rfl)))))), ?_⟩
  -- state
  refine ⟨_, rfl, a, cs, rfl, hA, fun ns p1 hp1 _ np1 => ⟨p1, _, rfl, .inl ⟨SqL.of upd_same, fun u nu => ?_⟩⟩⟩
  have s1 : Same H (upd H p1 (.lst (vi ns))) := Same.new np1
  have s2 : Same (upd H p1 (.lst (vi ns))) (upd (upd H p1 (.lst (vi ns))) u (.tup (vi ns))) := Same.new nu
  have hu2 : (upd (upd H p1 (.lst (vi ns))) u (.tup (vi ns))) u = some (.tup (vi ns)) := upd_same
  have s12 := s1.trans s2
  generalize upd (upd H p1 (.lst (vi ns))) u (.tup (vi ns)) = H2 at s2 s12 hu2
  refine ⟨_, rfl, b, ds, rfl, s12.sqt hB, fun ms p2 hp2 _ np2 => ⟨p2, _, rfl, .inl ⟨SqL.of upd_same, fun v nv => ?_⟩⟩⟩
  have s3 : Same H2 (upd H2 p2 (.lst (vi ms))) := Same.new np2
  have s4 : Same (upd H2 p2 (.lst (vi ms))) (upd (upd H2 p2 (.lst (vi ms))) v (.tup (vi ms))) := Same.new nv
  have hv4 : (upd (upd H2 p2 (.lst (vi ms))) v (.tup (vi ms))) v = some (.tup (vi ms)) := upd_same
  have s34 := s3.trans s4
  have hu4 := s34 _ _ hu2
  generalize upd (upd H2 p2 (.lst (vi ms))) v (.tup (vi ms)) = H4 at s4 s34 hv4 hu4
  refine ⟨by show 2 ≤ sizeLine; decide, fun e ne => ?_⟩
  have s5 : Same H4 (upd H4 e (.tup [.ref u, .ref v])) := Same.new ne
  have he5 : (upd H4 e (.tup [.ref u, .ref v])) e = some (.tup [.ref u, .ref v]) := upd_same
  have hu5 := s5 _ _ hu4
  have hv5 := s5 _ _ hv4
  have s05 := s12.trans (s34.trans s5)
  have hB5 := s05.sqt hB
  have hT5 := hTb.same s05
  generalize upd H4 e (.tup [.ref u, .ref v]) = H5 at s5 s05 he5 hu5 hv5 hB5 hT5
  have hkey : KeyAt H5 e (ns, ms) := ⟨u, v, he5, hu5, hv5⟩
  have hcan : can ns ms = can cs ds := can_perm hp1 hp2
  have hKn : KIn (ns, ms) := kin_perm hK hp1 hp2
  have hml : ms.length = ds.length := hp2.length_eq
  -- if state not in table
  refine ⟨fun σ' H' => ∃ y4 : Option V, σ' = [some (.ref a), some (.ref b), some (.ref tb), some (.ref e), y4] ∧ Smt tb H5 H' ∧ ∃ xs, H' tb = some (DicO P w tb xs) ∧ KeysN H' xs ∧ TabOk xs ∧ ∃ t, look xs (ns, ms) = some t, ?_, ?_⟩
  · obtain ⟨xs0, hx1, hx2, hx3⟩ := id hT5
    refine ⟨_, rfl, _, rfl, tb, xs0, e, (ns, ms), rfl, hx1, hx2, rfl, hkey, _, rfl, if_b (fun c => ?_) (fun c => ?_)⟩
    · -- [1 for at in range(len(left)) if not _law_answer(state[0], state[1], at, table)]
      refine ⟨_, rfl, b, vi ds, rfl, .inr hB5, _, rfl, by omega, by rw [vi_len]; omega, fun D hD => ?_⟩
      have en : (((vi ds).length : Nat) : Int).toNat = ds.length := by rw [Int.toNat_natCast, vi_len]
      rw [en]
      refine lc_gen walk_range (fun i acc H => i ≤ ds.length ∧ Smt tb H5 H ∧ Tab P w tb H ∧ acc = vi (if can cs ds = true then [] else List.replicate i 1)) ⟨Nat.zero_le _, Smt.of (Same.new hD), hT5.same (Same.new hD), by by_cases h : can cs ds = true <;> simp [h]⟩ (fun _ _ _ _ _ => trivial) (fun i acc H s => ?_) (fun i x H6 H' acc kn ky hi s hacc y h1 h2 => ?_) (fun acc H6 s eD => ?_)
      · obtain ⟨h1, _, _, h4⟩ := s
        rw [h4, vi_len]
        refine small1000 ?_
        by_cases h : can cs ds = true
        · rw [if_pos h]
          exact Nat.zero_le _
        · rw [if_neg h, List.length_replicate]
          omega
      · obtain ⟨h3, sm, hT6, hac⟩ := s
        obtain ⟨rfl, rfl⟩ := y
        have e0 : (0 : Int) + (i : Int) = (i : Int) := Int.zero_add _
        refine ⟨rfl, _, rfl, e, _, 0, _, rfl, rfl, SqT.of (hT5.tup sm he5), rfl, _, rfl, e, _, 1, _, rfl, rfl, SqT.of (hT5.tup sm he5), rfl, _, rfl, _, rfl, u, v, tb, ns, ms, _, i, rfl, e0, SqT.of (hT5.tup sm hu5), SqT.of (hT5.tup sm hv5), hT6, hKn, by omega, by omega, fun H7 s7 hT7 => ⟨_, rfl, ?_⟩⟩
        have hD7 := s7 _ _ hacc (hT6.ne_l hacc)
        rw [hcan]
        cases hc : can cs ds with
        | true =>
          rw [hc, if_pos rfl] at hac
          refine if_f rfl (h1 _ hD7 ⟨by omega, sm.trans s7, hT7, ?_⟩)
          rw [hc, if_pos rfl]
          exact hac
        | false =>
          rw [hc, if_neg (by decide)] at hac
          refine if_t rfl ?_
          refine h2 _ _ hD7 ⟨by omega, (sm.trans s7).new hD, hT7.upd hD7, ?_⟩
          rw [hc, if_neg (by decide), hac, List.replicate_succ']
          exact (vi_snoc _ _).symm
      · obtain ⟨_, sm, hT6, hac⟩ := s
        rw [hac] at eD
        refine ⟨Nat.zero_le _, fun g ng => ?_⟩
        have s7 : Same H6 (upd H6 g (.lst [])) := Same.new ng
        refine ⟨.list (di _), .list (di []), dp_list (SqL.of (s7 _ _ eD)), dp_list (SqL.of upd_same), shaped_ints _, shaped_ints _, ?_⟩
        rw [eqv_lists]
        have sm7 := sm.trans (Smt.of s7)
        have hT7 := hT6.same s7
        generalize upd H6 g (.lst []) = H7 at s7 sm7 hT7
        have ev : decide ((if can cs ds = true then [] else List.replicate ds.length 1) = ([] : List Int)) = can ns ms := by
          rw [hcan]
          cases hc : can cs ds with
          | true => rfl
          | false =>
            refine decide_eq_false fun z => ?_
            rw [if_neg (by decide)] at z
            have hl := congrArg List.length z
            rw [List.length_replicate] at hl
            rw [List.length_eq_zero_iff.mp hl, can_nil] at hc
            cases hc
        rw [ev]
        obtain ⟨xs, hy1, hy2, hy3⟩ := id hT7
        have hkey7 : KeyAt H7 e (ns, ms) := hkey.keep fun x zs h => hT5.tup sm7 h
        refine ⟨_, rfl, _, rfl, tb, xs, e, (ns, ms), _, rfl, rfl, hy1, hy2, rfl, hkey7, hy3.len, ?_⟩
        refine ⟨_, rfl, sm7.trans Smt.upd, _, upd_same, (hy2.put hkey7).keep fun x zs h => ?_, hy3.put hKn rfl, look_put _ _ _ _⟩
        rw [upd_ne (hT7.ne h)]
        exact h
    · refine ⟨_, rfl, Smt.refl _ _, xs0, hx1, hx2, hx3, ?_⟩
      cases hl : look xs0 (ns, ms) with
      | some t => exact ⟨t, rfl⟩
      | none =>
        rw [hl] at c
        cases c
  rintro σ' H6 ⟨y4, rfl, sm, xs, hx1, hx2, hx3, t, ht⟩
  -- return table[state]
  have et := hx3.at ht
  refine ⟨_, rfl, _, rfl, tb, xs, e, (ns, ms), t, rfl, hx1, hx2, rfl, hkey.keep fun x zs h => hT5.tup sm h, ht, ?_⟩
  have et : t = can cs ds := et.trans hcan
  rw [et]
  exact q _ ((Smt.of s05).trans sm) ⟨xs, hx1, hx2, hx3⟩
theorem ok__law_wins (T : Bl mg) {f__law_answer : Addr} {fd__law_answer : FuncData} (D__law_answer : FnAt K mg "_law_answer" "_law_answer" s__law_answer ["candles", "left", "at", "table"] f__law_answer fd__law_answer) {f__law_wins : Addr} {fd__law_wins : FuncData} (D__law_wins : FnAt K mg "_law_wins" "_law_wins" s__law_wins ["candles", "left", "table"] f__law_wins fd__law_wins) {f__law_lots : Addr} {fd__law_lots : FuncData} (D__law_lots : FnAt K mg "_law_lots" "_law_lots" s__law_lots ["some"] f__law_lots fd__law_lots) {f__law_burnt : Addr} {fd__law_burnt : FuncData} (D__law_burnt : FnAt K mg "_law_burnt" "_law_burnt" s__law_burnt ["candles", "lit", "out"] f__law_burnt fd__law_burnt) : ∀ n, FnOk P w K mg base CX0 (2 * n + 1) f__law_wins fd__law_wins ["candles", "left", "table"] (spWins P w K n)
  | 0 => wins_none
  | n + 1 => wins_step T D__law_answer D__law_wins (answer_step T D__law_answer D__law_wins D__law_lots D__law_burnt (ok__law_wins T D__law_answer D__law_wins D__law_lots D__law_burnt n))
/-! def _law_planned -/
abbrev s__law_planned : Stmt := topS 18
theorem sc__law_planned : FnScope ["candles", "draughts", "lit", "place", "wax"] ["candles", "draughts"] (defScope s__law_planned) := ⟨rfl, rfl, rfl, by decide +kernel, rfl, by decide +kernel, by decide +kernel⟩
def spPlanned (K : PySem.W.Frag) (n : Nat) : Sp := fun vs H Q _ => ∃ (a b : Addr) (cs ds : List Int), vs = [.ref a, .ref b] ∧ SqT K H a (vi cs) ∧ SqT K H b (vi ds) ∧ KIn (cs, ds) ∧ ds.length < n ∧ ∀ H', Same H H' → Q (.bl (can cs ds)) H'
theorem planned_none {f : Addr} {fd : FuncData} : FnOk P w K mg base CX0 1 f fd ["candles", "draughts"] (spPlanned K 0) := by
  have no : ∀ vs H Q E, ¬ spPlanned K 0 vs H Q E := fun vs H Q E h => by
    obtain ⟨a, b, cs, ds, _, _, _, _, h0, _⟩ := h
    exact absurd h0 (Nat.not_lt_zero _)
  exact ⟨fun vs H Q E h => absurd h (no vs H Q E), fun A outer s H args us vs Q E _ _ _ _ h => absurd h (no vs H Q E)⟩
theorem planned_step {n : Nat} (T : Bl mg) {f__law_planned : Addr} {fd__law_planned : FuncData} (D__law_planned : FnAt K mg "_law_planned" "_law_planned" s__law_planned ["candles", "draughts"] f__law_planned fd__law_planned) {f__law_lots : Addr} {fd__law_lots : FuncData} (D__law_lots : FnAt K mg "_law_lots" "_law_lots" s__law_lots ["some"] f__law_lots fd__law_lots) {f__law_burnt : Addr} {fd__law_burnt : FuncData} (D__law_burnt : FnAt K mg "_law_burnt" "_law_burnt" s__law_burnt ["candles", "lit", "out"] f__law_burnt fd__law_burnt) (G__law_planned : FnOk P w K mg base CX0 (n + 1) f__law_planned fd__law_planned ["candles", "draughts"] (spPlanned K n)) : FnOk P w K mg base CX0 (n + 2) f__law_planned fd__law_planned ["candles", "draughts"] (spPlanned K (n + 1)) := by
  have G__law_lots : FnOk P w K mg base CX0 (n + 1) f__law_lots fd__law_lots _ (spLLots K) := (ok__law_lots T D__law_lots.F).mono (by omega)
  have G__law_burnt : FnOk P w K mg base CX0 (n + 1) f__law_burnt fd__law_burnt _ (spLBurnt K) := (ok__law_burnt T D__law_burnt.F).mono (by omega)
  refine D__law_planned.F.ok sc__law_planned (fun vs H Q E h => ?_) (fun cdv A outer s H vs Q E hr h => ?_)
  · obtain ⟨a, b, cs, ds, rfl, _⟩ := h
    rfl
  obtain ⟨a, b, cs, ds, rfl, hA, hB, hK, hdn, q⟩ := h
  have hcl : cs.length ≤ 4 := hK.1
  have hdl : ds.length ≤ 4 := hK.2.1
  have hc3 : ∀ c ∈ cs, 0 ≤ c ∧ c ≤ 3 := hK.2.2.1
  have hd3 : ∀ c ∈ ds, 0 ≤ c ∧ c ≤ 3 := hK.2.2.2
  have c0 : ∀ c ∈ cs, 0 ≤ c := fun c hc => (hc3 c hc).1
  have d0 : ∀ c ∈ ds, 0 ≤ c := fun c hc => (hd3 c hc).1
  refine ⟨_, (pss_cons (ps_if (pt_cmpR (eqDK K hr.units) (pv 1) (pe_tup pa_nil) (nomark _)) (pss_one (ps_ret pe_bl)) pss_nil)
  (pss_cons (ps_for PassesOwn.never rfl (piL K (pe_call G__law_lots hr rfl D__law_lots.g D__law_lots.F.kp D__law_lots.b .nil pass0 (pa_cons (pe_lc (own := [("place", 3), ("wax", 4)]) rfl sc__law_planned.nd (enumK K true rfl T.enumerate (pa_cons (pv 0) pa_nil)) (blkOk_by (N := ["candles", "draughts", "lit", "place", "wax"]) (sc := defScope s__law_planned) (own := [("place", 3), ("wax", 4)]) (by decide +kernel)) (fun _ _ _ _ _ => (pgT K 2 rfl (pgs_cons (pg_name (i := 3) sc__law_planned.nd rfl (.inl rfl)) (pgs_cons (pg_name (i := 4) sc__law_planned.nd rfl (.inl rfl)) pgs_nil)))) (fun _ _ _ _ _ => (pts_one (pt_cmpR op_gt (pv 4) pe_int (nomark _)))) (fun _ _ _ _ _ => (pv 3))) pa_nil))) (pg_name (i := 2) sc__law_planned.nd rfl (.inl rfl)) (pss_one (ps_if (PW.pt (pw_and (pt_cmpR op_eq (pe_callB (lenK K) rfl T.len (by decide +kernel) (pa_cons (pv 2) pa_nil)) (pe_op op_add (pe_ix (ixT K) (pv 1) pe_int (fun _ _ => rfl)) pe_int) (nomark _)) (pw_and1 (pt_val (pe_call G__law_planned hr rfl D__law_planned.g D__law_planned.F.kp D__law_planned.b .nil pass0 (pa_cons (pe_callTy (tupleK K) rfl T.tuple (by decide +kernel) (pa_cons (pe_callB (sortedTK K) rfl T.sorted (by decide +kernel) (pa_cons (pe_call G__law_burnt hr rfl D__law_burnt.g D__law_burnt.F.kp D__law_burnt.b .nil pass0 (pa_cons (pv 0) (pa_cons (pv 2) (pa_cons (pe_tup pa_nil) pa_nil)))) pa_nil)) pa_nil)) (pa_cons (pe_slice (slT K) (pv 1) (po_some pe_int) po_none) pa_nil))))))) (pss_one (ps_ret pe_bl)) pss_nil)))
  (pss_one (ps_ret pe_bl)))), ?_⟩
  -- if draughts == ()
  refine ⟨_, rfl, by show 0 ≤ sizeLine; decide, fun em nem => ?_⟩
  have s1 : Same H (upd H em (.tup [])) := Same.new nem
  refine ⟨.tuple (di ds), .tuple (di []), dp_tup (s1.sqt hB), dp_tup (SqT.of upd_same), shaped_tints _, shaped_tints _, _, rfl, ?_⟩
  rw [eqv_tups]
  have hA1 := s1.sqt hA
  have hB1 := s1.sqt hB
  generalize upd H em (.tup []) = H1 at s1 hA1 hB1
  refine if_b (fun c => ?_) (fun c => ?_)
  · rw [of_decide_eq_true c, can_nil] at q
    exact q _ s1
  obtain ⟨d, r, rfl⟩ : ∃ d r, ds = d :: r := by
    cases ds with
    | nil => cases c
    | cons d r => exact ⟨d, r, rfl⟩
  have hd : (d :: r)[0]? = some d := rfl
  have hd0 := d0 d List.mem_cons_self
  -- [place for place, wax in enumerate(candles) if wax > 0]
  have hCB : SqB K true H1 a (vi cs) := hA1
  refine ⟨_, rfl, a, vi cs, rfl, hCB, fun D hD => ?_⟩
  refine lc_ints (walk_enumB (tp := true) (xs := vi cs)) hD (by rw [vi_len]; omega) (fun i => cs[i]?.bind fun w => if 0 < w then some (i : Int) else none) (fun H' s => s.sqt hA1) (fun j x H4 H' kn ky hj sm y h1 h2 => ?_) (fun H4 s4 e => ?_)
  · obtain ⟨tt, x1, x2, rfl, nT, rfl, e1, e2⟩ := y
    cases Option.some.inj e1
    obtain ⟨z, hz, rfl⟩ := vi_get e2
    have sn : Same H4 (upd H4 tt (.tup [.int (j : Nat), .int z])) := Same.new nT
    refine ⟨tt, _, rfl, SqT.of upd_same, rfl, _, _, rfl, _, _, rfl, rfl, rfl, _, rfl, _, _, rfl, rfl, _, rfl, if_b (fun c => ?_) (fun c => ?_)⟩
    · exact ⟨_, rfl, h2 _ _ sn (by rw [hz]; exact if_pos (of_decide_eq_true c))⟩
    · exact h1 _ sn (by rw [hz]; exact if_neg (of_decide_eq_false c))
  rw [vi_len] at e
  have e : H4 D = some (.lst (vi (litP cs))) := e
  refine ⟨D, litP cs, false, rfl, SqL.of e, by have := litP_len cs; omega, fun H5 p xs s5 np hp hpr => ?_⟩
  have s15 := s1.trans (s4.trans s5)
  have hA5 := s15.sqt hA
  have hB5 := s15.sqt hB
  have hll : (lotsPF (litP cs)).length ≤ 256 := lots_small (by have := litP_len cs; omega)
  obtain ⟨js, hjs⟩ : ∃ js : Nat, can cs (d :: r) = true → ∃ l, (lotsPF (litP cs))[js]? = some l ∧ (l.length : Int) = d + 1 ∧ ∀ gone, can (burntF cs l gone) r = true := by
    cases hc : can cs (d :: r) with
    | false => exact ⟨0, fun z => by cases z⟩
    | true =>
      obtain ⟨l, hl, h1, h2⟩ := win_lit c0 d0 hd hc
      obtain ⟨js, hj⟩ := List.getElem?_of_mem hl
      exact ⟨js, fun _ => ⟨l, hj, h1, h2⟩⟩
  refine ⟨p, rfl, ⟨_, SqL.of hp⟩, for_list (K := K) (a := p) (xs := xs) (fun j σ H' => ∃ (y2 y3 y4 : Option V), σ = [some (.ref a), some (.ref b), y2, y3, y4] ∧ Same H5 H' ∧ (can cs (d :: r) = true → j ≤ js)) ⟨_, _, _, rfl, Same.refl _, fun _ => Nat.zero_le _⟩ (fun j σ H' _ hW => ?_) (fun j x σ H6 hx hW => ?_) (fun σ H6 hW => ?_)⟩
  · obtain ⟨_, _, _, _, sm, _⟩ := hW
    exact SqL.of (sm _ _ hp)
  · obtain ⟨y2, y3, y4, rfl, sm, hjj⟩ := hW
    obtain ⟨l, hl, hv⟩ := paired_get hpr hx
    obtain ⟨t, rfl, ht6⟩ := hv.sm sm
    have hlm := List.mem_of_getElem? hl
    have hlw := sub_lw (lots_sub.mp hlm)
    -- if len(lit) == draughts[0] + 1 and _law_planned(..)
    refine ⟨_, rfl, t, vi l, rfl, .inr ht6, _, rfl, b, _, 0, .int d, rfl, rfl, sm.sqt hB5, atI_nat (j := 0) (show (vi (d :: r))[0]? = some (V.int d) from rfl), _, _, rfl, rfl, rfl, _, rfl, if_b (fun c1 => ?_) (fun c1 => if_f rfl ?_)⟩
    · have hlen : (l.length : Int) = d + 1 := by
        have := V.int.inj (of_decide_eq_true c1)
        rw [vi_len] at this
        exact this
      refine ⟨_, rfl, _, rfl, by show 0 ≤ sizeLine; decide, fun e2 ne2 => ?_⟩
      have s7 : Same H6 (upd H6 e2 (.tup [])) := Same.new ne2
      refine ⟨a, t, e2, cs, l, [], true, true, rfl, (sm.trans s7).sqt hA5, s7.sqt ht6, SqT.of upd_same, by omega, hlw.nd, fun x hx => ?_, fun H8 p3 s8 np3 hp3 => ?_⟩
      · obtain ⟨k, w, rfl, hk, _⟩ := hlw.wax x hx
        have := (List.getElem?_eq_some_iff.mp hk).1
        omega
      refine ⟨p3, _, rfl, SqT.of hp3, fun ns p4 hperm _ np4 => ⟨p4, _, rfl, .inl ⟨SqL.of upd_same, fun u nu => ?_⟩⟩⟩
      have s9 : Same H8 (upd H8 p4 (.lst (vi ns))) := Same.new np4
      have s10 : Same (upd H8 p4 (.lst (vi ns))) (upd (upd H8 p4 (.lst (vi ns))) u (.tup (vi ns))) := Same.new nu
      have hu : (upd (upd H8 p4 (.lst (vi ns))) u (.tup (vi ns))) u = some (.tup (vi ns)) := upd_same
      have s610 := s7.trans (s8.trans (s9.trans s10))
      generalize upd (upd H8 p4 (.lst (vi ns))) u (.tup (vi ns)) = H10 at s10 s610 hu
      have sm10 := sm.trans s610
      refine ⟨_, rfl, _, rfl, noPart (sl_any (sm10.sqt hB5) fun H11 g s11 hg => ?_)⟩
      rw [show cutV (vi (d :: r)) (some 1) none = vi r from cut_drop (d :: r) 1 (by rw [List.length_cons]; omega)] at hg
      have hbin := burnt_in (out := []) hlw hc3
      refine ⟨u, g, ns, r, rfl, SqT.of (s11 _ _ hu), hg, ⟨?_, ?_, fun c hc => hbin c (hperm.mem_iff.mp hc), fun c hc => hd3 c (List.mem_cons_of_mem _ hc)⟩, ?_, fun H12 s12 => ⟨_, rfl, ?_⟩⟩
      · show ns.length ≤ 4
        rw [hperm.length_eq, burntF_len]
        exact hcl
      · show r.length ≤ 4
        rw [List.length_cons] at hdl
        omega
      · rw [List.length_cons] at hdn
        omega
      have sm12 := sm10.trans (s11.trans s12)
      rw [can_perm_cs hperm]
      cases hw : can (burntF cs l []) r with
      | true =>
        refine if_t rfl ?_
        rw [can_back2 c0 hlw (by omega) hw] at q
        exact q _ (s15.trans sm12)
      | false =>
        refine if_f rfl ⟨_, _, _, rfl, sm12, fun hc => ?_⟩
        have hle := hjj hc
        by_cases hj : j = js
        · obtain ⟨l2, hl2, _, hall⟩ := hjs hc
          rw [← hj, hl] at hl2
          cases hl2
          rw [hall []] at hw
          cases hw
        · omega
    · refine ⟨_, _, _, rfl, sm, fun hc => ?_⟩
      have hle := hjj hc
      by_cases hj : j = js
      · obtain ⟨l2, hl2, hlen, _⟩ := hjs hc
        rw [← hj, hl] at hl2
        cases hl2
        exfalso
        refine of_decide_eq_false c1 ?_
        rw [vi_len, hlen]
      · omega
  · obtain ⟨y2, y3, y4, rfl, sm, hjj⟩ := hW
    have hcf : can cs (d :: r) = false := by
      cases hc : can cs (d :: r) with
      | false => rfl
      | true =>
        obtain ⟨l2, hl2, _⟩ := hjs hc
        have h1 := (List.getElem?_eq_some_iff.mp hl2).1
        have h2 := hjj hc
        rw [paired_len hpr] at h2
        omega
    rw [hcf] at q
    exact q _ (s15.trans sm)
theorem ok__law_planned (T : Bl mg) {f__law_planned : Addr} {fd__law_planned : FuncData} (D__law_planned : FnAt K mg "_law_planned" "_law_planned" s__law_planned ["candles", "draughts"] f__law_planned fd__law_planned) {f__law_lots : Addr} {fd__law_lots : FuncData} (D__law_lots : FnAt K mg "_law_lots" "_law_lots" s__law_lots ["some"] f__law_lots fd__law_lots) {f__law_burnt : Addr} {fd__law_burnt : FuncData} (D__law_burnt : FnAt K mg "_law_burnt" "_law_burnt" s__law_burnt ["candles", "lit", "out"] f__law_burnt fd__law_burnt) : ∀ n, FnOk P w K mg base CX0 (n + 1) f__law_planned fd__law_planned ["candles", "draughts"] (spPlanned K n)
  | 0 => planned_none
  | n + 1 => planned_step T D__law_planned D__law_lots D__law_burnt (ok__law_planned T D__law_planned D__law_lots D__law_burnt n)
abbrev s_law : Stmt := topS 19
theorem sc_law : FnScope ["script", "tape", "size", "wax", "ticks", "top", "candles", "draughts", "good", "order", "row", "at"] ["script"] (defScope s_law) := ⟨rfl, rfl, rfl, by decide +kernel, rfl, by decide +kernel, by decide +kernel⟩

theorem mixed_perm {os cs : List Int} (h : os.Perm (plN cs.length)) : (os.filterMap fun o => cs[o.toNat]?).Perm cs := by
  refine (h.filterMap _).trans ?_
  have e : (plN cs.length).filterMap (fun o => cs[o.toNat]?) = cs := by
    show ((List.range cs.length).map fun (i : Nat) => (i : Int)).filterMap (fun o => cs[o.toNat]?) = cs
    rw [List.filterMap_map]
    have q := fm_get (fun x : Int => some x) cs
    rw [List.filterMap_some] at q
    refine Eq.trans (fm_congr _ fun i _ => ?_) q
    show cs[((i : Nat) : Int).toNat]? = _
    rw [Int.toNat_natCast]
    cases cs[i]? <;> rfl
  rw [e]
def spLaw (K : PySem.W.Frag) : Sp := fun vs H Q _ => ∃ (a : Addr) (ns : List Int), vs = [.ref a] ∧ SqL K H a (vi ns) ∧ ns.length ≤ 63 ∧ ∀ H', Q (.bl true) H'
theorem ok_law {f : Addr} {fd : FuncData} (T : Bl mg) (F : Fun K "law" "law" s_law f fd) {f_counted : Addr} {fd_counted : FuncData} (D_counted : FnAt K mg "counted" "counted" s_counted ["candles", "ticks"] f_counted fd_counted) {f_wanted : Addr} {fd_wanted : FuncData} (D_wanted : FnAt K mg "wanted" "wanted" s_wanted ["draughts", "ticks"] f_wanted fd_wanted) {f_spares : Addr} {fd_spares : FuncData} (D_spares : FnAt K mg "spares" "spares" s_spares ["candles", "draughts"] f_spares fd_spares) {f_can_keep : Addr} {fd_can_keep : FuncData} (D_can_keep : FnAt K mg "can_keep" "can_keep" s_can_keep ["candles", "draughts"] f_can_keep fd_can_keep) {f_fails_at : Addr} {fd_fails_at : FuncData} (D_fails_at : FnAt K mg "fails_at" "fails_at" s_fails_at ["candles", "draughts"] f_fails_at fd_fails_at) {f__law_draw : Addr} {fd__law_draw : FuncData} (D__law_draw : FnAt K mg "_law_draw" "_law_draw" s__law_draw ["tape", "many"] f__law_draw fd__law_draw) {f__law_like : Addr} {fd__law_like : FuncData} (D__law_like : FnAt K mg "_law_like" "_law_like" s__law_like ["one", "two"] f__law_like fd__law_like) {f__law_any_order : Addr} {fd__law_any_order : FuncData} (D__law_any_order : FnAt K mg "_law_any_order" "_law_any_order" s__law_any_order ["tape", "many"] f__law_any_order fd__law_any_order) {f__law_candles : Addr} {fd__law_candles : FuncData} (D__law_candles : FnAt K mg "_law_candles" "_law_candles" s__law_candles ["tape", "size", "wax"] f__law_candles fd__law_candles) {f__law_draughts : Addr} {fd__law_draughts : FuncData} (D__law_draughts : FnAt K mg "_law_draughts" "_law_draughts" s__law_draughts ["tape", "size", "top"] f__law_draughts fd__law_draughts) {f__law_near : Addr} {fd__law_near : FuncData} (D__law_near : FnAt K mg "_law_near" "_law_near" s__law_near ["tape", "candles", "size", "top"] f__law_near fd__law_near) {f__law_night : Addr} {fd__law_night : FuncData} (D__law_night : FnAt K mg "_law_night" "_law_night" s__law_night ["tape", "size", "wax", "ticks", "top"] f__law_night fd__law_night) {f__law_lots : Addr} {fd__law_lots : FuncData} (D__law_lots : FnAt K mg "_law_lots" "_law_lots" s__law_lots ["some"] f__law_lots fd__law_lots) {f__law_burnt : Addr} {fd__law_burnt : FuncData} (D__law_burnt : FnAt K mg "_law_burnt" "_law_burnt" s__law_burnt ["candles", "lit", "out"] f__law_burnt fd__law_burnt) {f__law_answer : Addr} {fd__law_answer : FuncData} (D__law_answer : FnAt K mg "_law_answer" "_law_answer" s__law_answer ["candles", "left", "at", "table"] f__law_answer fd__law_answer) {f__law_wins : Addr} {fd__law_wins : FuncData} (D__law_wins : FnAt K mg "_law_wins" "_law_wins" s__law_wins ["candles", "left", "table"] f__law_wins fd__law_wins) {f__law_planned : Addr} {fd__law_planned : FuncData} (D__law_planned : FnAt K mg "_law_planned" "_law_planned" s__law_planned ["candles", "draughts"] f__law_planned fd__law_planned) : FnOk P w K mg base CX0 12 f fd ["script"] (spLaw K) := by
  have G__law_night : FnOk P w K mg base CX0 11 f__law_night fd__law_night _ spNight := (ok__law_night T D__law_night.F D__law_draw D__law_candles D__law_draughts D__law_near).mono (by decide)
  have G__law_like : FnOk P w K mg base CX0 11 f__law_like fd__law_like _ (spLike K 4) := (ok__law_like T D__law_like 4).mono (by decide)
  have G__law_any_order : FnOk P w K mg base CX0 11 f__law_any_order fd__law_any_order _ spAnyOrder := (ok__law_any_order T D__law_any_order.F D__law_draw).mono (by decide)
  have G_can_keep : FnOk P w K mg base CX0 11 f_can_keep fd_can_keep _ (spCan K) := (ok_can_keep T D_can_keep.F D_spares D_counted D_wanted).mono (by decide)
  have G_fails_at : FnOk P w K mg base CX0 11 f_fails_at fd_fails_at _ (spFails K) := (ok_fails_at T D_fails_at.F D_spares D_counted D_wanted).mono (by decide)
  have G__law_wins : FnOk P w K mg base CX0 11 f__law_wins fd__law_wins _ (spWins P w K 5) := ok__law_wins T D__law_answer D__law_wins D__law_lots D__law_burnt 5
  have G__law_planned : FnOk P w K mg base CX0 11 f__law_planned fd__law_planned _ (spPlanned K 5) := (ok__law_planned T D__law_planned D__law_lots D__law_burnt 5).mono (by decide)
  refine F.ok sc_law (fun vs H Q E h => ?_) (fun cdv A outer s H vs Q E hr h => ?_)
  · obtain ⟨a, ns, rfl, _⟩ := h
    rfl
  obtain ⟨a, ns, rfl, hS, hl, q⟩ := h
  refine ⟨_, (pss_cons (ps_set (i := 1) sc_law.nd rfl (.inl rfl) (pe_lst (pa_cons (pe_callTy (listK K) rfl T.list (by decide +kernel) (pa_cons (pv 0) pa_nil)) (pa_cons pe_int (pa_cons pe_int pa_nil)))))
  (pss_cons (ps_for PassesOwn.never rfl (piL K (pe_lst (pa_cons (pe_tup (pa_cons pe_int (pa_cons pe_int (pa_cons pe_int (pa_cons pe_int pa_nil))))) (pa_cons (pe_tup (pa_cons pe_int (pa_cons pe_int (pa_cons pe_int (pa_cons pe_int pa_nil))))) (pa_cons (pe_tup (pa_cons pe_int (pa_cons pe_int (pa_cons pe_int (pa_cons pe_int pa_nil))))) pa_nil))))) (pgT K 4 rfl (pgs_cons (pg_name (i := 2) sc_law.nd rfl (.inl rfl)) (pgs_cons (pg_name (i := 3) sc_law.nd rfl (.inl rfl)) (pgs_cons (pg_name (i := 4) sc_law.nd rfl (.inl rfl)) (pgs_cons (pg_name (i := 5) sc_law.nd rfl (.inl rfl)) pgs_nil))))) (pss_cons (ps_asg (pe_call G__law_night hr rfl D__law_night.g D__law_night.F.kp D__law_night.b .nil pass0 (pa_cons (pv 1) (pa_cons (pv 2) (pa_cons (pv 3) (pa_cons (pv 4) (pa_cons (pv 5) pa_nil)))))) (pgT K 2 rfl (pgs_cons (pg_name (i := 6) sc_law.nd rfl (.inl rfl)) (pgs_cons (pg_name (i := 7) sc_law.nd rfl (.inr rfl)) pgs_nil))))
  (pss_cons (ps_set (i := 8) sc_law.nd rfl (.inl rfl) (pe_call G__law_wins hr rfl D__law_wins.g D__law_wins.F.kp D__law_wins.b .nil pass0 (pa_cons (pv 6) (pa_cons (pv 7) (pa_cons (pe_dnewN P w) pa_nil)))))
  (C8.pss_cut (ps_if (PW.pt (pw_or (pt_not (pt_val (pe_call G__law_like hr rfl D__law_like.g D__law_like.F.kp D__law_like.b .nil pass0 (pa_cons (pe_call G_can_keep hr rfl D_can_keep.g D_can_keep.F.kp D_can_keep.b .nil pass0 (pa_cons (pv 6) (pa_cons (pv 7) pa_nil))) (pa_cons (pv 8) pa_nil))))) (pw_or1 (pt_cmpR op_ne (pe_cmpR op_isN (pe_call G_fails_at hr rfl D_fails_at.g D_fails_at.F.kp D_fails_at.b .nil pass0 (pa_cons (pv 6) (pa_cons (pv 7) pa_nil))) pe_non (nomark _)) (pv 8) (nomark _))))) (pss_one (ps_ret pe_bl)) pss_nil)
  (pss_cons (ps_set (i := 9) sc_law.nd rfl (.inl rfl) (pe_callTy (tupleK K) rfl T.tuple (by decide +kernel) (pa_cons (pe_lc (own := [("at", 11)]) rfl sc_law.nd (piT K (pe_call G__law_any_order hr rfl D__law_any_order.g D__law_any_order.F.kp D__law_any_order.b .nil pass0 (pa_cons (pv 1) (pa_cons (pe_callB (lenK K) rfl T.len (by decide +kernel) (pa_cons (pv 7) pa_nil)) pa_nil)))) (blkOk_by (N := ["script", "tape", "size", "wax", "ticks", "top", "candles", "draughts", "good", "order", "row", "at"]) (sc := defScope s_law) (own := [("at", 11)]) (by decide +kernel)) (fun _ _ _ _ _ => (pg_name (i := 11) sc_law.nd rfl (.inl rfl))) (fun _ _ _ _ _ => pts_nil) (fun _ _ _ _ _ => (pe_ix (ixT K) (pv 7) (pv 11) (fun _ _ => rfl)))) pa_nil)))
  (pss_one (ps_for PassesOwn.never rfl (piL K (pe_lst (pa_cons (pv 7) (pa_cons (pv 9) (pa_cons (pe_callTy (tupleK K) rfl T.tuple (by decide +kernel) (pa_cons (pe_callB (sortedTK K) rfl T.sorted (by decide +kernel) (pa_cons (pv 7) pa_nil)) pa_nil)) (pa_cons (pe_revTK K (pe_callTy (tupleK K) rfl T.tuple (by decide +kernel) (pa_cons (pe_callB (sortedTK K) rfl T.sorted (by decide +kernel) (pa_cons (pv 7) pa_nil)) pa_nil))) pa_nil)))))) (pg_name (i := 10) sc_law.nd rfl (.inl rfl)) (pss_one (ps_if (pt_cmpR op_ne (pe_call G__law_planned hr rfl D__law_planned.g D__law_planned.F.kp D__law_planned.b .nil pass0 (pa_cons (pv 6) (pa_cons (pv 10) pa_nil))) (pv 8) (nomark _)) (pss_one (ps_ret pe_bl)) pss_nil)))))))))
  (pss_one (ps_ret pe_bl)))), ?_⟩
  -- tape = [list(script), 0, 0]
  refine ⟨_, rfl, a, vi ns, rfl, .inl hS, fun l nl => ⟨by show 3 ≤ sizeLine; decide, fun t nt => ?_⟩⟩
  have hT0 : TapeAt (upd (upd H l (.lst (vi ns))) t (.lst [.ref l, .int 0, .int 0])) t l := by
    refine ⟨ns, 0, 0, upd_same, ?_, by decide⟩
    rw [upd_ne (ne_of_none upd_same nt)]
    exact upd_same
  generalize upd (upd H l (.lst (vi ns))) t (.lst [.ref l, .int 0, .int 0]) = H0 at hT0
  -- the sizes
  refine ⟨by show 4 ≤ sizeLine; decide, fun t1 nt1 => ?_⟩
  have a1 : Same H0 (upd H0 t1 (.tup [V.int 3, V.int 3, V.int 4, V.int 2])) := Same.new nt1
  have b1 : (upd H0 t1 (.tup [V.int 3, V.int 3, V.int 4, V.int 2])) t1 = some (.tup [V.int 3, V.int 3, V.int 4, V.int 2]) := upd_same
  generalize upd H0 t1 (.tup [V.int 3, V.int 3, V.int 4, V.int 2]) = H1 at a1 b1
  refine ⟨by show 4 ≤ sizeLine; decide, fun t2 nt2 => ?_⟩
  have a2 : Same H1 (upd H1 t2 (.tup [V.int 4, V.int 2, V.int 3, V.int 3])) := Same.new nt2
  have b2 : (upd H1 t2 (.tup [V.int 4, V.int 2, V.int 3, V.int 3])) t2 = some (.tup [V.int 4, V.int 2, V.int 3, V.int 3]) := upd_same
  have b1 := a2 _ _ b1
  generalize upd H1 t2 (.tup [V.int 4, V.int 2, V.int 3, V.int 3]) = H2 at a2 b1 b2
  refine ⟨by show 4 ≤ sizeLine; decide, fun t3 nt3 => ?_⟩
  have a3 : Same H2 (upd H2 t3 (.tup [V.int 3, V.int 3, V.int 4, V.int 2])) := Same.new nt3
  have b3 : (upd H2 t3 (.tup [V.int 3, V.int 3, V.int 4, V.int 2])) t3 = some (.tup [V.int 3, V.int 3, V.int 4, V.int 2]) := upd_same
  have b1 := a3 _ _ b1
  have b2 := a3 _ _ b2
  generalize upd H2 t3 (.tup [V.int 3, V.int 3, V.int 4, V.int 2]) = H3 at a3 b1 b2 b3
  refine ⟨by show 3 ≤ sizeLine; decide, fun lo nlo => ?_⟩
  have a4 : Same H3 (upd H3 lo (.lst [V.ref t1, V.ref t2, V.ref t3])) := Same.new nlo
  have hlo : (upd H3 lo (.lst [V.ref t1, V.ref t2, V.ref t3])) lo = some (.lst [V.ref t1, V.ref t2, V.ref t3]) := upd_same
  have b1 := a4 _ _ b1
  have b2 := a4 _ _ b2
  have b3 := a4 _ _ b3
  have hT3 := hT0.same (a1.trans (a2.trans a3))
  have xlo : lo ≠ t := fun z => hT3.ne_none nlo z.symm
  have hT4 := hT3.same a4
  generalize upd H3 lo (.lst [V.ref t1, V.ref t2, V.ref t3]) = H4 at a4 b1 b2 b3 hlo hT4
  clear a1 a2 a3 a4 hT3 hT0
  refine ⟨lo, rfl, ⟨_, SqL.of hlo⟩, for_list (K := K) (a := lo) (xs := [V.ref t1, V.ref t2, V.ref t3]) (fun j σ H' => ∃ (y2 y3 y4 y5 y6 y7 y8 y9 y10 y11 : Option V), σ = [some (.ref a), some (.ref t), y2, y3, y4, y5, y6, y7, y8, y9, y10, y11] ∧ TapeAt H' t l ∧ Smt t H4 H') ⟨_, _, _, _, _, _, _, _, _, _, rfl, hT4, Smt.refl _ _⟩ (fun j σ H' _ hW => ?_) (fun j x σ H5 hx hW => ?_) (fun σ H5 hW => ?_)⟩
  · obtain ⟨_, _, _, _, _, _, _, _, _, _, _, _, sm⟩ := hW
    exact SqL.of (sm _ _ hlo xlo)
  · obtain ⟨y2, y3, y4, y5, y6, y7, y8, y9, y10, y11, rfl, hT5, sm5⟩ := hW
    obtain ⟨tt, sz, wx, tk, tp, rfl, htt, h1, h2, h3, h4, h5, h6, h7, h8⟩ : ∃ (tt : Addr) (sz wx tk tp : Int), x = .ref tt ∧ H4 tt = some (.tup [.int sz, .int wx, .int tk, .int tp]) ∧ 1 ≤ sz ∧ sz ≤ 4 ∧ 1 ≤ wx ∧ wx ≤ 3 ∧ 0 ≤ tk ∧ tk ≤ 4 ∧ 0 ≤ tp ∧ tp ≤ 3 := by
      match j, hx with
      | 0, hx =>
        cases hx
        exact ⟨t1, 3, 3, 4, 2, rfl, b1, by decide, by decide, by decide, by decide, by decide, by decide, by decide, by decide⟩
      | 1, hx =>
        cases hx
        exact ⟨t2, 4, 2, 3, 3, rfl, b2, by decide, by decide, by decide, by decide, by decide, by decide, by decide, by decide⟩
      | 2, hx =>
        cases hx
        exact ⟨t3, 3, 3, 4, 2, rfl, b3, by decide, by decide, by decide, by decide, by decide, by decide, by decide, by decide⟩
      | j + 3, hx => simp at hx
    refine ⟨tt, _, rfl, SqT.of (sm5.tup hT4 htt), rfl, _, _, rfl, _, _, rfl, _, _, rfl, _, _, rfl, rfl, ?_⟩
    -- candles, draughts
    refine ⟨_, rfl, _, rfl, _, rfl, _, rfl, _, rfl, t, l, sz, wx, tk, tp, rfl, hT5, by omega, by omega, by omega, by omega, by omega, by omega, by omega, by omega, fun p b c cs ds H6 hcs hds hT6 s6 hp hb hc => ⟨p, _, rfl, SqT.of hp, rfl, _, _, rfl, _, _, rfl, rfl, ?_⟩⟩
    have sm6 := sm5.trans s6
    have lc : cs.length ≤ 4 := by have := hcs.2.1; omega
    have ld : ds.length ≤ 4 := by have := hds.1; omega
    have hKn : KIn (cs, ds) := ⟨lc, ld, fun x hx => by have := hcs.2.2 x hx; omega, fun x hx => by have := hds.2 x hx; omega⟩
    -- good = _law_wins(candles, draughts, {})
    refine ⟨_, rfl, _, rfl, fun tb ntb => ?_⟩
    have sn : Same H6 (upd H6 tb (DicO P w tb [])) := Same.new ntb
    refine ⟨b, c, tb, cs, ds, rfl, SqT.of (sn _ _ hb), SqT.of (sn _ _ hc), ⟨[], upd_same, (fun x hx => nomatch hx), ⟨.nil, (fun x hx => nomatch hx), fun x hx => nomatch hx⟩⟩, hKn, by omega, fun H7 s7 _ => ?_⟩
    have s67 : Same H6 H7 := fun x u h => s7 x u (sn x u h) (fun z => by rw [z, ntb] at h; cases h)
    have hb7 := s67 _ _ hb
    have hc7 := s67 _ _ hc
    have hT7 := hT6.same s67
    have sm7 := sm6.trans (Smt.of s67)
    clear sn s7
    -- if not _law_like(can_keep(..), good) or (fails_at(..) is None) != good
    refine ⟨fun σ' H' => σ' = [some (.ref a), some (.ref t), some (.int sz), some (.int wx), some (.int tk), some (.int tp), some (.ref b), some (.ref c), some (.bl (can cs ds)), y9, y10, y11] ∧ Same H7 H', ?_, ?_⟩
    · refine ⟨_, rfl, _, rfl, b, c, cs, ds, rfl, SqT.of hb7, SqT.of hc7, by omega, by omega, fun H8 s8 => ?_⟩
      refine ⟨_, rfl, .bl _, .bl _, .bool _, rfl, .bl _, .bl _, True.intro, fun H9 s9 => ⟨_, rfl, if_f rfl ?_⟩⟩
      have s79 := s8.trans s9
      refine ⟨_, rfl, _, rfl, b, c, cs, ds, rfl, SqT.of (s79 _ _ hb7), SqT.of (s79 _ _ hc7), by omega, by omega, fun H10 s10 => ?_⟩
      have fin := s79.trans s10
      cases hcan : can cs ds with
      | true =>
        rw [fails_none.mpr hcan]
        exact ⟨rfl, _, rfl, rfl, _, rfl, if_f rfl ⟨rfl, fin⟩⟩
      | false =>
        obtain ⟨z, r, e⟩ : ∃ z r, fails cs ds = z :: r := by
          cases e : fails cs ds with
          | nil =>
            rw [fails_none.mp e] at hcan
            cases hcan
          | cons z r => exact ⟨z, r, rfl⟩
        rw [e]
        exact ⟨rfl, _, rfl, rfl, _, rfl, if_f rfl ⟨rfl, fin⟩⟩
    rintro σ' H8 ⟨rfl, s8⟩
    have hb8 := s8 _ _ hb7
    have hc8 := s8 _ _ hc7
    have hT8 := hT7.same s8
    have sm8 := sm7.trans (Smt.of s8)
    -- order
    refine ⟨_, rfl, _, rfl, c, vi ds, rfl, .inr (SqT.of hc8), t, l, ds.length, (by rw [vi_len]; rfl), hT8, by omega, fun H9 p1 os hT9 s9 hp1 hos => ?_⟩
    have hb9 := s9.tup hT8 hb8
    have hc9 := s9.tup hT8 hc8
    have osl : os.length = ds.length := by
      rw [hos.length_eq]
      show ((List.range _).map _).length = _
      rw [List.length_map, List.length_range]
    have oin : ∀ o ∈ os, ∃ j : Nat, o = (j : Int) ∧ j < ds.length := fun o ho => by
      obtain ⟨j, hj, rfl⟩ := List.mem_map.mp (hos.mem_iff.mp ho)
      exact ⟨j, rfl, List.mem_range.mp hj⟩
    refine ⟨p1, rfl, ⟨_, SqT.of hp1⟩, fun D hD => lc_ints (walk_tup (xs := vi os)) hD (by rw [vi_len]; omega) (fun i => os[i]?.bind fun o => ds[o.toNat]?) (fun H' s => SqT.of (s _ _ hp1)) (fun j x H17 H' kn ky hj sm4 y h1 h2 => ?_) (fun H10 s10 e => ?_)⟩
    · obtain ⟨rfl, hx⟩ := y
      obtain ⟨o, ho, rfl⟩ := vi_get hx
      obtain ⟨jn, rfl, hjn⟩ := oin o (List.mem_of_getElem? ho)
      refine ⟨rfl, lc_yes ⟨_, rfl, _, rfl, c, _, _, _, rfl, rfl, SqT.of (sm4 _ _ hc9), atI_nat (vi_at hjn), h2 _ _ (Same.refl _) ?_⟩⟩
      rw [ho]
      show ds[((jn : Nat) : Int).toNat]? = _
      rw [Int.toNat_natCast, List.getElem?_eq_getElem hjn]
    rw [vi_len, fm_get] at e
    have hop := mixed_perm hos
    generalize os.filterMap (fun o => ds[o.toNat]?) = od at e hop
    refine ⟨D, _, rfl, .inl ⟨SqL.of e, fun go ngo => ?_⟩⟩
    have s11 : Same H10 (upd H10 go (.tup (vi od))) := Same.new ngo
    have s911 := s10.trans s11
    have hb11 := s911 _ _ hb9
    have hc11 := s911 _ _ hc9
    have ho11 : (upd H10 go (.tup (vi od))) go = some (.tup (vi od)) := upd_same
    have hT11 := hT9.same s911
    have sm11 := (sm8.trans s9).trans (Smt.of s911)
    generalize upd H10 go (.tup (vi od)) = H11 at s11 s911 hb11 hc11 ho11 hT11 sm11
    -- the rows
    refine ⟨_, rfl, _, rfl, _, rfl, c, ds, rfl, SqT.of hc11, fun n1 p2 hp2 _ np2 => ⟨p2, _, rfl, .inl ⟨SqL.of upd_same, fun u1 nu1 => ?_⟩⟩⟩
    have c1 : Same H11 (upd H11 p2 (.lst (vi n1))) := Same.new np2
    have c2 : Same (upd H11 p2 (.lst (vi n1))) (upd (upd H11 p2 (.lst (vi n1))) u1 (.tup (vi n1))) := Same.new nu1
    have hu1 : (upd (upd H11 p2 (.lst (vi n1))) u1 (.tup (vi n1))) u1 = some (.tup (vi n1)) := upd_same
    have c12 := c1.trans c2
    have hc12 := c12 _ _ hc11
    generalize upd (upd H11 p2 (.lst (vi n1))) u1 (.tup (vi n1)) = H12 at c2 c12 hu1 hc12
    refine ⟨_, rfl, c, ds, rfl, SqT.of hc12, fun n2 p3 hp3 _ np3 => ⟨p3, _, rfl, .inl ⟨SqL.of upd_same, fun u2 nu2 => ?_⟩⟩⟩
    have c3 : Same H12 (upd H12 p3 (.lst (vi n2))) := Same.new np3
    have c4 : Same (upd H12 p3 (.lst (vi n2))) (upd (upd H12 p3 (.lst (vi n2))) u2 (.tup (vi n2))) := Same.new nu2
    have hu2 : (upd (upd H12 p3 (.lst (vi n2))) u2 (.tup (vi n2))) u2 = some (.tup (vi n2)) := upd_same
    have c34 := c3.trans c4
    generalize upd (upd H12 p3 (.lst (vi n2))) u2 (.tup (vi n2)) = H13 at c4 c34 hu2
    refine ⟨u2, _, rfl, SqT.of hu2, fun u3 nu3 => ?_⟩
    have c5 : Same H13 (upd H13 u3 (.tup (vi n2).reverse)) := Same.new nu3
    have hu3 : (upd H13 u3 (.tup (vi n2).reverse)) u3 = some (.tup (vi n2.reverse)) := by
      rw [upd_same, ← List.map_reverse]
    generalize upd H13 u3 (.tup (vi n2).reverse) = H14 at c5 hu3
    refine ⟨by show 4 ≤ sizeLine; decide, fun lr nlr => ?_⟩
    have c6 : Same H14 (upd H14 lr (.lst [V.ref c, V.ref go, V.ref u1, V.ref u3])) := Same.new nlr
    have hlr : (upd H14 lr (.lst [V.ref c, V.ref go, V.ref u1, V.ref u3])) lr = some (.lst [V.ref c, V.ref go, V.ref u1, V.ref u3]) := upd_same
    have hu3 := c6 _ _ hu3
    have c16 := c12.trans (c34.trans (c5.trans c6))
    have hu1 := (c34.trans (c5.trans c6)) _ _ hu1
    have hb15 := c16 _ _ hb11
    have hc15 := c16 _ _ hc11
    have ho15 := c16 _ _ ho11
    have hT15 := hT11.same c16
    have sm15 := sm11.trans (Smt.of c16)
    generalize upd H14 lr (.lst [V.ref c, V.ref go, V.ref u1, V.ref u3]) = H15 at c6 hlr hu3 c16 hu1 hb15 hc15 ho15 hT15 sm15
    refine ⟨lr, rfl, ⟨_, SqL.of hlr⟩, for_list (K := K) (a := lr) (xs := [V.ref c, V.ref go, V.ref u1, V.ref u3]) (fun m σ H' => ∃ (y10 y11 : Option V), σ = [some (.ref a), some (.ref t), some (.int sz), some (.int wx), some (.int tk), some (.int tp), some (.ref b), some (.ref c), some (.bl (can cs ds)), some (.ref go), y10, y11] ∧ Same H15 H') ⟨_, _, rfl, Same.refl _⟩ (fun m σ H' _ ⟨_, _, _, sm⟩ => SqL.of (sm _ _ hlr)) (fun m x σ H16 hx hW => ?_) (fun σ H16 hW => ?_)⟩
    · obtain ⟨y10, y11, rfl, sm⟩ := hW
      obtain ⟨rt, L, rfl, hrt, hL⟩ : ∃ (rt : Addr) (L : List Int), x = .ref rt ∧ H15 rt = some (.tup (vi L)) ∧ L.Perm ds := by
        match m, hx with
        | 0, hx =>
          cases hx
          exact ⟨c, ds, rfl, hc15, List.Perm.refl _⟩
        | 1, hx =>
          cases hx
          exact ⟨go, od, rfl, ho15, hop⟩
        | 2, hx =>
          cases hx
          exact ⟨u1, n1, rfl, hu1, hp2⟩
        | 3, hx =>
          cases hx
          exact ⟨u3, n2.reverse, rfl, hu3, (List.reverse_perm n2).trans hp3⟩
        | m + 4, hx => simp at hx
      refine ⟨_, rfl, _, rfl, b, rt, cs, L, rfl, SqT.of (sm _ _ hb15), SqT.of (sm _ _ hrt), ⟨lc, by show L.length ≤ 4; rw [hL.length_eq]; exact ld, hKn.2.2.1, fun c hc => hKn.2.2.2 c (hL.mem_iff.mp hc)⟩, by rw [hL.length_eq]; omega, fun H17 s17 => ?_⟩
      rw [can_perm_ds hL]
      refine ⟨_, rfl, rfl, _, rfl, ?_⟩
      rw [decide_eq_true rfl]
      exact if_f rfl ⟨_, _, rfl, sm.trans s17⟩
    · obtain ⟨y10, y11, rfl, sm⟩ := hW
      exact ⟨_, _, _, _, _, _, _, _, _, _, rfl, hT15.same sm, sm15.trans (Smt.of sm)⟩
  · exact q _
end
theorem all_mk {l : PySem.W.OpenLaw} {w : World} {K : PySem.W.Frag} {h : Heap} {mg : Str → Option Value} {fa f_counted f_wanted f_spares f_can_keep f_fails_at f__law_draw f__law_like f__law_any_order f__law_candles f__law_draughts f__law_near f__law_night f__law_lots f__law_burnt f__law_wins f__law_answer f__law_planned f_law : Addr} (X : K.In h) (G : h.Ns mainGlobals mg) (hfa : mg "law" = some (.ref fa))
    {od_counted an_counted od_wanted an_wanted od_spares an_spares od_can_keep an_can_keep od_fails_at an_fails_at od__law_draw an__law_draw od__law_like an__law_like od__law_any_order an__law_any_order od__law_candles an__law_candles od__law_draughts an__law_draughts od__law_near an__law_near od__law_night an__law_night od__law_lots an__law_lots od__law_burnt an__law_burnt od__law_wins an__law_wins od__law_answer an__law_answer od__law_planned an__law_planned od_law an_law : Option Addr} {sl_counted sl_wanted sl_spares sl_can_keep sl_fails_at sl__law_draw sl__law_like sl__law_any_order sl__law_candles sl__law_draughts sl__law_near sl__law_night sl__law_lots sl__law_burnt sl__law_wins sl__law_answer sl__law_planned sl_law : Array (Option Value)} {oc_counted kV_counted dc_counted pm_counted cd_counted ct_counted oc_wanted kV_wanted dc_wanted pm_wanted cd_wanted ct_wanted oc_spares kV_spares dc_spares pm_spares cd_spares ct_spares oc_can_keep kV_can_keep dc_can_keep pm_can_keep cd_can_keep ct_can_keep oc_fails_at kV_fails_at dc_fails_at pm_fails_at cd_fails_at ct_fails_at oc__law_draw kV__law_draw dc__law_draw pm__law_draw cd__law_draw ct__law_draw oc__law_like kV__law_like dc__law_like pm__law_like cd__law_like ct__law_like oc__law_any_order kV__law_any_order dc__law_any_order pm__law_any_order cd__law_any_order ct__law_any_order oc__law_candles kV__law_candles dc__law_candles pm__law_candles cd__law_candles ct__law_candles oc__law_draughts kV__law_draughts dc__law_draughts pm__law_draughts cd__law_draughts ct__law_draughts oc__law_near kV__law_near dc__law_near pm__law_near cd__law_near ct__law_near oc__law_night kV__law_night dc__law_night pm__law_night cd__law_night ct__law_night oc__law_lots kV__law_lots dc__law_lots pm__law_lots cd__law_lots ct__law_lots oc__law_burnt kV__law_burnt dc__law_burnt pm__law_burnt cd__law_burnt ct__law_burnt oc__law_wins kV__law_wins dc__law_wins pm__law_wins cd__law_wins ct__law_wins oc__law_answer kV__law_answer dc__law_answer pm__law_answer cd__law_answer ct__law_answer oc__law_planned kV__law_planned dc__law_planned pm__law_planned cd__law_planned ct__law_planned oc_law kV_law dc_law pm_law cd_law ct_law : Value}
    (a_counted : PySem.W.nsIn K mainGlobals "counted" = some (some (.ref f_counted))) (l_counted : K.lookup f_counted = some ⟨oc_counted, od_counted, .func (PySem.W.fnOf "counted" "counted" (defArgs s_counted) (defBody s_counted) (defScope s_counted) .none kV_counted dc_counted pm_counted an_counted cd_counted ct_counted), sl_counted⟩) (c_counted : PySem.W.codeIn K cd_counted "counted" = true) (k_counted : PySem.W.keepIn K (.ref f_counted) = true)
    (a_wanted : PySem.W.nsIn K mainGlobals "wanted" = some (some (.ref f_wanted))) (l_wanted : K.lookup f_wanted = some ⟨oc_wanted, od_wanted, .func (PySem.W.fnOf "wanted" "wanted" (defArgs s_wanted) (defBody s_wanted) (defScope s_wanted) .none kV_wanted dc_wanted pm_wanted an_wanted cd_wanted ct_wanted), sl_wanted⟩) (c_wanted : PySem.W.codeIn K cd_wanted "wanted" = true) (k_wanted : PySem.W.keepIn K (.ref f_wanted) = true)
    (a_spares : PySem.W.nsIn K mainGlobals "spares" = some (some (.ref f_spares))) (l_spares : K.lookup f_spares = some ⟨oc_spares, od_spares, .func (PySem.W.fnOf "spares" "spares" (defArgs s_spares) (defBody s_spares) (defScope s_spares) .none kV_spares dc_spares pm_spares an_spares cd_spares ct_spares), sl_spares⟩) (c_spares : PySem.W.codeIn K cd_spares "spares" = true) (k_spares : PySem.W.keepIn K (.ref f_spares) = true)
    (a_can_keep : PySem.W.nsIn K mainGlobals "can_keep" = some (some (.ref f_can_keep))) (l_can_keep : K.lookup f_can_keep = some ⟨oc_can_keep, od_can_keep, .func (PySem.W.fnOf "can_keep" "can_keep" (defArgs s_can_keep) (defBody s_can_keep) (defScope s_can_keep) .none kV_can_keep dc_can_keep pm_can_keep an_can_keep cd_can_keep ct_can_keep), sl_can_keep⟩) (c_can_keep : PySem.W.codeIn K cd_can_keep "can_keep" = true) (k_can_keep : PySem.W.keepIn K (.ref f_can_keep) = true)
    (a_fails_at : PySem.W.nsIn K mainGlobals "fails_at" = some (some (.ref f_fails_at))) (l_fails_at : K.lookup f_fails_at = some ⟨oc_fails_at, od_fails_at, .func (PySem.W.fnOf "fails_at" "fails_at" (defArgs s_fails_at) (defBody s_fails_at) (defScope s_fails_at) .none kV_fails_at dc_fails_at pm_fails_at an_fails_at cd_fails_at ct_fails_at), sl_fails_at⟩) (c_fails_at : PySem.W.codeIn K cd_fails_at "fails_at" = true) (k_fails_at : PySem.W.keepIn K (.ref f_fails_at) = true)
    (a__law_draw : PySem.W.nsIn K mainGlobals "_law_draw" = some (some (.ref f__law_draw))) (l__law_draw : K.lookup f__law_draw = some ⟨oc__law_draw, od__law_draw, .func (PySem.W.fnOf "_law_draw" "_law_draw" (defArgs s__law_draw) (defBody s__law_draw) (defScope s__law_draw) .none kV__law_draw dc__law_draw pm__law_draw an__law_draw cd__law_draw ct__law_draw), sl__law_draw⟩) (c__law_draw : PySem.W.codeIn K cd__law_draw "_law_draw" = true) (k__law_draw : PySem.W.keepIn K (.ref f__law_draw) = true)
    (a__law_like : PySem.W.nsIn K mainGlobals "_law_like" = some (some (.ref f__law_like))) (l__law_like : K.lookup f__law_like = some ⟨oc__law_like, od__law_like, .func (PySem.W.fnOf "_law_like" "_law_like" (defArgs s__law_like) (defBody s__law_like) (defScope s__law_like) .none kV__law_like dc__law_like pm__law_like an__law_like cd__law_like ct__law_like), sl__law_like⟩) (c__law_like : PySem.W.codeIn K cd__law_like "_law_like" = true) (k__law_like : PySem.W.keepIn K (.ref f__law_like) = true)
    (a__law_any_order : PySem.W.nsIn K mainGlobals "_law_any_order" = some (some (.ref f__law_any_order))) (l__law_any_order : K.lookup f__law_any_order = some ⟨oc__law_any_order, od__law_any_order, .func (PySem.W.fnOf "_law_any_order" "_law_any_order" (defArgs s__law_any_order) (defBody s__law_any_order) (defScope s__law_any_order) .none kV__law_any_order dc__law_any_order pm__law_any_order an__law_any_order cd__law_any_order ct__law_any_order), sl__law_any_order⟩) (c__law_any_order : PySem.W.codeIn K cd__law_any_order "_law_any_order" = true) (k__law_any_order : PySem.W.keepIn K (.ref f__law_any_order) = true)
    (a__law_candles : PySem.W.nsIn K mainGlobals "_law_candles" = some (some (.ref f__law_candles))) (l__law_candles : K.lookup f__law_candles = some ⟨oc__law_candles, od__law_candles, .func (PySem.W.fnOf "_law_candles" "_law_candles" (defArgs s__law_candles) (defBody s__law_candles) (defScope s__law_candles) .none kV__law_candles dc__law_candles pm__law_candles an__law_candles cd__law_candles ct__law_candles), sl__law_candles⟩) (c__law_candles : PySem.W.codeIn K cd__law_candles "_law_candles" = true) (k__law_candles : PySem.W.keepIn K (.ref f__law_candles) = true)
    (a__law_draughts : PySem.W.nsIn K mainGlobals "_law_draughts" = some (some (.ref f__law_draughts))) (l__law_draughts : K.lookup f__law_draughts = some ⟨oc__law_draughts, od__law_draughts, .func (PySem.W.fnOf "_law_draughts" "_law_draughts" (defArgs s__law_draughts) (defBody s__law_draughts) (defScope s__law_draughts) .none kV__law_draughts dc__law_draughts pm__law_draughts an__law_draughts cd__law_draughts ct__law_draughts), sl__law_draughts⟩) (c__law_draughts : PySem.W.codeIn K cd__law_draughts "_law_draughts" = true) (k__law_draughts : PySem.W.keepIn K (.ref f__law_draughts) = true)
    (a__law_near : PySem.W.nsIn K mainGlobals "_law_near" = some (some (.ref f__law_near))) (l__law_near : K.lookup f__law_near = some ⟨oc__law_near, od__law_near, .func (PySem.W.fnOf "_law_near" "_law_near" (defArgs s__law_near) (defBody s__law_near) (defScope s__law_near) .none kV__law_near dc__law_near pm__law_near an__law_near cd__law_near ct__law_near), sl__law_near⟩) (c__law_near : PySem.W.codeIn K cd__law_near "_law_near" = true) (k__law_near : PySem.W.keepIn K (.ref f__law_near) = true)
    (a__law_night : PySem.W.nsIn K mainGlobals "_law_night" = some (some (.ref f__law_night))) (l__law_night : K.lookup f__law_night = some ⟨oc__law_night, od__law_night, .func (PySem.W.fnOf "_law_night" "_law_night" (defArgs s__law_night) (defBody s__law_night) (defScope s__law_night) .none kV__law_night dc__law_night pm__law_night an__law_night cd__law_night ct__law_night), sl__law_night⟩) (c__law_night : PySem.W.codeIn K cd__law_night "_law_night" = true) (k__law_night : PySem.W.keepIn K (.ref f__law_night) = true)
    (a__law_lots : PySem.W.nsIn K mainGlobals "_law_lots" = some (some (.ref f__law_lots))) (l__law_lots : K.lookup f__law_lots = some ⟨oc__law_lots, od__law_lots, .func (PySem.W.fnOf "_law_lots" "_law_lots" (defArgs s__law_lots) (defBody s__law_lots) (defScope s__law_lots) .none kV__law_lots dc__law_lots pm__law_lots an__law_lots cd__law_lots ct__law_lots), sl__law_lots⟩) (c__law_lots : PySem.W.codeIn K cd__law_lots "_law_lots" = true) (k__law_lots : PySem.W.keepIn K (.ref f__law_lots) = true)
    (a__law_burnt : PySem.W.nsIn K mainGlobals "_law_burnt" = some (some (.ref f__law_burnt))) (l__law_burnt : K.lookup f__law_burnt = some ⟨oc__law_burnt, od__law_burnt, .func (PySem.W.fnOf "_law_burnt" "_law_burnt" (defArgs s__law_burnt) (defBody s__law_burnt) (defScope s__law_burnt) .none kV__law_burnt dc__law_burnt pm__law_burnt an__law_burnt cd__law_burnt ct__law_burnt), sl__law_burnt⟩) (c__law_burnt : PySem.W.codeIn K cd__law_burnt "_law_burnt" = true) (k__law_burnt : PySem.W.keepIn K (.ref f__law_burnt) = true)
    (a__law_wins : PySem.W.nsIn K mainGlobals "_law_wins" = some (some (.ref f__law_wins))) (l__law_wins : K.lookup f__law_wins = some ⟨oc__law_wins, od__law_wins, .func (PySem.W.fnOf "_law_wins" "_law_wins" (defArgs s__law_wins) (defBody s__law_wins) (defScope s__law_wins) .none kV__law_wins dc__law_wins pm__law_wins an__law_wins cd__law_wins ct__law_wins), sl__law_wins⟩) (c__law_wins : PySem.W.codeIn K cd__law_wins "_law_wins" = true) (k__law_wins : PySem.W.keepIn K (.ref f__law_wins) = true)
    (a__law_answer : PySem.W.nsIn K mainGlobals "_law_answer" = some (some (.ref f__law_answer))) (l__law_answer : K.lookup f__law_answer = some ⟨oc__law_answer, od__law_answer, .func (PySem.W.fnOf "_law_answer" "_law_answer" (defArgs s__law_answer) (defBody s__law_answer) (defScope s__law_answer) .none kV__law_answer dc__law_answer pm__law_answer an__law_answer cd__law_answer ct__law_answer), sl__law_answer⟩) (c__law_answer : PySem.W.codeIn K cd__law_answer "_law_answer" = true) (k__law_answer : PySem.W.keepIn K (.ref f__law_answer) = true)
    (a__law_planned : PySem.W.nsIn K mainGlobals "_law_planned" = some (some (.ref f__law_planned))) (l__law_planned : K.lookup f__law_planned = some ⟨oc__law_planned, od__law_planned, .func (PySem.W.fnOf "_law_planned" "_law_planned" (defArgs s__law_planned) (defBody s__law_planned) (defScope s__law_planned) .none kV__law_planned dc__law_planned pm__law_planned an__law_planned cd__law_planned ct__law_planned), sl__law_planned⟩) (c__law_planned : PySem.W.codeIn K cd__law_planned "_law_planned" = true) (k__law_planned : PySem.W.keepIn K (.ref f__law_planned) = true)
    (a_law : PySem.W.nsIn K mainGlobals "law" = some (some (.ref f_law))) (l_law : K.lookup f_law = some ⟨oc_law, od_law, .func (PySem.W.fnOf "law" "law" (defArgs s_law) (defBody s_law) (defScope s_law) .none kV_law dc_law pm_law an_law cd_law ct_law), sl_law⟩) (c_law : PySem.W.codeIn K cd_law "law" = true) (k_law : PySem.W.keepIn K (.ref f_law) = true)
    (z_len : PySem.W.nsIn K mainGlobals "len" = some none)
    (z_sum : PySem.W.nsIn K mainGlobals "sum" = some none)
    (z_all : PySem.W.nsIn K mainGlobals "all" = some none)
    (z_any : PySem.W.nsIn K mainGlobals "any" = some none)
    (z_sorted : PySem.W.nsIn K mainGlobals "sorted" = some none)
    (z_tuple : PySem.W.nsIn K mainGlobals "tuple" = some none)
    (z_list : PySem.W.nsIn K mainGlobals "list" = some none)
    (z_int : PySem.W.nsIn K mainGlobals "int" = some none)
    (z_bool : PySem.W.nsIn K mainGlobals "bool" = some none)
    (z_str : PySem.W.nsIn K mainGlobals "str" = some none)
    (z_isinstance : PySem.W.nsIn K mainGlobals "isinstance" = some none)
    (z_max : PySem.W.nsIn K mainGlobals "max" = some none)
    (z_min : PySem.W.nsIn K mainGlobals "min" = some none)
    (z_range : PySem.W.nsIn K mainGlobals "range" = some none)
    (z_enumerate : PySem.W.nsIn K mainGlobals "enumerate" = some none)
    (z_zip : PySem.W.nsIn K mainGlobals "zip" = some none)
    : ∃ fd : FuncData, (∀ (s : Shared) (v : Value), BindsTo s fd ⟨[v], []⟩ [("script", v)]) ∧ ∀ base : Heap, K.In base → base.Ns mainGlobals mg → FnOk l.prog w K mg base CX0 12 fa fd ["script"] (spLaw K) := by
  have e := hfa.symm.trans (PySem.W.mg_of X G a_law)
  cases e
  have T : Bl mg := ⟨PySem.W.mg_none_of X G z_len, PySem.W.mg_none_of X G z_sum, PySem.W.mg_none_of X G z_all, PySem.W.mg_none_of X G z_any, PySem.W.mg_none_of X G z_sorted, PySem.W.mg_none_of X G z_tuple, PySem.W.mg_none_of X G z_list, PySem.W.mg_none_of X G z_int, PySem.W.mg_none_of X G z_bool, PySem.W.mg_none_of X G z_str, PySem.W.mg_none_of X G z_isinstance, PySem.W.mg_none_of X G z_max, PySem.W.mg_none_of X G z_min, PySem.W.mg_none_of X G z_range, PySem.W.mg_none_of X G z_enumerate, PySem.W.mg_none_of X G z_zip⟩
  have F_counted := fun_mk (st := s_counted) l_counted c_counted k_counted
  have D_counted : FnAt K mg "counted" "counted" s_counted ["candles", "ticks"] f_counted _ := ⟨F_counted, F_counted.binds (ps := ["candles", "ticks"]) (fun _ _ _ _ _ _ us hl => match us, hl with | [_, _], _ => rfl), PySem.W.mg_of X G a_counted⟩
  have F_wanted := fun_mk (st := s_wanted) l_wanted c_wanted k_wanted
  have D_wanted : FnAt K mg "wanted" "wanted" s_wanted ["draughts", "ticks"] f_wanted _ := ⟨F_wanted, F_wanted.binds (ps := ["draughts", "ticks"]) (fun _ _ _ _ _ _ us hl => match us, hl with | [_, _], _ => rfl), PySem.W.mg_of X G a_wanted⟩
  have F_spares := fun_mk (st := s_spares) l_spares c_spares k_spares
  have D_spares : FnAt K mg "spares" "spares" s_spares ["candles", "draughts"] f_spares _ := ⟨F_spares, F_spares.binds (ps := ["candles", "draughts"]) (fun _ _ _ _ _ _ us hl => match us, hl with | [_, _], _ => rfl), PySem.W.mg_of X G a_spares⟩
  have F_can_keep := fun_mk (st := s_can_keep) l_can_keep c_can_keep k_can_keep
  have D_can_keep : FnAt K mg "can_keep" "can_keep" s_can_keep ["candles", "draughts"] f_can_keep _ := ⟨F_can_keep, F_can_keep.binds (ps := ["candles", "draughts"]) (fun _ _ _ _ _ _ us hl => match us, hl with | [_, _], _ => rfl), PySem.W.mg_of X G a_can_keep⟩
  have F_fails_at := fun_mk (st := s_fails_at) l_fails_at c_fails_at k_fails_at
  have D_fails_at : FnAt K mg "fails_at" "fails_at" s_fails_at ["candles", "draughts"] f_fails_at _ := ⟨F_fails_at, F_fails_at.binds (ps := ["candles", "draughts"]) (fun _ _ _ _ _ _ us hl => match us, hl with | [_, _], _ => rfl), PySem.W.mg_of X G a_fails_at⟩
  have F__law_draw := fun_mk (st := s__law_draw) l__law_draw c__law_draw k__law_draw
  have D__law_draw : FnAt K mg "_law_draw" "_law_draw" s__law_draw ["tape", "many"] f__law_draw _ := ⟨F__law_draw, F__law_draw.binds (ps := ["tape", "many"]) (fun _ _ _ _ _ _ us hl => match us, hl with | [_, _], _ => rfl), PySem.W.mg_of X G a__law_draw⟩
  have F__law_like := fun_mk (st := s__law_like) l__law_like c__law_like k__law_like
  have D__law_like : FnAt K mg "_law_like" "_law_like" s__law_like ["one", "two"] f__law_like _ := ⟨F__law_like, F__law_like.binds (ps := ["one", "two"]) (fun _ _ _ _ _ _ us hl => match us, hl with | [_, _], _ => rfl), PySem.W.mg_of X G a__law_like⟩
  have F__law_any_order := fun_mk (st := s__law_any_order) l__law_any_order c__law_any_order k__law_any_order
  have D__law_any_order : FnAt K mg "_law_any_order" "_law_any_order" s__law_any_order ["tape", "many"] f__law_any_order _ := ⟨F__law_any_order, F__law_any_order.binds (ps := ["tape", "many"]) (fun _ _ _ _ _ _ us hl => match us, hl with | [_, _], _ => rfl), PySem.W.mg_of X G a__law_any_order⟩
  have F__law_candles := fun_mk (st := s__law_candles) l__law_candles c__law_candles k__law_candles
  have D__law_candles : FnAt K mg "_law_candles" "_law_candles" s__law_candles ["tape", "size", "wax"] f__law_candles _ := ⟨F__law_candles, F__law_candles.binds (ps := ["tape", "size", "wax"]) (fun _ _ _ _ _ _ us hl => match us, hl with | [_, _, _], _ => rfl), PySem.W.mg_of X G a__law_candles⟩
  have F__law_draughts := fun_mk (st := s__law_draughts) l__law_draughts c__law_draughts k__law_draughts
  have D__law_draughts : FnAt K mg "_law_draughts" "_law_draughts" s__law_draughts ["tape", "size", "top"] f__law_draughts _ := ⟨F__law_draughts, F__law_draughts.binds (ps := ["tape", "size", "top"]) (fun _ _ _ _ _ _ us hl => match us, hl with | [_, _, _], _ => rfl), PySem.W.mg_of X G a__law_draughts⟩
  have F__law_near := fun_mk (st := s__law_near) l__law_near c__law_near k__law_near
  have D__law_near : FnAt K mg "_law_near" "_law_near" s__law_near ["tape", "candles", "size", "top"] f__law_near _ := ⟨F__law_near, F__law_near.binds (ps := ["tape", "candles", "size", "top"]) (fun _ _ _ _ _ _ us hl => match us, hl with | [_, _, _, _], _ => rfl), PySem.W.mg_of X G a__law_near⟩
  have F__law_night := fun_mk (st := s__law_night) l__law_night c__law_night k__law_night
  have D__law_night : FnAt K mg "_law_night" "_law_night" s__law_night ["tape", "size", "wax", "ticks", "top"] f__law_night _ := ⟨F__law_night, F__law_night.binds (ps := ["tape", "size", "wax", "ticks", "top"]) (fun _ _ _ _ _ _ us hl => match us, hl with | [_, _, _, _, _], _ => rfl), PySem.W.mg_of X G a__law_night⟩
  have F__law_lots := fun_mk (st := s__law_lots) l__law_lots c__law_lots k__law_lots
  have D__law_lots : FnAt K mg "_law_lots" "_law_lots" s__law_lots ["some"] f__law_lots _ := ⟨F__law_lots, F__law_lots.binds (ps := ["some"]) (fun _ _ _ _ _ _ us hl => match us, hl with | [_], _ => rfl), PySem.W.mg_of X G a__law_lots⟩
  have F__law_burnt := fun_mk (st := s__law_burnt) l__law_burnt c__law_burnt k__law_burnt
  have D__law_burnt : FnAt K mg "_law_burnt" "_law_burnt" s__law_burnt ["candles", "lit", "out"] f__law_burnt _ := ⟨F__law_burnt, F__law_burnt.binds (ps := ["candles", "lit", "out"]) (fun _ _ _ _ _ _ us hl => match us, hl with | [_, _, _], _ => rfl), PySem.W.mg_of X G a__law_burnt⟩
  have F__law_wins := fun_mk (st := s__law_wins) l__law_wins c__law_wins k__law_wins
  have D__law_wins : FnAt K mg "_law_wins" "_law_wins" s__law_wins ["candles", "left", "table"] f__law_wins _ := ⟨F__law_wins, F__law_wins.binds (ps := ["candles", "left", "table"]) (fun _ _ _ _ _ _ us hl => match us, hl with | [_, _, _], _ => rfl), PySem.W.mg_of X G a__law_wins⟩
  have F__law_answer := fun_mk (st := s__law_answer) l__law_answer c__law_answer k__law_answer
  have D__law_answer : FnAt K mg "_law_answer" "_law_answer" s__law_answer ["candles", "left", "at", "table"] f__law_answer _ := ⟨F__law_answer, F__law_answer.binds (ps := ["candles", "left", "at", "table"]) (fun _ _ _ _ _ _ us hl => match us, hl with | [_, _, _, _], _ => rfl), PySem.W.mg_of X G a__law_answer⟩
  have F__law_planned := fun_mk (st := s__law_planned) l__law_planned c__law_planned k__law_planned
  have D__law_planned : FnAt K mg "_law_planned" "_law_planned" s__law_planned ["candles", "draughts"] f__law_planned _ := ⟨F__law_planned, F__law_planned.binds (ps := ["candles", "draughts"]) (fun _ _ _ _ _ _ us hl => match us, hl with | [_, _], _ => rfl), PySem.W.mg_of X G a__law_planned⟩
  have F_law := fun_mk (st := s_law) l_law c_law k_law
  exact ⟨PySem.W.fnOf "law" "law" (defArgs s_law) (defBody s_law) (defScope s_law) .none kV_law dc_law pm_law an_law cd_law ct_law, fun s v => .of_eq rfl, fun base _ _ => ok_law T F_law D_counted D_wanted D_spares D_can_keep D_fails_at D__law_draw D__law_like D__law_any_order D__law_candles D__law_draughts D__law_near D__law_night D__law_lots D__law_burnt D__law_answer D__law_wins D__law_planned⟩
end LF
open PySem PySem.W PyProof.Rows
set_option maxHeartbeats 0 in
theorem PySem.Challenge.cw_lastflame_k04_whole_the_game_gone_throug_holds : PySem.Challenge.rw_lastflame_k04_whole_the_game_gone_throug.Holds := by
  w_on; o_law; k_head; (case hw => w_witness2)
  k_fill
  refine L2.walk_of (l := PySem.Challenge.rw_lastflame_k04_whole_the_game_gone_throug) (n := 63) (k := 12) (x := "script") (CX := fun _ => L2.CX0) (sp := fun w => LF.spLaw _) rfl (by decide) rfl ⟨rfl, by decide, by decide⟩ (fun w h Y => PySem.W.kIn_of Y) ?F (fun _ _ a ns hl _ hS => ⟨a, ns, rfl, hS, hl, fun _ => rfl⟩) (fun _ _ _ _ _ h => h)
  case F =>
    intro w mg fa h KX G hmg
    refine' LF.all_mk KX G hmg ?a_counted ?l_counted ?c_counted ?k_counted ?a_wanted ?l_wanted ?c_wanted ?k_wanted ?a_spares ?l_spares ?c_spares ?k_spares ?a_can_keep ?l_can_keep ?c_can_keep ?k_can_keep ?a_fails_at ?l_fails_at ?c_fails_at ?k_fails_at ?a__law_draw ?l__law_draw ?c__law_draw ?k__law_draw ?a__law_like ?l__law_like ?c__law_like ?k__law_like ?a__law_any_order ?l__law_any_order ?c__law_any_order ?k__law_any_order ?a__law_candles ?l__law_candles ?c__law_candles ?k__law_candles ?a__law_draughts ?l__law_draughts ?c__law_draughts ?k__law_draughts ?a__law_near ?l__law_near ?c__law_near ?k__law_near ?a__law_night ?l__law_night ?c__law_night ?k__law_night ?a__law_lots ?l__law_lots ?c__law_lots ?k__law_lots ?a__law_burnt ?l__law_burnt ?c__law_burnt ?k__law_burnt ?a__law_wins ?l__law_wins ?c__law_wins ?k__law_wins ?a__law_answer ?l__law_answer ?c__law_answer ?k__law_answer ?a__law_planned ?l__law_planned ?c__law_planned ?k__law_planned ?a_law ?l_law ?c_law ?k_law ?z_len ?z_sum ?z_all ?z_any ?z_sorted ?z_tuple ?z_list ?z_int ?z_bool ?z_str ?z_isinstance ?z_max ?z_min ?z_range ?z_enumerate ?z_zip
    (case a_counted => k_is)
    (case l_counted => k_is)
    (case c_counted => k_is)
    (case k_counted => k_is)
    (case a_wanted => k_is)
    (case l_wanted => k_is)
    (case c_wanted => k_is)
    (case k_wanted => k_is)
    (case a_spares => k_is)
    (case l_spares => k_is)
    (case c_spares => k_is)
    (case k_spares => k_is)
    (case a_can_keep => k_is)
    (case l_can_keep => k_is)
    (case c_can_keep => k_is)
    (case k_can_keep => k_is)
    (case a_fails_at => k_is)
    (case l_fails_at => k_is)
    (case c_fails_at => k_is)
    (case k_fails_at => k_is)
    (case a__law_draw => k_is)
    (case l__law_draw => k_is)
    (case c__law_draw => k_is)
    (case k__law_draw => k_is)
    (case a__law_like => k_is)
    (case l__law_like => k_is)
    (case c__law_like => k_is)
    (case k__law_like => k_is)
    (case a__law_any_order => k_is)
    (case l__law_any_order => k_is)
    (case c__law_any_order => k_is)
    (case k__law_any_order => k_is)
    (case a__law_candles => k_is)
    (case l__law_candles => k_is)
    (case c__law_candles => k_is)
    (case k__law_candles => k_is)
    (case a__law_draughts => k_is)
    (case l__law_draughts => k_is)
    (case c__law_draughts => k_is)
    (case k__law_draughts => k_is)
    (case a__law_near => k_is)
    (case l__law_near => k_is)
    (case c__law_near => k_is)
    (case k__law_near => k_is)
    (case a__law_night => k_is)
    (case l__law_night => k_is)
    (case c__law_night => k_is)
    (case k__law_night => k_is)
    (case a__law_lots => k_is)
    (case l__law_lots => k_is)
    (case c__law_lots => k_is)
    (case k__law_lots => k_is)
    (case a__law_burnt => k_is)
    (case l__law_burnt => k_is)
    (case c__law_burnt => k_is)
    (case k__law_burnt => k_is)
    (case a__law_wins => k_is)
    (case l__law_wins => k_is)
    (case c__law_wins => k_is)
    (case k__law_wins => k_is)
    (case a__law_answer => k_is)
    (case l__law_answer => k_is)
    (case c__law_answer => k_is)
    (case k__law_answer => k_is)
    (case a__law_planned => k_is)
    (case l__law_planned => k_is)
    (case c__law_planned => k_is)
    (case k__law_planned => k_is)
    (case a_law => k_is)
    (case l_law => k_is)
    (case c_law => k_is)
    (case k_law => k_is)
    (case z_len => k_is)
    (case z_sum => k_is)
    (case z_all => k_is)
    (case z_any => k_is)
    (case z_sorted => k_is)
    (case z_tuple => k_is)
    (case z_list => k_is)
    (case z_int => k_is)
    (case z_bool => k_is)
    (case z_str => k_is)
    (case z_isinstance => k_is)
    (case z_max => k_is)
    (case z_min => k_is)
    (case z_range => k_is)
    (case z_enumerate => k_is)
    (case z_zip => k_is)

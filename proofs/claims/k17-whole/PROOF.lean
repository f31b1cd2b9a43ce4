import PyProof.Rows.All
import Wide.All
import OpenK.AllK
import Wide.FinOn
import PySem.Challenge.RW_secondknock_k17_whole_one_way_low_all_el
import HandS.EndBits
import HandS.ForMost
import HandS.Zip
import HandS.TupAny
import HandS.IsInst
import KE.GoesMore
import HandS.Star
import HandS.Deep
import HandS.Flow
import HandS.Conv
import HandS.Walk
import HandS.WordsExc
import HandS.TupSets
import HandS.SortInts
import HandS.Set
import KE.SortData
import KE.DatumOrd
import HandS.SetFor
import HandS.Strs
import HandS.ExcOwn
import HandS.Exc
import KE.KExcSuper
import KE.KSuper
import KE.KExcInit
import HandS.ExcSuper
import HandS.Small
import HandS.TryMany
import HandS.ExcIs
import KE.KExcIs
import HandS.Defaults
set_option Elab.async false
set_option linter.all false
set_option maxRecDepth 100000
/-! enumerate of a tuple, walked -/
namespace PySem
open Sem (wp)
open AutoSeq1 (wpAny_loadPart')
theorem sk_meets_enumT (l : Addr) (items : Array Value) (n : Nat) (dct : Option Addr) (sl : Array (Option Value)) :
    Meets (Builtin.«enumerate.__new__» ⟨[.type "enumerate", .ref l], []⟩) (fun _ R s => s.heap.get? l = some { cls := .type "tuple", dict := dct, data := .seq items n, slots := sl } ∧
      R (.ok (.ret (.ref (s.heap.push { cls := .type "tuple_iterator", data := .fields #[.ref l, .int 0 0] }).objs.size)))
        { s with heap := (s.heap.push { cls := .type "tuple_iterator", data := .fields #[.ref l, .int 0 0] }).push { cls := .type "enumerate", data := .fields #[.none, .bool false, .ref s.heap.objs.size, rawInt 0, .none, .none] } }) :=
  .of_wp fun prog w A R s h => by
    obtain ⟨hp, g, d, tk, os⟩ := s; obtain ⟨hl, h⟩ := h
    have hsub := sub_enumerate
    have hL : Heap.IsTuple (Shared.heap ⟨hp, g, d, tk, os⟩) l items := ⟨_, hl, rfl, n, rfl⟩
    wp_walk using wpAny_loadPart' hl
    refine wpAny_stack_any fun st => wpAny_pure ?_
    split
    · rename_i c _ _ _ _ _
      cases (c == Value.type "enumerate")
      · wp_walk using wpAny_loadPart' hl, wpAny_pyIter_tuple hL
        exact ⟨_, rfl, h⟩
      · wp_walk using wpAny_loadPart' hl, wpAny_pyIter_tuple hL
        exact ⟨_, rfl, h⟩
    · wp_walk using wpAny_loadPart' hl, wpAny_pyIter_tuple hL
      exact ⟨_, rfl, h⟩
section
variable {prog : Program} {w : World} {A : Around} {E : Value → Shared → Prop} {s : Shared}
theorem sk_call_enumT {l : Addr} {items : Array Value} {Q : Value → Shared → Prop} (hL : s.heap.IsTuple l items)
    (h : ∀ h', IsEnum h' (s.heap.objs.size + 1) s.heap.objs.size 0 .none → h'.IsTupleIter s.heap.objs.size l 0 → h'.objs.size = s.heap.objs.size + 2 →
      (∀ b o, s.heap.get? b = some o → h'.get? b = some o) → Q (.ref (s.heap.objs.size + 1)) { s with heap := h' }) :
    wpAny (model prog w) A (call (.type "enumerate") [.ref l]) Q E s := by
  obtain ⟨⟨c, dct, dt, sl⟩, hl, hc, n, hd⟩ := hL
  replace hc : c = .type "tuple" := hc
  replace hd : dt = .seq items n := hd
  subst hc hd
  refine callType_new F.called_enumerate (by decide) (F.typeCall_enumerate_1 _) (F.newCall_enumerate_1 _) (fun obj => F.args_object_init_2 obj _) F.entry_enumerate_new
    (sk_meets_enumT l items n dct sl) ⟨hl, ?_⟩
  have hz : (s.heap.push { cls := .type "tuple_iterator", data := .fields #[.ref l, .int 0 0] }).objs.size = s.heap.objs.size + 1 := Heap.size_push ..
  show _ ∧ _
  rw [hz]
  have he : IsEnum ((s.heap.push { cls := .type "tuple_iterator", data := .fields #[.ref l, .int 0 0] }).push
      { cls := .type "enumerate", data := .fields #[.none, .bool false, .ref s.heap.objs.size, rawInt 0, .none, .none] }) (s.heap.objs.size + 1) s.heap.objs.size 0 .none := by
    have := Heap.get?_push_size (s.heap.push { cls := .type "tuple_iterator", data := .fields #[.ref l, .int 0 0] })
      (o := { cls := .type "enumerate", data := .fields #[.none, .bool false, .ref s.heap.objs.size, rawInt 0, .none, .none] }) rfl
    rw [hz] at this; exact this
  refine ⟨⟨_, he, rfl⟩, h _ he ⟨_, Heap.get?_push_of_some _ (Heap.get?_push_size _ rfl), rfl, rfl⟩ (by rw [Heap.size_push, hz]) fun b o x => Heap.get?_push_of_some _ (Heap.get?_push_of_some _ x)⟩
end
end PySem
namespace SK
open PySem PySem.Spec PyProof.Rows L2
/-- the tuple at a as it stands, each item in a new pair with its number -/
def IteT (K : PySem.W.Frag) (a : Addr) : It :=
  ⟨fun i H => ∃ (xs : List V) (x : V), SqT K H a xs ∧ xs[i]? = some x, fun i H v H' => ∃ T x, v = .ref T ∧ H T = none ∧ H' = upd H T (.tup [.int (i : Nat), x]) ∧ ∀ xs, SqT K H a xs → xs[i]? = some x, fun i H => ∃ xs : List V, SqT K H a xs ∧ xs.length ≤ i⟩
theorem apart_cls {h : Heap} {a b : Addr} {o o' : Obj} (e : h.get? a = some o) (e' : h.get? b = some o') (d : o.cls ≠ o'.cls) : a ≠ b := fun z => by
  subst z
  rw [e] at e'
  cases e'
  exact d rfl
theorem turn_enumT {P : Program} {w : World} {K : PySem.W.Frag} {elts : List Expr} {kk : Nat} {tpos : Pos} (a e it : Addr) :
    Turn P w K (.Tuple elts kk tpos) (IteT K a) [e, it] e (fun i h => (∃ old, IsEnum h e it ((i : Nat) : Int) old) ∧ h.IsTupleIter it a i ∧ e ≠ it) where
  mem := by simp
  obj := fun i h st b hb => by
    obtain ⟨⟨old, he⟩, ⟨o, ho, hc, hd⟩, _⟩ := st
    have e' : b = e ∨ b = it := by simpa using hb
    rcases e' with z | z
    · rw [z]; exact ⟨_, he, fun v q => nomatch q⟩
    · rw [z]; exact ⟨o, ho, fun v q => by rw [hd] at q; cases q⟩
  keep := fun i h h' st k => let ⟨⟨old, he⟩, hi, hne⟩ := st; ⟨⟨old, k e (by simp) _ he⟩, hi.at fun o q => k it (by simp) o q, hne⟩
  item := by
    intro X hP hw hK hc i pins s σ H E I hf st hg
    subst hP hw hK
    obtain ⟨⟨old, he⟩, hit, hne⟩ := st
    obtain ⟨xs, x, hq, hx⟩ := hg
    obtain ⟨its, rv, p, hz⟩ := I.tuple hq
    obtain ⟨u, hu, ru⟩ := rv.get hx
    have hel : e < s.heap.objs.size := Heap.lt_size he
    have hil : it < s.heap.objs.size := by obtain ⟨_, q, _⟩ := hit; exact Heap.lt_size q
    have hai : a ≠ it := by
      obtain ⟨o1, q1, c1, _⟩ := p
      obtain ⟨o2, q2, c2, _⟩ := hit
      exact apart_cls q1 q2 (by rw [c1, c2]; decide)
    have hae : e ≠ a := by
      obtain ⟨o1, q1, c1, _⟩ := p
      refine apart_cls he q1 ?_
      rw [c1]
      show Value.type "enumerate" ≠ Value.type "tuple"
      decide
    have hu' : its.toArray[i]? = some u := by simpa using hu
    have hlt : i < its.toArray.size := by
      rcases Nat.lt_or_ge i its.toArray.size with z | z
      · exact z
      · rw [Array.getElem?_eq_none z] at hu'; cases hu'
    refine wpAny_pyNext_enum_itemD (PySem.Draws.tuple (show X.A.in1.handled = none from I.ok.hd hc) it a hai its.toArray) he ⟨hit, show s.heap.IsTuple a its.toArray from p⟩ hlt hne (by simp [hne, hae]) fun x1 h' tk hx1 ho st' hT hsz hk => ?_
    obtain rfl : x1 = u := Option.some.inj (hx1.symm.trans hu')
    refine ⟨_, rfl, wpAny_letOwnedTupleGo_enum (s := { s with heap := h', toks := tk + 1 }) ho fun h'' he' sb => ?_⟩
    have hT2 : h''.get? s.heap.objs.size = some { cls := .type "tuple", data := .seq #[.int i tk, x1] } := (sb.2 _ (Nat.ne_of_gt hel)).trans hT
    have new : ObjOk X.prog X.w (upd H s.heap.objs.size (.tup [.int (i : Nat), x])) h'' s.heap.objs.size (.tup [.int (i : Nat), x]) :=
      ⟨by show 2 ≤ sizeLine; decide, [.int i tk, x1], .cons ⟨_, rfl⟩ (.cons ru .nil), ⟨_, hT2, rfl, _, rfl⟩⟩
    have I1 : Inv X pins σ (upd H s.heap.objs.size (.tup [.int (i : Nat), x])) { s with heap := h'', toks := tk + 1 } :=
      I.turnedNew (ch := [e, it]) (fun b ob hb q => (sb.2 b (fun z => hb (by simp [z]))).trans (hk b ob (fun z => hb (by simp [z])) (fun z => hb (by simp [z])) q)) hf (Nat.le_refl _) new
    refine ⟨.ref s.heap.objs.size, _, I1, rfl, ⟨_, x, rfl, I.hok.fresh (Nat.le_refl _), rfl, fun ys hy => by rw [I.tuple_inj hy hq]; exact hx⟩, ⟨⟨x1, ?_⟩, st'.1.at fun o q => (sb.2 it (Ne.symm hne)).trans q, hne⟩, fun b hb => ?_⟩
    · have e1 : ((i + 1 : Nat) : Int) = (i : Int) + 1 := by omega
      rw [e1]; exact he'
    · have hb' : b < s.heap.objs.size := by
        have e' : b = e ∨ b = it := by simpa using hb
        rcases e' with z | z
        · rw [z]; exact hel
        · rw [z]; exact hil
      rw [upd_ne (Nat.ne_of_lt hb')]
      exact (hf b hb).1
  done := by
    intro X hP hw hK hc i pins s σ H E I hf st hg
    subst hP hw hK
    obtain ⟨⟨old, he⟩, hit, hne⟩ := st
    obtain ⟨xs, hq, hx⟩ := hg
    obtain ⟨its, rv, p, hz⟩ := I.tuple hq
    obtain ⟨f0, f1, f2, f3, f4, f5⟩ := hf it (by simp)
    have hl := rv.length
    have hT : s.TypeIs (.ref e) "enumerate" := ⟨_, he, rfl⟩
    unfold pyNext
    refine wpAny_bind (wpAny_attempt (wpAny_callSpecial?_slot (name := Str.ofString "__next__") hT F.slot_enumerate_next
      (wpAny_call_entry F.slot_enumerate_next hT F.entry_enumerate_next ?_ (F.args_enumerate_next_1 _))))
    show wpAny _ _ (field (.ref e) 2 >>= _) _ _ _
    refine wpAny_bind (wpAny_field he rfl (x := .ref it) rfl ?_)
    refine wpAny_bind (wpAny_nextOf_tuple_end (I.ok.hd hc) hit (show s.heap.IsTuple a its.toArray from p) (by simp; omega) fun h' x he' hx' => ?_)
    obtain ⟨o, ho, hcx⟩ := hx'
    refine wpAny_bind (wpAny_isInstance (T := "StopIteration") (b := true) ⟨o, ho, hcx⟩ isSubtype_stop ?_)
    exact wpAny_pure ⟨rfl, I.turned (t' := s.toks) (fun b o hb q => he' b o hb q) f0 f1 f3 f4 f5⟩
  self := fun A i s Q E st h => let ⟨⟨_, he⟩, _⟩ := st; wpAny_pyIter_enum he h
def iEnumA (K : PySem.W.Frag) (ta : TA) : TI := fun σ H R => ta σ H fun vs H1 => ∃ a xs, vs = [.ref a] ∧ ((SqL K H1 a xs ∧ R (Ite K a) H1) ∨ (SqT K H1 a xs ∧ R (IteT K a) H1))
theorem pi_enumA {X : Cx} {e : Expr} {ta : TA} {p pos tpos : Pos} {elts : List Expr} {kk : Nat} (hg : Gl X "enumerate") (hm : X.mg "enumerate" = none) (ha : PA X [e] ta) (hs : starEach [e] X.env = [(false, eval e X.env)] := by rfl) :
    PI X (.Tuple elts kk tpos) (.Call (.Name "enumerate" p) [e] [] pos) (iEnumA X.K ta) := by
  refine ⟨fun pins s σ H R I h => ?_⟩
  refine Call_ (ld_blt I hg hm boot_enumerate (PyProof.Rows.callWith_type1 (thn (ha.run pos pins s σ H _ I h) fun us s1 ⟨vs, H1, I1, r1, q1⟩ => ?_) hs rfl))
  obtain ⟨a, xs, ex, q⟩ := q1
  subst ex
  cases r1 with
  | cons r rr =>
    cases rr
    cases r
    have fresh2 : ∀ b ∈ [s1.heap.objs.size + 1, s1.heap.objs.size], FpOk X pins H1 b := fun b hb => by
      have e' : b = s1.heap.objs.size + 1 ∨ b = s1.heap.objs.size := by simpa using hb
      have hle : s1.heap.objs.size ≤ b := by
        rcases e' with z | z
        · rw [z]; exact Nat.le_add_right _ _
        · rw [z]; exact Nat.le_refl _
      exact I1.fpOk hle (I1.hok.fresh hle)
    rcases q with ⟨hq, q⟩ | ⟨hq, q⟩
    · obtain ⟨its, rv, p', hz⟩ := I1.list hq
      refine call_enumerate_list p'.isList fun h' he hit hsz hk => wpAny_pyIter_enum he ?_
      have I2 : Inv X pins σ H1 { s1 with heap := h' } := I1.kept (t' := s1.toks) hk
      exact ⟨s1.heap.objs.size + 1, [s1.heap.objs.size + 1, s1.heap.objs.size], _, _, H1, rfl, I2, turn_enum a (s1.heap.objs.size + 1) s1.heap.objs.size, ⟨⟨.none, he⟩, hit, Nat.succ_ne_self _⟩, fresh2, q⟩
    · obtain ⟨its, rv, p', hz⟩ := I1.tuple hq
      refine sk_call_enumT (show s1.heap.IsTuple a its.toArray from p') fun h' he hit hsz hk => wpAny_pyIter_enum he ?_
      have I2 : Inv X pins σ H1 { s1 with heap := h' } := I1.kept (t' := s1.toks) hk
      exact ⟨s1.heap.objs.size + 1, [s1.heap.objs.size + 1, s1.heap.objs.size], _, _, H1, rfl, I2, turn_enumT a (s1.heap.objs.size + 1) s1.heap.objs.size, ⟨⟨.none, he⟩, hit, Nat.succ_ne_self _⟩, fresh2, q⟩
end SK
/-! The layer over data: an expression gives this data in a heap that has grown. -/
namespace SK
open PySem PySem.Spec PyProof.Rows L2

/-! ### heaps -/
/-- the heap without the lists that change -/
def cut (ms : List Addr) (H : Hp) : Hp := fun b => if b ∈ ms then none else H b
theorem cut_nil (H : Hp) : cut [] H = H := by funext b; simp [cut]
theorem cut_at {ms : List Addr} {H : Hp} {b : Addr} {o : HO} (h : cut ms H b = some o) : b ∉ ms ∧ H b = some o := by
  unfold cut at h
  split at h
  · cases h
  · exact ⟨by assumption, h⟩
theorem cut_of {ms : List Addr} {H : Hp} {b : Addr} {o : HO} (h : b ∉ ms) (e : H b = some o) : cut ms H b = some o := by unfold cut; rw [if_neg h]; exact e
theorem cut_le {ms : List Addr} {H : Hp} : Same (cut ms H) H := fun b o e => (cut_at e).2
theorem cut_same {ms : List Addr} {H H' : Hp} (S : Same H H') : Same (cut ms H) (cut ms H') := fun b o e => cut_of (cut_at e).1 (S _ _ (cut_at e).2)
theorem same_new {H : Hp} {p : Addr} {o : HO} (h : H p = none) : Same H (upd H p o) := fun b x e => by
  rw [upd_ne (ne_of_none e h)]
  exact e
/-- what changes is there -/
def Trk (ms : List Addr) (H : Hp) : Prop := ∀ m ∈ ms, H m ≠ none
theorem Trk.up {ms : List Addr} {H H' : Hp} (t : Trk ms H) (S : Same H H') : Trk ms H' := fun m hm e => by
  cases h : H m with
  | none => exact t m hm h
  | some o => rw [S _ _ h] at e; cases e
theorem Trk.new {ms : List Addr} {H : Hp} {p : Addr} (t : Trk ms H) (h : H p = none) : p ∉ ms := fun hm => t p hm h
theorem Trk.nil {H : Hp} : Trk [] H := fun m hm => by cases hm
theorem cut_upd {ms : List Addr} {H : Hp} {p : Addr} {o : HO} (h : p ∉ ms) : cut ms (upd H p o) = upd (cut ms H) p o := by
  funext b
  unfold cut upd
  by_cases e : b = p
  · subst e
    rw [if_neg h, if_pos rfl, if_pos rfl]
  · rw [if_neg e, if_neg e]
/-- another list, from here on changing -/
theorem cut_more {ms : List Addr} {H : Hp} {p : Addr} {o : HO} (h : H p = none) : Same (cut ms H) (cut (p :: ms) (upd H p o)) := fun b x e => by
  have h1 := cut_at e
  have hb : b ≠ p := ne_of_none h1.2 h
  exact cut_of (by simp [hb, h1.1]) (by rw [upd_ne hb]; exact h1.2)
/-- a changing list changes -/
theorem cut_mut {ms : List Addr} {H : Hp} {p : Addr} {o : HO} (h : p ∈ ms) : cut ms (upd H p o) = cut ms H := by
  funext b
  unfold cut
  split
  · rfl
  · rename_i hb
    rw [upd_ne (show b ≠ p from fun e => hb (by rw [e]; exact h))]
theorem cut_sub {ms ms' : List Addr} {H : Hp} (h : ∀ m ∈ ms', m ∈ ms) : Same (cut ms H) (cut ms' H) := fun b o e => cut_of (fun z => (cut_at e).1 (h _ z)) (cut_at e).2

/-! ### data -/
mutual
theorem dp_mono {K : PySem.W.Frag} {H H' : Hp} (S : Same H H') : ∀ {d : PyData} {v : V}, Dp K H v d → Dp K H' v d
  | .none, _, h => by cases h; exact .non
  | .bool b, _, h => by cases h; exact .bl b
  | .int i, _, h => by cases h; exact .int i
  | .str x, _, h => by cases h; exact .str x
  | .list ds, _, h => by
    cases h with
    | lst hs ha => exact .lst (S.seq hs) (dpall_mono S ha)
  | .tuple ds, _, h => by
    cases h with
    | tup hs ha =>
      refine .tup ?_ (dpall_mono S ha)
      rcases hs with (hs | ⟨o, hs⟩) | hs
      · exact .inl (.inl (S _ _ hs))
      · exact .inl (.inr ⟨o, S _ _ hs⟩)
      · exact .inr hs
  | .dict _, _, h => by cases h
theorem dpall_mono {K : PySem.W.Frag} {H H' : Hp} (S : Same H H') : ∀ {ds : List PyData} {vs : List V}, DpAll K H vs ds → DpAll K H' vs ds
  | [], _, h => by cases h; exact .nil
  | d :: ds, _, h => by
    cases h with
    | cons h1 h2 => exact .cons (dp_mono S h1) (dpall_mono S h2)
end
theorem sqt_mono {K : PySem.W.Frag} {H H' : Hp} (S : Same H H') {a : Addr} {xs : List V} (hs : SqT K H a xs) : SqT K H' a xs := by
  rcases hs with (hs | ⟨o, hs⟩) | hs
  · exact .inl (.inl (S _ _ hs))
  · exact .inl (.inr ⟨o, S _ _ hs⟩)
  · exact .inr hs
section
variable {K : PySem.W.Frag} {H H' : Hp}
theorem dp_int {v : V} {i : Int} (h : Dp K H v (.int i)) : v = .int i := by cases h; rfl
theorem dp_bool {v : V} {b : Bool} (h : Dp K H v (.bool b)) : v = .bl b := by cases h; rfl
theorem dp_none {v : V} (h : Dp K H v .none) : v = .non := by cases h; rfl
theorem dp_str {v : V} {x : Str} (h : Dp K H v (.str x)) : v = .str x := by cases h; rfl
theorem dp_list {v : V} {ds : List PyData} (h : Dp K H v (.list ds)) : ∃ a xs, v = .ref a ∧ SqL K H a xs ∧ DpAll K H xs ds := by
  cases h with
  | lst hs ha => exact ⟨_, _, rfl, hs, ha⟩
theorem dp_tup {v : V} {ds : List PyData} (h : Dp K H v (.tuple ds)) : ∃ a xs, v = .ref a ∧ SqT K H a xs ∧ DpAll K H xs ds := by
  cases h with
  | tup hs ha => exact ⟨_, _, rfl, hs, ha⟩
theorem dpall_len : ∀ {ds : List PyData} {vs : List V}, DpAll K H vs ds → vs.length = ds.length
  | [], _, h => by cases h; rfl
  | d :: ds, _, h => by
    cases h with
    | cons h1 h2 => simp [dpall_len h2]
theorem dpall_get : ∀ {ds : List PyData} {vs : List V} {i : Nat} {d : PyData}, DpAll K H vs ds → ds[i]? = some d → ∃ v, vs[i]? = some v ∧ Dp K H v d
  | [], _, _, _, h, e => by simp at e
  | d :: ds, _, 0, d', h, e => by
    cases h with
    | cons h1 h2 => cases e; exact ⟨_, rfl, h1⟩
  | d :: ds, _, i + 1, d', h, e => by
    cases h with
    | cons h1 h2 =>
      obtain ⟨v, e1, e2⟩ := dpall_get (i := i) h2 e
      exact ⟨v, e1, e2⟩
theorem dpall_of : ∀ {ds : List PyData} {vs : List V} {i : Nat} {v : V}, DpAll K H vs ds → vs[i]? = some v → ∃ d, ds[i]? = some d ∧ Dp K H v d
  | [], _, _, _, h, e => by cases h; simp at e
  | d :: ds, _, 0, v, h, e => by
    cases h with
    | cons h1 h2 => cases e; exact ⟨_, rfl, h1⟩
  | d :: ds, _, i + 1, v, h, e => by
    cases h with
    | cons h1 h2 =>
      obtain ⟨d', e1, e2⟩ := dpall_of (i := i) h2 e
      exact ⟨d', e1, e2⟩
theorem dpall_app : ∀ {ds es : List PyData} {vs us : List V}, DpAll K H vs ds → DpAll K H us es → DpAll K H (vs ++ us) (ds ++ es)
  | [], _, _, _, h, h' => by cases h; exact h'
  | d :: ds, _, _, _, h, h' => by
    cases h with
    | cons h1 h2 => exact .cons h1 (dpall_app h2 h')
theorem dpall_drop : ∀ {ds : List PyData} {vs : List V} (n : Nat), DpAll K H vs ds → DpAll K H (vs.drop n) (ds.drop n)
  | _, _, 0, h => h
  | [], _, n + 1, h => by cases h; exact .nil
  | d :: ds, _, n + 1, h => by
    cases h with
    | cons h1 h2 => exact dpall_drop n h2
theorem dpall_take : ∀ {ds : List PyData} {vs : List V} (n : Nat), DpAll K H vs ds → DpAll K H (vs.take n) (ds.take n)
  | _, _, 0, h => .nil
  | [], _, n + 1, h => by cases h; exact .nil
  | d :: ds, _, n + 1, h => by
    cases h with
    | cons h1 h2 => exact .cons h1 (dpall_take n h2)
theorem dpall_set : ∀ {ds : List PyData} {vs : List V} {v : V} {d : PyData} (n : Nat), DpAll K H vs ds → Dp K H v d → DpAll K H (vs.set n v) (ds.set n d)
  | [], _, _, _, n, h, _ => by cases h; exact .nil
  | d :: ds, _, _, _, 0, h, h' => by
    cases h with
    | cons h1 h2 => exact .cons h' h2
  | d :: ds, _, _, _, n + 1, h, h' => by
    cases h with
    | cons h1 h2 => exact .cons h1 (dpall_set n h2 h')
theorem dpall_erase : ∀ {ds : List PyData} {vs : List V} (n : Nat), DpAll K H vs ds → DpAll K H (vs.eraseIdx n) (ds.eraseIdx n)
  | [], _, n, h => by cases h; exact .nil
  | d :: ds, _, 0, h => by
    cases h with
    | cons h1 h2 => exact h2
  | d :: ds, _, n + 1, h => by
    cases h with
    | cons h1 h2 => exact .cons h1 (dpall_erase n h2)
theorem dpall_ints : ∀ {ns : List Int} {vs : List V}, DpAll K H vs (ns.map PyData.int) → vs = ns.map V.int
  | [], _, h => by cases h; rfl
  | n :: ns, _, h => by
    cases h with
    | cons h1 h2 => rw [dp_int h1, dpall_ints h2]; rfl
theorem of_ints : ∀ {ns : List Int}, DpAll K H (ns.map V.int) (ns.map PyData.int)
  | [] => .nil
  | n :: ns => .cons (.int n) of_ints
theorem dpall_bools : ∀ {bs : List Bool} {vs : List V}, DpAll K H vs (bs.map PyData.bool) → vs = bs.map V.bl
  | [], _, h => by cases h; rfl
  | n :: ns, _, h => by
    cases h with
    | cons h1 h2 => rw [dp_bool h1, dpall_bools h2]; rfl
/-- a new tuple, a new list -/
theorem dp_newT {ms : List Addr} {p : Addr} {xs : List V} {ds : List PyData} (t : Trk ms H) (hp : H p = none) (h : DpAll K (cut ms H) xs ds) : Dp K (cut ms (upd H p (.tup xs))) (.ref p) (.tuple ds) :=
  .tup (.inl (.inl (cut_of (t.new hp) upd_same))) (dpall_mono (cut_same (same_new hp)) h)
theorem dp_newL {ms : List Addr} {p : Addr} {xs : List V} {ds : List PyData} (t : Trk ms H) (hp : H p = none) (h : DpAll K (cut ms H) xs ds) : Dp K (cut ms (upd H p (.lst xs))) (.ref p) (.list ds) :=
  .lst (.inl (.inl (cut_of (t.new hp) upd_same))) (dpall_mono (cut_same (same_new hp)) h)
end

/-! ### where one stands -/
structure Ct where
  P : Program
  w : World
  K : PySem.W.Frag
  mg : Str → Option Value
  base : Heap
  A : Around
  N : List Str
  sc : Scope
  fnAll : Bool
structure Ct.In (c : Ct) (X : Cx) : Prop where
  P : X.prog = c.P
  w : X.w = c.w
  K : X.K = c.K
  mg : X.mg = c.mg
  base : X.base = c.base
  A : X.A = c.A
  N : X.N = c.N
  sc : X.env.scope = c.sc
  calm : X.calm = true
  fn : c.fnAll = true → ∀ x, X.fn x = true
def ES (c : Ct) (e : Expr) : TE := fun σ H Q => ∃ t : TE, (∀ X, c.In X → PE X e t) ∧ t σ H Q
def EB (c : Ct) (e : Expr) : TT := fun σ H Q => ∃ t : TT, (∀ X, c.In X → PT X e t) ∧ t σ H Q
def EW (c : Ct) (e : Expr) : TT := fun σ H Q => ∃ t : TT, (∀ X, c.In X → PW X e t) ∧ t σ H Q
def EA (c : Ct) (es : List Expr) : TA := fun σ H Q => ∃ t : TA, (∀ X, c.In X → PA X es t) ∧ t σ H Q
def EI (c : Ct) (tg iter : Expr) : TI := fun σ H R => ∃ t : TI, (∀ X, c.In X → PI X tg iter t) ∧ t σ H R
def EG (c : Ct) (tg : Expr) : TG := fun v σ H Q => ∃ t : TG, (∀ X, c.In X → PG X tg t) ∧ t v σ H Q
def EGs (c : Ct) (tgs : List Expr) : TGs := fun vs σ H Q => ∃ t : TGs, (∀ X, c.In X → PGs X tgs t) ∧ t vs σ H Q
def EO (c : Ct) (e : Option Expr) : TO := fun σ H Q => ∃ t : TO, (∀ X, c.In X → PO X e t) ∧ t σ H Q
section
variable {c : Ct} {X : Cx}
theorem ES.any (h : c.In X) (e : Expr) : PE X e (ES c e) := ⟨fun pins s σ H Q I ⟨t, p, q⟩ => (p X h).run pins s σ H Q I q⟩
theorem EB.any (h : c.In X) (e : Expr) : PT X e (EB c e) := ⟨fun pins s σ H Q I ⟨t, p, q⟩ => (p X h).run pins s σ H Q I q⟩
theorem EW.any (h : c.In X) (e : Expr) : PW X e (EW c e) := ⟨fun wh pins s σ H Q I ⟨t, p, q⟩ => (p X h).run wh pins s σ H Q I q⟩
theorem EA.any (h : c.In X) (es : List Expr) : PA X es (EA c es) := ⟨fun pos pins s σ H Q I ⟨t, p, q⟩ => (p X h).run pos pins s σ H Q I q⟩
theorem EI.any (h : c.In X) (tg iter : Expr) : PI X tg iter (EI c tg iter) := ⟨fun pins s σ H Q I ⟨t, p, q⟩ => (p X h).run pins s σ H Q I q⟩
theorem EG.any (h : c.In X) (tg : Expr) : PG X tg (EG c tg) := ⟨fun pins s σ H v u Q I r ⟨t, p, q⟩ => (p X h).run pins s σ H v u Q I r q⟩
theorem EGs.any (h : c.In X) (tgs : List Expr) : PGs X tgs (EGs c tgs) := ⟨fun pins s σ H vs us Q I r ⟨t, p, q⟩ => (p X h).run pins s σ H vs us Q I r q⟩
end

/-! ### an expression gives this data -/
def PD (c : Ct) (ms : List Addr) (σ : L2.St) (H : Hp) (e : Expr) (d : PyData) : Prop :=
  Trk ms H → ∀ H1 Q, Same H H1 → (∀ v H', Same H1 H' → Dp c.K (cut ms H') v d → Q v H') → ES c e σ H1 Q
def PB (c : Ct) (ms : List Addr) (σ : L2.St) (H : Hp) (e : Expr) (b : Bool) : Prop :=
  Trk ms H → ∀ H1 Q, Same H H1 → (∀ H', Same H1 H' → Q b H') → EB c e σ H1 Q
def PWd (c : Ct) (ms : List Addr) (σ : L2.St) (H : Hp) (e : Expr) (b : Bool) : Prop :=
  Trk ms H → ∀ H1 Q, Same H H1 → (∀ H', Same H1 H' → Q b H') → EW c e σ H1 Q
def PAd (c : Ct) (ms : List Addr) (σ : L2.St) (H : Hp) (es : List Expr) (ds : List PyData) : Prop :=
  Trk ms H → ∀ H1 Q, Same H H1 → (∀ vs H', Same H1 H' → DpAll c.K (cut ms H') vs ds → Q vs H') → EA c es σ H1 Q
section
variable {c : Ct} {ms : List Addr} {σ : L2.St} {H : Hp} {a b e : Expr} {es : List Expr} {d d' : PyData} {ds : List PyData} {pos : Pos}
theorem PD.go (h : PD c ms σ H e d) (t : Trk ms H) {Q : VK} (q : ∀ v H', Same H H' → Dp c.K (cut ms H') v d → Q v H') : ES c e σ H Q := h t H Q (Same.refl H) q
theorem PB.go (h : PB c ms σ H e true) (t : Trk ms H) {Q : Bool → Hp → Prop} (q : ∀ H', Same H H' → Q true H') : EB c e σ H Q := h t H Q (Same.refl H) q
theorem PB.goB {k : Bool} (h : PB c ms σ H e k) (t : Trk ms H) {Q : Bool → Hp → Prop} (q : ∀ H', Same H H' → Q k H') : EB c e σ H Q := h t H Q (Same.refl H) q
theorem PD.up {H' : Hp} (h : PD c ms σ H e d) (t : Trk ms H) (S : Same H H') : PD c ms σ H' e d := fun _ H1 Q S1 q => h t H1 Q (S.trans S1) q
theorem PD.cast (h : PD c ms σ H e d) (e1 : d = d') : PD c ms σ H e d' := e1 ▸ h
theorem PB.cast {k k' : Bool} (h : PB c ms σ H e k) (e1 : k = k') : PB c ms σ H e k' := e1 ▸ h

theorem pd_name {i : Nat} {x : Str} {v : V} (hσ : σ[i]? = some (some v)) (hd : Dp c.K (cut ms H) v d) (hN : c.N[i]? = some x := by rfl) (hv : Vis c.sc x := by first | exact Or.inl rfl | exact Or.inr (Or.inl rfl) | exact Or.inr (Or.inr rfl))
    (h1 : (x == ("__debug__" : Str)) = false := by decide) (h2 : (x == ("__classdict__" : Str)) = false := by decide) : PD c ms σ H (.Name x pos) d := fun _ H1 Q S q =>
  ⟨tVar i, fun X hX => pe_var (by rw [hX.N]; exact hN) (by rw [hX.sc]; exact hv) h1 h2, v, hσ, q v H1 (Same.refl _) (dp_mono (cut_same S) hd)⟩
theorem pd_int {i : Int} {j} : PD c ms σ H (.Constant (.int i) j pos) (.int i) := fun _ H1 Q S q => ⟨_, fun X hX => pe_int, q _ _ (Same.refl _) (.int i)⟩
theorem pd_bool {i : Bool} {j} : PD c ms σ H (.Constant (.bool i) j pos) (.bool i) := fun _ H1 Q S q => ⟨_, fun X hX => pe_bl, q _ _ (Same.refl _) (.bl i)⟩
theorem pd_none {j} : PD c ms σ H (.Constant .none j pos) .none := fun _ H1 Q S q => ⟨_, fun X hX => pe_non, q _ _ (Same.refl _) .non⟩
theorem pd_str {x : Str} {j} : PD c ms σ H (.Constant (.str x) j pos) (.str x) := fun _ H1 Q S q => ⟨_, fun X hX => pe_str, q _ _ (Same.refl _) (.str x)⟩

/-! operators by values -/
/-- f on two values of this data -/
def R2D (c : Ct) (ms : List Addr) (r : R2) (d e f : PyData) : Prop :=
  ∀ x y H Q, Trk ms H → Dp c.K (cut ms H) x d → Dp c.K (cut ms H) y e → (∀ v H', Same H H' → Dp c.K (cut ms H') v f → Q v H') → r x y H Q
theorem two (ha : PD c ms σ H a d) (hb : PD c ms σ H b d') {r : R2} {f : PyData} (hr : R2D c ms r d d' f) (t : Trk ms H) {H1 : Hp} (S : Same H H1) {Q : VK} (q : ∀ v H', Same H1 H' → Dp c.K (cut ms H') v f → Q v H') :
    tOp r (ES c a) (ES c b) σ H1 Q :=
  ha t H1 _ S fun x H2 S2 dx => hb t H2 _ (S.trans S2) fun y H3 S3 dy => hr x y H3 Q (((t.up S).up S2).up S3) (dp_mono (cut_same S3) dx) dy fun v H4 S4 dv => q v H4 ((S2.trans S3).trans S4) dv
theorem pd_op {op : Operator} {r : R2} {f : PyData} (ho : ∀ X, c.In X → OpR X (binaryOp op) r) (hr : R2D c ms r d d' f) (ha : PD c ms σ H a d) (hb : PD c ms σ H b d') : PD c ms σ H (.BinOp a op b pos) f := fun t H1 Q S q =>
  ⟨tOp r (ES c a) (ES c b), fun X hX => pe_op (ho X hX) (ES.any hX a) (ES.any hX b), two ha hb hr t S q⟩
theorem pd_cmpR {op : CmpOp} {r : R2} {f : PyData} (ho : ∀ X, c.In X → OpR X (compareOp op) r) (hr : R2D c ms r d d' f) (ha : PD c ms σ H a d) (hb : PD c ms σ H b d') (hm : behindInMarks op b = false) : PD c ms σ H (.Compare a [op] [b] pos) f := fun t H1 Q S q =>
  ⟨tOp r (ES c a) (ES c b), fun X hX => pe_cmpR (ho X hX) (ES.any hX a) (ES.any hX b) hm, two ha hb hr t S q⟩
theorem pb_cmpR {op : CmpOp} {r : R2} {k : Bool} (ho : ∀ X, c.In X → OpR X (compareOp op) r) (hr : R2D c ms r d d' (.bool k)) (ha : PD c ms σ H a d) (hb : PD c ms σ H b d') (hm : behindInMarks op b = false) : PB c ms σ H (.Compare a [op] [b] pos) k := fun t H1 Q S q =>
  ⟨tTest (tOp r (ES c a) (ES c b)), fun X hX => pt_cmpR (ho X hX) (ES.any hX a) (ES.any hX b) hm, two ha hb hr t S fun v H' S' dv => ⟨k, dp_bool dv, q H' S'⟩⟩
theorem r2_i0 {i j k : Int} {g : Int → Int → V} (hg : g i j = .int k) : R2D c ms (rI0 g) (.int i) (.int j) (.int k) := fun x y H Q t dx dy q =>
  ⟨i, j, dp_int dx, dp_int dy, by rw [hg]; exact q _ _ (Same.refl _) (.int k)⟩
theorem r2_i {C : Int → Int → Prop} {i j k : Int} {g : Int → Int → V} (hc : C i j) (hg : g i j = .int k) : R2D c ms (rI C g) (.int i) (.int j) (.int k) := fun x y H Q t dx dy q =>
  ⟨i, j, dp_int dx, dp_int dy, hc, by rw [hg]; exact q _ _ (Same.refl _) (.int k)⟩
theorem r2_b0 {i j : Int} {k : Bool} {g : Int → Int → V} (hg : g i j = .bl k) : R2D c ms (rI0 g) (.int i) (.int j) (.bool k) := fun x y H Q t dx dy q =>
  ⟨i, j, dp_int dx, dp_int dy, by rw [hg]; exact q _ _ (Same.refl _) (.bl k)⟩
theorem pd_add {i j : Int} (ha : PD c ms σ H a (.int i)) (hb : PD c ms σ H b (.int j)) : PD c ms σ H (.BinOp a .Add b pos) (.int (i + j)) := pd_op (fun _ _ => op_add) (r2_i0 rfl) ha hb
theorem pd_sub {i j : Int} (ha : PD c ms σ H a (.int i)) (hb : PD c ms σ H b (.int j)) : PD c ms σ H (.BinOp a .Sub b pos) (.int (i - j)) := pd_op (fun _ _ => op_sub) (r2_i0 rfl) ha hb
theorem pd_mul {i j : Int} (hc : CMul i j) (ha : PD c ms σ H a (.int i)) (hb : PD c ms σ H b (.int j)) : PD c ms σ H (.BinOp a .Mult b pos) (.int (i * j)) := pd_op (fun _ _ => op_mul) (r2_i hc rfl) ha hb
theorem pd_fdiv {i j : Int} (hc : CDiv i j) (ha : PD c ms σ H a (.int i)) (hb : PD c ms σ H b (.int j)) : PD c ms σ H (.BinOp a .FloorDiv b pos) (.int (i / j)) := pd_op (fun _ _ => op_fdiv) (r2_i hc rfl) ha hb
theorem pd_mod {i j : Int} (hc : 0 < j) (ha : PD c ms σ H a (.int i)) (hb : PD c ms σ H b (.int j)) : PD c ms σ H (.BinOp a .Mod b pos) (.int (i % j)) := pd_op (fun _ _ => op_mod) (r2_i hc rfl) ha hb
theorem pd_pow {i j : Int} (hc : CPow i j) (ha : PD c ms σ H a (.int i)) (hb : PD c ms σ H b (.int j)) : PD c ms σ H (.BinOp a .Pow b pos) (.int (i ^ j.toNat)) := pd_op (fun _ _ => op_pow) (r2_i hc rfl) ha hb
theorem pd_lt {i j : Int} (ha : PD c ms σ H a (.int i)) (hb : PD c ms σ H b (.int j)) : PD c ms σ H (.Compare a [.Lt] [b] pos) (.bool (decide (i < j))) := pd_cmpR (fun _ _ => op_lt) (r2_b0 rfl) ha hb (nomark b)
theorem pb_lt {i j : Int} (ha : PD c ms σ H a (.int i)) (hb : PD c ms σ H b (.int j)) : PB c ms σ H (.Compare a [.Lt] [b] pos) (decide (i < j)) := pb_cmpR (fun _ _ => op_lt) (r2_b0 rfl) ha hb (nomark b)
theorem pd_le {i j : Int} (ha : PD c ms σ H a (.int i)) (hb : PD c ms σ H b (.int j)) : PD c ms σ H (.Compare a [.LtE] [b] pos) (.bool (decide (i ≤ j))) := pd_cmpR (fun _ _ => op_le) (r2_b0 rfl) ha hb (nomark b)
theorem pb_le {i j : Int} (ha : PD c ms σ H a (.int i)) (hb : PD c ms σ H b (.int j)) : PB c ms σ H (.Compare a [.LtE] [b] pos) (decide (i ≤ j)) := pb_cmpR (fun _ _ => op_le) (r2_b0 rfl) ha hb (nomark b)
theorem pd_ge {i j : Int} (ha : PD c ms σ H a (.int i)) (hb : PD c ms σ H b (.int j)) : PD c ms σ H (.Compare a [.GtE] [b] pos) (.bool (decide (j ≤ i))) := pd_cmpR (fun _ _ => op_ge) (r2_b0 rfl) ha hb (nomark b)
theorem pb_gt {i j : Int} (ha : PD c ms σ H a (.int i)) (hb : PD c ms σ H b (.int j)) : PB c ms σ H (.Compare a [.Gt] [b] pos) (decide (j < i)) := pb_cmpR (fun _ _ => op_gt) (r2_b0 rfl) ha hb (nomark b)
theorem r2_eqI {i j : Int} : R2D c ms rEq (.int i) (.int j) (.bool (decide (i = j))) := fun x y H Q t dx dy q => by
  rw [dp_int dx, dp_int dy]
  refine ⟨rfl, ?_⟩
  have e : decide (V.int i = V.int j) = decide (i = j) := decide_eq_decide.mpr ⟨fun z => V.int.inj z, fun z => by rw [z]⟩
  rw [e]
  exact q _ _ (Same.refl _) (.bl _)
theorem r2_neI {i j : Int} : R2D c ms rNe (.int i) (.int j) (.bool (!decide (i = j))) := fun x y H Q t dx dy q => by
  rw [dp_int dx, dp_int dy]
  refine ⟨rfl, ?_⟩
  have e : decide (V.int i = V.int j) = decide (i = j) := decide_eq_decide.mpr ⟨fun z => V.int.inj z, fun z => by rw [z]⟩
  rw [e]
  exact q _ _ (Same.refl _) (.bl _)
theorem pd_eqI {i j : Int} (ha : PD c ms σ H a (.int i)) (hb : PD c ms σ H b (.int j)) : PD c ms σ H (.Compare a [.Eq] [b] pos) (.bool (decide (i = j))) := pd_cmpR (fun _ _ => op_eq) r2_eqI ha hb (nomark b)
theorem pb_eqI {i j : Int} (ha : PD c ms σ H a (.int i)) (hb : PD c ms σ H b (.int j)) : PB c ms σ H (.Compare a [.Eq] [b] pos) (decide (i = j)) := pb_cmpR (fun _ _ => op_eq) r2_eqI ha hb (nomark b)
theorem pd_neI {i j : Int} (ha : PD c ms σ H a (.int i)) (hb : PD c ms σ H b (.int j)) : PD c ms σ H (.Compare a [.NotEq] [b] pos) (.bool (!decide (i = j))) := pd_cmpR (fun _ _ => op_ne) r2_neI ha hb (nomark b)
theorem pb_neI {i j : Int} (ha : PD c ms σ H a (.int i)) (hb : PD c ms σ H b (.int j)) : PB c ms σ H (.Compare a [.NotEq] [b] pos) (!decide (i = j)) := pb_cmpR (fun _ _ => op_ne) r2_neI ha hb (nomark b)
theorem r2_eqB {i j : Bool} : R2D c ms rEq (.bool i) (.bool j) (.bool (decide (i = j))) := fun x y H Q t dx dy q => by
  rw [dp_bool dx, dp_bool dy]
  refine ⟨rfl, ?_⟩
  have e : decide (V.bl i = V.bl j) = decide (i = j) := decide_eq_decide.mpr ⟨fun z => V.bl.inj z, fun z => by rw [z]⟩
  rw [e]
  exact q _ _ (Same.refl _) (.bl _)
theorem r2_neB {i j : Bool} : R2D c ms rNe (.bool i) (.bool j) (.bool (!decide (i = j))) := fun x y H Q t dx dy q => by
  rw [dp_bool dx, dp_bool dy]
  refine ⟨rfl, ?_⟩
  have e : decide (V.bl i = V.bl j) = decide (i = j) := decide_eq_decide.mpr ⟨fun z => V.bl.inj z, fun z => by rw [z]⟩
  rw [e]
  exact q _ _ (Same.refl _) (.bl _)
theorem pd_eqB {i j : Bool} (ha : PD c ms σ H a (.bool i)) (hb : PD c ms σ H b (.bool j)) : PD c ms σ H (.Compare a [.Eq] [b] pos) (.bool (decide (i = j))) := pd_cmpR (fun _ _ => op_eq) r2_eqB ha hb (nomark b)
theorem pb_neB {i j : Bool} (ha : PD c ms σ H a (.bool i)) (hb : PD c ms σ H b (.bool j)) : PB c ms σ H (.Compare a [.NotEq] [b] pos) (!decide (i = j)) := pb_cmpR (fun _ _ => op_ne) r2_neB ha hb (nomark b)
/-- equal data -/
theorem pd_eqD (hu : c.A.units + 64 < cLine) (h1 : SeqAt.shaped d = true) (h2 : SeqAt.shaped d' = true) (ha : PD c ms σ H a d) (hb : PD c ms σ H b d') : PD c ms σ H (.Compare a [.Eq] [b] pos) (.bool (PyData.eqv d d')) :=
  pd_cmpR (r := rEqD c.K) (fun X hX => hX.K ▸ op_eqD (by rw [hX.A]; exact hu)) (fun x y H Q t dx dy q => ⟨d, d', dp_mono cut_le dx, dp_mono cut_le dy, h1, h2, q _ _ (Same.refl _) (.bl _)⟩) ha hb (nomark b)
theorem pb_eqD (hu : c.A.units + 64 < cLine) (h1 : SeqAt.shaped d = true) (h2 : SeqAt.shaped d' = true) (ha : PD c ms σ H a d) (hb : PD c ms σ H b d') : PB c ms σ H (.Compare a [.Eq] [b] pos) (PyData.eqv d d') :=
  pb_cmpR (r := rEqD c.K) (fun X hX => hX.K ▸ op_eqD (by rw [hX.A]; exact hu)) (fun x y H Q t dx dy q => ⟨d, d', dp_mono cut_le dx, dp_mono cut_le dy, h1, h2, q _ _ (Same.refl _) (.bl _)⟩) ha hb (nomark b)
theorem pb_neD (hu : c.A.units + 64 < cLine) (h1 : SeqAt.shaped d = true) (h2 : SeqAt.shaped d' = true) (ha : PD c ms σ H a d) (hb : PD c ms σ H b d') : PB c ms σ H (.Compare a [.NotEq] [b] pos) (!PyData.eqv d d') :=
  pb_cmpR (r := rNeD c.K) (fun X hX => hX.K ▸ op_neD (by rw [hX.A]; exact hu)) (fun x y H Q t dx dy q => ⟨d, d', dp_mono cut_le dx, dp_mono cut_le dy, h1, h2, q _ _ (Same.refl _) (.bl _)⟩) ha hb (nomark b)
def isN : PyData → Bool
  | .none => true
  | _ => false
theorem dp_isN {K : PySem.W.Frag} {v : V} (h : Dp K H v d) : decide (v = .non) = isN d := by
  cases h <;> first | rfl | exact decide_eq_false (fun z => nomatch z)
theorem r2_isN : R2D c ms (fun x y H Q => y = .non ∧ Q (.bl (decide (x = .non))) H) d .none (.bool (isN d)) := fun x y H Q t dx dy q => ⟨dp_none dy, by rw [dp_isN dx]; exact q _ _ (Same.refl _) (.bl _)⟩
theorem r2_notN : R2D c ms (fun x y H Q => y = .non ∧ Q (.bl (!decide (x = .non))) H) d .none (.bool (!isN d)) := fun x y H Q t dx dy q => ⟨dp_none dy, by rw [dp_isN dx]; exact q _ _ (Same.refl _) (.bl _)⟩
theorem pd_isN {j} {p2 : Pos} (ha : PD c ms σ H a d) : PD c ms σ H (.Compare a [.Is] [.Constant .none j p2] pos) (.bool (isN d)) := pd_cmpR (fun _ _ => op_isN) r2_isN ha pd_none (nomark _)
theorem pb_isN {j} {p2 : Pos} (ha : PD c ms σ H a d) : PB c ms σ H (.Compare a [.Is] [.Constant .none j p2] pos) (isN d) := pb_cmpR (fun _ _ => op_isN) r2_isN ha pd_none (nomark _)
theorem pb_notN {j} {p2 : Pos} (ha : PD c ms σ H a d) : PB c ms σ H (.Compare a [.IsNot] [.Constant .none j p2] pos) (!isN d) := pb_cmpR (fun _ _ => op_notN) r2_notN ha pd_none (nomark _)
theorem pd_neg {i : Int} (ha : PD c ms σ H a (.int i)) : PD c ms σ H (.UnaryOp .USub a pos) (.int (-i)) := fun t H1 Q S q =>
  ⟨tUn (rU fun i => .int (-i)) (ES c a), fun X hX => pe_un un_neg (ES.any hX a), ha t H1 _ S fun v H2 S2 dv => ⟨i, dp_int dv, q _ _ S2 (.int _)⟩⟩
/-- a < b < c -/
theorem pb_chain {op op' : CmpOp} {r r' : R2} {e1 e2 e3 : Expr} {d1 d2 d3 : PyData} {k k' : Bool} (ho : ∀ X, c.In X → OpR X (compareOp op) r) (ho' : ∀ X, c.In X → OpR X (compareOp op') r') (hr : R2D c ms r d1 d2 (.bool k)) (hr' : R2D c ms r' d2 d3 (.bool k'))
    (h1 : PD c ms σ H e1 d1) (h2 : PD c ms σ H e2 d2) (h3 : PD c ms σ H e3 d3) (hm : lastMarks [op, op'] [e2, e3] = false := by with_unfolding_all rfl) : PB c ms σ H (.Compare e1 [op, op'] [e2, e3] pos) (k && k') := fun t H1 Q S q =>
  ⟨tTest (tChain r r' (ES c e1) (ES c e2) (ES c e3)), fun X hX => pt_chain (ho X hX) (ho' X hX) (ES.any hX _) (ES.any hX _) (ES.any hX _) hm,
    h1 t H1 _ S fun x H2 S2 dx => h2 t H2 _ (S.trans S2) fun y H3 S3 dy => hr x y H3 _ (((t.up S).up S2).up S3) (dp_mono (cut_same S3) dx) dy fun z H4 S4 dz => by
      refine ⟨k, dp_bool dz, ?_⟩
      cases k with
      | false =>
        refine iteF ⟨false, rfl, ?_⟩
        exact q _ ((S2.trans S3).trans S4)
      | true =>
        refine iteT ?_
        exact h3 t H4 _ (((S.trans S2).trans S3).trans S4) fun w' H5 S5 dw => hr' y w' H5 _ (((((t.up S).up S2).up S3).up S4).up S5) (dp_mono (cut_same (S4.trans S5)) dy) dw fun z2 H6 S6 dz2 =>
          ⟨k', dp_bool dz2, q _ ((((S2.trans S3).trans S4).trans S5).trans S6)⟩⟩
theorem pd_chain {op op' : CmpOp} {r r' : R2} {e1 e2 e3 : Expr} {d1 d2 d3 : PyData} {k k' : Bool} (ho : ∀ X, c.In X → OpR X (compareOp op) r) (ho' : ∀ X, c.In X → OpR X (compareOp op') r') (hr : R2D c ms r d1 d2 (.bool k)) (hr' : R2D c ms r' d2 d3 (.bool k'))
    (h1 : PD c ms σ H e1 d1) (h2 : PD c ms σ H e2 d2) (h3 : PD c ms σ H e3 d3) (hm : lastMarks [op, op'] [e2, e3] = false := by with_unfolding_all rfl) : PD c ms σ H (.Compare e1 [op, op'] [e2, e3] pos) (.bool (k && k')) := fun t H1 Q S q =>
  ⟨tChain r r' (ES c e1) (ES c e2) (ES c e3), fun X hX => pe_chain (ho X hX) (ho' X hX) (ES.any hX _) (ES.any hX _) (ES.any hX _) hm,
    h1 t H1 _ S fun x H2 S2 dx => h2 t H2 _ (S.trans S2) fun y H3 S3 dy => hr x y H3 _ (((t.up S).up S2).up S3) (dp_mono (cut_same S3) dx) dy fun z H4 S4 dz => by
      refine ⟨k, dp_bool dz, ?_⟩
      cases k with
      | false =>
        refine iteF ?_
        exact q _ _ ((S2.trans S3).trans S4) (.bl false)
      | true =>
        refine iteT ?_
        exact h3 t H4 _ (((S.trans S2).trans S3).trans S4) fun w' H5 S5 dw => hr' y w' H5 _ (((((t.up S).up S2).up S3).up S4).up S5) (dp_mono (cut_same (S4.trans S5)) dy) dw fun z2 H6 S6 dz2 =>
          q _ _ ((((S2.trans S3).trans S4).trans S5).trans S6) dz2⟩

/-! and, or, not, if -/
theorem pd_one {op} (ha : PD c ms σ H a d) : PD c ms σ H (.BoolOp op [a] pos) d := fun t H1 Q S q => ⟨ES c a, fun X hX => pe_one (ES.any hX a), ha t H1 Q S q⟩
theorem pd_and {k k' : Bool} {rest : List Expr} (ha : PD c ms σ H a (.bool k)) (hb : k = true → PD c ms σ H (.BoolOp .And (b :: rest) pos) (.bool k')) : PD c ms σ H (.BoolOp .And (a :: b :: rest) pos) (.bool (k && k')) := fun t H1 Q S q =>
  ⟨tAndV (ES c a) (ES c (.BoolOp .And (b :: rest) pos)), fun X hX => pe_and (ES.any hX _) (ES.any hX _), ha t H1 _ S fun v H2 S2 dv => by
    refine ⟨k, dp_bool dv, ?_⟩
    cases k with
    | false => exact iteF (q _ _ S2 (.bl false))
    | true => exact iteT (hb rfl t H2 _ (S.trans S2) fun v' H3 S3 dv' => q _ _ (S2.trans S3) dv')⟩
theorem pd_or {k k' : Bool} {rest : List Expr} (ha : PD c ms σ H a (.bool k)) (hb : k = false → PD c ms σ H (.BoolOp .Or (b :: rest) pos) (.bool k')) : PD c ms σ H (.BoolOp .Or (a :: b :: rest) pos) (.bool (k || k')) := fun t H1 Q S q =>
  ⟨tOrV (ES c a) (ES c (.BoolOp .Or (b :: rest) pos)), fun X hX => pe_or (ES.any hX _) (ES.any hX _), ha t H1 _ S fun v H2 S2 dv => by
    refine ⟨k, dp_bool dv, ?_⟩
    cases k with
    | true => exact iteT (q _ _ S2 (.bl true))
    | false => exact iteF (hb rfl t H2 _ (S.trans S2) fun v' H3 S3 dv' => q _ _ (S2.trans S3) dv')⟩
theorem pd_not {k : Bool} (ha : PD c ms σ H a (.bool k)) : PD c ms σ H (.UnaryOp .Not a pos) (.bool (!k)) := fun t H1 Q S q =>
  ⟨tNotV (ES c a), fun X hX => pe_not (ES.any hX _), ha t H1 _ S fun v H2 S2 dv => ⟨k, dp_bool dv, q _ _ S2 (.bl _)⟩⟩
theorem pb_val {k : Bool} (ha : PD c ms σ H e (.bool k)) (he : ∀ (X : Cx) whole, isTrue e X.env whole = (do let v ← whole; standAt e.pos; holding [v] (truthy v)) := by intro _ _; rfl) : PB c ms σ H e k := fun t H1 Q S q =>
  ⟨tB (ES c e), fun X hX => pt_val (ES.any hX _) (he X), ha t H1 _ S fun v H2 S2 dv => ⟨k, dp_bool dv, q _ S2⟩⟩
theorem pb_w {k : Bool} (h : PWd c ms σ H e k) : PB c ms σ H e k := fun t H1 Q S q => ⟨EW c e, fun X hX => (EW.any hX e).pt, h t H1 Q S q⟩
theorem pw_and1d {k : Bool} (h : PB c ms σ H a k) : PWd c ms σ H (.BoolOp .And [a] pos) k := fun t H1 Q S q => ⟨EB c a, fun X hX => pw_and1 (EB.any hX a), h t H1 Q S q⟩
theorem pw_or1d {k : Bool} (h : PB c ms σ H a k) : PWd c ms σ H (.BoolOp .Or [a] pos) k := fun t H1 Q S q => ⟨EB c a, fun X hX => pw_or1 (EB.any hX a), h t H1 Q S q⟩
theorem pw_andd {k k' : Bool} {rest : List Expr} (h : PB c ms σ H a k) (h' : k = true → PWd c ms σ H (.BoolOp .And (b :: rest) pos) k') : PWd c ms σ H (.BoolOp .And (a :: b :: rest) pos) (k && k') := fun t H1 Q S q =>
  ⟨tAnd (EB c a) (EW c (.BoolOp .And (b :: rest) pos)), fun X hX => pw_and (EB.any hX a) (EW.any hX _), h t H1 _ S fun H2 S2 => by
    cases k with
    | false => exact iteF (q _ S2)
    | true => exact iteT (h' rfl t H2 _ (S.trans S2) fun H3 S3 => q _ (S2.trans S3))⟩
theorem pw_ord {k k' : Bool} {rest : List Expr} (h : PB c ms σ H a k) (h' : k = false → PWd c ms σ H (.BoolOp .Or (b :: rest) pos) k') : PWd c ms σ H (.BoolOp .Or (a :: b :: rest) pos) (k || k') := fun t H1 Q S q =>
  ⟨tOr (EB c a) (EW c (.BoolOp .Or (b :: rest) pos)), fun X hX => pw_or (EB.any hX a) (EW.any hX _), h t H1 _ S fun H2 S2 => by
    cases k with
    | true => exact iteT (q _ S2)
    | false => exact iteF (h' rfl t H2 _ (S.trans S2) fun H3 S3 => q _ (S2.trans S3))⟩
theorem pb_and2 {k k' : Bool} (h : PB c ms σ H a k) (h' : k = true → PB c ms σ H b k') : PB c ms σ H (.BoolOp .And [a, b] pos) (k && k') := pb_w (pw_andd h fun z => pw_and1d (h' z))
theorem pb_or2 {k k' : Bool} (h : PB c ms σ H a k) (h' : k = false → PB c ms σ H b k') : PB c ms σ H (.BoolOp .Or [a, b] pos) (k || k') := pb_w (pw_ord h fun z => pw_or1d (h' z))
theorem pb_not {k : Bool} (h : PB c ms σ H a k) : PB c ms σ H (.UnaryOp .Not a pos) (!k) := fun t H1 Q S q => ⟨tNot (EB c a), fun X hX => pt_not (EB.any hX a), h t H1 _ S fun H2 S2 => q _ S2⟩
theorem pd_if {k : Bool} {e1 e2 : Expr} (hc : PB c ms σ H a k) (h1 : k = true → PD c ms σ H e1 d) (h2 : k = false → PD c ms σ H e2 d) : PD c ms σ H (.IfExp a e1 e2 pos) d := fun t H1 Q S q =>
  ⟨tIf (EB c a) (ES c e1) (ES c e2), fun X hX => pe_ifExp (EB.any hX _) (ES.any hX _) (ES.any hX _), hc t H1 _ S fun H2 S2 => by
    cases k with
    | true => exact iteT (h1 rfl t H2 _ (S.trans S2) fun v H3 S3 dv => q _ _ (S2.trans S3) dv)
    | false => exact iteF (h2 rfl t H2 _ (S.trans S2) fun v H3 S3 dv => q _ _ (S2.trans S3) dv)⟩

/-! displays, arguments -/
theorem pad_nil : PAd c ms σ H [] [] := fun t H1 Q S q => ⟨tNil, fun X hX => pa_nil, q _ _ (Same.refl _) .nil⟩
theorem pad_cons (he : PD c ms σ H e d) (hr : PAd c ms σ H es ds) (hs : ∀ X : Cx, starEach (e :: es) X.env = (false, eval e X.env) :: starEach es X.env := by intro _; rfl) : PAd c ms σ H (e :: es) (d :: ds) := fun t H1 Q S q =>
  ⟨tCons (ES c e) (EA c es), fun X hX => pa_cons (ES.any hX _) (EA.any hX _) (hs X), he t H1 _ S fun v H2 S2 dv => hr t H2 _ (S.trans S2) fun vs H3 S3 dvs => q _ _ (S2.trans S3) (.cons (dp_mono (cut_same S3) dv) dvs)⟩
theorem pad_star {p : Pos} {xs : List PyData} (he : PD c ms σ H e (.tuple xs)) (hr : PAd c ms σ H es ds) (hs : ∀ X : Cx, starEach (.Starred e p :: es) X.env = (true, eval e X.env) :: starEach es X.env := by intro _; rfl) : PAd c ms σ H (.Starred e p :: es) (xs ++ ds) := fun t H1 Q S q =>
  ⟨StX.tStar c.K (ES c e) (EA c es), fun X hX => hX.K ▸ StX.pa_star (ES.any hX _) (EA.any hX _) (hs X), he t H1 _ S fun v H2 S2 dv => by
    obtain ⟨p, vs, ev, hs2, ha⟩ := dp_tup dv
    exact ⟨p, vs, ev, .inl (sqt_mono cut_le hs2), hr t H2 _ (S.trans S2) fun us H3 S3 dus => q _ _ (S2.trans S3) (dpall_app (dpall_mono (cut_same S3) ha) dus)⟩⟩
theorem pd_tup {k} (h : PAd c ms σ H es ds) (hz : ds.length ≤ sizeLine) : PD c ms σ H (.Tuple es k pos) (.tuple ds) := fun t H1 Q S q =>
  ⟨tTup (EA c es), fun X hX => pe_tup (EA.any hX _), h t H1 _ S fun vs H2 S2 dvs => ⟨by rw [dpall_len dvs]; exact hz, fun p hp => q _ _ (S2.trans (same_new hp)) (dp_newT ((t.up S).up S2) hp dvs)⟩⟩
theorem pd_lst (h : PAd c ms σ H es ds) (hz : ds.length ≤ sizeLine) : PD c ms σ H (.List es pos) (.list ds) := fun t H1 Q S q =>
  ⟨tLst (EA c es), fun X hX => pe_lst (EA.any hX _), h t H1 _ S fun vs H2 S2 dvs => ⟨by rw [dpall_len dvs]; exact hz, fun p hp => q _ _ (S2.trans (same_new hp)) (dp_newL ((t.up S).up S2) hp dvs)⟩⟩
theorem atI_map {xs : List V} {K : PySem.W.Frag} {j : Int} (h : DpAll K H xs ds) (e : atI ds j = some d) : ∃ v, atI xs j = some v ∧ Dp K H v d := by
  unfold atI at e ⊢
  rw [dpall_len h]
  cases hk : ixN ds.length j with
  | none => rw [hk] at e; cases e
  | some k =>
    rw [hk] at e
    obtain ⟨v, e1, e2⟩ := dpall_get h e
    exact ⟨v, e1, e2⟩
theorem pd_ixT {j : Int} (ha : PD c ms σ H a (.tuple ds)) (hb : PD c ms σ H b (.int j)) (he : atI ds j = some d) (hs : PlainIx b := by exact fun _ _ => rfl) : PD c ms σ H (.Subscript a b pos) d := fun t H1 Q S q =>
  ⟨tOp (rIxT c.K) (ES c a) (ES c b), fun X hX => pe_ix (hX.K ▸ ix_tup) (ES.any hX _) (ES.any hX _) hs, two ha hb (fun x y H Q t dx dy q => by
    obtain ⟨p, xs, ex, hs2, hx⟩ := dp_tup dx
    obtain ⟨v, e1, e2⟩ := atI_map hx he
    exact ⟨p, xs, j, v, ex, dp_int dy, sqt_mono cut_le hs2, e1, q _ _ (Same.refl _) e2⟩) t S q⟩
theorem pd_ixL {j : Int} (ha : PD c ms σ H a (.list ds)) (hb : PD c ms σ H b (.int j)) (he : atI ds j = some d) (hs : PlainIx b := by exact fun _ _ => rfl) : PD c ms σ H (.Subscript a b pos) d := fun t H1 Q S q =>
  ⟨tOp (rIxL c.K) (ES c a) (ES c b), fun X hX => pe_ix (hX.K ▸ ix_list) (ES.any hX _) (ES.any hX _) hs, two ha hb (fun x y H Q t dx dy q => by
    obtain ⟨p, xs, ex, hs2, hx⟩ := dp_list dx
    obtain ⟨v, e1, e2⟩ := atI_map hx he
    exact ⟨p, xs, j, v, ex, dp_int dy, cut_le.seq hs2, e1, q _ _ (Same.refl _) e2⟩) t S q⟩
/-- an item of a list that changes (at p, in slot i) -/
theorem pd_ixM {i : Nat} {x : Str} {px : Pos} {p : Addr} {xs : List V} {j : Int} {v : V} (hσ : σ[i]? = some (some (.ref p))) (hp : H p = some (.lst xs)) (hb : PD c ms σ H b (.int j)) (he : atI xs j = some v) (hd : Dp c.K (cut ms H) v d) (hs : PlainIx b := by exact fun _ _ => rfl)
    (hN : c.N[i]? = some x := by rfl) (hv : Vis c.sc x := by first | exact Or.inl rfl | exact Or.inr (Or.inl rfl) | exact Or.inr (Or.inr rfl)) (h1 : (x == ("__debug__" : Str)) = false := by decide) (h2 : (x == ("__classdict__" : Str)) = false := by decide) :
    PD c ms σ H (.Subscript (.Name x px) b pos) d := fun t H1 Q S q =>
  ⟨tOp (rIxL c.K) (tVar i) (ES c b), fun X hX => pe_ix (hX.K ▸ ix_list) (pe_var (by rw [hX.N]; exact hN) (by rw [hX.sc]; exact hv) h1 h2) (ES.any hX _) hs, .ref p, hσ, hb t H1 _ S fun y H2 S2 dy =>
    ⟨p, xs, j, v, rfl, dp_int dy, .inl (.inl (S2 _ _ (S _ _ hp))), he, q _ _ S2 (dp_mono (cut_same (S.trans S2)) hd)⟩⟩

/-! calls of built-ins -/
def CRD (c : Ct) (ms : List Addr) (r : List V → Hp → VK → Prop) (ds : List PyData) (d : PyData) : Prop :=
  ∀ vs H Q, Trk ms H → DpAll c.K (cut ms H) vs ds → (∀ v H', Same H H' → Dp c.K (cut ms H') v d → Q v H') → r vs H Q
def GlC (c : Ct) (x : Str) : Prop := c.sc.names.lookup x = some .globalImplicit
theorem GlC.of {X : Cx} (hX : c.In X) {x : Str} (h : GlC c x) : Gl X x := by
  show X.env.scope.names.lookup x = _
  rw [hX.sc]; exact h
theorem pd_callB {x : Str} {p : Pos} {id : String} {r : List V → Hp → VK → Prop} (hc : ∀ X, c.In X → CallR X (.builtin id) r) (hr : CRD c ms r ds d) (ha : PAd c ms σ H (e :: es) ds) (hm : c.mg x = none) (hv : bootBuiltins x = some (.builtin id)) (hg : GlC c x := by rfl)
    (hn : x ≠ "__name__" := by decide) (hdb : (x == ("__debug__" : Str)) = false := by decide) (he : ∀ X : Cx, starEach (e :: es) X.env = (false, eval e X.env) :: starEach es X.env := by intro _; rfl) (hpl : ∀ X : Cx, (backTo pos (starEach es X.env)).any (·.1) = false := by intro _; rfl) :
    PD c ms σ H (.Call (.Name x p) (e :: es) [] pos) d := fun t H1 Q S q =>
  ⟨tCB r (EA c (e :: es)), fun X hX => pe_callB (hc X hX) (hg.of hX) (by rw [hX.mg]; exact hm) hv (EA.any hX _) hn hdb (he X) (hpl X), ha t H1 _ S fun vs H2 S2 dvs => hr vs H2 Q ((t.up S).up S2) dvs fun v H3 S3 dv => q _ _ (S2.trans S3) dv⟩
theorem pd_callTy {x : Str} {p : Pos} {T : String} {r : List V → Hp → VK → Prop} (hc : ∀ X, c.In X → CallR X (.type T) r) (hr : CRD c ms r ds d) (ha : PAd c ms σ H (e :: es) ds) (hm : c.mg x = none) (hv : bootBuiltins x = some (.type T)) (hg : GlC c x := by rfl)
    (hn : x ≠ "__name__" := by decide) (hdb : (x == ("__debug__" : Str)) = false := by decide) (he : ∀ X : Cx, starEach (e :: es) X.env = (false, eval e X.env) :: starEach es X.env := by intro _; rfl) (hpl : ∀ X : Cx, (backTo pos (starEach es X.env)).any (·.1) = false := by intro _; rfl) :
    PD c ms σ H (.Call (.Name x p) (e :: es) [] pos) d := fun t H1 Q S q =>
  ⟨tCB r (EA c (e :: es)), fun X hX => pe_callTy (hc X hX) (hg.of hX) (by rw [hX.mg]; exact hm) hv (EA.any hX _) hn hdb (he X) (hpl X), ha t H1 _ S fun vs H2 S2 dvs => hr vs H2 Q ((t.up S).up S2) dvs fun v H3 S3 dv => q _ _ (S2.trans S3) dv⟩
end
end SK
namespace SK
open PySem PySem.Spec PyProof.Rows L2

/-! ### defs that are known by their names -/
def spP (K : PySem.W.Frag) (R : List PyData → PyData → Prop) : Sp := fun vs H Q _ => ∃ ms ds d, Trk ms H ∧ DpAll K (cut ms H) vs ds ∧ R ds d ∧ ∀ v H', Same H H' → Dp K (cut ms H') v d → Q v H'
/-- how a def at f binds its values, and that it stands there -/
structure BndL (K : PySem.W.Frag) (f : Addr) (fd : FuncData) (ps : List Str) : Prop where
  b : Binds K fd ps []
  l : ∃ (oc : Value) (od : Option Addr) (osl : Array (Option Value)), K.lookup f = some ⟨oc, od, .func fd, osl⟩
structure Fn1 (P : Program) (w : World) (K : PySem.W.Frag) (mg : Str → Option Value) (base : Heap) (CX : CXT) (k : Nat) (x : Str) (ps : List Str) (sp : Sp) : Prop where
  ex : ∃ (f : Addr) (fd : FuncData), FnOk P w K mg base CX k f fd ps sp ∧ mg x = some (.ref f) ∧ PySem.W.keepIn K (.ref f) = true ∧ BndL K f fd ps
  pass : ∀ X : Cx, X.prog = P → X.w = w → Passes CX X E0
theorem Fn1.mono {P : Program} {w : World} {K : PySem.W.Frag} {mg : Str → Option Value} {base : Heap} {CX : CXT} {j k : Nat} {x : Str} {ps : List Str} {sp : Sp} (F : Fn1 P w K mg base CX j x ps sp) (h : j ≤ k) : Fn1 P w K mg base CX k x ps sp := by
  obtain ⟨⟨f, fd, F, r⟩, p⟩ := F
  exact ⟨⟨f, fd, F.mono h, r⟩, p⟩
abbrev Ct.Fn (c : Ct) (CX : CXT) (k : Nat) (x : Str) (ps : List Str) (sp : Sp) : Prop := Fn1 c.P c.w c.K c.mg c.base CX k x ps sp
section
variable {c : Ct} {ms : List Addr} {σ : L2.St} {H : Hp} {a b e : Expr} {es : List Expr} {d d' : PyData} {ds : List PyData} {pos : Pos}
/-- the call by its arguments' reading -/
theorem es_call {CX : CXT} {k : Nat} {x : Str} {ps : List Str} {sp : Sp} {p : Pos} {Q : VK} (F : c.Fn CX k x ps sp) (hr : Room k c.A) (h : EA c (e :: es) σ H fun vs H1 => sp vs H1 Q E0) (hg : GlC c x := by rfl)
    (hdb : (x == ("__debug__" : Str)) = false := by decide) (he : ∀ X : Cx, starEach (e :: es) X.env = (false, eval e X.env) :: starEach es X.env := by intro _; rfl) (hpl : ∀ X : Cx, (backTo pos (starEach es X.env)).any (·.1) = false := by intro _; rfl) : ES c (.Call (.Name x p) (e :: es) [] pos) σ H Q := by
  obtain ⟨⟨f, fd, F, hm, hk, hb⟩, pass⟩ := F
  refine ⟨tCall sp [] E0 (EA c (e :: es)), fun X hX => ?_, ?_⟩
  · refine pe_call (CX := CX) (k := k) (f := f) (fd := fd) (ps := ps) (ds := []) ?_ (by rw [hX.A]; exact hr) (hg.of hX) (by rw [hX.mg]; exact hm) (by rw [hX.K]; exact hk) (by rw [hX.K]; exact hb.b) .nil (pass X hX.P hX.w) (EA.any hX _) hdb (he X) (hpl X)
    rw [hX.P, hX.w, hX.K, hX.mg, hX.base]
    exact F
  · show EA c (e :: es) σ H fun vs H1 => sp (vs ++ []) H1 Q E0
    simpa only [List.append_nil] using h
theorem es_call0 {CX : CXT} {k : Nat} {x : Str} {sp : Sp} {p : Pos} {Q : VK} (F : c.Fn CX k x [] sp) (hr : Room k c.A) (h : sp [] H Q E0) (hg : GlC c x := by rfl) (hdb : (x == ("__debug__" : Str)) = false := by decide) : ES c (.Call (.Name x p) [] [] pos) σ H Q := by
  obtain ⟨⟨f, fd, F, hm, hk, hb⟩, pass⟩ := F
  refine ⟨tCall sp [] E0 tNil, fun X hX => ?_, h⟩
  refine pe_call0 (CX := CX) (k := k) (f := f) (fd := fd) (ps := []) (ds := []) ?_ (by rw [hX.A]; exact hr) (hg.of hX) (by rw [hX.mg]; exact hm) (by rw [hX.K]; exact hk) (by rw [hX.K]; exact hb.b) .nil (pass X hX.P hX.w) hdb
  rw [hX.P, hX.w, hX.K, hX.mg, hX.base]
  exact F
theorem pd_call {CX : CXT} {k : Nat} {x : Str} {ps : List Str} {R : List PyData → PyData → Prop} {p : Pos} (F : c.Fn CX k x ps (spP c.K R)) (hr : Room k c.A) (hR : R ds d) (ha : PAd c ms σ H (e :: es) ds) (hg : GlC c x := by rfl)
    (hdb : (x == ("__debug__" : Str)) = false := by decide) (he : ∀ X : Cx, starEach (e :: es) X.env = (false, eval e X.env) :: starEach es X.env := by intro _; rfl) (hpl : ∀ X : Cx, (backTo pos (starEach es X.env)).any (·.1) = false := by intro _; rfl) : PD c ms σ H (.Call (.Name x p) (e :: es) [] pos) d := fun t H1 Q S q =>
  es_call F hr (ha t H1 _ S fun vs H2 S2 dvs => ⟨ms, ds, d, (t.up S).up S2, dvs, hR, fun v H3 S3 dv => q _ _ (S2.trans S3) dv⟩) hg hdb he hpl
theorem pd_call0 {CX : CXT} {k : Nat} {x : Str} {R : List PyData → PyData → Prop} {p : Pos} (F : c.Fn CX k x [] (spP c.K R)) (hr : Room k c.A) (hR : R [] d) (hg : GlC c x := by rfl) (hdb : (x == ("__debug__" : Str)) = false := by decide) : PD c ms σ H (.Call (.Name x p) [] [] pos) d := fun t H1 Q S q =>
  es_call0 F hr ⟨ms, [], d, t.up S, .nil, hR, fun v H3 S3 dv => q _ _ S3 dv⟩ hg hdb

/-! ### built-ins over data -/
/-- no star -/
def NSt (e : Expr) : Prop := ∀ (X : Cx) (es : List Expr), starEach (e :: es) X.env = (false, eval e X.env) :: starEach es X.env
theorem crd_len : CRD c ms (fun xs H Q => ∃ p ys, xs = [.ref p] ∧ (SqL c.K H p ys ∨ SqT c.K H p ys) ∧ Q (.int ys.length) H) [.list ds] (.int ds.length) := fun vs H Q t h q => by
  cases h with
  | cons h1 h2 =>
    cases h2
    obtain ⟨p, xs, e, hs, ha⟩ := dp_list h1
    subst e
    exact ⟨p, xs, rfl, .inl (cut_le.seq hs), by rw [dpall_len ha]; exact q _ _ (Same.refl _) (.int _)⟩
theorem crd_lenT : CRD c ms (fun xs H Q => ∃ p ys, xs = [.ref p] ∧ (SqL c.K H p ys ∨ SqT c.K H p ys) ∧ Q (.int ys.length) H) [.tuple ds] (.int ds.length) := fun vs H Q t h q => by
  cases h with
  | cons h1 h2 =>
    cases h2
    obtain ⟨p, xs, e, hs, ha⟩ := dp_tup h1
    subst e
    exact ⟨p, xs, rfl, .inr (sqt_mono cut_le hs), by rw [dpall_len ha]; exact q _ _ (Same.refl _) (.int _)⟩
theorem pd_lenL {p : Pos} (ha : PD c ms σ H e (.list ds)) (hm : c.mg "len" = none) (hg : GlC c "len" := by rfl) (ns : NSt e := by intro _ _; rfl) : PD c ms σ H (.Call (.Name "len" p) [e] [] pos) (.int ds.length) :=
  pd_callB (fun X hX => hX.K ▸ call_len_seq) crd_len (pad_cons ha pad_nil (fun X => ns X [])) hm PySem.boot_len hg (he := fun X => ns X [])
theorem pd_lenT {p : Pos} (ha : PD c ms σ H e (.tuple ds)) (hm : c.mg "len" = none) (hg : GlC c "len" := by rfl) (ns : NSt e := by intro _ _; rfl) : PD c ms σ H (.Call (.Name "len" p) [e] [] pos) (.int ds.length) :=
  pd_callB (fun X hX => hX.K ▸ call_len_seq) crd_lenT (pad_cons ha pad_nil (fun X => ns X [])) hm PySem.boot_len hg (he := fun X => ns X [])
theorem pd_tupleL {p : Pos} (ha : PD c ms σ H e (.list ds)) (hm : c.mg "tuple" = none) (hg : GlC c "tuple" := by rfl) (ns : NSt e := by intro _ _; rfl) : PD c ms σ H (.Call (.Name "tuple" p) [e] [] pos) (.tuple ds) :=
  pd_callTy (fun X hX => hX.K ▸ call_tuple_of) (fun vs H Q t h q => by
    cases h with
    | cons h1 h2 =>
      cases h2
      obtain ⟨p, xs, e, hs, ha⟩ := dp_list h1
      subst e
      exact ⟨p, xs, rfl, .inl ⟨cut_le.seq hs, fun l hl => q _ _ (same_new hl) (dp_newT t hl ha)⟩⟩) (pad_cons ha pad_nil (fun X => ns X [])) hm (by decide +kernel) hg (he := fun X => ns X [])
theorem pd_listL {p : Pos} (ha : PD c ms σ H e (.list ds)) (hm : c.mg "list" = none) (hg : GlC c "list" := by rfl) (ns : NSt e := by intro _ _; rfl) : PD c ms σ H (.Call (.Name "list" p) [e] [] pos) (.list ds) :=
  pd_callTy (fun X hX => hX.K ▸ call_list_of) (fun vs H Q t h q => by
    cases h with
    | cons h1 h2 =>
      cases h2
      obtain ⟨p, xs, e, hs, ha⟩ := dp_list h1
      subst e
      exact ⟨p, xs, rfl, .inl (cut_le.seq hs), fun l hl => q _ _ (same_new hl) (dp_newL t hl ha)⟩) (pad_cons ha pad_nil (fun X => ns X [])) hm (by decide +kernel) hg (he := fun X => ns X [])
theorem pd_intI {p : Pos} {i : Int} (ha : PD c ms σ H e (.int i)) (hm : c.mg "int" = none) (hg : GlC c "int" := by rfl) (ns : NSt e := by intro _ _; rfl) : PD c ms σ H (.Call (.Name "int" p) [e] [] pos) (.int i) :=
  pd_callTy (fun X hX => call_int1) (fun vs H Q t h q => by
    cases h with
    | cons h1 h2 =>
      cases h2
      rw [dp_int h1]
      exact .inl ⟨i, rfl, q _ _ (Same.refl _) (.int i)⟩) (pad_cons ha pad_nil (fun X => ns X [])) hm (by decide +kernel) hg (he := fun X => ns X [])
theorem pd_intB {p : Pos} {i : Bool} (ha : PD c ms σ H e (.bool i)) (hm : c.mg "int" = none) (hg : GlC c "int" := by rfl) (ns : NSt e := by intro _ _; rfl) : PD c ms σ H (.Call (.Name "int" p) [e] [] pos) (.int (if i then 1 else 0)) :=
  pd_callTy (fun X hX => call_int1) (fun vs H Q t h q => by
    cases h with
    | cons h1 h2 =>
      cases h2
      rw [dp_bool h1]
      exact .inr ⟨i, rfl, q _ _ (Same.refl _) (.int _)⟩) (pad_cons ha pad_nil (fun X => ns X [])) hm (by decide +kernel) hg (he := fun X => ns X [])
theorem pd_abs {p : Pos} {i : Int} (ha : PD c ms σ H e (.int i)) (hm : c.mg "abs" = none) (hg : GlC c "abs" := by rfl) (ns : NSt e := by intro _ _; rfl) : PD c ms σ H (.Call (.Name "abs" p) [e] [] pos) (.int (if i < 0 then -i else i)) :=
  pd_callB (fun X hX => call_abs) (fun vs H Q t h q => by
    cases h with
    | cons h1 h2 =>
      cases h2
      rw [dp_int h1]
      exact ⟨i, rfl, q _ _ (Same.refl _) (.int _)⟩) (pad_cons ha pad_nil (fun X => ns X [])) hm (by decide +kernel) hg (he := fun X => ns X [])
theorem pd_min2 {p : Pos} {i j : Int} (ha : PD c ms σ H a (.int i)) (hb : PD c ms σ H b (.int j)) (hm : c.mg "min" = none) (hg : GlC c "min" := by rfl) (ns : NSt a := by intro _ _; rfl) (ns2 : NSt b := by intro _ _; rfl) : PD c ms σ H (.Call (.Name "min" p) [a, b] [] pos) (.int (if j < i then j else i)) :=
  pd_callB (fun X hX => call_min2 hX.calm) (fun vs H Q t h q => by
    cases h with
    | cons h1 h2 =>
      cases h2 with
      | cons h3 h4 =>
        cases h4
        rw [dp_int h1, dp_int h3]
        exact ⟨i, j, rfl, q _ _ (Same.refl _) (.int _)⟩) (pad_cons ha (pad_cons hb pad_nil (fun X => ns2 X [])) (fun X => ns X [b])) hm (by decide +kernel) hg (he := fun X => ns X [b]) (hpl := fun X => by rw [ns2 X []]; rfl)
theorem pd_maxI {p : Pos} {nl : List Int} {m : Int} (ha : PD c ms σ H e (.list (nl.map .int))) (h1 : m ∈ nl) (h2 : ∀ y ∈ nl, y ≤ m) (hm : c.mg "max" = none) (hg : GlC c "max" := by rfl) (ns : NSt e := by intro _ _; rfl) : PD c ms σ H (.Call (.Name "max" p) [e] [] pos) (.int m) :=
  pd_callB (fun X hX => hX.K ▸ cr_max hX.calm) (fun vs H Q t h q => by
    cases h with
    | cons h3 h4 =>
      cases h4
      obtain ⟨p, xs, e, hs, ha⟩ := dp_list h3
      subst e
      rw [dpall_ints ha] at hs
      refine ⟨p, nl, rfl, cut_le.seq hs, List.length_pos_of_mem h1, fun m' h1' h2' => ?_⟩
      have a1 := h2 m' h1'
      have a2 := h2' m h1
      obtain rfl : m = m' := by omega
      exact q _ _ (Same.refl _) (.int _)) (pad_cons ha pad_nil (fun X => ns X [])) hm (by decide +kernel) hg (he := fun X => ns X [])
theorem pd_minI {p : Pos} {nl : List Int} {m : Int} (ha : PD c ms σ H e (.list (nl.map .int))) (h1 : m ∈ nl) (h2 : ∀ y ∈ nl, m ≤ y) (hm : c.mg "min" = none) (hg : GlC c "min" := by rfl) (ns : NSt e := by intro _ _; rfl) : PD c ms σ H (.Call (.Name "min" p) [e] [] pos) (.int m) :=
  pd_callB (fun X hX => hX.K ▸ cr_min hX.calm) (fun vs H Q t h q => by
    cases h with
    | cons h3 h4 =>
      cases h4
      obtain ⟨p, xs, e, hs, ha⟩ := dp_list h3
      subst e
      rw [dpall_ints ha] at hs
      refine ⟨p, nl, rfl, cut_le.seq hs, List.length_pos_of_mem h1, fun m' h1' h2' => ?_⟩
      have a1 := h2 m' h1'
      have a2 := h2' m h1
      obtain rfl : m = m' := by omega
      exact q _ _ (Same.refl _) (.int _)) (pad_cons ha pad_nil (fun X => ns X [])) hm (by decide +kernel) hg (he := fun X => ns X [])
theorem pd_all {p : Pos} {bs : List Bool} (ha : PD c ms σ H e (.list (bs.map .bool))) (hm : c.mg "all" = none) (hg : GlC c "all" := by rfl) (ns : NSt e := by intro _ _; rfl) : PD c ms σ H (.Call (.Name "all" p) [e] [] pos) (.bool (bs.all id)) :=
  pd_callB (fun X hX => hX.K ▸ cr_all hX.calm) (fun vs H Q t h q => by
    cases h with
    | cons h3 h4 =>
      cases h4
      obtain ⟨p, xs, e, hs, ha⟩ := dp_list h3
      subst e
      rw [dpall_bools ha] at hs
      exact ⟨p, bs, rfl, cut_le.seq hs, q _ _ (Same.refl _) (.bl _)⟩) (pad_cons ha pad_nil (fun X => ns X [])) hm (by decide +kernel) hg (he := fun X => ns X [])
/-! lists and tuples put together -/
theorem sql_trk {K : PySem.W.Frag} {H : Hp} {a : Addr} {xs : List V} (h : Rd H a (.lst xs)) : SqL K H a xs := .inl h
theorem r2_catA {ds es : List PyData} (hz : ds.length + es.length ≤ sizeLine) : R2D c ms (rCatA c.K) (.tuple ds) (.tuple es) (.tuple (ds ++ es)) := fun x y H Q t dx dy q => by
  obtain ⟨p, xs, ex, hs, ha⟩ := dp_tup dx
  obtain ⟨p2, ys, ey, hs2, ha2⟩ := dp_tup dy
  refine ⟨p, p2, xs, ys, ex, ey, sqt_mono cut_le hs, sqt_mono cut_le hs2, by rw [dpall_len ha, dpall_len ha2]; exact hz, fun e => ?_, fun _ e => ?_, fun _ _ p hp => q _ _ (same_new hp) (dp_newT t hp (dpall_app ha ha2))⟩
  · subst e
    cases ha
    rw [← ey]
    exact q _ _ (Same.refl _) dy
  · subst e
    cases ha2
    rw [← ex, List.append_nil] at *
    exact q _ _ (Same.refl _) dx
theorem pd_catT {ds es : List PyData} (hz : ds.length + es.length ≤ sizeLine) (ha : PD c ms σ H a (.tuple ds)) (hb : PD c ms σ H b (.tuple es)) : PD c ms σ H (.BinOp a .Add b pos) (.tuple (ds ++ es)) := pd_op (fun X hX => hX.K ▸ op_catA) (r2_catA hz) ha hb
/-! slices -/
theorem pd_slL {lo hi : Option Int} {el eh : Option Expr} {p2 : Pos} (ha : PD c ms σ H e (.list ds)) (hl : ∀ H1 (Q : Option Int → Hp → Prop), Same H H1 → (∀ H', Same H1 H' → Q lo H') → EO c el σ H1 Q) (hh : ∀ H1 (Q : Option Int → Hp → Prop), Same H H1 → (∀ H', Same H1 H' → Q hi H') → EO c eh σ H1 Q) :
    PD c ms σ H (.Subscript e (.Slice el eh none p2) pos) (.list ((ds.drop (HT.sIx ds.length 0 lo)).take (HT.sIx ds.length ds.length hi - HT.sIx ds.length 0 lo))) := fun t H1 Q S q =>
  ⟨tSl (rSlL c.K) (ES c e) (EO c el) (EO c eh), fun X hX => pe_slice (hX.K ▸ sl_list) (ES.any hX _) ⟨fun pins s σ H Q I ⟨t, p, q⟩ => (p X hX).run pins s σ H Q I q⟩ ⟨fun pins s σ H Q I ⟨t, p, q⟩ => (p X hX).run pins s σ H Q I q⟩,
    ha t H1 _ S fun v H2 S2 dv => hl H2 _ (S.trans S2) fun H3 S3 => hh H3 _ ((S.trans S2).trans S3) fun H4 S4 => by
      obtain ⟨p, xs, ex, hs, hx⟩ := dp_list dv
      refine ⟨p, xs, ex, (cut_le.trans (S3.trans S4)).seq hs, fun p hp => q _ _ (((S2.trans S3).trans S4).trans (same_new hp)) (dp_newL ((((t.up S).up S2).up S3).up S4) hp ?_)⟩
      unfold cutV
      rw [dpall_len hx]
      exact dpall_take _ (dpall_drop _ (dpall_mono (cut_same (S3.trans S4)) hx))⟩
theorem pd_slT {lo hi : Option Int} {el eh : Option Expr} {p2 : Pos} (ha : PD c ms σ H e (.tuple ds)) (hl : ∀ H1 (Q : Option Int → Hp → Prop), Same H H1 → (∀ H', Same H1 H' → Q lo H') → EO c el σ H1 Q) (hh : ∀ H1 (Q : Option Int → Hp → Prop), Same H H1 → (∀ H', Same H1 H' → Q hi H') → EO c eh σ H1 Q) :
    PD c ms σ H (.Subscript e (.Slice el eh none p2) pos) (.tuple ((ds.drop (HT.sIx ds.length 0 lo)).take (HT.sIx ds.length ds.length hi - HT.sIx ds.length 0 lo))) := fun t H1 Q S q =>
  ⟨tSl (rSlA c.K) (ES c e) (EO c el) (EO c eh), fun X hX => pe_slice (hX.K ▸ sl_tupA) (ES.any hX _) ⟨fun pins s σ H Q I ⟨t, p, q⟩ => (p X hX).run pins s σ H Q I q⟩ ⟨fun pins s σ H Q I ⟨t, p, q⟩ => (p X hX).run pins s σ H Q I q⟩,
    ha t H1 _ S fun v H2 S2 dv => hl H2 _ (S.trans S2) fun H3 S3 => hh H3 _ ((S.trans S2).trans S3) fun H4 S4 => by
      obtain ⟨p, xs, ex, hs, hx⟩ := dp_tup dv
      have hx4 := dpall_mono (cut_same (ms := ms) (S3.trans S4)) hx
      have hs4 := sqt_mono (cut_same (ms := ms) (S3.trans S4)) hs
      refine ⟨p, xs, ex, sqt_mono cut_le hs4, fun hw => ?_, fun _ p hp => q _ _ (((S2.trans S3).trans S4).trans (same_new hp)) (dp_newT ((((t.up S).up S2).up S3).up S4) hp ?_)⟩
      · refine q _ _ ((S2.trans S3).trans S4) ?_
        rw [dpall_len hx] at hw
        rw [hw.1, hw.2]
        simp only [List.drop_zero, Nat.sub_zero, List.take_length]
        exact .tup hs4 hx4
      · unfold cutV
        rw [dpall_len hx]
        exact dpall_take _ (dpall_drop _ hx4)⟩
theorem eo_none {H1 : Hp} {Q : Option Int → Hp → Prop} (q : ∀ H', Same H1 H' → Q none H') : EO c none σ H1 Q := ⟨tNoPart, fun X hX => po_none, q _ (Same.refl _)⟩
theorem eo_some {i : Int} (t : Trk ms H) (h : PD c ms σ H e (.int i)) {H1 : Hp} {Q : Option Int → Hp → Prop} (S : Same H H1) (q : ∀ H', Same H1 H' → Q (some i) H') : EO c (some e) σ H1 Q :=
  ⟨tPart (ES c e), fun X hX => po_some (ES.any hX _), h t H1 _ S fun v H2 S2 dv => ⟨i, dp_int dv, q _ S2⟩⟩

/-! ### isinstance -/
def tyN : PyData → String
  | .none => "NoneType"
  | .bool _ => "bool"
  | .int _ => "int"
  | .str _ => "str"
  | .list _ => "list"
  | .tuple _ => "tuple"
  | .dict _ => "dict"
theorem dp_ty {K : PySem.W.Frag} {v : V} (h : Dp K H v d) : TyX K H v (.type (tyN d)) := by
  cases h with
  | non => exact .base .non
  | bl b => exact .base (.bl b)
  | int i => exact .base (.int i)
  | str x => exact .base (.str x)
  | lst hs ha =>
    rcases hs with (hs | ⟨o, hs⟩) | ⟨o, its, n, hk, hc, _⟩
    · exact .base (.lst hs)
    · exact .base (.frz hs)
    · exact .kList hk hc
  | tup hs ha =>
    rcases hs with (hs | ⟨o, hs⟩) | ⟨o, its, n, hk, hc, _⟩
    · exact .base (.tup hs)
    · exact .fTuple hs
    · exact .kTuple hk hc
theorem pd_isi {p p2 : Pos} {T : Str} {Tn : String} {k : Bool} (ha : PD c ms σ H e d) (hk : kitB (tyN d) Tn = some k) (hm : c.mg "isinstance" = none) (hmT : c.mg T = none) (hv : bootBuiltins T = some (.type Tn)) (hg : GlC c "isinstance" := by rfl) (hgT : GlC c T := by rfl)
    (hn : T ≠ "__name__" := by decide) (hd : (T == ("__debug__" : Str)) = false := by decide)
    (he : ∀ X : Cx, starEach [e, .Name T p2] X.env = (false, eval e X.env) :: starEach [.Name T p2] X.env := by intro _; rfl) (he2 : ∀ X : Cx, starEach [.Name T p2] X.env = (false, eval (.Name T p2) X.env) :: starEach [] X.env := by intro _; rfl) (hpl : ∀ X : Cx, (backTo pos (starEach [.Name T p2] X.env)).any (·.1) = false := by intro _; rfl) :
    PD c ms σ H (.Call (.Name "isinstance" p) [e, .Name T p2] [] pos) (.bool k) := fun t H1 Q S q =>
  ⟨tCB (rIsi c.K) (tCons (ES c e) (tCons (tC (.ty Tn)) tNil)), fun X hX => pe_callB (id := "isinstance") (hX.K ▸ call_isi) (hg.of hX) (by rw [hX.mg]; exact hm) (by decide +kernel) (pa_cons (ES.any hX _) (pa_cons (pe_bltn (hgT.of hX) (by rw [hX.mg]; exact hmT) hv rfl hn hd) pa_nil (he2 X)) (he X)) (by decide) (by decide) (he X) (hpl X),
    ha t H1 _ S fun v H2 S2 dv => ⟨v, .ty Tn, .type (tyN d), .type Tn, k, rfl, .ty _, dp_ty (dp_mono cut_le dv), kit_ty hk, q _ _ S2 (.bl k)⟩⟩
theorem pd_isi2 {p p2 p3 p4 : Pos} {n : Nat} {T U : Str} {Tn Un : String} {k k' : Bool} (ha : PD c ms σ H e d) (hk : kitB (tyN d) Tn = some k) (hk' : kitB (tyN d) Un = some k') (hm : c.mg "isinstance" = none) (hmT : c.mg T = none) (hmU : c.mg U = none) (hv : bootBuiltins T = some (.type Tn)) (hvU : bootBuiltins U = some (.type Un))
    (hg : GlC c "isinstance" := by rfl) (hgT : GlC c T := by rfl) (hgU : GlC c U := by rfl)
    (hn : T ≠ "__name__" := by decide) (hd : (T == ("__debug__" : Str)) = false := by decide) (hnU : U ≠ "__name__" := by decide) (hdU : (U == ("__debug__" : Str)) = false := by decide)
    (he : ∀ (X : Cx) (b : Expr), starEach [e, b] X.env = (false, eval e X.env) :: starEach [b] X.env := by intro _ _; rfl) :
    PD c ms σ H (.Call (.Name "isinstance" p) [e, .Tuple [.Name T p2, .Name U p3] n p4] [] pos) (.bool (k || k')) := fun t H1 Q S q =>
  ⟨tCB (rIsiT c.K) (tCons (ES c e) (tCons (tTup (tCons (tC (.ty Tn)) (tCons (tC (.ty Un)) tNil))) tNil)), fun X hX => pe_callB (id := "isinstance") (hX.K ▸ call_isiT) (hg.of hX) (by rw [hX.mg]; exact hm) (by decide +kernel)
      (pa_cons (ES.any hX _) (pa_cons (pe_tup (pa_cons (pe_bltn (hgT.of hX) (by rw [hX.mg]; exact hmT) hv rfl hn hd) (pa_cons (pe_bltn (hgU.of hX) (by rw [hX.mg]; exact hmU) hvU rfl hnU hdU) pa_nil))) pa_nil) (he X _)) (by decide) (by decide) (he X _),
    ha t H1 _ S fun v H2 S2 dv => ⟨by show 2 ≤ sizeLine; decide, fun tp htp => ⟨v, tp, [.ty Tn, .ty Un], .type (tyN d), [.type Tn, .type Un], k || k', rfl, upd_same, .cons (.ty _) (.cons (.ty _) .nil), dp_ty (dp_mono (cut_le.trans (same_new htp)) dv),
      kitAny_cons (kit_ty hk) (fun z => by subst z; exact kitAny_cons (kit_ty hk') (fun z => by subst z; exact kitAny_nil) (fun z => by rw [z]; rfl)) (fun z => by rw [z]; rfl), q _ _ (S2.trans (same_new htp)) (.bl _)⟩⟩⟩
end
end SK
namespace SK
open PySem PySem.Spec PyProof.Rows L2

/-! ### targets -/
def sets (σ : L2.St) : List Nat → List V → L2.St
  | i :: is, v :: vs => sets (σ.set i (some v)) is vs
  | _, _ => σ
theorem sets_app : ∀ (is js : List Nat) (vs us : List V) (σ : L2.St), is.length = vs.length → sets σ (is ++ js) (vs ++ us) = sets (sets σ is vs) js us
  | [], _, [], _, _, _ => rfl
  | i :: is, js, v :: vs, us, σ, h => sets_app is js vs us (σ.set i (some v)) (by simpa using h)
  | [], _, _ :: _, _, _, h => by cases h
  | _ :: _, _, [], _, _, h => by cases h
def GD (c : Ct) (ms : List Addr) (tg : Expr) (d : PyData) (bs : List (Nat × PyData)) : Prop := ∀ v σ H Q, Dp c.K (cut ms H) v d → (∀ vs, DpAll c.K (cut ms H) vs (bs.map (·.2)) → Q (sets σ (bs.map (·.1)) vs) H) → EG c tg v σ H Q
def GDs (c : Ct) (ms : List Addr) (tgs : List Expr) (ds : List PyData) (bs : List (Nat × PyData)) : Prop := ∀ us σ H Q, DpAll c.K (cut ms H) us ds → (∀ vs, DpAll c.K (cut ms H) vs (bs.map (·.2)) → Q (sets σ (bs.map (·.1)) vs) H) → EGs c tgs us σ H Q
section
variable {c : Ct} {ms : List Addr} {σ : L2.St} {H : Hp} {a b e tg : Expr} {es tgs : List Expr} {d d' : PyData} {ds : List PyData} {pos : Pos} {bs cs : List (Nat × PyData)}
theorem gd_name {i : Nat} {x : Str} (hN : c.N.Nodup) (hi : c.N[i]? = some x := by rfl) (hx : c.sc.names.lookup x = some .local ∨ (c.fnAll = true ∧ c.sc.names.lookup x = some .cell) := by first | exact Or.inl rfl | exact Or.inr ⟨rfl, rfl⟩) : GD c ms (.Name x pos) d [(i, d)] := fun v σ H Q hv q =>
  ⟨gName i, fun X hX => by
    refine pg_name (by rw [hX.N]; exact hN) (by rw [hX.N]; exact hi) ?_ ?_
    · rw [hX.sc]
      rcases hx with h | h
      · exact .inl h
      · exact .inr h.2
    · rw [hX.sc]
      rcases hx with h | h
      · exact .inr h
      · exact .inl (hX.fn h.1 x), q [v] (.cons hv .nil)⟩
theorem dpall_split {K : PySem.W.Frag} {H : Hp} : ∀ {ds es : List PyData} {vs : List V}, DpAll K H vs (ds ++ es) → ∃ us ws, vs = us ++ ws ∧ DpAll K H us ds ∧ DpAll K H ws es
  | [], es, vs, h => ⟨[], vs, rfl, .nil, h⟩
  | d :: ds, es, _, h => by
    cases h with
    | cons h1 h2 =>
      obtain ⟨us, ws, e, h3, h4⟩ := dpall_split h2
      exact ⟨_ :: us, ws, by rw [e]; rfl, .cons h1 h3, h4⟩
theorem gds_nil : GDs c ms [] [] [] := fun us σ H Q hu q => ⟨gNil, fun X hX => pgs_nil, by cases hu; rfl, q [] .nil⟩
theorem gds_cons (h1 : GD c ms tg d bs) (h2 : GDs c ms tgs ds cs) (hs : ∀ X : Cx, (assignEach (tg :: tgs) X.env).map (·.2) = assign tg X.env :: (assignEach tgs X.env).map (·.2) := by intro _; rfl) : GDs c ms (tg :: tgs) (d :: ds) (bs ++ cs) := fun us σ H Q hu q => by
  cases hu with
  | cons hv hr =>
    refine ⟨gCons (EG c tg) (EGs c tgs), fun X hX => pgs_cons (EG.any hX _) (EGs.any hX _) (hs X), _, _, rfl, h1 _ _ _ _ hv fun vs hvs => h2 _ _ _ _ hr fun ws hws => ?_⟩
    have hl : (bs.map (·.1)).length = vs.length := by rw [dpall_len hvs]; simp
    rw [← sets_app _ _ _ _ _ hl, ← List.map_append]
    exact q (vs ++ ws) (by rw [List.map_append]; exact dpall_app hvs hws)
theorem gd_tup {k n : Nat} (h : GDs c ms tgs ds bs) (hn : ds.length = n) (he : ∀ X : Cx, (assignEach tgs X.env).length = n := by intro _; rfl) (hst : ∀ X : Cx, (assignEach tgs X.env).findIdx? (·.1) = none := by intro _; rfl) : GD c ms (.Tuple tgs k pos) (.tuple ds) bs := fun v σ H Q hv q =>
  ⟨gTup c.K n (EGs c tgs), fun X hX => hX.K ▸ pg_tup hX.calm (EGs.any hX _) (he X) (hst X), by
    obtain ⟨a, xs, ev, hs, ha⟩ := dp_tup hv
    exact ⟨a, xs, ev, sqt_mono cut_le hs, by rw [dpall_len ha]; exact hn, h _ _ _ _ ha q⟩⟩

/-! ### what is walked -/
def WD (K : PySem.W.Frag) (ms : List Addr) (B : Hp) (J : It) (ds : List PyData) : Prop :=
  ∀ ms', Walk J ds.length (fun H => Same (cut ms B) (cut ms' H) ∧ Trk ms' H) (fun i H x H' => Same H H' ∧ ∀ d, ds[i]? = some d → Dp K (cut ms' H') x d)
def PDI (c : Ct) (ms : List Addr) (σ : L2.St) (H : Hp) (tg iter : Expr) (ds : List PyData) : Prop :=
  Trk ms H → ∀ H1 R, Same H H1 → (∀ J H', Same H1 H' → WD c.K ms H' J ds → R J H') → EI c tg iter σ H1 R
theorem wd_list {K : PySem.W.Frag} {B : Hp} {a : Addr} {xs : List V} (hs : SqL K (cut ms B) a xs) (ha : DpAll K (cut ms B) xs ds) : WD K ms B (Itl K a) ds := fun ms' => by
  rw [← dpall_len ha]
  refine walk_list.mono (fun H h => (h.1.trans cut_le).seq hs) fun i H x H' _ h y => ⟨by rw [y.1]; exact Same.refl _, fun d hd => ?_⟩
  obtain ⟨d', e1, e2⟩ := dpall_of ha y.2
  rw [hd] at e1
  cases e1
  rw [y.1]
  exact dp_mono h.1 e2
theorem wd_tup {K : PySem.W.Frag} {B : Hp} {a : Addr} {xs : List V} (hs : SqT K (cut ms B) a xs) (ha : DpAll K (cut ms B) xs ds) : WD K ms B (Itt K a) ds := fun ms' => by
  rw [← dpall_len ha]
  refine walk_tup.mono (fun H h => sqt_mono (h.1.trans cut_le) hs) fun i H x H' _ h y => ⟨by rw [y.1]; exact Same.refl _, fun d hd => ?_⟩
  obtain ⟨d', e1, e2⟩ := dpall_of ha y.2
  rw [hd] at e1
  cases e1
  rw [y.1]
  exact dp_mono h.1 e2
/-- numbered -/
def numb (ds : List PyData) : List PyData := ds.zipIdx.map fun p => .tuple [.int (p.2 : Nat), p.1]
theorem numb_len (ds : List PyData) : (numb ds).length = ds.length := by simp [numb]
theorem numb_get {ds : List PyData} {i : Nat} {d : PyData} (h : (numb ds)[i]? = some d) : ∃ x, ds[i]? = some x ∧ d = .tuple [.int (i : Nat), x] := by
  unfold numb at h
  rw [List.getElem?_map, List.getElem?_zipIdx] at h
  cases e : ds[i]? with
  | none => rw [e] at h; simp at h
  | some x =>
    rw [e] at h
    simp only [Option.map_some, Option.some.injEq] at h
    exact ⟨x, rfl, by rw [← h]; simp⟩
theorem walk_enumT {K : PySem.W.Frag} {a : Addr} {xs : List V} : Walk (IteT K a) xs.length (fun H => SqT K H a xs) (YPair (fun i => some (.int (i : Nat))) (fun i => xs[i]?)) := by
  refine ⟨fun i _ hi q => ⟨xs, xs[i], q, by simp [hi]⟩, fun _ q => ⟨xs, q, Nat.le_refl _⟩, fun i H v H' _ q y => ?_⟩
  obtain ⟨T, x, h1, h2, h3, h4⟩ := y
  exact ⟨T, .int (i : Nat), x, h1, h2, h3, rfl, h4 xs q⟩
theorem walk_zipT {K : PySem.W.Frag} {a b : Addr} {xs ys : List V} {n : Nat} (hn : n = min xs.length ys.length) : Walk (RZ.ItzT K a b) n (fun H => SqT K H a xs ∧ SqT K H b ys) (YPair (fun i => xs[i]?) (fun i => ys[i]?)) := by
  subst hn
  refine ⟨fun i _ hi q => ?_, fun _ q => ⟨xs, ys, q.1, q.2, by omega⟩, fun i H v H' _ q y => ?_⟩
  · have h1 : i < xs.length := by omega
    have h2 : i < ys.length := by omega
    exact ⟨xs, ys, xs[i], ys[i], q.1, q.2, by simp [h1], by simp [h2]⟩
  · obtain ⟨T, x, z, h1, h2, h3, h4, h5⟩ := y
    exact ⟨T, x, z, h1, h2, h3, h4 xs q.1, h5 ys q.2⟩
theorem ypair_ok {K : PySem.W.Frag} {ms' : List Addr} {H H' : Hp} {x : V} {i : Nat} {f g : Nat → Option V} {d1 d2 : PyData} (t : Trk ms' H) (y : YPair f g i H x H') (h1 : ∀ v, f i = some v → Dp K (cut ms' H) v d1) (h2 : ∀ v, g i = some v → Dp K (cut ms' H) v d2) :
    Same H H' ∧ Dp K (cut ms' H') x (.tuple [d1, d2]) := by
  obtain ⟨T, u, w', rfl, hT, rfl, e1, e2⟩ := y
  exact ⟨same_new hT, dp_newT t hT (.cons (h1 _ e1) (.cons (h2 _ e2) .nil))⟩
theorem wd_enumL {K : PySem.W.Frag} {B : Hp} {a : Addr} {xs : List V} (hs : SqL K (cut ms B) a xs) (ha : DpAll K (cut ms B) xs ds) : WD K ms B (Ite K a) (numb ds) := fun ms' => by
  rw [numb_len, ← dpall_len ha]
  refine walk_enum.mono (fun H h => (h.1.trans cut_le).seq hs) fun i H x H' _ h y => ?_
  refine ⟨?_, fun d hd => ?_⟩
  · obtain ⟨T, u, w', rfl, hT, rfl, e1, e2⟩ := y
    exact same_new hT
  · obtain ⟨z, hz, e⟩ := numb_get hd
    subst e
    refine (ypair_ok h.2 y (fun v e1 => ?_) fun v e2 => ?_).2
    · cases e1; exact .int _
    · obtain ⟨d', e3, e4⟩ := dpall_of ha e2
      rw [hz] at e3
      cases e3
      exact dp_mono h.1 e4
theorem wd_enumT {K : PySem.W.Frag} {B : Hp} {a : Addr} {xs : List V} (hs : SqT K (cut ms B) a xs) (ha : DpAll K (cut ms B) xs ds) : WD K ms B (IteT K a) (numb ds) := fun ms' => by
  rw [numb_len, ← dpall_len ha]
  refine walk_enumT.mono (fun H h => sqt_mono (h.1.trans cut_le) hs) fun i H x H' _ h y => ?_
  refine ⟨?_, fun d hd => ?_⟩
  · obtain ⟨T, u, w', rfl, hT, rfl, e1, e2⟩ := y
    exact same_new hT
  · obtain ⟨z, hz, e⟩ := numb_get hd
    subst e
    refine (ypair_ok h.2 y (fun v e1 => ?_) fun v e2 => ?_).2
    · cases e1; exact .int _
    · obtain ⟨d', e3, e4⟩ := dpall_of ha e2
      rw [hz] at e3
      cases e3
      exact dp_mono h.1 e4
def pairs (ds es : List PyData) : List PyData := List.zipWith (fun a b => .tuple [a, b]) ds es
theorem pairs_get {ds es : List PyData} {i : Nat} {d : PyData} (h : (pairs ds es)[i]? = some d) : ∃ x y, ds[i]? = some x ∧ es[i]? = some y ∧ d = .tuple [x, y] := by
  unfold pairs at h
  rw [List.getElem?_zipWith] at h
  cases e : ds[i]? with
  | none => rw [e] at h; simp at h
  | some x =>
    cases e2 : es[i]? with
    | none => rw [e, e2] at h; simp at h
    | some y =>
      rw [e, e2] at h
      exact ⟨x, y, rfl, rfl, by simpa using h.symm⟩
theorem wd_zipT {K : PySem.W.Frag} {B : Hp} {a b : Addr} {xs ys : List V} {es : List PyData} (hs : SqT K (cut ms B) a xs) (ha : DpAll K (cut ms B) xs ds) (hs2 : SqT K (cut ms B) b ys) (ha2 : DpAll K (cut ms B) ys es) : WD K ms B (RZ.ItzT K a b) (pairs ds es) := fun ms' => by
  refine (walk_zipT (by unfold pairs; rw [List.length_zipWith, dpall_len ha, dpall_len ha2])).mono (fun H h => ⟨sqt_mono (h.1.trans cut_le) hs, sqt_mono (h.1.trans cut_le) hs2⟩) fun i H x H' _ h y => ?_
  refine ⟨?_, fun d hd => ?_⟩
  · obtain ⟨T, u, w', rfl, hT, rfl, e1, e2⟩ := y
    exact same_new hT
  · obtain ⟨z1, z2, hz1, hz2, e⟩ := pairs_get hd
    subst e
    refine (ypair_ok h.2 y (fun v e1 => ?_) fun v e2 => ?_).2
    · obtain ⟨d', e3, e4⟩ := dpall_of ha e1
      rw [hz1] at e3
      cases e3
      exact dp_mono h.1 e4
    · obtain ⟨d', e3, e4⟩ := dpall_of ha2 e2
      rw [hz2] at e3
      cases e3
      exact dp_mono h.1 e4
theorem wd_zipL {K : PySem.W.Frag} {B : Hp} {a b : Addr} {xs ys : List V} {es : List PyData} (hs : SqL K (cut ms B) a xs) (ha : DpAll K (cut ms B) xs ds) (hs2 : SqL K (cut ms B) b ys) (ha2 : DpAll K (cut ms B) ys es) : WD K ms B (Itz K a b) (pairs ds es) := fun ms' => by
  refine (walk_zip (by unfold pairs; rw [List.length_zipWith, dpall_len ha, dpall_len ha2])).mono (fun H h => ⟨(h.1.trans cut_le).seq hs, (h.1.trans cut_le).seq hs2⟩) fun i H x H' _ h y => ?_
  refine ⟨?_, fun d hd => ?_⟩
  · obtain ⟨T, u, w', rfl, hT, rfl, e1, e2⟩ := y
    exact same_new hT
  · obtain ⟨z1, z2, hz1, hz2, e⟩ := pairs_get hd
    subst e
    refine (ypair_ok h.2 y (fun v e1 => ?_) fun v e2 => ?_).2
    · obtain ⟨d', e3, e4⟩ := dpall_of ha e1
      rw [hz1] at e3
      cases e3
      exact dp_mono h.1 e4
    · obtain ⟨d', e3, e4⟩ := dpall_of ha2 e2
      rw [hz2] at e3
      cases e3
      exact dp_mono h.1 e4
def intsD (lo : Int) (n : Nat) : List PyData := (List.range n).map fun k : Nat => .int (lo + (k : Int))
theorem intsD_len (lo : Int) (n : Nat) : (intsD lo n).length = n := by simp [intsD]
theorem intsD_get {lo : Int} {n i : Nat} {d : PyData} (h : (intsD lo n)[i]? = some d) : i < n ∧ d = .int (lo + (i : Int)) := by
  unfold intsD at h
  rw [List.getElem?_map] at h
  by_cases hi : i < n
  · rw [List.getElem?_range hi] at h
    exact ⟨hi, by simpa using h.symm⟩
  · rw [List.getElem?_eq_none (by simpa using hi)] at h
    cases h
theorem wd_range {K : PySem.W.Frag} {B : Hp} {lo : Int} {n : Nat} : WD K ms B (Itr lo n) (intsD lo n) := fun ms' => by
  rw [intsD_len]
  refine walk_range.mono (fun H h => trivial) fun i H x H' _ h y => ⟨by rw [y.1]; exact Same.refl _, fun d hd => ?_⟩
  obtain ⟨_, e⟩ := intsD_get hd
  rw [e, y.2]
  exact .int _
theorem pdi_list (h : PD c ms σ H e (.list ds)) : PDI c ms σ H tg e ds := fun t H1 R S q => ⟨iList c.K (ES c e), fun X hX => hX.K ▸ pi_list (ES.any hX _), h t H1 _ S fun v H2 S2 dv => by
  obtain ⟨a, xs, ev, hs, ha⟩ := dp_list dv
  exact ⟨a, ev, ⟨xs, cut_le.seq hs⟩, q _ _ S2 (wd_list hs ha)⟩⟩
theorem pdi_tup (h : PD c ms σ H e (.tuple ds)) : PDI c ms σ H tg e ds := fun t H1 R S q => ⟨iTup c.K (ES c e), fun X hX => hX.K ▸ pi_tup (ES.any hX _), h t H1 _ S fun v H2 S2 dv => by
  obtain ⟨a, xs, ev, hs, ha⟩ := dp_tup dv
  exact ⟨a, ev, ⟨xs, sqt_mono cut_le hs⟩, q _ _ S2 (wd_tup hs ha)⟩⟩
theorem pdi_enumL {elts : List Expr} {kk : Nat} {tpos p : Pos} (h : PD c ms σ H e (.list ds)) (hm : c.mg "enumerate" = none) (hg : GlC c "enumerate" := by rfl) (ns : NSt e := by intro _ _; rfl) : PDI c ms σ H (.Tuple elts kk tpos) (.Call (.Name "enumerate" p) [e] [] pos) (numb ds) := fun t H1 R S q =>
  ⟨iEnumA c.K (tCons (ES c e) tNil), fun X hX => hX.K ▸ pi_enumA (hg.of hX) (by rw [hX.mg]; exact hm) (pa_cons (ES.any hX _) pa_nil (ns X [])) (ns X []), h t H1 _ S fun v H2 S2 dv => by
    obtain ⟨a, xs, ev, hs, ha⟩ := dp_list dv
    exact ⟨a, xs, by rw [ev], .inl ⟨cut_le.seq hs, q _ _ S2 (wd_enumL hs ha)⟩⟩⟩
theorem pdi_enumT {elts : List Expr} {kk : Nat} {tpos p : Pos} (h : PD c ms σ H e (.tuple ds)) (hm : c.mg "enumerate" = none) (hg : GlC c "enumerate" := by rfl) (ns : NSt e := by intro _ _; rfl) : PDI c ms σ H (.Tuple elts kk tpos) (.Call (.Name "enumerate" p) [e] [] pos) (numb ds) := fun t H1 R S q =>
  ⟨iEnumA c.K (tCons (ES c e) tNil), fun X hX => hX.K ▸ pi_enumA (hg.of hX) (by rw [hX.mg]; exact hm) (pa_cons (ES.any hX _) pa_nil (ns X [])) (ns X []), h t H1 _ S fun v H2 S2 dv => by
    obtain ⟨a, xs, ev, hs, ha⟩ := dp_tup dv
    exact ⟨a, xs, by rw [ev], .inr ⟨sqt_mono cut_le hs, q _ _ S2 (wd_enumT hs ha)⟩⟩⟩
theorem pdi_zipT {elts : List Expr} {kk : Nat} {tpos p : Pos} {es' : List PyData} (h : PD c ms σ H a (.tuple ds)) (h2 : PD c ms σ H b (.tuple es')) (hm : c.mg "zip" = none) (hg : GlC c "zip" := by rfl) (ns : NSt a := by intro _ _; rfl) (ns2 : NSt b := by intro _ _; rfl) :
    PDI c ms σ H (.Tuple elts kk tpos) (.Call (.Name "zip" p) [a, b] [] pos) (pairs ds es') := fun t H1 R S q =>
  ⟨RZ.iZipA c.K (tCons (ES c a) (tCons (ES c b) tNil)), fun X hX => hX.K ▸ RZ.pi_zipA (hg.of hX) (by rw [hX.mg]; exact hm) (pa_cons (ES.any hX _) (pa_cons (ES.any hX _) pa_nil (ns2 X [])) (ns X [b])) (ns X [b]) (by rw [ns2 X []]; rfl),
    h t H1 _ S fun v H2 S2 dv => h2 t H2 _ (S.trans S2) fun u H3 S3 du => by
      obtain ⟨p1, xs, ev, hs, ha⟩ := dp_tup (dp_mono (cut_same S3) dv)
      obtain ⟨p2, ys, eu, hs2, ha2⟩ := dp_tup du
      exact ⟨p1, p2, xs, ys, by rw [ev, eu], .inr ⟨sqt_mono cut_le hs, sqt_mono cut_le hs2, q _ _ (S2.trans S3) (wd_zipT hs ha hs2 ha2)⟩⟩⟩
theorem pdi_zipL {elts : List Expr} {kk : Nat} {tpos p : Pos} {es' : List PyData} (h : PD c ms σ H a (.list ds)) (h2 : PD c ms σ H b (.list es')) (hm : c.mg "zip" = none) (hg : GlC c "zip" := by rfl) (ns : NSt a := by intro _ _; rfl) (ns2 : NSt b := by intro _ _; rfl) :
    PDI c ms σ H (.Tuple elts kk tpos) (.Call (.Name "zip" p) [a, b] [] pos) (pairs ds es') := fun t H1 R S q =>
  ⟨RZ.iZipA c.K (tCons (ES c a) (tCons (ES c b) tNil)), fun X hX => hX.K ▸ RZ.pi_zipA (hg.of hX) (by rw [hX.mg]; exact hm) (pa_cons (ES.any hX _) (pa_cons (ES.any hX _) pa_nil (ns2 X [])) (ns X [b])) (ns X [b]) (by rw [ns2 X []]; rfl),
    h t H1 _ S fun v H2 S2 dv => h2 t H2 _ (S.trans S2) fun u H3 S3 du => by
      obtain ⟨p1, xs, ev, hs, ha⟩ := dp_list (dp_mono (cut_same S3) dv)
      obtain ⟨p2, ys, eu, hs2, ha2⟩ := dp_list du
      exact ⟨p1, p2, xs, ys, by rw [ev, eu], .inl ⟨cut_le.seq hs, cut_le.seq hs2, q _ _ (S2.trans S3) (wd_zipL hs ha hs2 ha2)⟩⟩⟩
theorem pdi_range1 {p : Pos} {n : Int} (h : PD c ms σ H e (.int n)) (h1 : -(2 ^ 62) ≤ n) (h2 : n < 2 ^ 62) (hm : c.mg "range" = none) (hg : GlC c "range" := by rfl) (ns : NSt e := by intro _ _; rfl) : PDI c ms σ H tg (.Call (.Name "range" p) [e] [] pos) (intsD 0 n.toNat) := fun t H1 R S q =>
  ⟨iRng1 (tCons (ES c e) tNil), fun X hX => pi_range1 (hg.of hX) (by rw [hX.mg]; exact hm) (pa_cons (ES.any hX _) pa_nil (ns X [])) (ns X []), h t H1 _ S fun v H2 S2 dv => ⟨n, by rw [dp_int dv], h1, h2, q _ _ S2 wd_range⟩⟩
theorem pdi_range2 {p : Pos} {m n : Int} (h : PD c ms σ H a (.int m)) (h' : PD c ms σ H b (.int n)) (h0 : -(2 ^ 62) ≤ m ∧ m < 2 ^ 62 ∧ -(2 ^ 62) ≤ n ∧ n < 2 ^ 62) (hm : c.mg "range" = none) (hg : GlC c "range" := by rfl) (ns : NSt a := by intro _ _; rfl) (ns2 : NSt b := by intro _ _; rfl) :
    PDI c ms σ H tg (.Call (.Name "range" p) [a, b] [] pos) (intsD m (n - m).toNat) := fun t H1 R S q =>
  ⟨iRng2 (tCons (ES c a) (tCons (ES c b) tNil)), fun X hX => pi_range2 (hg.of hX) (by rw [hX.mg]; exact hm) (pa_cons (ES.any hX _) (pa_cons (ES.any hX _) pa_nil (ns2 X [])) (ns X [b])) (by rw [ns X [b], ns2 X []]; rfl) (by rw [ns2 X []]; rfl),
    h t H1 _ S fun v H2 S2 dv => h' t H2 _ (S.trans S2) fun u H3 S3 du => ⟨m, n, by rw [dp_int dv, dp_int du], h0, q _ _ (S2.trans S3) wd_range⟩⟩

/-! ### a list that is new -/
theorem same_more {ms : List Addr} {H H' : Hp} {p : Addr} (S : Same H H') (h : H p = none) : Same (cut ms H) (cut (p :: ms) H') := fun b o e => by
  have h1 := cut_at e
  exact cut_of (by
    intro hm
    rcases List.mem_cons.mp hm with rfl | hm
    · rw [h] at h1; cases h1.2
    · exact h1.1 hm) (S _ _ h1.2)
theorem Trk.more {ms : List Addr} {H : Hp} {p : Addr} {o : HO} (t : Trk ms H) (h : H p = some o) : Trk (p :: ms) H := fun m hm => by
  rcases List.mem_cons.mp hm with rfl | hm
  · rw [h]; exact fun z => by cases z
  · exact t m hm
def PL (c : Ct) (ms : List Addr) (σ : L2.St) (H : Hp) (e : Expr) (es : List PyData) : Prop :=
  Trk ms H → ∀ H1 Q, Same H H1 → (∀ p xs H', Same H1 H' → H1 p = none → H' p = some (.lst xs) → DpAll c.K (cut (p :: ms) H') xs es → Q (.ref p) H') → ES c e σ H1 Q
theorem PL.pd {es : List PyData} (h : PL c ms σ H e es) : PD c ms σ H e (.list es) := fun t H1 Q S q => h t H1 Q S fun p xs H' S' hn hp ha =>
  q _ _ S' (.lst (.inl (.inl (cut_of ((t.up S).new hn) hp))) (dpall_mono (cut_sub (ms := p :: ms) fun m hm => List.mem_cons_of_mem _ hm) ha))
theorem PL.go {es : List PyData} (h : PL c ms σ H e es) (t : Trk ms H) {Q : VK} (q : ∀ p xs H', Same H H' → H p = none → H' p = some (.lst xs) → DpAll c.K (cut (p :: ms) H') xs es → Q (.ref p) H') : ES c e σ H Q := h t H Q (Same.refl H) q

/-! ### comprehensions -/
def Ct.blk (c : Ct) (scope : Scope) : Ct := { c with sc := relS scope c.sc, fnAll := false }
theorem In.blk {X : Cx} (h : c.In X) (s : Shared) (H : Hp) (scope : Scope) (cl : List (Str × Addr)) (C : Addr) (fp : List Addr) : (c.blk scope).In (X.blk s H scope (compEnvC scope cl C X.env) fp) where
  P := h.P
  w := h.w
  K := h.K
  mg := h.mg
  base := h.base
  A := h.A
  N := h.N
  sc := by
    show relabel scope X.env = relS scope c.sc
    rw [← h.sc]
    rfl
  calm := h.calm
  fn := fun z => by cases z
theorem wipe_set {σ : L2.St} {i : Nat} {v : V} : ∀ {vs : List Nat}, i ∈ vs → wipe (σ.set i (some v)) vs = wipe σ vs
  | [], h => by cases h
  | j :: vs, h => by
    unfold wipe
    by_cases e : i = j
    · subst e
      have key : ∀ (ws : List Nat) (τ : L2.St), (wipe (τ.set i (some v)) ws).set i none = (wipe τ ws).set i none := by
        intro ws
        induction ws with
        | nil => intro τ; show (τ.set i (some v)).set i none = τ.set i none; rw [List.set_set]
        | cons k ws ih =>
          intro τ
          unfold wipe
          by_cases e : k = i
          · subst e
            rw [ih τ]
          · rw [List.set_comm _ _ e, ih τ, List.set_comm _ _ (Ne.symm e)]
      exact key vs σ
    · rcases List.mem_cons.mp h with z | z
      · exact absurd z e
      · rw [wipe_set z]
theorem wipe_sets : ∀ (is : List Nat) (us : List V) (σ : L2.St) {vs : List Nat}, (∀ i ∈ is, i ∈ vs) → wipe (sets σ is us) vs = wipe σ vs
  | [], _, _, _, _ => rfl
  | _ :: _, [], _, _, _ => rfl
  | i :: is, u :: us, σ, vs, h => by
    show wipe (sets (σ.set i (some u)) is us) vs = _
    rw [wipe_sets is us _ fun j hj => h j (List.mem_cons_of_mem _ hj), wipe_set (h i List.mem_cons_self)]
theorem wipe_wipe : ∀ (vs : List Nat) (σ : L2.St), wipe (wipe σ vs) vs = wipe σ vs := by
  have key : ∀ (ws : List Nat) (σ : L2.St) (i : Nat), wipe (σ.set i none) ws = (wipe σ ws).set i none := by
    intro ws
    induction ws with
    | nil => intro σ i; rfl
    | cons k ws ih =>
      intro σ i
      unfold wipe
      rw [ih]
      by_cases e : k = i
      · subst e; rfl
      · rw [List.set_comm _ _ e]
  intro vs
  induction vs with
  | nil => intro σ; rfl
  | cons v vs ih =>
    intro σ
    show (wipe ((wipe σ vs).set v none) vs).set v none = (wipe σ vs).set v none
    rw [key, ih, List.set_set]
/-- a comprehension's reading -/
def LcD (c : Ct) (ms : List Addr) (σ : L2.St) (H : Hp) (tg iter : Expr) (ifs : List Expr) (elt : Expr) (scope : Scope) (es : List PyData) : Prop :=
  ∃ (own : List (Str × Nat)) (tt : TT), c.N.Nodup ∧ blkC c.N c.sc scope own = true ∧ (∀ X', (c.blk scope).In X' → PTs X' ifs tt) ∧ (∀ (X : Cx) x, foldedSetIterable iter X.env x = pure x) ∧
    (Trk ms H → ∀ H1 Q, Same H H1 → (∀ p xs H', Same H1 H' → H1 p = none → H' p = some (.lst xs) → DpAll c.K (cut (p :: ms) H') xs es → Q (.ref p) H') → tLc (EI c tg iter) (EG (c.blk scope) tg) tt (ES (c.blk scope) elt) (own.map (·.2)) σ H1 Q)
theorem pl_of {scope : Scope} {iter elt : Expr} {ifs : List Expr} {es : List PyData} (h : LcD c ms σ H tg iter ifs elt scope es) : PL c ms σ H (.ListComp elt [⟨tg, iter, ifs, 0⟩] scope pos) es := fun t H1 Q S q => by
  obtain ⟨own, tt, hN, hok, ht, hs, hr⟩ := h
  refine ⟨tLc (EI c tg iter) (EG (c.blk scope) tg) tt (ES (c.blk scope) elt) (own.map (·.2)), fun X hX => ?_, hr t H1 Q S q⟩
  exact pe_lc hX.calm (by rw [hX.N]; exact hN) (EI.any hX _ _) (blkOk_by (by rw [hX.N, hX.sc]; exact hok)) (fun s H C cl fp => EG.any (In.blk hX s H scope cl C fp) _) (fun s H C cl fp => ht _ (In.blk hX s H scope cl C fp)) (fun s H C cl fp => ES.any (In.blk hX s H scope cl C fp) _) (hs X)
theorem pd_of {scope : Scope} {iter elt : Expr} {ifs : List Expr} {es : List PyData} (h : LcD c ms σ H tg iter ifs elt scope es) : PD c ms σ H (.ListComp elt [⟨tg, iter, ifs, 0⟩] scope pos) (.list es) := (pl_of h).pd
/-- [elt for tg in iter], es what it gives, item by item -/
theorem lc_map {scope : Scope} {own : List (Str × Nat)} {iter elt : Expr} {es : List PyData} {bf : Nat → List (Nat × PyData)} (hN : c.N.Nodup) (hok : blkC c.N c.sc scope own = true) (hit : PDI c ms σ H tg iter ds) (hl : es.length = ds.length) (hz : ds.length ≤ sizeLine)
    (hg : ∀ i d ms', ds[i]? = some d → GD (c.blk scope) ms' tg d (bf i)) (hown : ∀ i, ∀ p ∈ bf i, p.1 ∈ own.map (·.2))
    (he : ∀ i d e vs ms' H1, ds[i]? = some d → es[i]? = some e → Same H H1 → Same (cut ms H) (cut ms' H1) → DpAll c.K (cut ms' H1) vs ((bf i).map (·.2)) → PD (c.blk scope) ms' (sets (wipe σ (own.map (·.2))) ((bf i).map (·.1)) vs) H1 elt e)
    (hs : ∀ (X : Cx) x, foldedSetIterable iter X.env x = pure x := by intro _ _; rfl) : LcD c ms σ H tg iter [] elt scope es := by
  refine ⟨own, tYes, hN, hok, fun X' _ => pts_nil, hs, fun t H1 Q S q => ?_⟩
  · refine hit t H1 _ S fun J H2 S2 wd D hD => ?_
    have S12 := S.trans S2
    have t2 : Trk ms H2 := (t.up S).up S2
    refine lc_it (wd (D :: ms)) (fun i H3 => Same H2 H3 ∧ Same (cut ms H2) (cut (D :: ms) H3) ∧ Trk (D :: ms) H3 ∧ ∃ acc, H3 D = some (.lst acc) ∧ DpAll c.K (cut (D :: ms) H3) acc (es.take i)) ?_ (fun i H3 _ p => ⟨p.2.1, p.2.2.1⟩) (fun i x H3 H4 hi p y => ?_) fun H3 p => ?_
    · refine ⟨same_new hD, cut_more hD, fun m hm => ?_, [], upd_same, .nil⟩
      rcases List.mem_cons.mp hm with rfl | hm
      · rw [upd_same]; exact fun z => by cases z
      · exact (t2.up (same_new hD)) m hm
    · obtain ⟨p1, p2, p3, acc, p4, p5⟩ := p
      obtain ⟨y1, y2⟩ := y
      have hd : ds[i]? = some ds[i] := List.getElem?_eq_getElem hi
      have hi2 : i < es.length := by omega
      have hee : es[i]? = some es[i] := List.getElem?_eq_getElem hi2
      have t4 := p3.up y1
      have S4 : Same (cut ms H2) (cut (D :: ms) H4) := p2.trans (cut_same y1)
      refine hg i _ (D :: ms) hd x _ H4 _ (y2 _ hd) fun vs hvs => ⟨?_, ?_⟩
      · rw [wipe_sets _ _ _ (fun j hj => by
          obtain ⟨p, hp, e⟩ := List.mem_map.mp hj
          rw [← e]; exact hown i p hp), wipe_wipe]
      · unfold tYes
        dsimp only
        rw [if_pos rfl]
        refine he i _ _ vs (D :: ms) H4 hd hee (S12.trans (p1.trans y1)) ((cut_same S12).trans S4) hvs t4 H4 _ (Same.refl _) fun v H5 S5 dv => ?_
        have e5 : H5 D = some (.lst acc) := S5 _ _ (y1 _ _ p4)
        have hacc : acc.length = i := by rw [dpall_len p5, List.length_take]; omega
        refine ⟨acc, e5, by omega, ?_, ?_, ?_, acc ++ [v], upd_same, ?_⟩
        · intro b o hb
          have hbD : b ≠ D := ne_of_none hb hD
          rw [upd_ne hbD]
          exact S5 _ _ (y1 _ _ (p1 _ _ hb))
        · rw [cut_mut List.mem_cons_self]
          exact S4.trans (cut_same S5)
        · intro m hm e
          by_cases hmD : m = D
          · rw [hmD, upd_same] at e; cases e
          · rw [upd_ne hmD] at e
            exact (t4.up S5) m hm e
        · rw [cut_mut List.mem_cons_self, List.take_add_one, hee]
          exact dpall_app (dpall_mono (cut_same (y1.trans S5)) p5) (.cons dv .nil)
    · obtain ⟨p1, p2, p3, acc, p4, p5⟩ := p
      rw [← hl, List.take_length] at p5
      exact q _ _ _ (S2.trans p1) (S2.free hD) p4 p5
/-- what the tests keep -/
def keep (bs : List Bool) (es : List PyData) : List PyData := (bs.zip es).flatMap fun p => if p.1 = true then [p.2] else []
theorem keep_take {bs : List Bool} {es : List PyData} {i : Nat} {k : Bool} {e : PyData} (h1 : bs[i]? = some k) (h2 : es[i]? = some e) : keep (bs.take (i + 1)) (es.take (i + 1)) = keep (bs.take i) (es.take i) ++ if k = true then [e] else [] := by
  have key : ∀ n, (bs.take n).zip (es.take n) = (bs.zip es).take n := fun n => by simp [List.zip, List.take_zipWith]
  have e3 : (bs.zip es)[i]? = some (k, e) := by simp [List.zip, List.getElem?_zipWith, h1, h2]
  unfold keep
  rw [key, key, List.take_add_one, List.flatMap_append, e3]
  simp
theorem keep_len (bs : List Bool) (es : List PyData) : (keep bs es).length ≤ bs.length := by
  unfold keep
  have : ∀ l : List (Bool × PyData), (l.flatMap fun p => if p.1 = true then [p.2] else []).length ≤ l.length := by
    intro l
    induction l with
    | nil => simp
    | cons x l ih =>
      rw [List.flatMap_cons, List.length_append, List.length_cons]
      have : (if x.1 = true then [x.2] else []).length ≤ 1 := by split <;> simp
      omega
  have h := this (bs.zip es)
  rw [List.length_zip] at h
  omega
/-- [elt for tg in iter if test] -/
theorem lc_flt {scope : Scope} {own : List (Str × Nat)} {iter elt tst : Expr} {es : List PyData} {ks : List Bool} {bf : Nat → List (Nat × PyData)} (hN : c.N.Nodup) (hok : blkC c.N c.sc scope own = true) (hit : PDI c ms σ H tg iter ds) (hl : es.length = ds.length) (hlk : ks.length = ds.length) (hz : ds.length ≤ sizeLine)
    (hg : ∀ i d ms', ds[i]? = some d → GD (c.blk scope) ms' tg d (bf i)) (hown : ∀ i, ∀ p ∈ bf i, p.1 ∈ own.map (·.2))
    (ht : ∀ i d k vs ms' H1, ds[i]? = some d → ks[i]? = some k → Same H H1 → Same (cut ms H) (cut ms' H1) → DpAll c.K (cut ms' H1) vs ((bf i).map (·.2)) → PB (c.blk scope) ms' (sets (wipe σ (own.map (·.2))) ((bf i).map (·.1)) vs) H1 tst k)
    (he : ∀ i d e vs ms' H1, ds[i]? = some d → es[i]? = some e → ks[i]? = some true → Same H H1 → Same (cut ms H) (cut ms' H1) → DpAll c.K (cut ms' H1) vs ((bf i).map (·.2)) → PD (c.blk scope) ms' (sets (wipe σ (own.map (·.2))) ((bf i).map (·.1)) vs) H1 elt e)
    (hs : ∀ (X : Cx) x, foldedSetIterable iter X.env x = pure x := by intro _ _; rfl) : LcD c ms σ H tg iter [tst] elt scope (keep ks es) := by
  refine ⟨own, EB (c.blk scope) tst, hN, hok, fun X' hX' => pts_one (EB.any hX' _), hs, fun t H1 Q S q => ?_⟩
  · refine hit t H1 _ S fun J H2 S2 wd D hD => ?_
    have S12 := S.trans S2
    have t2 : Trk ms H2 := (t.up S).up S2
    refine lc_it (wd (D :: ms)) (fun i H3 => Same H2 H3 ∧ Same (cut ms H2) (cut (D :: ms) H3) ∧ Trk (D :: ms) H3 ∧ ∃ acc, H3 D = some (.lst acc) ∧ DpAll c.K (cut (D :: ms) H3) acc (keep (ks.take i) (es.take i))) ?_ (fun i H3 _ p => ⟨p.2.1, p.2.2.1⟩) (fun i x H3 H4 hi p y => ?_) fun H3 p => ?_
    · refine ⟨same_new hD, cut_more hD, fun m hm => ?_, [], upd_same, .nil⟩
      rcases List.mem_cons.mp hm with rfl | hm
      · rw [upd_same]; exact fun z => by cases z
      · exact (t2.up (same_new hD)) m hm
    · obtain ⟨p1, p2, p3, acc, p4, p5⟩ := p
      obtain ⟨y1, y2⟩ := y
      have hd : ds[i]? = some ds[i] := List.getElem?_eq_getElem hi
      have hi2 : i < es.length := by omega
      have hi3 : i < ks.length := by omega
      have hee : es[i]? = some es[i] := List.getElem?_eq_getElem hi2
      have hkk : ks[i]? = some ks[i] := List.getElem?_eq_getElem hi3
      have t4 := p3.up y1
      have S4 : Same (cut ms H2) (cut (D :: ms) H4) := p2.trans (cut_same y1)
      refine hg i _ (D :: ms) hd x _ H4 _ (y2 _ hd) fun vs hvs => ⟨?_, ?_⟩
      · rw [wipe_sets _ _ _ (fun j hj => by
          obtain ⟨p, hp, e⟩ := List.mem_map.mp hj
          rw [← e]; exact hown i p hp), wipe_wipe]
      · refine ht i _ _ vs (D :: ms) H4 hd hkk (S12.trans (p1.trans y1)) ((cut_same S12).trans S4) hvs t4 H4 _ (Same.refl _) fun H5 S5 => ?_
        have t5 := t4.up S5
        have S5' : Same (cut ms H2) (cut (D :: ms) H5) := S4.trans (cut_same S5)
        cases hk : ks[i] with
        | false =>
          refine iteF ⟨p1.trans (y1.trans S5), S5', t5, acc, S5 _ _ (y1 _ _ p4), ?_⟩
          rw [keep_take hkk hee, hk]
          simpa using dpall_mono (cut_same (y1.trans S5)) p5
        | true =>
          refine iteT ?_
          rw [hk] at hkk
          refine he i _ _ vs (D :: ms) H5 hd hee hkk (S12.trans (p1.trans (y1.trans S5))) ((cut_same S12).trans S5') (dpall_mono (cut_same S5) hvs) t5 H5 _ (Same.refl _) fun v H6 S6 dv => ?_
          have e6 : H6 D = some (.lst acc) := S6 _ _ (S5 _ _ (y1 _ _ p4))
          have hacc : acc.length ≤ i := by
            have h1 := keep_len (ks.take i) (es.take i)
            rw [dpall_len p5]
            rw [List.length_take] at h1
            omega
          refine ⟨acc, e6, by omega, ?_, ?_, ?_, acc ++ [v], upd_same, ?_⟩
          · intro b o hb
            have hbD : b ≠ D := ne_of_none hb hD
            rw [upd_ne hbD]
            exact S6 _ _ (S5 _ _ (y1 _ _ (p1 _ _ hb)))
          · rw [cut_mut List.mem_cons_self]
            exact S5'.trans (cut_same S6)
          · intro m hm e
            by_cases hmD : m = D
            · rw [hmD, upd_same] at e; cases e
            · rw [upd_ne hmD] at e
              exact (t5.up S6) m hm e
          · rw [cut_mut List.mem_cons_self, keep_take hkk hee]
            exact dpall_app (dpall_mono (cut_same (y1.trans (S5.trans S6))) p5) (.cons dv .nil)
    · obtain ⟨p1, p2, p3, acc, p4, p5⟩ := p
      have e1 : ks.take ds.length = ks := by rw [← hlk, List.take_length]
      have e2 : es.take ds.length = es := by rw [← hl, List.take_length]
      rw [e1, e2] at p5
      exact q _ _ _ (S2.trans p1) (S2.free hD) p4 p5
end
end SK
namespace SK
open PySem PySem.Spec PyProof.Rows L2
/-! ### statements -/
def SS (X : Cx) (sts : List Stmt) : TS := fun D σ H => ∃ t : TS, PSs X sts t ∧ t D σ H
theorem SS.any (X : Cx) (sts : List Stmt) : PSs X sts (SS X sts) := ⟨fun pins s σ H D I ⟨t, h, q⟩ => h.run pins s σ H D I q⟩
/-- an environment of this scope: what the compiler's looks at names ask -/
def Ct.e0 (c : Ct) : Env := { scope := c.sc, locals := 0, globals := mainGlobals, cells := [] }
theorem swSt_congr (ts : List Expr) (v : Expr) {env env' : Env} (h : env.scope = env'.scope) : swappedStores ts v env = swappedStores ts v env' := by
  obtain ⟨sc, a1, a2, a3, a4, a5, a6, a7, a8⟩ := env
  obtain ⟨sc', b1, b2, b3, b4, b5, b6, b7, b8⟩ := env'
  cases (show sc = sc' from h)
  rfl
theorem sw_congr (v : Expr) (t : Option Expr) (l : Nat) {env env' : Env} (h : env.scope = env'.scope) : swapsWith v t l env = swapsWith v t l env' := by
  obtain ⟨sc, a1, a2, a3, a4, a5, a6, a7, a8⟩ := env
  obtain ⟨sc', b1, b2, b3, b4, b5, b6, b7, b8⟩ := env'
  cases (show sc = sc' from h)
  rfl
theorem sole_congr : ∀ (ts : List Expr) (v : Expr) (l : Nat) {env env' : Env}, env.scope = env'.scope → swapsWithSole ts v l env = swapsWithSole ts v l env'
  | [], _, _, _, _, _ => rfl
  | [t], v, l, _, _, h => sw_congr v (some t) l h
  | _ :: _ :: _, _, _, _, _, _ => rfl
section
variable {X : Cx} {c : Ct} {st : Stmt} {rest body : List Stmt} {D : Ends} {σ : L2.St} {H : Hp} {e tg : Expr} {pos : Pos} {t : TS} {ms : List Addr} {d : PyData} {ds : List PyData}
theorem Ct.In.e0 (h : c.In X) : X.env.scope = c.e0.scope := h.sc
/-- the def's own context: its names may be stored -/
structure Own (c : Ct) (X : Cx) : Prop where
  i : c.In X
  all : c.fnAll = true
  nd : c.N.Nodup
  hp : PassesOwn (model X.prog X.w) X.A X.env X.xe
theorem Own.fn (h : Own c X) (x : Str) : X.fn x = true := h.i.fn h.all x
theorem ss_nil (q : D.nx σ H) : SS X [] D σ H := ⟨tNext, pss_nil, q⟩
theorem ss_cons (h : PS X st t) (q : t { D with nx := fun σ' H' => SS X rest D σ' H' } σ H) : SS X (st :: rest) D σ H := ⟨tSeq t (SS X rest), pss_cons h (SS.any X rest), q⟩
theorem ss_set (i : Nat) {x : Str} {p : Pos} (hX : Own c X) (q : ES c e σ H fun v H' => SS X rest D (σ.set i (some v)) H') (hi : c.N[i]? = some x := by rfl) (hx : Loc c.sc x := by first | exact Or.inl rfl | exact Or.inr rfl) (hs : swapsWith e (some (.Name x p)) pos.line c.e0 = pure false := by rfl) :
    SS X (.Assign [.Name x p] e pos :: rest) D σ H := ss_cons (ps_set (by rw [hX.i.N]; exact hX.nd) (by rw [hX.i.N]; exact hi) (by rw [hX.i.sc]; exact hx) (ES.any hX.i e) (by rw [sw_congr _ _ _ hX.i.e0]; exact hs) (.inl (hX.fn x))) q
theorem ss_asg (hX : Own c X) (q : ES c e σ H fun v H' => EG c tg v σ H' fun σ2 H2 => SS X rest D σ2 H2) (hs : swapsWithSole [tg] e pos.line c.e0 = pure false := by rfl) (hw : swappedStores [tg] e c.e0 = pure none := by rfl)
    (h1 : ∀ X : Cx, (assignEach [tg] X.env).map (·.2) = [assign tg X.env] := by intro _; rfl) : SS X (.Assign [tg] e pos :: rest) D σ H :=
  ss_cons (ps_asg (ES.any hX.i e) (EG.any hX.i tg) (by rw [sole_congr _ _ _ hX.i.e0]; exact hs) (by rw [swSt_congr _ _ hX.i.e0]; exact hw) (h1 X)) q
theorem ss_par (i j : Nat) {x y : Str} {a b : Expr} {px py pt : Pos} {kt k2 pt2} (hX : Own c X) (q : EA c [a, b] σ H fun vs H1 => ∃ v w, vs = [v, w] ∧ SS X rest D ((σ.set i (some v)).set j (some w)) H1) (hij : i ≠ j := by decide) (hi : c.N[i]? = some x := by rfl) (hj : c.N[j]? = some y := by rfl)
    (hx : c.sc.names.lookup x = some .local := by rfl) (hy : c.sc.names.lookup y = some .local := by rfl) (hw : swappedStores [.Tuple [.Name x px, .Name y py] kt pt] (.Tuple [a, b] k2 pt2) c.e0 = pure (some [x, y]) := by rfl)
    (hs : swapsWithSole [.Tuple [.Name x px, .Name y py] kt pt] (.Tuple [a, b] k2 pt2) pos.line c.e0 = pure false := by rfl) : SS X (.Assign [.Tuple [.Name x px, .Name y py] kt pt] (.Tuple [a, b] k2 pt2) pos :: rest) D σ H :=
  ss_cons (ps_par hX.i.calm (by rw [hX.i.N]; exact hX.nd) (by rw [hX.i.N]; exact hi) (by rw [hX.i.N]; exact hj) hij (by rw [hX.i.sc]; exact hx) (by rw [hX.i.sc]; exact hy) (EA.any hX.i _) (by rw [swSt_congr _ _ hX.i.e0]; exact hw) (by rw [sole_congr _ _ _ hX.i.e0]; exact hs)) q
/-- x = [.. for ..] -/
theorem ss_setLc (i : Nat) {x : Str} {px : Pos} {scope : Scope} {iter elt : Expr} {ifs : List Expr} {p2 : Pos} (hX : Own c X) {es : List PyData} (h : LcD c ms σ H tg iter ifs elt scope es) (tr : Trk ms H) (q : ∀ p xs H', Same H H' → H p = none → H' p = some (.lst xs) → DpAll c.K (cut (p :: ms) H') xs es → SS X rest D (σ.set i (some (.ref p))) H') (hi : c.N[i]? = some x := by rfl)
    (hx : c.sc.names.lookup x = some .local := by rfl) (hsw : swapsWith (.ListComp elt [⟨tg, iter, ifs, 0⟩] scope p2) (some (.Name x px)) pos.line c.e0 = pure true := by rfl) : SS X (.Assign [.Name x px] (.ListComp elt [⟨tg, iter, ifs, 0⟩] scope p2) pos :: rest) D σ H := by
  obtain ⟨own, tt, hN, hok, ht, hs, hr⟩ := h
  refine ss_cons (ps_setLc (i := i) (own := own) hX.i.calm (by rw [hX.i.N]; exact hN) (by rw [hX.i.N]; exact hi) (by rw [hX.i.sc]; exact hx) (by rw [sw_congr _ _ _ hX.i.e0]; exact hsw) (EI.any hX.i _ _) (blkOk_by (by rw [hX.i.N, hX.i.sc]; exact hok))
    (fun s H C cl fp => EG.any (In.blk hX.i s H scope cl C fp) _) (fun s H C cl fp => ht _ (In.blk hX.i s H scope cl C fp)) (fun s H C cl fp => ES.any (In.blk hX.i s H scope cl C fp) _) (hs X)) ?_
  exact hr tr H _ (Same.refl _) q
theorem ss_expr (hX : Own c X) (q : ES c e σ H fun _ H' => SS X rest D σ H') (hs : swapsWith e none pos.line c.e0 = pure false := by rfl) : SS X (.Expr e pos :: rest) D σ H := ss_cons (ps_expr (ES.any hX.i e) (by rw [sw_congr _ _ _ hX.i.e0]; exact hs)) q
theorem ss_ret (hX : Own c X) (q : ES c e σ H D.rt) : SS X (.Return (some e) pos :: rest) D σ H := ss_cons (ps_ret (ES.any hX.i e)) q
theorem ss_if {a b : List Stmt} {k : Bool} (hX : Own c X) (h : PB c ms σ H e k) (tr : Trk ms H) (q1 : k = true → ∀ H', Same H H' → SS X a { D with nx := fun σ' H' => SS X rest D σ' H' } σ H') (q2 : k = false → ∀ H', Same H H' → SS X b { D with nx := fun σ' H' => SS X rest D σ' H' } σ H') : SS X (.If e a b pos :: rest) D σ H :=
  ss_cons (ps_if (EB.any hX.i e) (SS.any X a) (SS.any X b)) (h.goB tr fun H' S => by
    cases k with
    | true => exact iteT (q1 rfl H' S)
    | false => exact iteF (q2 rfl H' S))
theorem ss_ifE {a b : List Stmt} (hX : Own c X) (q : EB c e σ H fun k H' => if k = true then SS X a { D with nx := fun σ' H' => SS X rest D σ' H' } σ H' else SS X b { D with nx := fun σ' H' => SS X rest D σ' H' } σ H') : SS X (.If e a b pos :: rest) D σ H :=
  ss_cons (ps_if (EB.any hX.i e) (SS.any X a) (SS.any X b)) q
/-- for, over data -/
theorem ss_for {iter : Expr} (hX : Own c X) (hit : PDI c ms σ H tg iter ds) (tr : Trk ms H)
    (q : ∀ H1, Same H H1 → ∃ Pv : Nat → L2.St → Hp → Prop, Pv 0 σ H1 ∧ (∀ i σ' H', Pv i σ' H' → Same (cut ms H1) (cut ms H') ∧ Trk ms H') ∧
      (∀ i d x σ' H' H'', ds[i]? = some d → Pv i σ' H' → Same H' H'' → Dp c.K (cut ms H'') x d → EG c tg x σ' H'' fun σ2 H2 => SS X body { D with nx := Pv (i + 1), ct := Pv (i + 1), bk := fun σ' H' => SS X rest D σ' H' } σ2 H2) ∧
      ∀ σ' H', Pv ds.length σ' H' → SS X rest D σ' H')
    (hs : ∀ (X : Cx) (x : Value), foldedSetIterable iter X.env x = pure x := by intro _ _; rfl) : SS X (.For tg iter body [] pos :: rest) D σ H :=
  ss_cons (ps_for hX.hp hX.i.calm (EI.any hX.i tg iter) (EG.any hX.i tg) (SS.any X body) (hs X)) (hit tr H _ (Same.refl _) fun J H1 S wd => by
    obtain ⟨Pv, p0, pg, ps, pd⟩ := q H1 S
    exact for_it (wd ms) Pv p0 (fun i σ' H' _ p => pg i σ' H' p) (fun i x σ' H' H'' hi p y => ps i _ x σ' H' H'' (List.getElem?_eq_getElem hi) p y.1 (y.2 _ (List.getElem?_eq_getElem hi))) fun σ' H' p => pd σ' H' p)
theorem ss_while {b : Expr} (hX : Own c X) (W : Nat → L2.St → Hp → Prop) (h0 : ∃ m, W m σ H) (q : ∀ m σ' H', W m σ' H' → EB c b σ' H' fun k H1 => if k = true then ∃ N : L2.St → Hp → Prop, (∀ σ2 H2, N σ2 H2 → ∃ m', m' < m ∧ W m' σ2 H2) ∧
      SS X body { D with nx := N, ct := N, bk := fun σ' H' => SS X rest D σ' H' } σ' H1 else SS X rest D σ' H1) : SS X (.While b body [] pos :: rest) D σ H :=
  ss_cons (ps_while hX.hp (EB.any hX.i b) (SS.any X body)) ⟨W, h0, q⟩
end
/-! ### a def's body -/
section
variable {P : Program} {w : World} {K : PySem.W.Frag} {mg : Str → Option Value} {base : Heap}
/-- the context of a def's body -/
@[reducible] def ctOf (P : Program) (w : World) (K : PySem.W.Frag) (mg : Str → Option Value) (base : Heap) (N : List Str) (st : Stmt) (A : Around) : Ct :=
  { P := P, w := w, K := K, mg := mg, base := base, A := A, N := N, sc := defScope st, fnAll := true }
/-- a def that lets nothing out, by its body's reading -/
theorem fn_ok0 {x qual : Str} {st : Stmt} {f : Addr} {fd : FuncData} {N ps : List Str} {k : Nat} {sp : Sp} (F : Fun K x qual st f fd) (S : FnScope N ps (defScope st)) (len : ∀ vs H Q E, sp vs H Q E → vs.length = ps.length)
    (body : ∀ (A : Around) (X : Cx) (H : Hp) (vs : List V) (Q : VK) (E : XK), Own (ctOf P w K mg base N st A) X → Room k A → sp vs H Q E →
      SS X (defBody st) { nx := fun _ H' => Q .non H', rt := Q } (start N vs) H) : FnOk P w K mg base CX0 (k + 1) f fd ps sp := by
  refine F.ok S len fun cdv A outer s H vs Q E hr h => ?_
  exact body (A.deeper (envOfC qual (defScope st) s.heap.objs.size f cdv)) _ H vs Q E ⟨⟨rfl, rfl, rfl, rfl, rfl, rfl, rfl, rfl, rfl, fun _ _ => rfl⟩, rfl, S.nd, PassesOwn.never⟩ hr h
theorem fn1_of {x : Str} {f : Addr} {fd : FuncData} {ps : List Str} {k : Nat} {sp : Sp} (h : FnOk P w K mg base CX0 k f fd ps sp) (hm : mg x = some (.ref f)) (hk : PySem.W.keepIn K (.ref f) = true) (hb : BndL K f fd ps) : Fn1 P w K mg base CX0 k x ps sp :=
  ⟨⟨f, fd, h, hm, hk, hb⟩, fun X _ _ => pass0⟩
theorem fn1_ofX {x : Str} {f : Addr} {fd : FuncData} {ps : List Str} {k : Nat} {sp : Sp} (h : FnOk P w K mg base (L2.CX P w) k f fd ps sp) (hm : mg x = some (.ref f)) (hk : PySem.W.keepIn K (.ref f) = true) (hb : BndL K f fd ps) : Fn1 P w K mg base (L2.CX P w) k x ps sp :=
  ⟨⟨f, fd, h, hm, hk, hb⟩, fun X h1 h2 => by rw [← h1, ← h2]; exact passL⟩
/-- where a def of the text stands -/
structure At (K : PySem.W.Frag) (mg : Str → Option Value) (x : Str) (st : Stmt) (f : Addr) (fd : FuncData) (ps : List Str) : Prop where
  F : Fun K x x st f fd
  m : mg x = some (.ref f)
  b : Binds K fd ps []
theorem At.bl {x : Str} {st : Stmt} {f : Addr} {fd : FuncData} {ps : List Str} (a : At K mg x st f fd ps) : BndL K f fd ps := ⟨a.b, by
  obtain ⟨oc, od, kV, doc, pm, an, cdv, ct, osl, e, lk, _⟩ := a.F.ex
  exact ⟨oc, od, osl, lk⟩⟩
theorem At.fn {x : Str} {st : Stmt} {f : Addr} {fd : FuncData} {ps N : List Str} {k : Nat} {sp : Sp} (a : At K mg x st f fd ps) (S : FnScope N ps (defScope st)) (len : ∀ vs H Q E, sp vs H Q E → vs.length = ps.length)
    (body : ∀ (A : Around) (X : Cx) (H : Hp) (vs : List V) (Q : VK) (E : XK), Own (ctOf P w K mg base N st A) X → Room k A → sp vs H Q E →
      SS X (defBody st) { nx := fun _ H' => Q .non H', rt := Q } (start N vs) H) : Fn1 P w K mg base CX0 (k + 1) x ps sp := fn1_of (fn_ok0 a.F S len body) a.m a.F.kp a.bl
/-- .. for a def over data -/
theorem At.fnP {x : Str} {st : Stmt} {f : Addr} {fd : FuncData} {ps N : List Str} {k : Nat} {R : List PyData → PyData → Prop} (a : At K mg x st f fd ps) (S : FnScope N ps (defScope st)) (len : ∀ ds d, R ds d → ds.length = ps.length)
    (body : ∀ (A : Around) (X : Cx) (H : Hp) (vs : List V) (Q : VK) (ms : List Addr) (ds : List PyData) (d : PyData), Own (ctOf P w K mg base N st A) X → Room k A → Trk ms H → DpAll K (cut ms H) vs ds → R ds d → (∀ v H', Same H H' → Dp K (cut ms H') v d → Q v H') →
      SS X (defBody st) { nx := fun _ H' => Q .non H', rt := Q } (start N vs) H) : Fn1 P w K mg base CX0 (k + 1) x ps (spP K R) :=
  a.fn S (fun vs H Q E h => by
    obtain ⟨ms, ds, d, _, h1, h2, _⟩ := h
    rw [dpall_len h1]
    exact len ds d h2) fun A X H vs Q E hX hr h => by
    obtain ⟨ms, ds, d, t, h1, h2, q⟩ := h
    exact body A X H vs Q ms ds d hX hr t h1 h2 q
end
/-! arguments -/
theorem dpall0 {K : PySem.W.Frag} {H : Hp} {vs : List V} (h : DpAll K H vs []) : vs = [] := by cases h; rfl
theorem dpall_uncons {K : PySem.W.Frag} {H : Hp} {vs : List V} {d : PyData} {ds : List PyData} (h : DpAll K H vs (d :: ds)) : ∃ v r, vs = v :: r ∧ Dp K H v d ∧ DpAll K H r ds := by
  cases h with
  | cons h1 h2 => exact ⟨_, _, rfl, h1, h2⟩
theorem dpall1 {K : PySem.W.Frag} {H : Hp} {vs : List V} {d1 : PyData} (h : DpAll K H vs [d1]) : ∃ v1, vs = [v1] ∧ Dp K H v1 d1 := by
  obtain ⟨v, r, rfl, h1, h2⟩ := dpall_uncons h
  obtain rfl := dpall0 h2
  exact ⟨v, rfl, h1⟩
theorem dpall2 {K : PySem.W.Frag} {H : Hp} {vs : List V} {d1 d2 : PyData} (h : DpAll K H vs [d1, d2]) : ∃ v1 v2, vs = [v1, v2] ∧ Dp K H v1 d1 ∧ Dp K H v2 d2 := by
  obtain ⟨v, r, rfl, h1, h2⟩ := dpall_uncons h
  obtain ⟨v2, rfl, h3⟩ := dpall1 h2
  exact ⟨v, v2, rfl, h1, h3⟩
theorem dpall3 {K : PySem.W.Frag} {H : Hp} {vs : List V} {d1 d2 d3 : PyData} (h : DpAll K H vs [d1, d2, d3]) : ∃ v1 v2 v3, vs = [v1, v2, v3] ∧ Dp K H v1 d1 ∧ Dp K H v2 d2 ∧ Dp K H v3 d3 := by
  obtain ⟨v, r, rfl, h1, h2⟩ := dpall_uncons h
  obtain ⟨v2, v3, rfl, h3, h4⟩ := dpall2 h2
  exact ⟨v, v2, v3, rfl, h1, h3, h4⟩
theorem dpall4 {K : PySem.W.Frag} {H : Hp} {vs : List V} {d1 d2 d3 d4 : PyData} (h : DpAll K H vs [d1, d2, d3, d4]) : ∃ v1 v2 v3 v4, vs = [v1, v2, v3, v4] ∧ Dp K H v1 d1 ∧ Dp K H v2 d2 ∧ Dp K H v3 d3 ∧ Dp K H v4 d4 := by
  obtain ⟨v, r, rfl, h1, h2⟩ := dpall_uncons h
  obtain ⟨v2, v3, v4, rfl, h3, h4, h5⟩ := dpall3 h2
  exact ⟨v, v2, v3, v4, rfl, h1, h3, h4, h5⟩
theorem dpall5 {K : PySem.W.Frag} {H : Hp} {vs : List V} {d1 d2 d3 d4 d5 : PyData} (h : DpAll K H vs [d1, d2, d3, d4, d5]) : ∃ v1 v2 v3 v4 v5, vs = [v1, v2, v3, v4, v5] ∧ Dp K H v1 d1 ∧ Dp K H v2 d2 ∧ Dp K H v3 d3 ∧ Dp K H v4 d4 ∧ Dp K H v5 d5 := by
  obtain ⟨v, r, rfl, h1, h2⟩ := dpall_uncons h
  obtain ⟨v2, v3, v4, v5, rfl, h3, h4, h5, h6⟩ := dpall4 h2
  exact ⟨v, v2, v3, v4, v5, rfl, h1, h3, h4, h5, h6⟩
theorem getD_of {α : Type} {xs : List α} {i : Nat} {d x : α} (h : xs[i]? = some x) : xs.getD i d = x := by rw [List.getD_eq_getElem?_getD, h]; rfl
end SK
namespace SK
open PySem PySem.Spec PyProof.Rows L2
/-! ### the text -/
def topS (i : Nat) : Stmt := PySem.Challenge.pw_secondknock_k17_whole_one_way_low_all_el.main.body.getD i (.Pass ⟨0, 0, 0, 0⟩)
abbrev sIsNumber : Stmt := topS 4
abbrev nIsNumber : List Str := ["thing"]
theorem scIsNumber : FnScope nIsNumber ["thing"] (defScope sIsNumber) := ⟨rfl, rfl, rfl, by decide +kernel, rfl, by decide +kernel, by decide +kernel⟩
abbrev sTupled : Stmt := topS 5
abbrev nTupled : List Str := ["value", "own"]
theorem scTupled : FnScope nTupled ["value"] (defScope sTupled) := ⟨rfl, rfl, rfl, by decide +kernel, rfl, by decide +kernel, by decide +kernel⟩
abbrev sSurePlaces : Stmt := topS 7
abbrev nSurePlaces : List Str := ["land", "numbers", "own", "number"]
theorem scSurePlaces : FnScope nSurePlaces ["land", "numbers"] (defScope sSurePlaces) := ⟨rfl, rfl, rfl, by decide +kernel, rfl, by decide +kernel, by decide +kernel⟩
abbrev sArrive : Stmt := topS 8
abbrev nArrive : List Str := ["land", "start", "spreads", "found", "moving", "near", "far", "_", "ticks"]
theorem scArrive : FnScope nArrive ["land", "start", "spreads"] (defScope sArrive) := ⟨rfl, rfl, rfl, by decide +kernel, rfl, by decide +kernel, by decide +kernel⟩
abbrev sRoadsFrom : Stmt := topS 9
abbrev nRoadsFrom : List Str := ["land", "here", "place", "gone", "found", "number", "near", "far", "_", "own"]
theorem scRoadsFrom : FnScope nRoadsFrom ["land", "here", "place", "gone"] (defScope sRoadsFrom) := ⟨rfl, rfl, rfl, by decide +kernel, rfl, by decide +kernel, by decide +kernel⟩
abbrev sRoads : Stmt := topS 10
abbrev nRoads : List Str := ["land", "start", "place"]
theorem scRoads : FnScope nRoads ["land", "start", "place"] (defScope sRoads) := ⟨rfl, rfl, rfl, by decide +kernel, rfl, by decide +kernel, by decide +kernel⟩
abbrev sLowAlong : Stmt := topS 11
abbrev nLowAlong : List Str := ["land", "road", "number", "own"]
theorem scLowAlong : FnScope nLowAlong ["land", "road"] (defScope sLowAlong) := ⟨rfl, rfl, rfl, by decide +kernel, rfl, by decide +kernel, by decide +kernel⟩
abbrev sLateRoads : Stmt := topS 12
abbrev nLateRoads : List Str := ["land", "start", "place", "other", "found", "road", "ticks"]
theorem scLateRoads : FnScope nLateRoads ["land", "start", "place", "other"] (defScope sLateRoads) := ⟨rfl, rfl, rfl, by decide +kernel, rfl, by decide +kernel, by decide +kernel⟩
abbrev sGreatestLate : Stmt := topS 13
abbrev nGreatestLate : List Str := ["land", "start", "place", "other", "found", "late", "_"]
theorem scGreatestLate : FnScope nGreatestLate ["land", "start", "place", "other"] (defScope sGreatestLate) := ⟨rfl, rfl, rfl, by decide +kernel, rfl, by decide +kernel, by decide +kernel⟩
abbrev sMostLate : Stmt := topS 14
abbrev nMostLate : List Str := ["land", "start", "place", "other"]
theorem scMostLate : FnScope nMostLate ["land", "start", "place", "other"] (defScope sMostLate) := ⟨rfl, rfl, rfl, by decide +kernel, rfl, by decide +kernel, by decide +kernel⟩
abbrev sLateness : Stmt := topS 15
abbrev nLateness : List Str := ["land", "start", "place", "other", "own", "most"]
theorem scLateness : FnScope nLateness ["land", "start", "place", "other"] (defScope sLateness) := ⟨rfl, rfl, rfl, by decide +kernel, rfl, by decide +kernel, by decide +kernel⟩
abbrev sWorstRoad : Stmt := topS 16
abbrev nWorstRoad : List Str := ["land", "start", "place", "other", "found", "most", "late", "_", "road"]
theorem scWorstRoad : FnScope nWorstRoad ["land", "start", "place", "other"] (defScope sWorstRoad) := ⟨rfl, rfl, rfl, by decide +kernel, rfl, by decide +kernel, by decide +kernel⟩
abbrev sWorstSpreads : Stmt := topS 17
abbrev nWorstSpreads : List Str := ["land", "start", "place", "other"]
theorem scWorstSpreads : FnScope nWorstSpreads ["land", "start", "place", "other"] (defScope sWorstSpreads) := ⟨rfl, rfl, rfl, by decide +kernel, rfl, by decide +kernel, by decide +kernel⟩
abbrev sIsSpreads : Stmt := topS 18
abbrev nIsSpreads : List Str := ["land", "thing", "ticks", "_", "low", "high"]
theorem scIsSpreads : FnScope nIsSpreads ["land", "thing"] (defScope sIsSpreads) := ⟨rfl, rfl, rfl, by decide +kernel, rfl, by decide +kernel, by decide +kernel⟩
abbrev sIsWorst : Stmt := topS 19
abbrev nIsWorst : List Str := ["land", "start", "place", "other", "thing", "own", "most", "ticks"]
theorem scIsWorst : FnScope nIsWorst ["land", "start", "place", "other", "thing"] (defScope sIsWorst) := ⟨rfl, rfl, rfl, by decide +kernel, rfl, by decide +kernel, by decide +kernel⟩
abbrev sLawBox : Stmt := topS 21
abbrev nLawBox : List Str := ["_law_script", "_law_k", "_law_cell"]
theorem scLawBox : FnScope nLawBox ["_law_script", "_law_k"] (defScope sLawBox) := ⟨rfl, rfl, rfl, by decide +kernel, rfl, by decide +kernel, by decide +kernel⟩
abbrev sLawTake : Stmt := topS 22
abbrev nLawTake : List Str := ["_law_tin", "_law_below_so", "_law_drawn", "_law_once_so", "_law_wide_so", "_law_twice_so"]
theorem scLawTake : FnScope nLawTake ["_law_tin", "_law_below_so"] (defScope sLawTake) := ⟨rfl, rfl, rfl, by decide +kernel, rfl, by decide +kernel, by decide +kernel⟩
abbrev sLawCells : Stmt := topS 23
abbrev nLawCells : List Str := ["_law_script", "_law_most_so", "_law_cells_so", "_law_k", "_law_cell", "_law_at_so"]
theorem scLawCells : FnScope nLawCells ["_law_script", "_law_most_so"] (defScope sLawCells) := ⟨rfl, rfl, rfl, by decide +kernel, rfl, by decide +kernel, by decide +kernel⟩
abbrev sLawPick : Stmt := topS 24
abbrev nLawPick : List Str := ["_law_tin", "_law_goods_so", "_law_count_so", "_law_pool_so", "_law_found", "_law_lap"]
theorem scLawPick : FnScope nLawPick ["_law_tin", "_law_goods_so", "_law_count_so"] (defScope sLawPick) := ⟨rfl, rfl, rfl, by decide +kernel, rfl, by decide +kernel, by decide +kernel⟩
abbrev sLawLists : Stmt := topS 25
abbrev nLawLists : List Str := ["_law_matter", "_law_bit"]
theorem scLawLists : FnScope nLawLists ["_law_matter"] (defScope sLawLists) := ⟨rfl, rfl, rfl, by decide +kernel, rfl, by decide +kernel, by decide +kernel⟩
abbrev sLawSame : Stmt := topS 26
abbrev nLawSame : List Str := ["_law_got", "_law_due", "_law_mine", "_law_its"]
theorem scLawSame : FnScope nLawSame ["_law_got", "_law_due"] (defScope sLawSame) := ⟨rfl, rfl, rfl, by decide +kernel, rfl, by decide +kernel, by decide +kernel⟩
abbrev sLawTicksBy : Stmt := topS 27
abbrev nLawTicksBy : List Str := ["_law_plan_so", "_law_start_so", "_law_lengths_so", "_law_own", "_law_k", "_law_lap", "_law_its", "_law_n"]
theorem scLawTicksBy : FnScope nLawTicksBy ["_law_plan_so", "_law_start_so", "_law_lengths_so"] (defScope sLawTicksBy) := ⟨rfl, rfl, rfl, by decide +kernel, rfl, by decide +kernel, by decide +kernel⟩
abbrev sLawAllLengths : Stmt := topS 28
abbrev nLawAllLengths : List Str := ["_law_plan_so", "_law_found", "_law_near", "_law_far", "_law_low_so", "_law_high_so", "_law_longer_so", "_law_row_so", "_law_n"]
theorem scLawAllLengths : FnScope nLawAllLengths ["_law_plan_so"] (defScope sLawAllLengths) := ⟨rfl, rfl, rfl, by decide +kernel, rfl, by decide +kernel, by decide +kernel⟩
abbrev sLawPlan : Stmt := topS 29
abbrev nLawPlan : List Str := ["_law_tin", "_law_most_so", "_law_size", "_law_pairs_so", "_law_k", "_law_m", "_law_found", "_law_many_so", "_law_ways_so", "_law_near", "_law_far", "_law_low_so", "_law_wide_so"]
theorem scLawPlan : FnScope nLawPlan ["_law_tin", "_law_most_so"] (defScope sLawPlan) := ⟨rfl, rfl, rfl, by decide +kernel, rfl, by decide +kernel, by decide +kernel⟩
abbrev sLawWard : Stmt := topS 30
abbrev nLawWard : List Str := []
theorem scLawWard : FnScope nLawWard [] (defScope sLawWard) := ⟨rfl, rfl, rfl, by decide +kernel, rfl, by decide +kernel, by decide +kernel⟩
abbrev sLawVault : Stmt := topS 31
abbrev nLawVault : List Str := []
theorem scLawVault : FnScope nLawVault [] (defScope sLawVault) := ⟨rfl, rfl, rfl, by decide +kernel, rfl, by decide +kernel, by decide +kernel⟩
abbrev sLawAsked : Stmt := topS 32
abbrev nLawAsked : List Str := ["_law_door", "_law_plan_here", "_law_start_so", "_law_place_so", "_law_other_so", "_law_told_so", "_law_caught", "error_so"]
theorem scLawAsked : FnScope nLawAsked ["_law_door", "_law_plan_here", "_law_start_so", "_law_place_so", "_law_other_so"] (defScope sLawAsked) := ⟨rfl, rfl, rfl, by decide +kernel, rfl, by decide +kernel, by decide +kernel⟩
abbrev sLawRoads : Stmt := topS 33
abbrev nLawRoads : List Str := ["_law_plan_here", "_law_start_so", "_law_place_so", "_law_line", "_law_found", "_law_lap", "_law_longer", "_law_row", "_law_gone", "_law_number", "_law_own"]
theorem scLawRoads : FnScope nLawRoads ["_law_plan_here", "_law_start_so", "_law_place_so"] (defScope sLawRoads) := ⟨rfl, rfl, rfl, by decide +kernel, rfl, by decide +kernel, by decide +kernel⟩
abbrev sLawCaseRight : Stmt := topS 34
abbrev nLawCaseRight : List Str := ["_law_tin", "_law_plan_here", "_law_start_so", "_law_lengths", "_law_rows", "_law_size", "_law_soft", "_law_place_so", "_law_other_so", "_law_got", "_law_door", "_law_lates", "_law_own", "_law_low", "_law_high", "_law_ways_so", "_law_corner", "_law_number", "_law_its", "_law_things_so", "_law_due"]
theorem scLawCaseRight : FnScope nLawCaseRight ["_law_tin", "_law_plan_here", "_law_start_so", "_law_lengths", "_law_rows"] (defScope sLawCaseRight) := ⟨rfl, rfl, rfl, by decide +kernel, rfl, by decide +kernel, by decide +kernel⟩
abbrev sLawRight : Stmt := topS 35
abbrev nLawRight : List Str := ["_law_tin", "_law_plan_here", "_law_lengths", "_law_start_so", "_law_rows", "_law_own"]
theorem scLawRight : FnScope nLawRight ["_law_tin"] (defScope sLawRight) := ⟨rfl, rfl, rfl, by decide +kernel, rfl, by decide +kernel, by decide +kernel⟩
abbrev sLawByHandRight : Stmt := topS 36
abbrev nLawByHandRight : List Str := ["_law_ward_here", "_law_vault_here", "_law_got", "_law_due", "_law_tri", "_law_back", "_law_chain", "_law_own", "_law_goods_so", "_law_asks", "_law_door", "_law_refused"]
theorem scLawByHandRight : FnScope nLawByHandRight [] (defScope sLawByHandRight) := ⟨rfl, rfl, rfl, by decide +kernel, rfl, by decide +kernel, by decide +kernel⟩
abbrev sLaw : Stmt := topS 37
abbrev nLaw : List Str := ["_law_script"]
theorem scLaw : FnScope nLaw ["_law_script"] (defScope sLaw) := ⟨rfl, rfl, rfl, by decide +kernel, rfl, by decide +kernel, by decide +kernel⟩
end SK
set_option maxHeartbeats 4000000
namespace SK
open PySem PySem.Spec PyProof.Rows L2
/-- the built-ins' names are the module's no names -/
structure Mg (mg : Str → Option Value) : Prop where
  isi : mg "isinstance" = none
  int : mg "int" = none
  bool : mg "bool" = none
  str : mg "str" = none
  list : mg "list" = none
  tuple : mg "tuple" = none
  len : mg "len" = none
  zip : mg "zip" = none
  enum : mg "enumerate" = none
  range : mg "range" = none
  sorted : mg "sorted" = none
  set : mg "set" = none
  min : mg "min" = none
  max : mg "max" = none
  all : mg "all" = none
  abs : mg "abs" = none
/-! data of at most so many levels, lists not long -/
def okD : Nat → PyData → Bool
  | _, .none => true
  | _, .bool _ => true
  | _, .int _ => true
  | _, .str _ => true
  | n + 1, .list xs => decide (xs.length ≤ 1000) && xs.all (okD n)
  | n + 1, .tuple xs => decide (xs.length ≤ 1000) && xs.all (okD n)
  | 0, .list _ => false
  | 0, .tuple _ => false
  | _, .dict _ => false
def tupF : Nat → PyData → PyData
  | n + 1, .list xs => .tuple (xs.map (tupF n))
  | n + 1, .tuple xs => .tuple (xs.map (tupF n))
  | _, d => d
def lstF : Nat → PyData → PyData
  | n + 1, .list xs => .list (xs.map (lstF n))
  | n + 1, .tuple xs => .list (xs.map (lstF n))
  | _, d => d
def isSeq : PyData → Bool
  | .list _ => true
  | .tuple _ => true
  | _ => false
def isList : PyData → Bool
  | .list _ => true
  | _ => false
theorem kit_list : ∀ (d : PyData) (h : ∀ x, d ≠ .dict x), kitB (tyN d) "list" = some (isList d)
  | .none, _ => (by decide +kernel : kitB "NoneType" "list" = some false)
  | .bool _, _ => (by decide +kernel : kitB "bool" "list" = some false)
  | .int _, _ => (by decide +kernel : kitB "int" "list" = some false)
  | .str _, _ => (by decide +kernel : kitB "str" "list" = some false)
  | .list _, _ => (by decide +kernel : kitB "list" "list" = some true)
  | .tuple _, _ => (by decide +kernel : kitB "tuple" "list" = some false)
  | .dict x, h => absurd rfl (h x)
def isTuple : PyData → Bool
  | .tuple _ => true
  | _ => false
theorem kit_tuple : ∀ (d : PyData) (h : ∀ x, d ≠ .dict x), kitB (tyN d) "tuple" = some (isTuple d)
  | .none, _ => (by decide +kernel : kitB "NoneType" "tuple" = some false)
  | .bool _, _ => (by decide +kernel : kitB "bool" "tuple" = some false)
  | .int _, _ => (by decide +kernel : kitB "int" "tuple" = some false)
  | .str _, _ => (by decide +kernel : kitB "str" "tuple" = some false)
  | .list _, _ => (by decide +kernel : kitB "list" "tuple" = some false)
  | .tuple _, _ => (by decide +kernel : kitB "tuple" "tuple" = some true)
  | .dict x, h => absurd rfl (h x)
def isInt : PyData → Bool
  | .int _ => true
  | .bool _ => true
  | _ => false
theorem kit_int : ∀ (d : PyData) (h : ∀ x, d ≠ .dict x), kitB (tyN d) "int" = some (isInt d)
  | .none, _ => (by decide +kernel : kitB "NoneType" "int" = some false)
  | .bool _, _ => (by decide +kernel : kitB "bool" "int" = some true)
  | .int _, _ => (by decide +kernel : kitB "int" "int" = some true)
  | .str _, _ => (by decide +kernel : kitB "str" "int" = some false)
  | .list _, _ => (by decide +kernel : kitB "list" "int" = some false)
  | .tuple _, _ => (by decide +kernel : kitB "tuple" "int" = some false)
  | .dict x, h => absurd rfl (h x)
def isBool : PyData → Bool
  | .bool _ => true
  | _ => false
theorem kit_bool : ∀ (d : PyData) (h : ∀ x, d ≠ .dict x), kitB (tyN d) "bool" = some (isBool d)
  | .none, _ => (by decide +kernel : kitB "NoneType" "bool" = some false)
  | .bool _, _ => (by decide +kernel : kitB "bool" "bool" = some true)
  | .int _, _ => (by decide +kernel : kitB "int" "bool" = some false)
  | .str _, _ => (by decide +kernel : kitB "str" "bool" = some false)
  | .list _, _ => (by decide +kernel : kitB "list" "bool" = some false)
  | .tuple _, _ => (by decide +kernel : kitB "tuple" "bool" = some false)
  | .dict x, h => absurd rfl (h x)
def isStr : PyData → Bool
  | .str _ => true
  | _ => false
theorem kit_str : ∀ (d : PyData) (h : ∀ x, d ≠ .dict x), kitB (tyN d) "str" = some (isStr d)
  | .none, _ => (by decide +kernel : kitB "NoneType" "str" = some false)
  | .bool _, _ => (by decide +kernel : kitB "bool" "str" = some false)
  | .int _, _ => (by decide +kernel : kitB "int" "str" = some false)
  | .str _, _ => (by decide +kernel : kitB "str" "str" = some true)
  | .list _, _ => (by decide +kernel : kitB "list" "str" = some false)
  | .tuple _, _ => (by decide +kernel : kitB "tuple" "str" = some false)
  | .dict x, h => absurd rfl (h x)
theorem dp_nodict {K : PySem.W.Frag} {H : Hp} {v : V} {d : PyData} (h : Dp K H v d) : ∀ x, d ≠ .dict x := by
  intro x e
  subst e
  cases h
section
variable {P : Program} {w : World} {K : PySem.W.Frag} {mg : Str → Option Value} {base : Heap}
/-! ### is_number -/
def isNum : PyData → Bool
  | .int _ => true
  | _ => false
theorem fn_is_number {f : Addr} {fd : FuncData} (a : At K mg "is_number" sIsNumber f fd ["thing"]) (T : Mg mg) (k : Nat) : Fn1 P w K mg base CX0 (k + 1) "is_number" ["thing"] (spP K fun ds d => ∃ x, ds = [x] ∧ d = .bool (isNum x)) :=
  a.fnP scIsNumber (fun ds d h => by obtain ⟨x, rfl, _⟩ := h; rfl) fun A X H vs Q ms ds d hX hr t hvs hR q => by
    obtain ⟨x, rfl, rfl⟩ := hR
    obtain ⟨v0, rfl, hv⟩ := dpall1 hvs
    · refine ss_ret hX (PD.go (ms := ms) ?_ t q)
      have h1 := kit_int x (dp_nodict hv)
      have h2 := kit_bool x (dp_nodict hv)
      refine PD.cast (pd_and (pd_isi (pd_name (i := 0) rfl hv) h1 T.isi T.int (by decide +kernel)) fun _ => pd_one (pd_not (pd_isi (pd_name (i := 0) rfl hv) h2 T.isi T.bool (by decide +kernel)))) ?_
      cases x <;> rfl
/-! ### tupled -/
theorem fn_tupled {f : Addr} {fd : FuncData} (a : At K mg "tupled" sTupled f fd ["value"]) (T : Mg mg) (n : Nat) : Fn1 P w K mg base CX0 (n + 1) "tupled" ["value"] (spP K fun ds d => ∃ x, ds = [x] ∧ okD n x = true ∧ d = tupF n x) := by
  induction n with
  | zero =>
    refine a.fnP scTupled (fun ds d h => by obtain ⟨x, rfl, _⟩ := h; rfl) fun A X H vs Q ms ds d hX hr t hvs hR q => ?_
    obtain ⟨x, rfl, ok, ed⟩ := hR
    rw [ed] at q
    obtain ⟨v0, rfl, hv⟩ := dpall1 hvs
    · refine ss_ret hX (PD.go (ms := ms) ?_ t q)
      refine pd_if (pb_val (pd_isi2 (pd_name (i := 0) rfl hv) (kit_list x (dp_nodict hv)) (kit_tuple x (dp_nodict hv)) T.isi T.list T.tuple (by decide +kernel) (by decide +kernel))) (fun hk => ?_) fun hk => ?_
      · cases x <;> first | (cases hk; done) | (cases ok; done)
      · have e : tupF 0 x = x := by cases x <;> rfl
        rw [e]
        exact pd_name (i := 0) rfl hv
  | succ n IH =>
    refine a.fnP scTupled (fun ds d h => by obtain ⟨x, rfl, _⟩ := h; rfl) fun A X H vs Q ms ds d hX hr t hvs hR q => ?_
    obtain ⟨x, rfl, ok, ed⟩ := hR
    rw [ed] at q
    obtain ⟨v0, rfl, hv⟩ := dpall1 hvs
    · refine ss_ret hX (PD.go (ms := ms) ?_ t q)
      refine pd_if (pb_val (pd_isi2 (pd_name (i := 0) rfl hv) (kit_list x (dp_nodict hv)) (kit_tuple x (dp_nodict hv)) T.isi T.list T.tuple (by decide +kernel) (by decide +kernel))) (fun hk => ?_) fun hk => ?_
      · have key : ∃ xs : List PyData, (decide (xs.length ≤ 1000) && xs.all (okD n)) = true ∧ tupF (n + 1) x = .tuple (xs.map (tupF n)) ∧ ∀ tg p, PDI (ctOf P w K mg base nTupled sTupled A) ms (start nTupled [v0]) H tg (.Name "value" p) xs := by
          cases x with
          | list xs => exact ⟨xs, ok, rfl, fun tg p => pdi_list (pd_name (i := 0) rfl hv)⟩
          | tuple xs => exact ⟨xs, ok, rfl, fun tg p => pdi_tup (pd_name (i := 0) rfl hv)⟩
          | _ => cases hk
        obtain ⟨xs, hxs, ex, hit⟩ := key
        rw [Bool.and_eq_true] at hxs
        rw [ex]
        refine pd_tupleL (pd_of (lc_map (own := [("own", 1)]) (bf := fun i => [(1, xs.getD i .none)]) scTupled.nd (by show blkC nTupled (defScope sTupled) _ _ = true; decide +kernel) (hit _ _) (List.length_map _) (Nat.le_trans (of_decide_eq_true hxs.1) (by decide)) (fun i d ms' hd => ?_) (fun i p hp => ?_) fun i d e vs ms' H1 hd he S Sc hvs => ?_)) T.tuple
        · have e : xs.getD i .none = d := by rw [List.getD_eq_getElem?_getD, hd]; rfl
          rw [e]
          exact gd_name scTupled.nd
        · have e : p = (1, xs.getD i .none) := by simpa using hp
          rw [e]
          exact List.mem_singleton.mpr rfl
        · rw [List.getElem?_map, hd] at he
          have e1 : tupF n d = e := Option.some.inj he
          have e2 : xs.getD i .none = d := by rw [List.getD_eq_getElem?_getD, hd]; rfl
          rw [← e1]
          have hok := List.all_eq_true.mp hxs.2 d (List.mem_of_getElem? hd)
          rw [e2] at hvs
          cases hvs with
          | cons hv1 hn1 =>
            cases hn1
            exact pd_call IH hr ⟨d, rfl, hok, rfl⟩ (pad_cons (pd_name (i := 1) rfl hv1) pad_nil)
      · have e : tupF (n + 1) x = x := by
          cases x <;> first | rfl | cases hk
        rw [e]
        exact pd_name (i := 0) rfl hv
end
end SK
namespace SKM
abbrev Edge := Nat × Nat × Int
abbrev Fnd := List (Option Int)

def better (f : Fnd) (e : Edge) : Bool :=
  match f.getD e.1 none with
  | none => false
  | some d => match f.getD e.2.1 none with
    | none => true
    | some d' => decide (d + e.2.2 < d')
def relax (f : Fnd) (e : Edge) : Fnd :=
  if better f e = true then f.set e.2.1 (some ((f.getD e.1 none).getD 0 + e.2.2)) else f
def pass (E : List Edge) (f : Fnd) : Fnd := E.foldl relax f
def moved : List Edge → Fnd → Bool
  | [], _ => false
  | e :: E, f => better f e || moved E (relax f e)
def passes (E : List Edge) : Nat → Fnd → Fnd
  | 0, f => f
  | k + 1, f => pass E (passes E k f)
def init (n s : Nat) : Fnd := (List.replicate n none).set s (some 0)

theorem getD_set (f : Fnd) (i j : Nat) (a : Option Int) : (f.set i a).getD j none = if i = j ∧ i < f.length then a else f.getD j none := by
  rw [List.getD_eq_getElem?_getD, List.getD_eq_getElem?_getD, List.getElem?_set]
  by_cases h : i = j
  · subst h
    by_cases h2 : i < f.length
    · simp [h2]
    · simp [h2]
  · simp [h]

theorem relax_len (f : Fnd) (e : Edge) : (relax f e).length = f.length := by
  unfold relax
  split
  · exact List.length_set ..
  · rfl
theorem fold_len (E : List Edge) : ∀ f : Fnd, (E.foldl relax f).length = f.length := by
  induction E with
  | nil => intro f; rfl
  | cons e E ih => intro f; rw [List.foldl_cons, ih, relax_len]
theorem pass_len (E : List Edge) (f : Fnd) : (pass E f).length = f.length := fold_len E f
theorem passes_len (E : List Edge) (f : Fnd) : ∀ k, (passes E k f).length = f.length
  | 0 => rfl
  | k + 1 => by rw [passes, pass_len, passes_len E f k]
theorem init_len (n s : Nat) : (init n s).length = n := by simp [init]
theorem init_get (n s v : Nat) : (init n s).getD v none = if v = s ∧ s < n then some 0 else none := by
  unfold init
  rw [getD_set, List.length_replicate]
  by_cases h : s = v ∧ s < n
  · rw [if_pos h, if_pos ⟨h.1.symm, h.2⟩]
  · rw [if_neg h, if_neg (fun z => h ⟨z.1.symm, z.2⟩)]
    rw [List.getD_eq_getElem?_getD, List.getElem?_replicate]
    split <;> rfl

/-- a value, not above d -/
def LB (f : Fnd) (v : Nat) (d : Int) : Prop := ∃ d', f.getD v none = some d' ∧ d' ≤ d
theorem better_some {f : Fnd} {e : Edge} (h : better f e = true) : ∃ d, f.getD e.1 none = some d ∧ ∀ d', f.getD e.2.1 none = some d' → d + e.2.2 < d' := by
  unfold better at h
  cases h1 : f.getD e.1 none with
  | none => rw [h1] at h; cases h
  | some d =>
    rw [h1] at h
    refine ⟨d, rfl, fun d' h2 => ?_⟩
    rw [h2] at h
    exact of_decide_eq_true h
theorem better_not {f : Fnd} {e : Edge} (h : better f e = false) {d : Int} (h1 : f.getD e.1 none = some d) : LB f e.2.1 (d + e.2.2) := by
  unfold better at h
  rw [h1] at h
  cases h2 : f.getD e.2.1 none with
  | none => rw [h2] at h; cases h
  | some d' =>
    rw [h2] at h
    have := of_decide_eq_false h
    exact ⟨d', h2, by omega⟩
theorem relax_lb {f : Fnd} {e : Edge} {v : Nat} {d : Int} (h : LB f v d) : LB (relax f e) v d := by
  obtain ⟨d', h1, h2⟩ := h
  unfold relax
  split
  · rename_i hb
    obtain ⟨a, ha, hd⟩ := better_some hb
    by_cases hv : e.2.1 = v ∧ e.2.1 < f.length
    · refine ⟨a + e.2.2, ?_, ?_⟩
      · rw [getD_set, if_pos hv, ha]; rfl
      · have := hd d' (by rw [hv.1]; exact h1)
        omega
    · exact ⟨d', by rw [getD_set, if_neg hv]; exact h1, h2⟩
  · exact ⟨d', h1, h2⟩
theorem relax_does {f : Fnd} {e : Edge} {d : Int} (hv : e.2.1 < f.length) (h : LB f e.1 d) : LB (relax f e) e.2.1 (d + e.2.2) := by
  obtain ⟨d', h1, h2⟩ := h
  unfold relax
  split
  · refine ⟨d' + e.2.2, ?_, by omega⟩
    rw [getD_set, if_pos ⟨rfl, hv⟩, h1]; rfl
  · rename_i hb
    obtain ⟨x, hx, hy⟩ := better_not (Bool.eq_false_iff.mpr hb) h1
    exact ⟨x, hx, by omega⟩
theorem fold_lb {v : Nat} {d : Int} : ∀ (E : List Edge) (f : Fnd), LB f v d → LB (E.foldl relax f) v d
  | [], _, h => h
  | e :: E, f, h => fold_lb E (relax f e) (relax_lb h)
theorem fold_does {u v : Nat} {t d : Int} : ∀ (E : List Edge) (f : Fnd), (u, v, t) ∈ E → v < f.length → LB f u d → LB (E.foldl relax f) v (d + t)
  | [], _, h, _, _ => by cases h
  | e :: E, f, h, hv, hl => by
    rcases List.mem_cons.mp h with rfl | h
    · exact fold_lb E _ (relax_does hv hl)
    · exact fold_does E (relax f e) h (by rw [relax_len]; exact hv) (relax_lb hl)
theorem passes_lb {E : List Edge} {f : Fnd} {v : Nat} {d : Int} {k : Nat} (h : LB (passes E k f) v d) : ∀ j, LB (passes E (k + j) f) v d
  | 0 => h
  | j + 1 => fold_lb E _ (passes_lb h j)

/-! ### walks -/
inductive Wk (E : List Edge) (s : Nat) : Nat → Nat → Int → Prop
  | nil : Wk E s 0 s 0
  | snoc {k u v : Nat} {d t : Int} : Wk E s k u d → (u, v, t) ∈ E → Wk E s (k + 1) v (d + t)
structure Good (E : List Edge) (n : Nat) : Prop where
  near : ∀ e ∈ E, e.1 < n
  far : ∀ e ∈ E, e.2.1 < n
  pos : ∀ e ∈ E, 1 ≤ e.2.2
variable {E : List Edge} {n s : Nat}
theorem Wk.lt (G : Good E n) (hs : s < n) {k v : Nat} {d : Int} (h : Wk E s k v d) : v < n := by
  cases h with
  | nil => exact hs
  | snoc _ m => exact G.far _ m
theorem Wk.nn (G : Good E n) {k v : Nat} {d : Int} (h : Wk E s k v d) : 0 ≤ d := by
  induction h with
  | nil => exact Int.le_refl 0
  | snoc _ m ih =>
    have := G.pos _ m
    simp only at this
    omega
theorem passes_does (G : Good E n) (hs : s < n) {k v : Nat} {d : Int} (h : Wk E s k v d) : LB (passes E k (init n s)) v d := by
  induction h with
  | nil => exact ⟨0, by rw [passes, init_get, if_pos ⟨rfl, hs⟩], Int.le_refl 0⟩
  | snoc _ m ih => exact fold_does E _ m (by rw [passes_len, init_len]; exact G.far _ m) ih
def Sound (E : List Edge) (s : Nat) (f : Fnd) : Prop := ∀ v d, f.getD v none = some d → ∃ k, Wk E s k v d
theorem relax_sound {f : Fnd} {e : Edge} (he : e ∈ E) (h : Sound E s f) : Sound E s (relax f e) := by
  unfold relax
  split
  · rename_i hb
    obtain ⟨a, ha, _⟩ := better_some hb
    intro v d hv
    rw [getD_set] at hv
    split at hv
    · rename_i hc
      rw [ha] at hv
      obtain ⟨k, hk⟩ := h _ _ ha
      have e1 : a + e.2.2 = d := Option.some.inj hv
      rw [← e1, ← hc.1]
      exact ⟨k + 1, hk.snoc he⟩
    · exact h v d hv
  · exact h
theorem fold_sound : ∀ (E' : List Edge) (f : Fnd), (∀ e ∈ E', e ∈ E) → Sound E s f → Sound E s (E'.foldl relax f)
  | [], _, _, h => h
  | e :: E', f, hm, h => fold_sound E' _ (fun x hx => hm x (List.mem_cons_of_mem _ hx)) (relax_sound (hm e List.mem_cons_self) h)
theorem passes_sound (f : Fnd) (h : Sound E s f) : ∀ k, Sound E s (passes E k f)
  | 0 => h
  | k + 1 => fold_sound E _ (fun _ z => z) (passes_sound f h k)
theorem init_sound : Sound E s (init n s) := fun v d h => by
  rw [init_get] at h
  split at h
  · rename_i hc
    have e : 0 = d := Option.some.inj h
    rw [← e, hc.1]
    exact ⟨0, .nil⟩
  · cases h

/-! ### the least length -/
def IsMin (E : List Edge) (s v : Nat) (d : Int) : Prop := (∃ k, Wk E s k v d) ∧ ∀ k d', Wk E s k v d' → d ≤ d'
theorem IsMin.uniq {v : Nat} {d d' : Int} (h : IsMin E s v d) (h' : IsMin E s v d') : d = d' := by
  obtain ⟨⟨k, a⟩, b⟩ := h
  obtain ⟨⟨k', a'⟩, b'⟩ := h'
  have := b _ _ a'
  have := b' _ _ a
  omega
theorem min_of (G : Good E n) {v : Nat} : ∀ (m k : Nat) (d : Int), d.toNat ≤ m → Wk E s k v d → ∃ d0, IsMin E s v d0
  | 0, k, d, hm, h => ⟨d, ⟨k, h⟩, fun k' d' h' => by
      have := h.nn G
      have := h'.nn G
      omega⟩
  | m + 1, k, d, hm, h => by
    by_cases hq : ∃ k' d', Wk E s k' v d' ∧ d' < d
    · obtain ⟨k', d', h', hl⟩ := hq
      exact min_of G m k' d' (by have := h'.nn G; have := h.nn G; omega) h'
    · exact ⟨d, ⟨k, h⟩, fun k' d' h' => by
        by_cases hl : d' < d
        · exact absurd ⟨k', d', h', hl⟩ hq
        · omega⟩
theorem min_exists (G : Good E n) {k v : Nat} {d : Int} (h : Wk E s k v d) : ∃ d0, IsMin E s v d0 := min_of G d.toNat k d (Nat.le_refl _) h
theorem min_start (G : Good E n) : IsMin E s s 0 := ⟨⟨0, .nil⟩, fun _ _ h => h.nn G⟩

/-! ### chains of edges, forward, by their numbers and the places come to -/
inductive Fw (E : List Edge) : List (Nat × Nat) → Nat → Nat → Int → Prop
  | nil {h : Nat} : Fw E [] h h 0
  | cons {i u v p : Nat} {t d : Int} {L : List (Nat × Nat)} : E[i]? = some (u, v, t) → Fw E L v p d → Fw E ((i, v) :: L) u p (t + d)
theorem Fw.snoc {L : List (Nat × Nat)} {h u : Nat} {d : Int} (x : Fw E L h u d) {i v : Nat} {t : Int} (e : E[i]? = some (u, v, t)) : Fw E (L ++ [(i, v)]) h v (d + t) := by
  induction x with
  | nil =>
    rw [Int.add_comm]
    exact .cons e .nil
  | @cons i' u' v' p' t' d' L' e' _ ih =>
    rw [Int.add_assoc]
    exact .cons e' (ih e)
theorem Fw.wk {L : List (Nat × Nat)} {h p : Nat} {d : Int} (x : Fw E L h p d) : ∀ {k : Nat} {a : Int}, Wk E s k h a → Wk E s (k + L.length) p (a + d) := by
  induction x with
  | nil =>
    intro k a w
    rw [Int.add_zero]
    exact w
  | @cons i u v p t d L e _ ih =>
    intro k a w
    have := ih (w.snoc (List.mem_of_getElem? e))
    rw [List.length_cons, show k + (L.length + 1) = k + 1 + L.length by omega, ← Int.add_assoc]
    exact this
theorem Fw.last {L : List (Nat × Nat)} {h p : Nat} {d : Int} (x : Fw E L h p d) : p = h ∨ p ∈ L.map (·.2) := by
  induction x with
  | nil => exact .inl rfl
  | cons e _ ih =>
    right
    rcases ih with ih | ih
    · rw [ih]; exact List.mem_cons_self
    · exact List.mem_cons_of_mem _ ih
theorem min_chain (G : Good E n) : ∀ (m v : Nat) (d : Int), d.toNat ≤ m → IsMin E s v d →
    ∃ L, Fw E L s v d ∧ (s :: L.map (·.2)).Nodup ∧ ∀ x ∈ L.map (·.2), ∃ dx, IsMin E s x dx ∧ dx ≤ d := by
  intro m
  induction m with
  | zero =>
    intro v d hm hv
    obtain ⟨⟨k, w⟩, hmin⟩ := hv
    cases w with
    | nil => exact ⟨[], .nil, by simp, by simp⟩
    | snoc w1 he =>
      have := w1.nn G
      have := G.pos _ he
      simp only at this
      omega
  | succ m ih =>
    intro v d hm hv
    by_cases hs : v = s
    · subst hs
      have := hv.uniq (min_start G)
      subst this
      exact ⟨[], .nil, by simp, by simp⟩
    · obtain ⟨⟨k, w⟩, hmin⟩ := id hv
      cases w with
      | nil => exact absurd rfl hs
      | @snoc k' u _ d1 t w1 he =>
        have hp := G.pos _ he
        simp only at hp
        have hu : IsMin E s u d1 := ⟨⟨k', w1⟩, fun k2 d2 w2 => by
          have := hmin _ _ (w2.snoc he)
          omega⟩
        have h0 := w1.nn G
        obtain ⟨L, hL, hnd, hall⟩ := ih u d1 (by omega) hu
        obtain ⟨i, hi⟩ := List.getElem?_of_mem he
        refine ⟨L ++ [(i, v)], hL.snoc hi, ?_, ?_⟩
        · rw [List.map_append, ← List.cons_append, List.nodup_append]
          refine ⟨hnd, by simp, fun a ha b hb hab => ?_⟩
          have hb' : b = v := by simpa using hb
          rw [hab, hb'] at ha
          rcases List.mem_cons.mp ha with z | z
          · exact hs z
          · obtain ⟨dx, h1, h2⟩ := hall v z
            have := h1.uniq hv
            omega
        · intro x hx
          rw [List.map_append, List.mem_append] at hx
          rcases hx with hx | hx
          · obtain ⟨dx, h1, h2⟩ := hall x hx
            exact ⟨dx, h1, by omega⟩
          · have : x = v := by simpa using hx
            subst this
            exact ⟨_, hv, Int.le_refl _⟩
theorem nodup_len : ∀ (l D : List Nat), l.Nodup → (∀ x ∈ l, x ∈ D) → l.length ≤ D.length
  | [], _, _, _ => Nat.zero_le _
  | x :: l, D, hn, hm => by
    have h1 := List.nodup_cons.mp hn
    have hx := hm x List.mem_cons_self
    have := nodup_len l (D.erase x) h1.2 fun y hy => (List.mem_erase_of_ne (by rintro rfl; exact h1.1 hy)).mpr (hm y (List.mem_cons_of_mem _ hy))
    rw [List.length_erase_of_mem hx] at this
    have : 0 < D.length := List.length_pos_of_mem hx
    simp only [List.length_cons]
    omega
theorem nodup_lt {l : List Nat} (hn : l.Nodup) (h : ∀ x ∈ l, x < n) : l.length ≤ n := by
  have := nodup_len l (List.range n) hn fun x hx => List.mem_range.mpr (h x hx)
  simpa using this
theorem chain_len (G : Good E n) (hs : s < n) {L : List (Nat × Nat)} {v : Nat} {d : Int} (_ : Fw E L s v d) (hn : (s :: L.map (·.2)).Nodup) (hall : ∀ x ∈ L.map (·.2), ∃ dx, IsMin E s x dx ∧ dx ≤ d) : L.length + 1 ≤ n := by
  have := nodup_lt hn (n := n) fun x hx => by
    rcases List.mem_cons.mp hx with rfl | hx
    · exact hs
    · obtain ⟨dx, ⟨⟨k, w⟩, _⟩, _⟩ := hall x hx
      exact w.lt G hs
  simpa using this
theorem min_lb (G : Good E n) (hs : s < n) {v : Nat} {d : Int} (h : IsMin E s v d) {k : Nat} (hk : n ≤ k + 1) : LB (passes E k (init n s)) v d := by
  obtain ⟨L, h1, h2, h3⟩ := min_chain G _ v d (Nat.le_refl _) h
  have hl := chain_len G hs h1 h2 h3
  have w := h1.wk (s := s) .nil
  rw [Int.zero_add, Nat.zero_add] at w
  have := passes_lb (passes_does G hs w) (k - L.length)
  rw [show L.length + (k - L.length) = k by omega] at this
  exact this
/-- behind so many passes as there are places less one: the least lengths -/
theorem passes_min (G : Good E n) (hs : s < n) {k : Nat} (hk : n ≤ k + 1) {v : Nat} {d : Int} : (passes E k (init n s)).getD v none = some d ↔ IsMin E s v d := by
  constructor
  · intro h
    obtain ⟨j, w⟩ := passes_sound _ init_sound k v d h
    refine ⟨⟨j, w⟩, fun j' d' w' => ?_⟩
    obtain ⟨d0, h0⟩ := min_exists G w'
    obtain ⟨x, hx, hle⟩ := min_lb G hs h0 hk
    rw [h] at hx
    have := Option.some.inj hx
    have := h0.2 _ _ w'
    omega
  · intro h
    obtain ⟨x, hx, hle⟩ := min_lb G hs h hk
    obtain ⟨j, w⟩ := passes_sound _ init_sound k v x hx
    have := h.2 _ _ w
    rw [hx]
    exact congrArg some (by omega)
theorem moved_still : ∀ (E : List Edge) (f : Fnd), (∀ e ∈ E, better f e = false) → moved E f = false ∧ E.foldl relax f = f
  | [], _, _ => ⟨rfl, rfl⟩
  | e :: E, f, h => by
    have h1 := h e List.mem_cons_self
    have hr : relax f e = f := by unfold relax; rw [h1]; rfl
    have ih := moved_still E f fun x hx => h x (List.mem_cons_of_mem _ hx)
    refine ⟨?_, ?_⟩
    · rw [moved, h1, hr, ih.1]; rfl
    · rw [List.foldl_cons, hr, ih.2]
theorem still_of : ∀ (E : List Edge) (f : Fnd), moved E f = false → E.foldl relax f = f
  | [], _, _ => rfl
  | e :: E, f, h => by
    rw [moved, Bool.or_eq_false_iff] at h
    have hr : relax f e = f := by unfold relax; rw [h.1]; rfl
    rw [hr] at h
    rw [List.foldl_cons, hr, still_of E f h.2]
theorem moved_end (G : Good E n) (hs : s < n) {k : Nat} (hk : n ≤ k + 1) : moved E (passes E k (init n s)) = false := by
  refine (moved_still E _ fun e he => ?_).1
  cases hb : better (passes E k (init n s)) e with
  | false => rfl
  | true =>
    obtain ⟨d, h1, h2⟩ := better_some hb
    have hm := (passes_min G hs hk).mp h1
    obtain ⟨⟨j, w⟩, _⟩ := hm
    obtain ⟨d0, h0⟩ := min_exists G (w.snoc (v := e.2.1) (t := e.2.2) he)
    have := h2 d0 ((passes_min G hs hk).mpr h0)
    have := h0.2 _ _ (w.snoc (v := e.2.1) (t := e.2.2) he)
    omega
theorem passes_still {k : Nat} {f : Fnd} (h : moved E (passes E k f) = false) : ∀ j, passes E (k + j) f = passes E k f
  | 0 => rfl
  | j + 1 => by
    show pass E (passes E (k + j) f) = _
    rw [passes_still h j]
    exact still_of E _ h
end SKM
namespace SKM
structure Way where
  u : Nat
  v : Nat
  lo : Int
  hi : Int
  deriving DecidableEq
def edg (ws : List Way) (s : List Int) : List Edge := List.zipWith (fun w t => (w.u, w.v, t)) ws s
theorem edg_get {ws : List Way} {s : List Int} {i u v : Nat} {t : Int} : (edg ws s)[i]? = some (u, v, t) ↔ ∃ w, ws[i]? = some w ∧ s[i]? = some t ∧ w.u = u ∧ w.v = v := by
  unfold edg
  rw [List.getElem?_zipWith]
  constructor
  · intro h
    cases h1 : ws[i]? with
    | none => rw [h1] at h; simp at h
    | some w =>
      cases h2 : s[i]? with
      | none => rw [h1, h2] at h; simp at h
      | some x =>
        rw [h1, h2] at h
        simp only [Option.some.injEq, Prod.mk.injEq] at h
        exact ⟨w, rfl, by rw [h.2.2], h.1, h.2.1⟩
  · rintro ⟨w, h1, h2, h3, h4⟩
    rw [h1, h2, ← h3, ← h4]
/-- the roads: rows of numbers of ways; k: how much further at most -/
def rf (ws : List Way) (p : Nat) : Nat → Nat → List Nat → List (List Nat)
  | 0, _, _ => []
  | k + 1, h, gone => if h = p then [[]] else ws.zipIdx.flatMap fun e => if e.1.u = h ∧ e.1.v ∉ gone then (rf ws p k e.1.v (gone ++ [e.1.v])).map (e.2 :: ·) else []
theorem rf_succ {ws : List Way} {p k h : Nat} {gone : List Nat} : rf ws p (k + 1) h gone = if h = p then [[]] else ws.zipIdx.flatMap fun e => if e.1.u = h ∧ e.1.v ∉ gone then (rf ws p k e.1.v (gone ++ [e.1.v])).map (e.2 :: ·) else [] := rfl
theorem mem_rf {ws : List Way} {p k h : Nat} {gone : List Nat} {R : List Nat} : R ∈ rf ws p (k + 1) h gone ↔ (h = p ∧ R = []) ∨ (h ≠ p ∧ ∃ i w R', ws[i]? = some w ∧ w.u = h ∧ w.v ∉ gone ∧ R' ∈ rf ws p k w.v (gone ++ [w.v]) ∧ R = i :: R') := by
  rw [rf_succ]
  by_cases hp : h = p
  · rw [if_pos hp]
    simp [hp]
  · rw [if_neg hp]
    constructor
    · intro hm
      obtain ⟨e, he, hR⟩ := List.mem_flatMap.mp hm
      split at hR
      · rename_i hc
        obtain ⟨R', h1, h2⟩ := List.mem_map.mp hR
        refine .inr ⟨hp, e.2, e.1, R', ?_, hc.1, hc.2, h1, h2.symm⟩
        exact (List.mem_zipIdx_iff_getElem?).mp he
      · cases hR
    · rintro (⟨a, _⟩ | ⟨_, i, w, R', h1, h2, h3, h4, h5⟩)
      · exact absurd a hp
      · refine List.mem_flatMap.mpr ⟨(w, i), (List.mem_zipIdx_iff_getElem?).mpr h1, ?_⟩
        rw [if_pos ⟨h2, h3⟩]
        exact List.mem_map.mpr ⟨R', h4, h5.symm⟩
def rlen (s : List Int) (R : List Nat) : Int := (R.map fun i => s.getD i 0).sum
theorem rlen_cons (s : List Int) (i : Nat) (R : List Nat) : rlen s (i :: R) = s.getD i 0 + rlen s R := by simp [rlen]
variable {ws : List Way} {n st : Nat}
/-- every road is a walk -/
theorem rf_walk {s : List Int} (hl : s.length = ws.length) {p : Nat} : ∀ (k h : Nat) (gone R : List Nat), R ∈ rf ws p k h gone → ∀ {j : Nat} {a : Int}, Wk (edg ws s) st j h a → Wk (edg ws s) st (j + R.length) p (a + rlen s R)
  | 0, _, _, _, hm, _, _, _ => by cases hm
  | k + 1, h, gone, R, hm, j, a, w => by
    rcases mem_rf.mp hm with ⟨h1, h2⟩ | ⟨_, i, wy, R', h1, h2, h3, h4, h5⟩
    · subst h1 h2
      simpa [rlen] using w
    · subst h5
      obtain ⟨hi, hw⟩ := List.getElem?_eq_some_iff.mp h1
      have hi2 : i < s.length := by omega
      have e : s[i]? = some (s.getD i 0) := by rw [List.getD_eq_getElem?_getD, List.getElem?_eq_getElem hi2]; rfl
      have := rf_walk hl k _ _ _ h4 (w.snoc (List.mem_of_getElem? (edg_get.mpr ⟨wy, h1, e, h2, rfl⟩)))
      rw [rlen_cons, List.length_cons, show j + (R'.length + 1) = j + 1 + R'.length by omega, ← Int.add_assoc]
      exact this
theorem rf_idx {p : Nat} : ∀ (k h : Nat) (gone R : List Nat), R ∈ rf ws p k h gone → ∀ i ∈ R, ∃ w, ws[i]? = some w ∧ w.v ∉ gone
  | 0, _, _, _, hm, _, _ => by cases hm
  | k + 1, h, gone, R, hm, i, hi => by
    rcases mem_rf.mp hm with ⟨h1, h2⟩ | ⟨_, i', wy, R', h1, h2, h3, h4, h5⟩
    · subst h2; cases hi
    · subst h5
      rcases List.mem_cons.mp hi with rfl | hi
      · exact ⟨wy, h1, h3⟩
      · obtain ⟨w, e1, e2⟩ := rf_idx k _ _ _ h4 i hi
        exact ⟨w, e1, fun z => e2 (List.mem_append_left _ z)⟩
theorem rf_nodup {p : Nat} : ∀ (k h : Nat) (gone R : List Nat), R ∈ rf ws p k h gone → R.Nodup
  | 0, _, _, _, hm => by cases hm
  | k + 1, h, gone, R, hm => by
    rcases mem_rf.mp hm with ⟨h1, h2⟩ | ⟨_, i', wy, R', h1, h2, h3, h4, h5⟩
    · subst h2; exact List.nodup_nil
    · subst h5
      refine List.nodup_cons.mpr ⟨fun hi => ?_, rf_nodup k _ _ _ h4⟩
      obtain ⟨w, e1, e2⟩ := rf_idx k _ _ _ h4 i' hi
      rw [h1] at e1
      cases e1
      exact e2 (List.mem_append_right _ (by simp))
theorem fw_rf {s : List Int} {p : Nat} : ∀ (L : List (Nat × Nat)) (k h : Nat) (gone : List Nat) (d : Int), Fw (edg ws s) L h p d → h ∈ gone → (∀ x ∈ L.map (·.2), x ∉ gone) → (L.map (·.2)).Nodup → L.length < k → L.map (·.1) ∈ rf ws p k h gone
  | [], k + 1, h, gone, d, hf, _, _, _, _ => by
    cases hf
    exact mem_rf.mpr (.inl ⟨rfl, rfl⟩)
  | (i, v) :: L, k + 1, h, gone, d, hf, hg, ha, hn, hk => by
    cases hf with
    | @cons _ _ _ _ t d' _ he hr =>
      obtain ⟨w, e1, e2, e3, e4⟩ := edg_get.mp he
      have hn2 := List.nodup_cons.mp hn
      have hv : v ∉ gone := ha v List.mem_cons_self
      have hp : h ≠ p := by
        intro z
        have : p ∈ ((i, v) :: L).map (·.2) := by
          rcases hr.last with q | q
          · rw [q]; exact List.mem_cons_self
          · exact List.mem_cons_of_mem _ q
        exact ha p this (by rw [← z]; exact hg)
      refine mem_rf.mpr (.inr ⟨hp, i, w, L.map (·.1), e1, e3, by rw [e4]; exact hv, ?_, rfl⟩)
      rw [e4]
      refine fw_rf L k v (gone ++ [v]) _ hr (List.mem_append_right _ (by simp)) (fun x hx hq => ?_) hn2.2 (by simp only [List.length_cons] at hk; omega)
      rcases List.mem_append.mp hq with q | q
      · exact ha x (List.mem_cons_of_mem _ hx) q
      · have : x = v := by simpa using q
        subst this
        exact hn2.1 hx
theorem fw_rlen {s : List Int} {L : List (Nat × Nat)} {h p : Nat} {d : Int} (x : Fw (edg ws s) L h p d) : rlen s (L.map (·.1)) = d := by
  induction x with
  | nil => rfl
  | cons e _ ih =>
    obtain ⟨w, e1, e2, e3, e4⟩ := edg_get.mp e
    rw [List.map_cons, rlen_cons, ih, List.getD_eq_getElem?_getD, e2]
    rfl
structure WsOk (ws : List Way) (n : Nat) : Prop where
  near : ∀ w ∈ ws, w.u < n
  far : ∀ w ∈ ws, w.v < n
  lo : ∀ w ∈ ws, 1 ≤ w.lo
  hi : ∀ w ∈ ws, w.lo ≤ w.hi
/-- SPREADS, by place -/
structure InS (ws : List Way) (s : List Int) : Prop where
  len : s.length = ws.length
  bd : ∀ (i : Nat) (w : Way) (t : Int), ws[i]? = some w → s[i]? = some t → w.lo ≤ t ∧ t ≤ w.hi
theorem edg_good (O : WsOk ws n) {s : List Int} (h : InS ws s) : Good (edg ws s) n := by
  have key : ∀ e ∈ edg ws s, ∃ (i : Nat) (w : Way), ws[i]? = some w ∧ s[i]? = some e.2.2 ∧ w.u = e.1 ∧ w.v = e.2.1 := fun e he => by
    obtain ⟨i, hi⟩ := List.getElem?_of_mem he
    obtain ⟨w, h1, h2, h3, h4⟩ := edg_get.mp (show (edg ws s)[i]? = some (e.1, e.2.1, e.2.2) from hi)
    exact ⟨i, w, h1, h2, h3, h4⟩
  refine ⟨fun e he => ?_, fun e he => ?_, fun e he => ?_⟩
  · obtain ⟨i, w, h1, h2, h3, h4⟩ := key e he
    rw [← h3]; exact O.near w (List.mem_of_getElem? h1)
  · obtain ⟨i, w, h1, h2, h3, h4⟩ := key e he
    rw [← h4]; exact O.far w (List.mem_of_getElem? h1)
  · obtain ⟨i, w, h1, h2, h3, h4⟩ := key e he
    have := (h.bd i w _ h1 h2).1
    have := O.lo w (List.mem_of_getElem? h1)
    omega
/-- the least length of s to v -/
abbrev Mn (ws : List Way) (s : List Int) (st v : Nat) (d : Int) : Prop := IsMin (edg ws s) st v d
theorem road_of (O : WsOk ws n) {s : List Int} (h : InS ws s) (hs : st < n) {v : Nat} {d : Int} (hm : Mn ws s st v d) : ∃ R ∈ rf ws v n st [st], rlen s R = d := by
  obtain ⟨L, h1, h2, h3⟩ := min_chain (edg_good O h) _ v d (Nat.le_refl _) hm
  have hl := chain_len (edg_good O h) hs h1 h2 h3
  have hn := List.nodup_cons.mp h2
  exact ⟨L.map (·.1), fw_rf L n st [st] d h1 (by simp) (fun x hx hq => hn.1 (by
    have : x = st := by simpa using hq
    rw [← this]; exact hx)) hn.2 (by omega), fw_rlen h1⟩
theorem road_le {s : List Int} (hl : s.length = ws.length) {v k : Nat} {R : List Nat} (hR : R ∈ rf ws v k st [st]) : ∃ j, Wk (edg ws s) st j v (rlen s R) := by
  have := rf_walk (st := st) hl k st [st] R hR .nil
  rw [Int.zero_add] at this
  exact ⟨_, this⟩
theorem reach_all (O : WsOk ws n) {s s' : List Int} (h : InS ws s) (h' : InS ws s') (hs : st < n) {v : Nat} {d : Int} (hm : Mn ws s st v d) : ∃ d', Mn ws s' st v d' := by
  obtain ⟨R, hR, _⟩ := road_of O h hs hm
  obtain ⟨j, w⟩ := road_le (s := s') h'.len hR
  exact min_exists (edg_good O h') w
/-! ### low on a road, high elsewhere -/
def corner (ws : List Way) (R : List Nat) : List Int := ws.zipIdx.map fun e => if e.2 ∈ R then e.1.lo else e.1.hi
theorem corner_len (R : List Nat) : (corner ws R).length = ws.length := by simp [corner]
theorem corner_get {R : List Nat} {i : Nat} {w : Way} (h : ws[i]? = some w) : (corner ws R)[i]? = some (if i ∈ R then w.lo else w.hi) := by
  unfold corner
  rw [List.getElem?_map, List.getElem?_zipIdx, h]
  simp
theorem corner_in (O : WsOk ws n) (R : List Nat) : InS ws (corner ws R) := by
  refine ⟨corner_len R, fun i w t h1 h2 => ?_⟩
  rw [corner_get h1] at h2
  have := O.hi w (List.mem_of_getElem? h1)
  have e := Option.some.inj h2
  split at e <;> omega
theorem perm_sum {l m : List Int} (h : l.Perm m) : l.sum = m.sum := by
  induction h with
  | nil => rfl
  | cons x _ ih => simp only [List.sum_cons, ih]
  | swap x y l => simp only [List.sum_cons]; omega
  | trans _ _ h1 h2 => rw [h1, h2]
theorem sum_le_of (f : Nat → Int) : ∀ (P R : List Nat), P.Nodup → (∀ x ∈ P, x ∉ R → f x ≤ 0) → (∀ x ∈ R, 0 ≤ f x) → (P.map f).sum ≤ (R.map f).sum
  | [], R, _, _, h => by
    have key : ∀ R : List Nat, (∀ x ∈ R, 0 ≤ f x) → 0 ≤ (R.map f).sum := by
      intro R
      induction R with
      | nil => intro _; simp
      | cons x R ih =>
        intro h
        have := h x List.mem_cons_self
        have := ih fun y hy => h y (List.mem_cons_of_mem _ hy)
        simp only [List.map_cons, List.sum_cons]
        omega
    simpa using key R h
  | x :: P, R, hn, h1, h2 => by
    have hn2 := List.nodup_cons.mp hn
    by_cases hx : x ∈ R
    · have hp : R.Perm (x :: R.erase x) := List.perm_cons_erase hx
      have e : (R.map f).sum = f x + ((R.erase x).map f).sum := by
        have := perm_sum (hp.map f)
        simpa using this
      have ih := sum_le_of f P (R.erase x) hn2.2 (fun y hy hr => h1 y (List.mem_cons_of_mem _ hy) fun z => hr ((List.mem_erase_of_ne (by rintro rfl; exact hn2.1 hy)).mpr z)) fun y hy => h2 y (List.mem_of_mem_erase hy)
      simp only [List.map_cons, List.sum_cons]
      omega
    · have := h1 x List.mem_cons_self hx
      have ih := sum_le_of f P R hn2.2 (fun y hy hr => h1 y (List.mem_cons_of_mem _ hy) hr) h2
      simp only [List.map_cons, List.sum_cons]
      omega
theorem rlen_sub (s c : List Int) : ∀ R : List Nat, rlen s R - rlen c R = (R.map fun i => s.getD i 0 - c.getD i 0).sum
  | [] => rfl
  | i :: R => by
    have := rlen_sub s c R
    rw [rlen_cons, rlen_cons, List.map_cons, List.sum_cons]
    omega
/-- THE CORNER: with the ways of some road to o low and all others high, p is no less late -/
theorem corner_late (O : WsOk ws n) {s : List Int} (h : InS ws s) (hs : st < n) {p o : Nat} {a b : Int} (ha : Mn ws s st o a) (hb : Mn ws s st p b) :
    ∃ R ∈ rf ws o n st [st], ∃ a' b', Mn ws (corner ws R) st o a' ∧ Mn ws (corner ws R) st p b' ∧ b - a ≤ b' - a' := by
  obtain ⟨R, hR, eR⟩ := road_of O h hs ha
  have hc := corner_in O R
  obtain ⟨a', ha'⟩ := reach_all O h hc hs ha
  obtain ⟨b', hb'⟩ := reach_all O h hc hs hb
  refine ⟨R, hR, a', b', ha', hb', ?_⟩
  obtain ⟨P, hP, eP⟩ := road_of O hc hs hb'
  obtain ⟨j1, w1⟩ := road_le (s := corner ws R) hc.len hR
  obtain ⟨j2, w2⟩ := road_le (s := s) h.len hP
  have q1 := ha'.2 _ _ w1
  have q2 := hb.2 _ _ w2
  have val : ∀ i ∈ P ++ R, s.getD i 0 - (corner ws R).getD i 0 = s.getD i 0 - (if i ∈ R then ((ws[i]?).map Way.lo).getD 0 else ((ws[i]?).map Way.hi).getD 0) ∧ (((ws[i]?).map Way.lo).getD 0 ≤ s.getD i 0 ∧ s.getD i 0 ≤ ((ws[i]?).map Way.hi).getD 0) := fun i hi => by
    have hw : ∃ w, ws[i]? = some w := by
      rcases List.mem_append.mp hi with hi | hi
      · obtain ⟨w, e, _⟩ := rf_idx _ _ _ _ hP i hi; exact ⟨w, e⟩
      · obtain ⟨w, e, _⟩ := rf_idx _ _ _ _ hR i hi; exact ⟨w, e⟩
    obtain ⟨w, e⟩ := hw
    have e2 := corner_get (R := R) e
    obtain ⟨hlt, _⟩ := List.getElem?_eq_some_iff.mp e
    have hlt2 : i < s.length := by have := h.len; omega
    have e3 : s[i]? = some s[i] := List.getElem?_eq_getElem hlt2
    have bd := h.bd i w _ e e3
    simp only [List.getD_eq_getElem?_getD, e2, e, e3, Option.map_some, Option.getD_some]
    exact ⟨trivial, bd⟩
  have key := sum_le_of (fun i => s.getD i 0 - (corner ws R).getD i 0) P R (rf_nodup _ _ _ _ hP) (fun x hx hr => by
      obtain ⟨e, l1, l2⟩ := val x (List.mem_append_left _ hx)
      rw [if_neg hr] at e
      show s.getD x 0 - (corner ws R).getD x 0 ≤ 0
      omega) (fun x hx => by
      obtain ⟨e, l1, l2⟩ := val x (List.mem_append_right _ hx)
      rw [if_pos hx] at e
      show 0 ≤ s.getD x 0 - (corner ws R).getD x 0
      omega)
  rw [← rlen_sub, ← rlen_sub] at key
  omega
/-! ### all numbers between -/
theorem rlen_set {s : List Int} {i : Nat} (hi : i < s.length) (x : Int) : ∀ R : List Nat, R.Nodup → rlen (s.set i x) R = rlen s R + if i ∈ R then x - s.getD i 0 else 0
  | [], _ => by simp [rlen]
  | j :: R, hn => by
    have hn2 := List.nodup_cons.mp hn
    have ih := rlen_set hi x R hn2.2
    rw [rlen_cons, rlen_cons, ih]
    by_cases e : i = j
    · subst e
      have : (s.set i x).getD i 0 = x := by rw [List.getD_eq_getElem?_getD, List.getElem?_set_self hi]; rfl
      rw [this, if_neg hn2.1, if_pos List.mem_cons_self]
      omega
    · have e1 : (s.set i x).getD j 0 = s.getD j 0 := by rw [List.getD_eq_getElem?_getD, List.getElem?_set_ne e, List.getD_eq_getElem?_getD]
      have e2 : (i ∈ j :: R) ↔ i ∈ R := by simp [e]
      rw [e1]
      simp only [e2]
      omega
/-- one tick more on one way: each least length by at most one more -/
theorem one_step (O : WsOk ws n) {s : List Int} {i : Nat} (hi : i < s.length) (h : InS ws s) (h' : InS ws (s.set i (s.getD i 0 + 1))) (hs : st < n) {v : Nat} {d d' : Int} (hm : Mn ws s st v d) (hm' : Mn ws (s.set i (s.getD i 0 + 1)) st v d') : d ≤ d' ∧ d' ≤ d + 1 := by
  obtain ⟨R, hR, eR⟩ := road_of O h hs hm
  obtain ⟨R', hR', eR'⟩ := road_of O h' hs hm'
  have c1 := rlen_set hi (s.getD i 0 + 1) R (rf_nodup _ _ _ _ hR)
  have c2 := rlen_set hi (s.getD i 0 + 1) R' (rf_nodup _ _ _ _ hR')
  obtain ⟨j1, w1⟩ := road_le (s := s.set i (s.getD i 0 + 1)) h'.len hR
  obtain ⟨j2, w2⟩ := road_le (s := s) h.len hR'
  have q1 := hm'.2 _ _ w1
  have q2 := hm.2 _ _ w2
  split at c1 <;> split at c2 <;> omega
def dist : List Int → List Int → Nat
  | a :: s, b :: t => (a - b).natAbs + dist s t
  | _, _ => 0
theorem dist_zero : ∀ (s t : List Int), s.length = t.length → dist s t = 0 → s = t
  | [], [], _, _ => rfl
  | a :: s, b :: t, hl, h => by
    rw [dist] at h
    have h1 : a = b := by omega
    have h2 := dist_zero s t (by simpa using hl) (by omega)
    rw [h1, h2]
  | [], _ :: _, hl, _ => by cases hl
  | _ :: _, [], hl, _ => by cases hl
theorem dist_some : ∀ (s t : List Int), s.length = t.length → dist s t ≠ 0 → ∃ (i : Nat) (a b : Int), s[i]? = some a ∧ t[i]? = some b ∧ a ≠ b
  | [], [], _, h => absurd rfl h
  | a :: s, b :: t, hl, h => by
    by_cases e : a = b
    · subst e
      rw [dist] at h
      obtain ⟨i, x, y, h1, h2, h3⟩ := dist_some s t (by simpa using hl) (by omega)
      exact ⟨i + 1, x, y, h1, h2, h3⟩
    · exact ⟨0, a, b, rfl, rfl, e⟩
  | [], _ :: _, hl, _ => by cases hl
  | _ :: _, [], hl, _ => by cases hl
theorem dist_set : ∀ (s t : List Int) (i : Nat) (a b x : Int), s[i]? = some a → t[i]? = some b → (x - b).natAbs < (a - b).natAbs → dist (s.set i x) t < dist s t
  | [], _, _, _, _, _, h, _, _ => by cases h
  | _ :: _, [], _, _, _, _, _, h, _ => by cases h
  | a :: s, b :: t, 0, a', b', x, h1, h2, h => by
    have e1 : a = a' := Option.some.inj h1
    have e2 : b = b' := Option.some.inj h2
    rw [List.set_cons_zero, dist, dist, e1, e2]
    omega
  | a :: s, b :: t, i + 1, a', b', x, h1, h2, h => by
    have := dist_set s t i a' b' x h1 h2 h
    rw [List.set_cons_succ, dist, dist]
    omega
theorem ins_set {s : List Int} (h : InS ws s) {i : Nat} {x : Int} (hx : ∀ w, ws[i]? = some w → w.lo ≤ x ∧ x ≤ w.hi) : InS ws (s.set i x) := by
  refine ⟨by rw [List.length_set]; exact h.len, fun j w t h1 h2 => ?_⟩
  by_cases e : i = j
  · subst e
    rw [List.getElem?_set] at h2
    simp only [if_true] at h2
    split at h2
    · cases h2
      exact hx w h1
    · cases h2
  · rw [List.getElem?_set_ne e] at h2
    exact h.bd j w t h1 h2
/-- what p is late against o -/
def Late (ws : List Way) (s : List Int) (st p o : Nat) (k : Int) : Prop := ∃ a b, Mn ws s st o a ∧ Mn ws s st p b ∧ k = b - a
theorem Late.uniq {s : List Int} {p o : Nat} {k k' : Int} (h : Late ws s st p o k) (h' : Late ws s st p o k') : k = k' := by
  obtain ⟨a, b, h1, h2, h3⟩ := h
  obtain ⟨a', b', h1', h2', h3'⟩ := h'
  rw [h3, h3', h1.uniq h1', h2.uniq h2']
theorem between (O : WsOk ws n) (hs : st < n) {p o : Nat} {t : List Int} (ht : InS ws t) {k k2 : Int} (hk2 : Late ws t st p o k2) (hle : k ≤ k2) : ∀ (m : Nat) (s : List Int), dist s t ≤ m → InS ws s → ∀ k1, Late ws s st p o k1 → k1 ≤ k → ∃ r, InS ws r ∧ Late ws r st p o k := by
  intro m
  induction m with
  | zero =>
    intro s hd h k1 h1 hl
    have e := dist_zero s t (by rw [h.len, ht.len]) (by omega)
    subst e
    have := h1.uniq hk2
    exact ⟨s, h, by rw [show k = k1 by omega]; exact h1⟩
  | succ m ih =>
    intro s hd h k1 h1 hl
    by_cases hz : dist s t = 0
    · exact ih s (by omega) h k1 h1 hl
    · obtain ⟨i, a, b, ha, hb, hab⟩ := dist_some s t (by rw [h.len, ht.len]) hz
      by_cases hk : k = k1
      · exact ⟨s, h, by rw [hk]; exact h1⟩
      · obtain ⟨hi, _⟩ := List.getElem?_eq_some_iff.mp ha
        have hg : s.getD i 0 = a := by rw [List.getD_eq_getElem?_getD, ha]; rfl
        obtain ⟨x, y, hx, hy, e1⟩ := id h1
        by_cases hlt : a < b
        · have h' : InS ws (s.set i (s.getD i 0 + 1)) := ins_set h fun w hw => by
            have := h.bd i w a hw ha
            have := ht.bd i w b hw hb
            rw [hg]; omega
          obtain ⟨x', hx'⟩ := reach_all O h h' hs hx
          obtain ⟨y', hy'⟩ := reach_all O h h' hs hy
          have s1 := one_step O hi h h' hs hx hx'
          have s2 := one_step O hi h h' hs hy hy'
          exact ih _ (by have := dist_set s t i a b (s.getD i 0 + 1) ha hb (by rw [hg]; omega); omega) h' (y' - x') ⟨x', y', hx', hy', rfl⟩ (by omega)
        · have h' : InS ws (s.set i (a - 1)) := ins_set h fun w hw => by
            have := h.bd i w a hw ha
            have := ht.bd i w b hw hb
            omega
          obtain ⟨x', hx'⟩ := reach_all O h h' hs hx
          obtain ⟨y', hy'⟩ := reach_all O h h' hs hy
          have hi' : i < (s.set i (a - 1)).length := by rw [List.length_set]; exact hi
          have g' : (s.set i (a - 1)).getD i 0 = a - 1 := by rw [List.getD_eq_getElem?_getD, List.getElem?_set_self hi]; rfl
          have back : (s.set i (a - 1)).set i ((s.set i (a - 1)).getD i 0 + 1) = s := by
            rw [g', List.set_set, show a - 1 + 1 = a by omega]
            refine List.ext_getElem? fun j => ?_
            by_cases e : i = j
            · subst e
              rw [List.getElem?_set_self hi, ha]
            · rw [List.getElem?_set_ne e]
          have s1 := one_step O hi' h' (by rw [back]; exact h) hs hx' (by rw [back]; exact hx)
          have s2 := one_step O hi' h' (by rw [back]; exact h) hs hy' (by rw [back]; exact hy)
          exact ih _ (by have := dist_set s t i a b (a - 1) ha hb (by omega); omega) h' (y' - x') ⟨x', y', hx', hy', rfl⟩ (by omega)
end SKM
namespace SKM
/-! ### order of rows of numbers, sorting -/
def lexN : List Nat → List Nat → Bool
  | [], [] => false
  | [], _ :: _ => true
  | _ :: _, [] => false
  | x :: xs, y :: ys => if x = y then lexN xs ys else decide (x < y)
theorem lexN_irr : ∀ a : List Nat, lexN a a = false
  | [] => rfl
  | x :: xs => by rw [lexN, if_pos rfl]; exact lexN_irr xs
theorem lexN_asym : ∀ a b : List Nat, lexN a b = true → lexN b a = false
  | [], [], _ => rfl
  | [], _ :: _, _ => rfl
  | _ :: _, [], h => by cases h
  | x :: xs, y :: ys, h => by
    rw [lexN] at h ⊢
    by_cases e : x = y
    · rw [if_pos e] at h
      rw [if_pos e.symm]
      exact lexN_asym xs ys h
    · rw [if_neg e] at h
      rw [if_neg (Ne.symm e)]
      have := of_decide_eq_true h
      exact decide_eq_false (by omega)
theorem lexN_anti : ∀ a b : List Nat, lexN a b = false → lexN b a = false → a = b
  | [], [], _, _ => rfl
  | [], _ :: _, h, _ => by cases h
  | _ :: _, [], _, h => by cases h
  | x :: xs, y :: ys, h, h' => by
    rw [lexN] at h h'
    by_cases e : x = y
    · rw [if_pos e] at h
      rw [if_pos e.symm] at h'
      rw [e, lexN_anti xs ys h h']
    · rw [if_neg e] at h
      rw [if_neg (Ne.symm e)] at h'
      have := of_decide_eq_false h
      have := of_decide_eq_false h'
      omega
theorem lexN_tr : ∀ a b c : List Nat, lexN b a = false → lexN c b = false → lexN c a = false
  | [], b, c, h, h' => by
    cases c with
    | nil => rfl
    | cons z zs => rfl
  | x :: xs, [], c, h, h' => by cases h
  | x :: xs, y :: ys, [], h, h' => by cases h'
  | x :: xs, y :: ys, z :: zs, h, h' => by
    rw [lexN] at h h' ⊢
    by_cases e : y = x
    · subst e
      rw [if_pos rfl] at h
      by_cases e2 : z = y
      · subst e2
        rw [if_pos rfl] at h' ⊢
        exact lexN_tr xs ys zs h h'
      · rw [if_neg e2] at h' ⊢
        exact h'
    · rw [if_neg e] at h
      have h1 := of_decide_eq_false h
      by_cases e2 : z = y
      · subst e2
        rw [if_neg e]
        exact h
      · rw [if_neg e2] at h'
        have h2 := of_decide_eq_false h'
        rw [if_neg (by omega)]
        exact decide_eq_false (by omega)
abbrev Srt (l : List (List Nat)) : Prop := l.Pairwise fun a b => lexN b a = false
def ins (x : List Nat) : List (List Nat) → List (List Nat)
  | [] => [x]
  | y :: l => if lexN y x = true then y :: ins x l else x :: y :: l
def isort : List (List Nat) → List (List Nat)
  | [] => []
  | x :: l => ins x (isort l)
theorem ins_perm (x : List Nat) : ∀ l, (ins x l).Perm (x :: l)
  | [] => List.Perm.refl _
  | y :: l => by
    rw [ins]
    split
    · exact (List.Perm.cons y (ins_perm x l)).trans (List.Perm.swap x y l)
    · exact List.Perm.refl _
theorem isort_perm : ∀ l, (isort l).Perm l
  | [] => List.Perm.refl _
  | x :: l => (ins_perm x _).trans (List.Perm.cons x (isort_perm l))
theorem ins_srt (x : List Nat) : ∀ l, Srt l → Srt (ins x l)
  | [], _ => List.pairwise_singleton _ _
  | y :: l, h => by
    have hc := List.pairwise_cons.mp h
    rw [ins]
    split
    · rename_i hl
      refine List.pairwise_cons.mpr ⟨fun z hz => ?_, ins_srt x l hc.2⟩
      rcases List.mem_cons.mp ((ins_perm x l).mem_iff.mp hz) with rfl | hz
      · exact lexN_asym _ _ hl
      · exact hc.1 z hz
    · rename_i hl
      have hl' := Bool.eq_false_iff.mpr hl
      refine List.pairwise_cons.mpr ⟨fun z hz => ?_, h⟩
      rcases List.mem_cons.mp hz with rfl | hz
      · exact hl'
      · exact lexN_tr _ _ _ hl' (hc.1 z hz)
theorem isort_srt : ∀ l, Srt (isort l)
  | [] => List.Pairwise.nil
  | x :: l => ins_srt x _ (isort_srt l)
theorem srt_uniq : ∀ l m : List (List Nat), l.Perm m → Srt l → Srt m → l = m
  | [], m, hp, _, _ => (List.Perm.nil_eq hp)
  | x :: l, [], hp, _, _ => by have := hp.length_eq; cases this
  | x :: l, y :: m, hp, h1, h2 => by
    have c1 := List.pairwise_cons.mp h1
    have c2 := List.pairwise_cons.mp h2
    have a : lexN x y = false := by
      rcases List.mem_cons.mp (hp.mem_iff.mp List.mem_cons_self) with e | e
      · rw [e]; exact lexN_irr y
      · exact c2.1 x e
    have b : lexN y x = false := by
      rcases List.mem_cons.mp (hp.mem_iff.mpr List.mem_cons_self) with e | e
      · rw [e]; exact lexN_irr x
      · exact c1.1 y e
    have e := lexN_anti x y a b
    subst e
    rw [srt_uniq l m (List.Perm.cons_inv hp) c1.2 c2.2]
theorem isort_of {l m : List (List Nat)} (hp : m.Perm l) (h : Srt m) : m = isort l := srt_uniq _ _ (hp.trans (isort_perm l).symm) h (isort_srt l)
theorem isort_congr {l m : List (List Nat)} (hp : l.Perm m) : isort l = isort m := isort_of ((isort_perm l).trans hp) (isort_srt l)

/-! ### rows made longer, lap by lap -/
def lastN (g : List Nat) : Nat := g.getLastD 0
theorem lastN_app (g : List Nat) (v : Nat) : lastN (g ++ [v]) = v := by simp [lastN]
def longer1 (ws : List Way) (x : List Nat × List Nat) : List (List Nat × List Nat) :=
  ws.zipIdx.flatMap fun e => if e.1.u = lastN x.2 ∧ e.1.v ∉ x.2 then [(x.1 ++ [e.2], x.2 ++ [e.1.v])] else []
def longer (ws : List Way) (p : Nat) (line : List (List Nat × List Nat)) : List (List Nat × List Nat) := line.flatMap fun x => if lastN x.2 = p then [] else longer1 ws x
def come (p : Nat) (line : List (List Nat × List Nat)) : List (List Nat) := line.flatMap fun x => if lastN x.2 = p then [x.1] else []
def laps (ws : List Way) (p : Nat) : Nat → List (List Nat × List Nat) → List (List Nat) → List (List Nat)
  | 0, _, found => found
  | k + 1, line, found => laps ws p k (longer ws p line) (found ++ come p line)
def ext (ws : List Way) (p k : Nat) (x : List Nat × List Nat) : List (List Nat) := (rf ws p k (lastN x.2) x.2).map (x.1 ++ ·)
theorem ext_succ (ws : List Way) (p k : Nat) (x : List Nat × List Nat) : (if lastN x.2 = p then [x.1] else []) ++ (if lastN x.2 = p then [] else longer1 ws x).flatMap (ext ws p k) = ext ws p (k + 1) x := by
  unfold ext
  rw [rf_succ]
  by_cases h : lastN x.2 = p
  · rw [if_pos h, if_pos h, if_pos h]; simp
  · rw [if_neg h, if_neg h, if_neg h, List.nil_append]
    unfold longer1
    rw [List.flatMap_assoc, List.map_flatMap]
    refine congrArg (fun f => List.flatMap f ws.zipIdx) (funext fun e => ?_)
    by_cases hc : e.1.u = lastN x.2 ∧ e.1.v ∉ x.2
    · rw [if_pos hc, if_pos hc]
      simp [lastN_app]
    · rw [if_neg hc, if_neg hc]
      rfl
theorem lap_perm (ws : List Way) (p k : Nat) : ∀ line, (come p line ++ (longer ws p line).flatMap (ext ws p k)).Perm (line.flatMap (ext ws p (k + 1)))
  | [] => List.Perm.refl _
  | x :: line => by
    have ih := lap_perm ws p k line
    have e := ext_succ ws p k x
    unfold come longer at ih ⊢
    rw [List.flatMap_cons, List.flatMap_cons, List.flatMap_cons, List.flatMap_append, ← e]
    generalize (if lastN x.2 = p then [x.1] else []) = A at ih ⊢
    generalize (if lastN x.2 = p then [] else longer1 ws x).flatMap (ext ws p k) = B at ih ⊢
    refine List.Perm.trans ?_ (List.Perm.append_left _ ih)
    rw [List.append_assoc, List.append_assoc]
    refine List.Perm.append_left _ ?_
    rw [← List.append_assoc, ← List.append_assoc]
    exact List.Perm.append_right _ List.perm_append_comm
theorem laps_perm (ws : List Way) (p : Nat) : ∀ k line found, (laps ws p k line found).Perm (found ++ line.flatMap (ext ws p k))
  | 0, line, found => by
    have : line.flatMap (ext ws p 0) = [] := by simp [ext, rf]
    rw [this, List.append_nil, laps]
  | k + 1, line, found => by
    rw [laps]
    refine (laps_perm ws p k _ _).trans ?_
    rw [List.append_assoc]
    exact List.Perm.append_left _ (lap_perm ws p k line)
theorem laps_rf (ws : List Way) (p n st : Nat) : (laps ws p n [([], [st])] []).Perm (rf ws p n st [st]) := by
  have := laps_perm ws p n [([], [st])] []
  simpa [ext, lastN] using this

/-! ### all SPREADS -/
def rng (lo hi : Int) : List Int := (List.range (hi + 1 - lo).toNat).map fun k : Nat => lo + (k : Int)
theorem mem_rng {lo hi x : Int} : x ∈ rng lo hi ↔ lo ≤ x ∧ x ≤ hi := by
  unfold rng
  rw [List.mem_map]
  constructor
  · rintro ⟨k, hk, rfl⟩
    have := List.mem_range.mp hk
    omega
  · intro h
    exact ⟨(x - lo).toNat, List.mem_range.mpr (by omega), by omega⟩
def grow (acc : List (List Int)) (w : Way) : List (List Int) := acc.flatMap fun r => (rng w.lo w.hi).map fun n => r ++ [n]
def allL (ws : List Way) : List (List Int) := ws.foldl grow [[]]
theorem inS_nil {s : List Int} : InS [] s ↔ s = [] := by
  constructor
  · intro h
    have := h.len
    exact List.length_eq_zero_iff.mp (by simpa using this)
  · rintro rfl
    exact ⟨rfl, fun i w t h _ => by simp at h⟩
theorem inS_cons {w : Way} {ws : List Way} {t : Int} {s : List Int} : InS (w :: ws) (t :: s) ↔ (w.lo ≤ t ∧ t ≤ w.hi) ∧ InS ws s := by
  constructor
  · intro h
    exact ⟨h.bd 0 w t rfl rfl, by have := h.len; simpa using this, fun i w' t' h1 h2 => h.bd (i + 1) w' t' h1 h2⟩
  · rintro ⟨h1, h2⟩
    refine ⟨by have := h2.len; simp [this], fun i w' t' e1 e2 => ?_⟩
    cases i with
    | zero =>
      cases e1; cases e2; exact h1
    | succ i => exact h2.bd i w' t' e1 e2
theorem mem_fold : ∀ (ws : List Way) (acc : List (List Int)) (x : List Int), x ∈ ws.foldl grow acc ↔ ∃ r y, r ∈ acc ∧ x = r ++ y ∧ InS ws y
  | [], acc, x => by
    constructor
    · intro h; exact ⟨x, [], h, by simp, inS_nil.mpr rfl⟩
    · rintro ⟨r, y, h, e, hy⟩
      rw [inS_nil.mp hy, List.append_nil] at e
      rw [e]; exact h
  | w :: ws, acc, x => by
    rw [List.foldl_cons, mem_fold ws]
    constructor
    · rintro ⟨r, y, hr, e, hy⟩
      unfold grow at hr
      obtain ⟨r0, h0, h1⟩ := List.mem_flatMap.mp hr
      obtain ⟨t, ht, e2⟩ := List.mem_map.mp h1
      refine ⟨r0, t :: y, h0, ?_, inS_cons.mpr ⟨mem_rng.mp ht, hy⟩⟩
      rw [e, ← e2, List.append_assoc]; rfl
    · rintro ⟨r, y, hr, e, hy⟩
      cases y with
      | nil => have := hy.len; cases this
      | cons t y =>
        have hc := inS_cons.mp hy
        refine ⟨r ++ [t], y, ?_, by rw [e, List.append_assoc]; rfl, hc.2⟩
        exact List.mem_flatMap.mpr ⟨r, hr, List.mem_map.mpr ⟨t, mem_rng.mpr hc.1, rfl⟩⟩
theorem mem_allL {ws : List Way} {x : List Int} : x ∈ allL ws ↔ InS ws x := by
  unfold allL
  rw [mem_fold]
  constructor
  · rintro ⟨r, y, hr, e, hy⟩
    have : r = [] := by simpa using hr
    rw [e, this]; exact hy
  · intro h
    exact ⟨[], x, by simp, rfl, h⟩
def many (ws : List Way) : Nat := ws.foldl (fun a w => a * (w.hi + 1 - w.lo).toNat) 1
theorem len_grow (w : Way) : ∀ acc : List (List Int), (grow acc w).length = acc.length * (w.hi + 1 - w.lo).toNat
  | [] => by simp [grow]
  | r :: acc => by
    have ih := len_grow w acc
    unfold grow at ih ⊢
    rw [List.flatMap_cons, List.length_append, ih, List.length_cons, Nat.succ_mul]
    simp [rng, Nat.add_comm]
theorem len_fold : ∀ (ws : List Way) (acc : List (List Int)), (ws.foldl grow acc).length = ws.foldl (fun a w => a * (w.hi + 1 - w.lo).toNat) acc.length
  | [], _ => rfl
  | w :: ws, acc => by rw [List.foldl_cons, List.foldl_cons, len_fold ws, len_grow]
theorem len_allL (ws : List Way) : (allL ws).length = many ws := len_fold ws [[]]

/-! ### what the program reckons -/
def arr (n : Nat) (ws : List Way) (st : Nat) (s : List Int) : Fnd := passes (edg ws s) n (init n st)
def lateV (n : Nat) (ws : List Way) (st p o : Nat) (s : List Int) : Int := ((arr n ws st s).getD p none).getD 0 - ((arr n ws st s).getD o none).getD 0
def roadsM (n : Nat) (ws : List Way) (st o : Nat) : List (List Nat) := isort (rf ws o n st [st])
def lateL (n : Nat) (ws : List Way) (st p o : Nat) : List (Int × List Nat) :=
  (roadsM n ws st o).flatMap fun R => if (arr n ws st (corner ws R)).getD p none = none then [] else [(lateV n ws st p o (corner ws R), R)]
def IsMax (m : Int) (l : List Int) : Prop := m ∈ l ∧ ∀ y ∈ l, y ≤ m
theorem IsMax.uniq {m m' : Int} {l : List Int} (h : IsMax m l) (h' : IsMax m' l) : m = m' := by
  have := h.2 _ h'.1
  have := h'.2 _ h.1
  omega
section
variable {n : Nat} {ws : List Way} {st : Nat}
theorem arr_iff (O : WsOk ws n) (hs : st < n) {s : List Int} (h : InS ws s) {v : Nat} {d : Int} : (arr n ws st s).getD v none = some d ↔ Mn ws s st v d := passes_min (edg_good O h) hs (by omega)
theorem arr_len {s : List Int} : (arr n ws st s).length = n := by unfold arr; rw [passes_len, init_len]
/-- v is come to -/
def Rch (n : Nat) (ws : List Way) (st v : Nat) : Prop := rf ws v n st [st] ≠ []
instance {v : Nat} : Decidable (Rch n ws st v) := inferInstanceAs (Decidable (¬ _))
theorem rch_of (O : WsOk ws n) (hs : st < n) {s : List Int} (h : InS ws s) {v : Nat} (hr : Rch n ws st v) : ∃ d, Mn ws s st v d := by
  obtain ⟨R, hR⟩ := List.exists_mem_of_ne_nil _ hr
  obtain ⟨j, w⟩ := road_le (s := s) h.len hR
  exact min_exists (edg_good O h) w
theorem arr_none (O : WsOk ws n) (hs : st < n) {s : List Int} (h : InS ws s) {v : Nat} : (arr n ws st s).getD v none = none ↔ ¬ Rch n ws st v := by
  constructor
  · intro e hr
    obtain ⟨d, hd⟩ := rch_of O hs h hr
    rw [(arr_iff O hs h).mpr hd] at e
    cases e
  · intro hn
    cases e : (arr n ws st s).getD v none with
    | none => rfl
    | some d =>
      obtain ⟨R, hR, _⟩ := road_of O h hs ((arr_iff O hs h).mp e)
      exact absurd (List.ne_nil_of_mem hR) hn
theorem arr_some (O : WsOk ws n) (hs : st < n) {s : List Int} (h : InS ws s) {v : Nat} (hr : Rch n ws st v) : ∃ d, (arr n ws st s).getD v none = some d ∧ Mn ws s st v d := by
  obtain ⟨d, hd⟩ := rch_of O hs h hr
  exact ⟨d, (arr_iff O hs h).mpr hd, hd⟩
theorem lateV_late (O : WsOk ws n) (hs : st < n) {s : List Int} (h : InS ws s) {p o : Nat} (hp : Rch n ws st p) (ho : Rch n ws st o) : Late ws s st p o (lateV n ws st p o s) := by
  obtain ⟨b, e1, m1⟩ := arr_some O hs h hp
  obtain ⟨a, e2, m2⟩ := arr_some O hs h ho
  refine ⟨a, b, m2, m1, ?_⟩
  unfold lateV
  rw [e1, e2]; rfl
theorem lateV_of (O : WsOk ws n) (hs : st < n) {s : List Int} (h : InS ws s) {p o : Nat} {a b : Int} (ha : Mn ws s st o a) (hb : Mn ws s st p b) : lateV n ws st p o s = b - a := by
  unfold lateV
  rw [(arr_iff O hs h).mpr ha, (arr_iff O hs h).mpr hb]; rfl
theorem lateV_swap (p o : Nat) (s : List Int) : lateV n ws st o p s = - lateV n ws st p o s := by unfold lateV; omega
theorem lateL_nil (O : WsOk ws n) (hs : st < n) {p o : Nat} (h : ¬ (Rch n ws st p ∧ Rch n ws st o)) : lateL n ws st p o = [] := by
  unfold lateL
  by_cases ho : Rch n ws st o
  · have hp : ¬ Rch n ws st p := fun z => h ⟨z, ho⟩
    rw [List.flatMap_eq_nil_iff]
    intro R _
    rw [if_pos ((arr_none O hs (corner_in O R)).mpr hp)]
  · have e : rf ws o n st [st] = [] := Decidable.not_not.mp ho
    unfold roadsM
    rw [e]; rfl
theorem flat_map {α β : Type} (f : α → β) : ∀ l : List α, (l.flatMap fun x => [f x]) = l.map f
  | [] => rfl
  | x :: l => by rw [List.flatMap_cons, flat_map f l, List.map_cons]; rfl
theorem lateL_some (O : WsOk ws n) (hs : st < n) {p o : Nat} (hp : Rch n ws st p) : lateL n ws st p o = (roadsM n ws st o).map fun R => (lateV n ws st p o (corner ws R), R) := by
  unfold lateL
  rw [← flat_map]
  refine congrArg (fun f => List.flatMap f (roadsM n ws st o)) (funext fun R => ?_)
  rw [if_neg fun e => (arr_none O hs (corner_in O R)).mp e hp]
theorem roadsM_mem {o : Nat} {R : List Nat} : R ∈ roadsM n ws st o ↔ R ∈ rf ws o n st [st] := (isort_perm _).mem_iff
theorem roadsM_ne {o : Nat} (ho : Rch n ws st o) : roadsM n ws st o ≠ [] := by
  obtain ⟨R, hR⟩ := List.exists_mem_of_ne_nil _ ho
  exact List.ne_nil_of_mem (roadsM_mem.mpr hR)
theorem max_exists : ∀ l : List Int, l ≠ [] → ∃ m, IsMax m l
  | [], h => absurd rfl h
  | [x], _ => ⟨x, by simp, by simp⟩
  | x :: y :: l, _ => by
    obtain ⟨m, h1, h2⟩ := max_exists (y :: l) (by simp)
    by_cases h : m ≤ x
    · refine ⟨x, List.mem_cons_self, fun z hz => ?_⟩
      rcases List.mem_cons.mp hz with rfl | hz
      · exact Int.le_refl _
      · have := h2 z hz; omega
    · refine ⟨m, List.mem_cons_of_mem _ h1, fun z hz => ?_⟩
      rcases List.mem_cons.mp hz with rfl | hz
      · omega
      · exact h2 z hz
/-- THE LAW OF THE CORNERS: the greatest over the roads' corners is the greatest over all SPREADS -/
theorem max_all (O : WsOk ws n) (hs : st < n) {p o : Nat} (hp : Rch n ws st p) (ho : Rch n ws st o) {m : Int} (h : IsMax m ((lateL n ws st p o).map (·.1))) : IsMax m ((allL ws).map (lateV n ws st p o)) := by
  rw [lateL_some O hs hp, List.map_map] at h
  obtain ⟨h1, h2⟩ := h
  constructor
  · obtain ⟨R, hR, e⟩ := List.mem_map.mp h1
    exact List.mem_map.mpr ⟨corner ws R, mem_allL.mpr (corner_in O R), e⟩
  · intro y hy
    obtain ⟨s, hs1, e⟩ := List.mem_map.mp hy
    have hin := mem_allL.mp hs1
    obtain ⟨b, _, hb⟩ := arr_some O hs hin hp
    obtain ⟨a, _, ha⟩ := arr_some O hs hin ho
    obtain ⟨R, hR, a', b', ha', hb', hle⟩ := corner_late O hin hs ha hb
    have q := h2 (lateV n ws st p o (corner ws R)) (List.mem_map.mpr ⟨R, roadsM_mem.mpr hR, rfl⟩)
    rw [lateV_of O hs (corner_in O R) ha' hb'] at q
    rw [← e, lateV_of O hs hin ha hb]
    omega
theorem lates_ne (O : WsOk ws n) (hs : st < n) {p o : Nat} (hp : Rch n ws st p) (ho : Rch n ws st o) : (lateL n ws st p o).map (·.1) ≠ [] := by
  rw [lateL_some O hs hp]
  have := roadsM_ne ho
  simpa using this
theorem all_between (O : WsOk ws n) (hs : st < n) {p o : Nat} (hp : Rch n ws st p) (ho : Rch n ws st o) {lo hi k : Int} (h1 : lo ∈ (allL ws).map (lateV n ws st p o)) (h2 : hi ∈ (allL ws).map (lateV n ws st p o)) (hk1 : lo ≤ k) (hk2 : k ≤ hi) :
    k ∈ (allL ws).map (lateV n ws st p o) := by
  obtain ⟨s, hs1, e1⟩ := List.mem_map.mp h1
  obtain ⟨t, ht1, e2⟩ := List.mem_map.mp h2
  have is := mem_allL.mp hs1
  have it := mem_allL.mp ht1
  obtain ⟨r, hr, hl⟩ := between O hs (p := p) (o := o) it (k2 := hi) (by rw [← e2]; exact lateV_late O hs it hp ho) hk2 _ s (Nat.le_refl _) is lo (by rw [← e1]; exact lateV_late O hs is hp ho) hk1
  exact List.mem_map.mpr ⟨r, mem_allL.mpr hr, (lateV_late O hs hr hp ho).uniq hl⟩
/-- rising rows with the same members -/
theorem rise_uniq : ∀ l m : List Int, l.Pairwise (· < ·) → m.Pairwise (· < ·) → (∀ x, x ∈ l ↔ x ∈ m) → l = m
  | [], [], _, _, _ => rfl
  | [], y :: m, _, _, h => by have := (h y).mpr List.mem_cons_self; cases this
  | x :: l, [], _, _, h => by have := (h x).mp List.mem_cons_self; cases this
  | x :: l, y :: m, h1, h2, h => by
    have c1 := List.pairwise_cons.mp h1
    have c2 := List.pairwise_cons.mp h2
    have e : x = y := by
      rcases List.mem_cons.mp ((h x).mp List.mem_cons_self) with e | e
      · exact e
      · rcases List.mem_cons.mp ((h y).mpr List.mem_cons_self) with e' | e'
        · exact e'.symm
        · have := c2.1 x e
          have := c1.1 y e'
          omega
    subst e
    rw [rise_uniq l m c1.2 c2.2 fun z => ?_]
    constructor
    · intro hz
      rcases List.mem_cons.mp ((h z).mp (List.mem_cons_of_mem _ hz)) with e | e
      · subst e
        have := c1.1 _ hz
        omega
      · exact e
    · intro hz
      rcases List.mem_cons.mp ((h z).mpr (List.mem_cons_of_mem _ hz)) with e | e
      · subst e
        have := c2.1 _ hz
        omega
      · exact e
theorem rng_rise (lo hi : Int) : (rng lo hi).Pairwise (· < ·) := by
  unfold rng
  rw [List.pairwise_map]
  exact List.pairwise_lt_range.imp fun h => by omega
end
end SKM
set_option maxHeartbeats 2000000
namespace SK
open PySem PySem.Spec PyProof.Rows L2
section
variable {c : Ct} {ms : List Addr} {σ : L2.St} {H : Hp} {a b e tg : Expr} {es : List Expr} {d d' : PyData} {ds : List PyData} {pos : Pos}
/-! ### lists that are known where they stand -/
def PT1 (c : Ct) (ms : List Addr) (σ : L2.St) (H : Hp) (e : Expr) (es : List PyData) : Prop :=
  Trk ms H → ∀ H1 Q, Same H H1 → (∀ p xs H', Same H1 H' → H' p = some (.lst xs) → DpAll c.K (cut ms H') xs es → Q (.ref p) H') → ES c e σ H1 Q
theorem PL.pt {es : List PyData} (h : PL c ms σ H e es) : PT1 c ms σ H e es := fun t H1 Q S q => h t H1 Q S fun p xs H' S' hn hp ha =>
  q _ _ _ S' hp (dpall_mono (cut_sub (ms := p :: ms) fun m hm => List.mem_cons_of_mem _ hm) ha)
theorem pt_name {i : Nat} {x : Str} {p : Addr} {xs : List V} (hσ : σ[i]? = some (some (.ref p))) (hp : H p = some (.lst xs)) (hd : DpAll c.K (cut ms H) xs ds) (hN : c.N[i]? = some x := by rfl) (hv : Vis c.sc x := by first | exact Or.inl rfl | exact Or.inr (Or.inl rfl) | exact Or.inr (Or.inr rfl))
    (h1 : (x == ("__debug__" : Str)) = false := by decide) (h2 : (x == ("__classdict__" : Str)) = false := by decide) : PT1 c ms σ H (.Name x pos) ds := fun _ H1 Q S q =>
  ⟨tVar i, fun X hX => pe_var (by rw [hX.N]; exact hN) (by rw [hX.sc]; exact hv) h1 h2, _, hσ, q p xs H1 (Same.refl _) (S _ _ hp) (dpall_mono (cut_same S) hd)⟩
theorem pl_lst (h : PAd c ms σ H es ds) (hz : ds.length ≤ sizeLine) : PL c ms σ H (.List es pos) ds := fun t H1 Q S q =>
  ⟨tLst (EA c es), fun X hX => pe_lst (EA.any hX _), h t H1 _ S fun vs H2 S2 dvs => ⟨by rw [dpall_len dvs]; exact hz, fun p hp => q _ _ _ (S2.trans (same_new hp)) (S2.free hp) upd_same (dpall_mono (cut_more hp) dvs)⟩⟩
theorem pl_cat {es' : List PyData} (hz : ds.length + es'.length ≤ sizeLine) (ha : PT1 c ms σ H a ds) (hb : PT1 c ms σ H b es') : PL c ms σ H (.BinOp a .Add b pos) (ds ++ es') := fun t H1 Q S q =>
  ⟨tOp rCat (ES c a) (ES c b), fun X hX => pe_op op_cat (ES.any hX _) (ES.any hX _), ha t H1 _ S fun p xs H2 S2 hp hx => hb t H2 _ (S.trans S2) fun p2 ys H3 S3 hp2 hy => by
    refine ⟨p, p2, xs, ys, rfl, rfl, S3 _ _ hp, hp2, by rw [dpall_len hx, dpall_len hy]; exact hz, fun l hl => ?_⟩
    exact q _ _ _ ((S2.trans S3).trans (same_new hl)) ((S2.trans S3).free hl) upd_same (dpall_mono (cut_more hl) (dpall_app (dpall_mono (cut_same S3) hx) hy))⟩
theorem dpall_rep {K : PySem.W.Frag} {H : Hp} {xs : List V} {ds : List PyData} (h : DpAll K H xs ds) : ∀ n : Nat, DpAll K H (List.replicate n xs).flatten (List.replicate n ds).flatten
  | 0 => .nil
  | n + 1 => by
    rw [List.replicate_succ, List.replicate_succ, List.flatten_cons, List.flatten_cons]
    exact dpall_app h (dpall_rep h n)
theorem pl_rep {k : Int} (h1 : -(2 ^ 63) ≤ k) (h2 : k < 2 ^ 63) (hz : ds.length * k.toNat ≤ sizeLine) (ha : PT1 c ms σ H a ds) (hb : PD c ms σ H b (.int k)) : PL c ms σ H (.BinOp a .Mult b pos) (List.replicate k.toNat ds).flatten := fun t H1 Q S q =>
  ⟨tOp rRep (ES c a) (ES c b), fun X hX => pe_op op_rep (ES.any hX _) (ES.any hX _), ha t H1 _ S fun p xs H2 S2 hp hx => hb t H2 _ (S.trans S2) fun v H3 S3 hv => by
    refine ⟨p, k, xs, rfl, dp_int hv, S3 _ _ hp, h1, h2, by rw [dpall_len hx]; exact hz, fun l hl => ?_⟩
    exact q _ _ _ ((S2.trans S3).trans (same_new hl)) ((S2.trans S3).free hl) upd_same (dpall_mono (cut_more hl) (dpall_rep (dpall_mono (cut_same S3) hx) _))⟩
/-- list(xs): a new one -/
theorem pl_listL {p : Pos} (ha : PD c ms σ H e (.list ds)) (hm : c.mg "list" = none) (hg : GlC c "list" := by rfl) (ns : NSt e := by intro _ _; rfl) : PL c ms σ H (.Call (.Name "list" p) [e] [] pos) ds := fun t H1 Q S q =>
  ⟨tCB _ (EA c [e]), fun X hX => pe_callTy (hX.K ▸ call_list_of) (hg.of hX) (by rw [hX.mg]; exact hm) (by decide +kernel) (EA.any hX _) (by decide) (by decide) (ns X []) (by rfl), pad_cons ha pad_nil (fun X => ns X []) t H1 _ S fun vs H2 S2 dvs => by
    obtain ⟨v, rfl, hv⟩ := dpall1 dvs
    obtain ⟨p, xs, rfl, hs, hx⟩ := dp_list hv
    exact ⟨p, xs, rfl, .inl (cut_le.seq hs), fun l hl => q _ _ _ (S2.trans (same_new hl)) (S2.free hl) upd_same (dpall_mono (cut_more hl) hx)⟩⟩
/-- xs or .., xs a list -/
theorem pl_or {d2 : List PyData} (ha : PL c ms σ H a ds) (hb : ds = [] → PL c ms σ H (.BoolOp .Or [b] pos) d2) (e2 : ds ≠ [] → d2 = ds) : PL c ms σ H (.BoolOp .Or [a, b] pos) d2 := fun t H1 Q S q =>
  ⟨tOrT c.K (ES c a) (ES c (.BoolOp .Or [b] pos)), fun X hX => hX.K ▸ pe_orT (ES.any hX _) (ES.any hX _), ha t H1 _ S fun p xs H2 S2 hn hp hx => by
    refine ⟨!xs.isEmpty, ?_, ?_⟩
    · exact .inl ⟨xs, .inl (.inl hp), rfl⟩
    · cases xs with
      | nil =>
        cases hx
        refine iteF ?_
        exact hb rfl t H2 _ (S.trans S2) fun p3 ys H3 S3 hn3 hp3 hy => q _ _ _ (S2.trans S3) (S2.free hn3) hp3 hy
      | cons x xs =>
        refine iteT ?_
        have : ds ≠ [] := fun z => by rw [z] at hx; cases hx
        rw [e2 this] at q
        exact q _ _ _ S2 hn hp hx⟩
theorem pl_one {op} (ha : PL c ms σ H a ds) : PL c ms σ H (.BoolOp op [a] pos) ds := fun t H1 Q S q => ⟨ES c a, fun X hX => pe_one (ES.any hX a), ha t H1 Q S q⟩
/-! ### a list changes -/
theorem es_app {i : Nat} {x : Str} {px ap cp : Pos} {p : Addr} {xs0 : List V} {Q : VK} (hσ : σ[i]? = some (some (.ref p))) (hp : H p = some (.lst xs0)) (h : EA c [e] σ H fun vs H2 => rAppend (.ref p) vs H2 Q)
    (hN : c.N[i]? = some x := by rfl) (hv : Vis c.sc x := by first | exact Or.inl rfl | exact Or.inr (Or.inl rfl) | exact Or.inr (Or.inr rfl)) (h1 : (x == ("__debug__" : Str)) = false := by decide) (h2 : (x == ("__classdict__" : Str)) = false := by decide) (ns : NSt e := by intro _ _; rfl)
    (hline : (ap.endLine == cp.line) = true := by rfl) : ES c (.Call (.Attribute (.Name x px) "append" ap) [e] [] cp) σ H Q :=
  ⟨tBM c.K "list" rAppend (tVar i) (EA c [e]), fun X hX => hX.K ▸ pe_bm PySem.F.plainAttrs_list PySem.F.slot_list_append PySem.F.type_list_append mt_append (pe_var (by rw [hX.N]; exact hN) (by rw [hX.sc]; exact hv) h1 h2) (EA.any hX _) (by rfl) (by rw [ns X []]; rfl) hline (ns X []) (by rfl),
    .ref p, hσ, .inl ⟨rfl, _, .inl (.inl hp)⟩, h⟩
theorem es_ext {i : Nat} {x : Str} {px ap cp : Pos} {p : Addr} {xs0 : List V} {Q : VK} (hσ : σ[i]? = some (some (.ref p))) (hp : H p = some (.lst xs0)) (h : EA c [e] σ H fun vs H2 => rExtend (.ref p) vs H2 Q)
    (hN : c.N[i]? = some x := by rfl) (hv : Vis c.sc x := by first | exact Or.inl rfl | exact Or.inr (Or.inl rfl) | exact Or.inr (Or.inr rfl)) (h1 : (x == ("__debug__" : Str)) = false := by decide) (h2 : (x == ("__classdict__" : Str)) = false := by decide) (ns : NSt e := by intro _ _; rfl)
    (hline : (ap.endLine == cp.line) = true := by rfl) : ES c (.Call (.Attribute (.Name x px) "extend" ap) [e] [] cp) σ H Q :=
  ⟨tBM c.K "list" rExtend (tVar i) (EA c [e]), fun X hX => hX.K ▸ pe_bm PySem.F.plainAttrs_list PySem.F.slot_list_extend PySem.F.type_list_extend mt_extend (pe_var (by rw [hX.N]; exact hN) (by rw [hX.sc]; exact hv) h1 h2) (EA.any hX _) (by rfl) (by rw [ns X []]; rfl) hline (ns X []) (by rfl),
    .ref p, hσ, .inl ⟨rfl, _, .inl (.inl hp)⟩, h⟩
theorem es_pop {i : Nat} {x : Str} {px ap cp : Pos} {p : Addr} {xs0 : List V} {Q : VK} (hσ : σ[i]? = some (some (.ref p))) (hp : H p = some (.lst xs0)) (h : EA c [e] σ H fun vs H2 => rPopAt (.ref p) vs H2 Q)
    (hN : c.N[i]? = some x := by rfl) (hv : Vis c.sc x := by first | exact Or.inl rfl | exact Or.inr (Or.inl rfl) | exact Or.inr (Or.inr rfl)) (h1 : (x == ("__debug__" : Str)) = false := by decide) (h2 : (x == ("__classdict__" : Str)) = false := by decide) (ns : NSt e := by intro _ _; rfl)
    (hline : (ap.endLine == cp.line) = true := by rfl) : ES c (.Call (.Attribute (.Name x px) "pop" ap) [e] [] cp) σ H Q :=
  ⟨tBM c.K "list" rPopAt (tVar i) (EA c [e]), fun X hX => hX.K ▸ pe_bm PySem.F.plainAttrs_list PySem.F.slot_list_pop PySem.F.type_list_pop mt_popAt (pe_var (by rw [hX.N]; exact hN) (by rw [hX.sc]; exact hv) h1 h2) (EA.any hX _) (by rfl) (by rw [ns X []]; rfl) hline (ns X []) (by rfl),
    .ref p, hσ, .inl ⟨rfl, _, .inl (.inl hp)⟩, h⟩
/-- xs.append(e), e by its data -/
theorem es_app1 {i : Nat} {x : Str} {px ap cp : Pos} {p : Addr} {xs : List V} {Q : VK} (t : Trk ms H) (hσ : σ[i]? = some (some (.ref p))) (hp : H p = some (.lst xs)) (hz : xs.length < sizeLine) (he : PD c ms σ H e d) (q : ∀ v H', Same H H' → Dp c.K (cut ms H') v d → Q .non (upd H' p (.lst (xs ++ [v]))))
    (hN : c.N[i]? = some x := by rfl) (hv : Vis c.sc x := by first | exact Or.inl rfl | exact Or.inr (Or.inl rfl) | exact Or.inr (Or.inr rfl)) (h1 : (x == ("__debug__" : Str)) = false := by decide) (h2 : (x == ("__classdict__" : Str)) = false := by decide) (ns : NSt e := by intro _ _; rfl)
    (hline : (ap.endLine == cp.line) = true := by rfl) : ES c (.Call (.Attribute (.Name x px) "append" ap) [e] [] cp) σ H Q :=
  es_app hσ hp (pad_cons he pad_nil (fun X => ns X []) t H _ (Same.refl _) fun vs H2 S2 dvs => by
    obtain ⟨v, rfl, hv⟩ := dpall1 dvs
    exact ⟨p, xs, v, rfl, rfl, S2 _ _ hp, hz, q _ _ S2 hv⟩) hN hv h1 h2 ns hline
/-- xs.extend(e), e a new list -/
theorem es_ext1 {i : Nat} {x : Str} {px ap cp : Pos} {p : Addr} {xs : List V} {Q : VK} (t : Trk ms H) (hσ : σ[i]? = some (some (.ref p))) (hp : H p = some (.lst xs)) (hz : xs.length + ds.length ≤ sizeLine) (he : PT1 c ms σ H e ds) (q : ∀ vs H', Same H H' → DpAll c.K (cut ms H') vs ds → Q .non (upd H' p (.lst (xs ++ vs))))
    (hN : c.N[i]? = some x := by rfl) (hv : Vis c.sc x := by first | exact Or.inl rfl | exact Or.inr (Or.inl rfl) | exact Or.inr (Or.inr rfl)) (h1 : (x == ("__debug__" : Str)) = false := by decide) (h2 : (x == ("__classdict__" : Str)) = false := by decide) (ns : NSt e := by intro _ _; rfl)
    (hline : (ap.endLine == cp.line) = true := by rfl) : ES c (.Call (.Attribute (.Name x px) "extend" ap) [e] [] cp) σ H Q :=
  es_ext hσ hp ⟨tCons (ES c e) tNil, fun X hX => pa_cons (ES.any hX _) pa_nil (ns X []), he t H _ (Same.refl _) fun p2 zs H2 S2 hp2 hz2 => 
    ⟨p, p2, xs, zs, rfl, rfl, S2 _ _ hp, hp2, by rw [dpall_len hz2]; exact hz, q _ _ S2 hz2⟩⟩ hN hv h1 h2 ns hline
/-- xs[k] = v -/
theorem eg_sub {i : Nat} {x : Str} {px pos : Pos} {p : Addr} {xs : List V} {k : Int} {j : Nat} {v : V} {Q : L2.St → Hp → Prop} (t : Trk ms H) (hσ : σ[i]? = some (some (.ref p))) (hp : H p = some (.lst xs)) (hb : PD c ms σ H b (.int k)) (hj : ixN xs.length k = some j) (q : ∀ H', Same H H' → Q σ (upd H' p (.lst (xs.set j v))))
    (hN : c.N[i]? = some x := by rfl) (hv : Vis c.sc x := by first | exact Or.inl rfl | exact Or.inr (Or.inl rfl) | exact Or.inr (Or.inr rfl)) (h1 : (x == ("__debug__" : Str)) = false := by decide) (h2 : (x == ("__classdict__" : Str)) = false := by decide)
    (ha : ∀ (X : Cx) v, assign (.Subscript (.Name x px) b pos) X.env v = (do
      let ov ← holding [v] (eval (.Name x px) X.env)
      let iv ← holding [v, ov] (eval b X.env)
      standAt pos
      holding [v, ov, iv] (setItem ov iv v)
      release [v, ov, iv] []) := by intro _ _; rfl) : EG c (.Subscript (.Name x px) b pos) v σ H Q :=
  ⟨gSub (tVar i) (ES c b) rSetL, fun X hX => pg_sub (pe_var (by rw [hX.N]; exact hN) (by rw [hX.sc]; exact hv) h1 h2) (ES.any hX _) set_list (ha X), .ref p, hσ, hb t H _ (Same.refl _) fun y H2 S2 hy => 
    ⟨p, xs, k, j, rfl, dp_int hy, S2 _ _ hp, hj, q _ S2⟩⟩
theorem ixN_nat {n j : Nat} (h : j < n) : ixN n (j : Int) = some j := by
  have h' : (j : Int) < (n : Int) := by omega
  unfold ixN
  rw [if_pos (by omega), if_pos h', Int.toNat_natCast]
/-- the data behind a change -/
theorem dp_chg {K : PySem.W.Frag} {v : V} {p : Addr} {o : HO} (h : p ∈ ms) : Dp K (cut ms (upd H p o)) v d ↔ Dp K (cut ms H) v d := by rw [cut_mut h]
theorem Trk.upd {p : Addr} {o : HO} (t : Trk ms H) : Trk ms (upd H p o) := fun m hm e => by
  by_cases h : m = p
  · rw [h, upd_same] at e; cases e
  · rw [upd_ne h] at e; exact t m hm e
/-! ### in -/
def natD (n : Nat) : PyData := .int (n : Int)
def tupN (r : List Nat) : PyData := .tuple (r.map natD)
theorem natD_map (r : List Nat) : r.map natD = (r.map fun n : Nat => (n : Int)).map PyData.int := by rw [List.map_map]; rfl
theorem inV_ints (j : Int) : ∀ ns : List Int, inV (.int j) (ns.map V.int) = decide (j ∈ ns)
  | [] => by simp [inV]
  | n :: ns => by
    have ih := inV_ints j ns
    unfold inV at ih ⊢
    rw [List.map_cons, List.any_cons, ih]
    have e : eqV (V.int n) (V.int j) = decide (j = n) := by
      show (n == j) = _
      rw [Bool.eq_iff_iff, beq_iff_eq, decide_eq_true_eq]
      exact eq_comm
    rw [e, Bool.eq_iff_iff]
    simp
theorem flat_ints (ns : List Int) : (ns.map V.int).all flatV = true := by rw [List.all_map]; exact List.all_eq_true.mpr fun _ _ => rfl
theorem r2_inT {j : Int} {ns : List Int} : R2D c ms (rIn c.K false) (.int j) (.tuple (ns.map .int)) (.bool (decide (j ∈ ns))) := fun x y H Q t dx dy q => by
  obtain ⟨p, xs, ey, hs, hx⟩ := dp_tup dy
  rw [dpall_ints hx] at hs
  refine ⟨p, _, ey, .inr (sqt_mono cut_le hs), by rw [dp_int dx]; rfl, flat_ints ns, ?_⟩
  rw [dp_int dx, inV_ints]
  exact q _ _ (Same.refl _) (.bl _)
theorem r2_notInT {j : Int} {ns : List Int} : R2D c ms (rIn c.K true) (.int j) (.tuple (ns.map .int)) (.bool (!decide (j ∈ ns))) := fun x y H Q t dx dy q => by
  obtain ⟨p, xs, ey, hs, hx⟩ := dp_tup dy
  rw [dpall_ints hx] at hs
  refine ⟨p, _, ey, .inr (sqt_mono cut_le hs), by rw [dp_int dx]; rfl, flat_ints ns, ?_⟩
  rw [dp_int dx, inV_ints]
  exact q _ _ (Same.refl _) (.bl _)
theorem nat_in (j : Nat) (r : List Nat) : decide ((j : Int) ∈ r.map fun n : Nat => (n : Int)) = decide (j ∈ r) := by
  refine decide_eq_decide.mpr ?_
  rw [List.mem_map]
  exact ⟨fun ⟨a, h, e⟩ => by rwa [← Int.ofNat.inj e], fun h => ⟨j, h, rfl⟩⟩
theorem pb_inN {j : Nat} {r : List Nat} (ha : PD c ms σ H a (natD j)) (hb : PD c ms σ H b (tupN r)) (hm : behindInMarks .In b = false := by rfl) : PB c ms σ H (.Compare a [.In] [b] pos) (decide (j ∈ r)) := by
  unfold tupN at hb
  rw [natD_map] at hb
  exact (pb_cmpR (fun X hX => hX.K ▸ op_in_seq) r2_inT ha hb hm).cast (nat_in j r)
theorem pb_notInN {j : Nat} {r : List Nat} (ha : PD c ms σ H a (natD j)) (hb : PD c ms σ H b (tupN r)) (hm : behindInMarks .NotIn b = false := by rfl) : PB c ms σ H (.Compare a [.NotIn] [b] pos) (!decide (j ∈ r)) := by
  unfold tupN at hb
  rw [natD_map] at hb
  exact (pb_cmpR (fun X hX => hX.K ▸ op_notIn_seq) r2_notInT ha hb hm).cast (by rw [nat_in])
/-! deep ones -/
theorem pd_inD (hu : c.A.units + 65 < cLine) (h1 : SeqAt.shaped d = true) (h2 : SeqAt.shaped (.list ds) = true) (ha : PD c ms σ H a d) (hb : PD c ms σ H b (.list ds)) (hm : behindInMarks .In b = false := by rfl) : PD c ms σ H (.Compare a [.In] [b] pos) (.bool (ds.any fun z => PyData.eqv z d)) :=
  pd_cmpR (r := rInD c.K) (fun X hX => hX.K ▸ op_inD (by rw [hX.A]; exact hu)) (fun x y H Q t dx dy q => ⟨d, ds, dp_mono cut_le dx, dp_mono cut_le dy, h1, h2, q _ _ (Same.refl _) (.bl _)⟩) ha hb hm
end
end SK
set_option maxHeartbeats 2000000
namespace SK
open PySem PySem.Spec PyProof.Rows L2 PySem.W SKM
/-! ### the order of rows of numbers -/
theorem alike_tupN (a b : List Nat) : alike (tupN a) (tupN b) = true := by
  unfold tupN
  rw [natD_map, natD_map]
  show alike (.tuple _) (.tuple _) = true
  simp only [alike]
  exact alike_ints _ _
theorem listLt_nat : ∀ xs ys : List Nat, listLt (xs.map fun n : Nat => (n : Int)) (ys.map fun n : Nat => (n : Int)) = lexN xs ys
  | [], [] => rfl
  | [], _ :: _ => rfl
  | _ :: _, [] => rfl
  | x :: xs, y :: ys => by
    show (if (x : Int) = (y : Int) then listLt _ _ else decide ((x : Int) < (y : Int))) = if x = y then lexN xs ys else decide (x < y)
    by_cases h : x = y
    · rw [if_pos h, if_pos (by omega)]
      exact listLt_nat xs ys
    · rw [if_neg h, if_neg (by omega)]
      exact decide_eq_decide.mpr (by omega)
theorem lexAll_nat (xs ys : List Nat) : PyProof.Rows.lexLt itemOrd (keyToksAll (xs.map natD)) (keyToksAll (ys.map natD)) = lexN xs ys := by
  have k : ∀ r : List Nat, r.map natD = (r.map fun n : Nat => (n : Int)).map Datum.toD := fun r => by rw [List.map_map]; rfl
  rw [k, k]
  exact (lexAll_map _ _).trans (listLt_nat xs ys)
theorem dataLt_tupN (a b : List Nat) : dataLt (tupN a) (tupN b) = lexN a b := (dataLt_tuple _ _).trans (lexAll_nat a b)
theorem merge_isort (rs : List (List Nat)) : rs.mergeSort (dataLe false tupN) = isort rs := by
  refine isort_of (List.mergeSort_perm _ _) ?_
  have e : dataLe false tupN = fun a b => !lexN b a := by
    rw [dataLe_eq]
    funext a b
    show (!dataLt (tupN b) (tupN a)) = _
    rw [dataLt_tupN]
  rw [e]
  refine (List.pairwise_mergeSort (le := fun a b => !lexN b a) (fun a b c h1 h2 => ?_) (fun a b => ?_) rs).imp fun {a b} h => by simpa using h
  · simp only [Bool.not_eq_true'] at h1 h2 ⊢
    exact lexN_tr _ _ _ h1 h2
  · cases h : lexN b a with
    | false => rfl
    | true => rw [lexN_asym _ _ h]; rfl
theorem each_dp {K : PySem.W.Frag} {H : Hp} {β : Type} (f : β → PyData) : ∀ {xs : List V} {bs : List β}, DpAll K H xs (bs.map f) → EachIs (fun v b => Dp K H v (f b)) xs bs
  | _, [], h => by
    have h' : DpAll K H _ [] := h
    cases h'
    exact .nil
  | _, b :: bs, h => by
    obtain ⟨v, r, rfl, h1, h2⟩ := dpall_uncons h
    exact .cons h1 (each_dp f h2)
theorem dp_each {K : PySem.W.Frag} {H : Hp} {β : Type} (f : β → PyData) : ∀ {xs : List V} {bs : List β}, EachIs (fun v b => Dp K H v (f b)) xs bs → DpAll K H xs (bs.map f)
  | _, _, .nil => .nil
  | _, _, .cons h t => .cons h (dp_each f t)
theorem each_vals {β : Type} {G : V → β → Prop} : ∀ {xs : List V} {us : List Value} {bs : List β}, Vals xs us → EachIs G xs bs → EachIs (fun u b => ∃ x, RelV x u ∧ G x b) us bs
  | _, _, _, .nil, .nil => .nil
  | _, _, _, .cons r t, .cons h t' => .cons ⟨_, r, h⟩ (each_vals t t')
theorem vals_each {β : Type} {G : V → β → Prop} : ∀ {us : List Value} {bs : List β}, EachIs (fun u b => ∃ x, RelV x u ∧ G x b) us bs → ∃ xs, Vals xs us ∧ EachIs G xs bs
  | _, _, .nil => ⟨[], .nil, .nil⟩
  | _, _, .cons ⟨x, r, h⟩ t => by
    obtain ⟨xs, h1, h2⟩ := vals_each t
    exact ⟨x :: xs, .cons r h1, .cons h h2⟩
/-- sorted(rows of numbers) -/
def rSortN (K : PySem.W.Frag) : List V → Hp → VK → Prop := fun vs H Q => ∃ (l : Addr) (xs : List V) (rs : List (List Nat)) (G : V → List Nat → Prop), vs = [.ref l] ∧ SqL K H l xs ∧ EachIs G xs rs ∧ (∀ v b, G v b → Dp K H v (tupN b)) ∧ ((∀ r ∈ rs, r ≠ []) ∨ rs.length ≤ 1) ∧
  ∀ p ys, H p = none → EachIs G ys (isort rs) → Q (.ref p) (upd H p (.lst ys))
theorem short_out {vs out : List Value} (h : vs.length ≤ 1) (hb : out.Perm vs) : out = vs := by
  match vs, h, hb with
  | [], _, hb => exact List.Perm.eq_nil hb
  | [v], _, hb => exact List.perm_singleton.mp hb
theorem isort_short {rs : List (List Nat)} (h : rs.length ≤ 1) : isort rs = rs := by
  match rs, h with
  | [], _ => rfl
  | [r], _ => rfl
section
variable {X : Cx}
theorem cr_sortN (hu : X.A.units + 3 < cLine) : CallR X (.builtin "sorted") (rSortN X.K) := by
  intro pins s σ H vs us Q I r h
  obtain ⟨l, xs, rs, G, rfl, hs, hG, hD, hk, q⟩ := h
  obtain ⟨its, rv, hl, hz⟩ := I.list hs
  rw [Vals.ref1 r]
  have hlen : its.length = rs.length := (rv.length.symm).trans hG.length
  have e0 := each_vals rv hG
  by_cases h1 : rs.length ≤ 1
  · refine SrtO.sorted_ord (ltv := fun _ _ => false) ⟨(fun _ _ h => by cases h), fun _ _ _ _ _ => rfl⟩ hl.isList (by rw [← rv.length]; exact hz) (fun h2 => absurd h2 (by omega)) fun out _ hb => ?_
    have ho : out = its := short_out (by omega) hb.perm
    subst ho
    obtain ⟨ep, he'⟩ := PyProof.Rows.sortedAll_at s.heap out out.toArray
    exact ⟨.ref _, upd H (s.heap.objs.size + 1) (.lst xs), I.laid (t' := s.toks) (fun _ _ => PyProof.Rows.sortedAll_old) (Nat.le_succ _) ⟨hz, out, ep, rv, he'⟩, rfl, q _ _ (I.hok.fresh (Nat.le_succ _)) (by rw [isort_short h1]; exact hG)⟩
  · have hne : ∀ r ∈ rs, r ≠ [] := hk.resolve_right h1
    refine sorted_data (enc := tupN) (R := fun u b => ∃ x, RelV x u ∧ G x b) hl.isList e0 (e0.mono fun u b ⟨x, rx, g⟩ => Dp.reads I _ _ _ (hD _ _ g) rx) (AllAlike.of alike_tupN) (.inl fun d hd => ?_) (by rw [← hlen, ← rv.length]; exact hz) (fun b _ => ?_) fun out ho eo => ?_
    · obtain ⟨r, hr, rfl⟩ := List.mem_map.mp hd
      cases r with
      | nil => exact absurd rfl (hne _ hr)
      | cons x r => exact ⟨natD x, r.map natD, rfl⟩
    · have e : (tupN b).depth = 1 := by
        unfold tupN
        rw [natD_map, PyData.depth, depth_ints]
      rw [e]
      omega
    · rw [merge_isort] at eo
      obtain ⟨ys, hy, gy⟩ := vals_each eo
      obtain ⟨ep, he'⟩ := PyProof.Rows.sortedAll_at s.heap its out.toArray
      have hz2 : ys.length ≤ sizeLine := by rw [hy.length, ho, ← hlen, ← rv.length]; exact hz
      exact ⟨.ref _, upd H (s.heap.objs.size + 1) (.lst ys), I.laid (t' := s.toks) (fun _ _ => PyProof.Rows.sortedAll_old) (Nat.le_succ _) ⟨hz2, out, ep, hy, he'⟩, rfl, q _ _ (I.hok.fresh (Nat.le_succ _)) gy⟩
variable {c : Ct} {ms : List Addr} {σ : L2.St} {H : Hp} {a b e : Expr} {pos : Pos}
theorem pl_sortN {p : Pos} {rs : List (List Nat)} (hu : c.A.units + 3 < cLine) (hk : (∀ r ∈ rs, r ≠ []) ∨ rs.length ≤ 1) (ha : PD c ms σ H e (.list (rs.map tupN))) (hm : c.mg "sorted" = none) (hg : GlC c "sorted" := by rfl) (ns : NSt e := by intro _ _; rfl) : PL c ms σ H (.Call (.Name "sorted" p) [e] [] pos) ((isort rs).map tupN) := fun t H1 Q S q =>
  ⟨tCB (rSortN c.K) (EA c [e]), fun X hX => pe_callB (hX.K ▸ cr_sortN (by rw [hX.A]; exact hu)) (hg.of hX) (by rw [hX.mg]; exact hm) (by decide +kernel) (EA.any hX _) (by decide) (by decide) (ns X []) (by rfl), pad_cons ha pad_nil (fun X => ns X []) t H1 _ S fun vs H2 S2 dvs => by
    obtain ⟨v, rfl, hv⟩ := dpall1 dvs
    obtain ⟨p, xs, rfl, hs, hx⟩ := dp_list hv
    refine ⟨p, xs, rs, fun v b => Dp c.K (cut ms H2) v (tupN b), rfl, cut_le.seq hs, each_dp tupN hx, fun v b g => dp_mono cut_le g, hk, fun l ys hl hy => ?_⟩
    exact q _ _ _ (S2.trans (same_new hl)) (S2.free hl) upd_same (dpall_mono (cut_more hl) (dp_each tupN hy))⟩
/-- min(rows of numbers) -/
def rMinN (K : PySem.W.Frag) : List V → Hp → VK → Prop := fun vs H Q => ∃ (l : Addr) (xs : List V) (rs : List (List Nat)), vs = [.ref l] ∧ SqL K H l xs ∧ DpAll K H xs (rs.map tupN) ∧ rs ≠ [] ∧
  ∀ (i : Nat) (v : V) (r : List Nat), xs[i]? = some v → rs[i]? = some r → (∀ y ∈ rs, lexN y r = false) → Q v H
theorem minOf_least (x : Tup Int) : ∀ xs : List (Tup Int), (minOf x xs = x ∨ minOf x xs ∈ xs) := by
  intro xs
  induction xs generalizing x with
  | nil => exact .inl rfl
  | cons y ys ih =>
    show minOf (if DatumOrd.lt y x = true then y else x) ys = x ∨ minOf (if DatumOrd.lt y x = true then y else x) ys ∈ y :: ys
    split
    · rcases ih y with h | h
      · exact .inr (by rw [h]; exact List.mem_cons_self)
      · exact .inr (List.mem_cons_of_mem _ h)
    · rcases ih x with h | h
      · exact .inl h
      · exact .inr (List.mem_cons_of_mem _ h)
def tupI (r : List Nat) : Tup Int := ⟨r.map fun n : Nat => (n : Int)⟩
theorem lt_tupI (a b : List Nat) : DatumOrd.lt (tupI a) (tupI b) = lexN a b := listLt_nat a b
theorem nats_inj : ∀ {a b : List Nat}, a.map natD = b.map natD → a = b
  | [], [], _ => rfl
  | [], _ :: _, h => by cases h
  | _ :: _, [], h => by cases h
  | x :: a, y :: b, h => by
    rw [List.map_cons, List.map_cons] at h
    injection h with h1 h2
    have e : (x : Int) = (y : Int) := PyData.int.inj h1
    rw [nats_inj h2, Int.ofNat.inj e]
theorem tupN_inj {a b : List Nat} (h : tupN a = tupN b) : a = b := nats_inj (PyData.tuple.inj h)
theorem toD_tupI (r : List Nat) : Datum.toD (tupI r) = tupN r := by
  show PyData.tuple ((r.map fun n : Nat => (n : Int)).map PyData.int) = tupN r
  rw [← natD_map]
  rfl
theorem vals_back {xs : List V} {us : List Value} {i : Nat} {u : Value} (r : Vals xs us) (h : us[i]? = some u) : ∃ x, xs[i]? = some x ∧ RelV x u := by
  have hi : i < us.length := (List.getElem?_eq_some_iff.mp h).1
  have hx : xs[i]? = some (xs[i]'(by rw [r.length]; exact hi)) := List.getElem?_eq_getElem _
  obtain ⟨u', h1, h2⟩ := r.get hx
  rw [h] at h1
  exact ⟨_, hx, by rw [Option.some.inj h1]; exact h2⟩
theorem minOf_rows : ∀ (xs : List (List Nat)) (x : List Nat), ∃ r, minOf (tupI x) (xs.map tupI) = tupI r ∧ (r = x ∨ r ∈ xs) ∧ lexN x r = false ∧ ∀ y ∈ xs, lexN y r = false
  | [], x => ⟨x, rfl, .inl rfl, lexN_irr x, fun y hy => by cases hy⟩
  | z :: zs, x => by
    have e : minOf (tupI x) ((z :: zs).map tupI) = minOf (if lexN z x = true then tupI z else tupI x) (zs.map tupI) := by
      show minOf (if DatumOrd.lt (tupI z) (tupI x) = true then tupI z else tupI x) (zs.map tupI) = _
      rw [lt_tupI]
    rw [e]
    by_cases h : lexN z x = true
    · rw [if_pos h]
      obtain ⟨r, e1, e2, e3, e4⟩ := minOf_rows zs z
      refine ⟨r, e1, .inr ?_, lexN_tr _ _ _ e3 (lexN_asym _ _ h), fun y hy => ?_⟩
      · rcases e2 with e2 | e2
        · rw [e2]; exact List.mem_cons_self
        · exact List.mem_cons_of_mem _ e2
      · rcases List.mem_cons.mp hy with rfl | hy
        · exact e3
        · exact e4 y hy
    · rw [if_neg h]
      have h' := Bool.eq_false_iff.mpr h
      obtain ⟨r, e1, e2, e3, e4⟩ := minOf_rows zs x
      refine ⟨r, e1, ?_, e3, fun y hy => ?_⟩
      · rcases e2 with e2 | e2
        · exact .inl e2
        · exact .inr (List.mem_cons_of_mem _ e2)
      · rcases List.mem_cons.mp hy with rfl | hy
        · exact lexN_tr _ _ _ e3 h'
        · exact e4 y hy
end
section
variable {X : Cx}
theorem cr_minN (hc : X.calm = true) (hu : X.A.units + 3 < cLine) : CallR X (.builtin "min") (rMinN X.K) := by
  intro pins s σ H vs us Q I r h
  obtain ⟨l, xs, rs, rfl, hs, hx, hne, q⟩ := h
  obtain ⟨its, rv, hl, hz⟩ := I.list hs
  rw [Vals.ref1 r]
  cases rs with
  | nil => exact absurd rfl hne
  | cons x rs =>
    have e : ∀ l : List (List Nat), l.map tupN = (l.map tupI).map Datum.toD := fun l => by
      rw [List.map_map]
      exact List.map_congr_left fun r _ => (toD_tupI r).symm
    obtain ⟨as, ha⟩ := Dp.readsAll I _ _ _ hx rv
    have ha' : HoldAll s.heap its.toArray.toList (tupI x :: rs.map tupI) := ⟨as, by rw [← List.map_cons, ← e]; exact ha⟩
    obtain ⟨m, e1, e2, e3, e4⟩ := minOf_rows rs x
    refine min_list_datum (I.ok.hd hc) hl.isList ha' (by show X.A.units + 1 + (0 + 1) < cLine; omega) fun i v h' tk hi hH hk => ?_
    rw [e1] at hH
    obtain ⟨bs, rb⟩ := hH
    rw [toD_tupI] at rb
    obtain ⟨y, hy, ry⟩ := vals_back rv (show its[i]? = some v by simpa using hi)
    obtain ⟨d, hd, dy⟩ := dpall_of hx hy
    rw [List.getElem?_map] at hd
    cases hr : (x :: rs)[i]? with
    | none => rw [hr] at hd; cases hd
    | some r' =>
      rw [hr] at hd
      have ed : tupN r' = d := Option.some.inj hd
      rw [← ed] at dy
      obtain ⟨cs, rc⟩ := Dp.reads I _ _ _ dy ry
      have em : r' = m := tupN_inj (alike_unique _ _ _ _ _ (alike_tupN _ _) (PyProof.Rows.Reads.keeps hk rc) rb)
      refine ⟨y, H, I.kept hk, ry, q i y m hy (by rw [hr, em]) fun z hz => ?_⟩
      rcases List.mem_cons.mp hz with rfl | hz
      · exact e3
      · exact e4 z hz
variable {c : Ct} {ms : List Addr} {σ : L2.St} {H : Hp} {a b e : Expr} {pos : Pos}
theorem pd_minN {p : Pos} {rs : List (List Nat)} {m : List Nat} (hu : c.A.units + 3 < cLine) (h1 : m ∈ rs) (h2 : ∀ y ∈ rs, lexN y m = false) (ha : PD c ms σ H e (.list (rs.map tupN))) (hm : c.mg "min" = none) (hg : GlC c "min" := by rfl) (ns : NSt e := by intro _ _; rfl) : PD c ms σ H (.Call (.Name "min" p) [e] [] pos) (tupN m) :=
  pd_callB (fun X hX => hX.K ▸ cr_minN hX.calm (by rw [hX.A]; exact hu)) (fun vs H Q t h q => by
    obtain ⟨v, rfl, hv⟩ := dpall1 h
    obtain ⟨p, xs, rfl, hs, hx⟩ := dp_list hv
    refine ⟨p, xs, rs, rfl, cut_le.seq hs, dpall_mono cut_le hx, List.ne_nil_of_mem h1, fun i v r hi hr hl => ?_⟩
    obtain ⟨d, hd, dv⟩ := dpall_of hx hi
    rw [List.getElem?_map, hr] at hd
    have ed : tupN r = d := Option.some.inj hd
    have er : r = m := lexN_anti _ _ (h2 r (List.mem_of_getElem? hr)) (hl m h1)
    rw [← ed, er] at dv
    exact q _ _ (Same.refl _) dv) (pad_cons ha pad_nil (fun X => ns X [])) hm (by decide +kernel) hg (he := fun X => ns X [])
end
end SK
set_option maxHeartbeats 4000000
namespace SK
open PySem PySem.Spec PyProof.Rows L2
/-! ### set(xs), xs a list of ints: told so that it can be walked -/
abbrev newSetO (w : World) : Obj := { cls := .type "set", dict := none, data := .set #[] 0 (.fresh 0 0 (!w.params.followText "set-order")) }
section
variable {P : Program} {w : World} {A : Around} {E : Value → Shared → Prop} {s : Shared}
/-- what the set made at size s holds in the end -/
def MadeI (w : World) (s : Shared) (ns : List Int) (h' : Heap) (k : Nat) : Prop :=
  SetR w h' s.heap.objs.size (fun j => decide (j ∈ ns)) k ∧ k ≤ ns.length ∧ ∀ b o, s.heap.get? b = some o → h'.get? b = some o
theorem set_of_list {l : Addr} {items : Array Value} (ns : List Int) {Q : Value → Shared → Prop} (noh : A.handled = none) (lst : s.heap.IsList l items) (ii : IntsAre items.toList ns) (few : ns.length + 1 < scanBound)
    (fin : ∀ (h' : Heap) (tk k : Nat), MadeI w s ns h' k → Q (.ref s.heap.objs.size) { s with heap := h', toks := tk }) : wpAny (model P w) A (call (.type "set") [.ref l]) Q E s := by
  have size : items.size = ns.length := by have q := IntsAre.length ii; rwa [Array.length_toList] at q
  obtain ⟨mc, mt, mro⟩ := F.called_set.mro
  have made := F.called_set.made
  have sub := F.called_set.sub
  refine wpAny_call (codeAny_of_tree (show wpAny _ _ (callAny (.type "set") _) _ _ _ from wpAny_pure ⟨Code.quiet_builtin _ (by decide +kernel), codeAny_builtin F.entry_type_call ?_⟩))
  rw [Around.under_plain (weight_type_call_type "set" [.ref l] []) rfl]
  have nt := F.called_set.notType
  have cc := F.called_set.canCreate
  have tc := F.typeCall_set_1 (.ref l)
  repeat (any_goals (first | assumption | wp_step))
  refine codeAny_mono (code_set_led1 (.ref l) (E := E) (Q₁ := fun u s1 => u = .ref s.heap.objs.size ∧ s1 = { s with heap := s.heap.push (newSetO w) }) ⟨rfl, rfl⟩) fun r s1 hr => ?_
  cases r with
  | error e => exact hr
  | ok fl =>
    cases fl with
    | ret u =>
      obtain ⟨rfl, rfl⟩ := hr
      have at1 : (s.heap.push (newSetO w)).get? s.heap.objs.size = some (newSetO w) := Heap.get?_push_size _ rfl
      have ty : Shared.TypeIs { s with heap := s.heap.push (newSetO w) } (.ref s.heap.objs.size) "set" := ⟨_, at1, rfl⟩
      have il := F.called_set.init.lookup
      have ib := F.called_set.init.bind (.ref s.heap.objs.size)
      repeat (any_goals (first | assumption | wp_step))
      refine codeAny_mono (codeAny_call_builtin (R := wants (fun r s2 => r = .none ∧ ∃ h' tk k, s2 = { s with heap := h', toks := tk } ∧ MadeI w s ns h' k) E) F.called_set.init.plain F.entry_set_init (check_set_init_1 ty ?_)) fun r2 s2 hr2 => ?_
      · obtain ⟨ol, hol, hcl, nl, hdl⟩ := lst
        obtain ⟨ocls, odict, odata, oslots⟩ := ol
        simp only at hcl hdl
        subst hcl
        subst hdl
        have at2 : (s.heap.push (newSetO w)).get? l = some { cls := .type "list", dict := odict, data := .seq items nl, slots := oslots } := Heap.get?_push_of_some _ hol
        have f1 := F.sub_list_set
        have f2 := F.sub_list_frozenset
        have f3 : (Value.type "list" == Value.type "dict") = false := by decide
        have lst1 : (s.heap.push (newSetO w)).IsList l items := ⟨_, at2, rfl, nl, rfl⟩
        unfold Builtin.«set.__init__» noKeywords Builtin.Frozenset.updateFrom
        generalize hPI : pyIter = PI
        wp_walk
        subst hPI
        refine wpAny_pyIter_list lst1 (wpAny_bind (wpAny_runValue ?_))
        have lt : l < s.heap.objs.size := Heap.lt_size hol
        have noh3 : A.in1.in1.in1.handled = none := by simp [noh]
        have sz1 : (s.heap.push (newSetO w)).objs.size = s.heap.objs.size + 1 := Heap.size_push ..
        have apart : s.heap.objs.size ∉ [(s.heap.push (newSetO w)).objs.size, l] := by
          rw [sz1]
          intro hm
          rcases List.mem_cons.mp hm with e | hm
          · exact absurd e (Nat.ne_of_lt (Nat.lt_succ_self _))
          · exact absurd (List.mem_singleton.mp hm) (Nat.ne_of_gt lt)
        refine set_update_ints ((Walks.list noh3 _ l (by rw [sz1]; exact Nat.ne_of_lt (Nat.lt_succ_of_lt lt)) items).toS) s.heap.objs.size apart ns size few (fun i v hv => ?val) (items.size - 0) 0 _ (by omega) (Nat.zero_le _) ⟨⟨_, Heap.get?_push_size _ rfl, rfl, rfl⟩, lst1.push _⟩ ?start ?stop
        case val =>
          have hi : i < ns.length := by rw [← size]; exact (Array.getElem?_eq_some_iff.mp hv).1
          obtain ⟨t, e⟩ := PyProof.Rows.IntsAre.int_at ii i v (by rw [Array.getElem?_toList]; exact hv)
          exact ⟨ns[i], t, List.getElem?_eq_getElem hi, by rw [e, List.getD_eq_getElem?_getD, List.getElem?_eq_getElem hi] <;> rfl⟩
        case start => exact ⟨0, Nat.le_refl 0, setR_new_at (Heap.get?_push_of_some _ at1)⟩
        case stop =>
          intro s3 k hm hk hS
          obtain ⟨h3, g3, d3, tk3, os3⟩ := s3
          obtain rfl : g3 = s.gens := hm.gens
          obtain rfl : d3 = s.drawn := hm.drawn
          obtain rfl : os3 = s.os := hm.os
          show wpAny _ _ _ _ _ _
          refine wpAny_pure ?_
          show wpAny _ _ (ret Value.none) _ _ _
          rw [size] at hk
          refine wpAny_pure ⟨rfl, h3, tk3, k, rfl, hS, hk, fun b o e => hm.heap b o (fun hb => ?_) (Heap.get?_push_of_some _ (Heap.get?_push_of_some _ e))⟩
          have b0 : b < s.heap.objs.size := Heap.lt_size e
          rcases List.mem_cons.mp hb with e1 | hb
          · exact absurd e1 (Nat.ne_of_lt b0)
          · have e2 := List.mem_singleton.mp hb
            rw [sz1] at e2
            exact absurd e2 (Nat.ne_of_lt (Nat.lt_succ_of_lt b0))
      · cases r2 with
        | error e => exact hr2
        | ok fl2 =>
          cases fl2 with
          | ret r =>
            obtain ⟨rfl, h', tk, k, rfl, hM⟩ := hr2
            repeat (any_goals (first | assumption | wp_step))
            exact fin _ _ _ hM
          | _ => exact hr2.elim
    | _ => exact hr.elim
end
/-- set(xs), xs a list of ints -/
def rSetI (K : PySem.W.Frag) (w : World) : List V → Hp → VK → Prop := fun vs H Q => ∃ (l : Addr) (ns : List Int), vs = [V.ref l] ∧ SqL K H l (ns.map V.int) ∧ ns.length < 64 ∧
  ∀ a k, H a = none → k < 64 → Q (.ref a) (upd H a (SetO w a (fun j => decide (j ∈ ns)) k))
section
variable {X : Cx}
theorem cr_setI (hc : X.calm = true) : CallR X (.type "set") (rSetI X.K X.w) := by
  intro pins s σ H vs us Q I r h
  obtain ⟨l, ns, rfl, hs, hf, q⟩ := h
  obtain ⟨its, rv, hl, hz⟩ := I.list hs
  rw [Vals.ref1 r]
  refine set_of_list ns (I.ok.hd hc) hl.isList (by simpa using rv.ints) (by unfold scanBound; omega) fun h' tk k hM => ?_
  obtain ⟨h1, h2, h3⟩ := hM
  exact ⟨.ref _, upd H s.heap.objs.size (SetO X.w s.heap.objs.size (fun j => decide (j ∈ ns)) k), I.laid (t' := tk) h3 (Nat.le_refl _) (setO_new h1), rfl, q _ _ (I.hok.fresh (Nat.le_refl _)) (by omega)⟩
variable {c : Ct} {ms : List Addr} {σ : L2.St} {H : Hp} {a b e : Expr} {pos : Pos}
/-- sorted(set(xs)), xs a list of ints: rise is they, rising -/
theorem pd_sortSetI {p p2 q2 : Pos} {ns rise : List Int} (h0 : ns.length < 64) (h1 : ∀ k, k ∈ rise ↔ k ∈ ns) (h2 : rise.Pairwise (· < ·)) (ha : PD c ms σ H e (.list (ns.map .int))) (hm : c.mg "sorted" = none) (hm2 : c.mg "set" = none) (hg : GlC c "sorted" := by rfl) (hg2 : GlC c "set" := by rfl) (ns2 : NSt e := by intro _ _; rfl) :
    PD c ms σ H (.Call (.Name "sorted" p) [.Call (.Name "set" p2) [e] [] q2] [] pos) (.list (rise.map .int)) := fun t H1 Q S q =>
  ⟨tCB (rSortedSet c.w) (tCons (tCB (rSetI c.K c.w) (EA c [e])) tNil), fun X hX => hX.w ▸ hX.K ▸ pe_callB (cr_sortedSet hX.calm) (hg.of hX) (by rw [hX.mg]; exact hm) (by decide +kernel) (pa_cons (pe_callTy (cr_setI hX.calm) (hg2.of hX) (by rw [hX.mg]; exact hm2) (by decide +kernel) (EA.any hX _) (by decide) (by decide) (ns2 X []) (by rfl)) pa_nil (by rfl)) (by decide) (by decide) (by rfl) (by rfl),
    pad_cons ha pad_nil (fun X => ns2 X []) t H1 _ S fun vs H2 S2 dvs => by
    obtain ⟨v, rfl, hv⟩ := dpall1 dvs
    obtain ⟨l, xs, rfl, hs, hx⟩ := dp_list hv
    rw [dpall_ints hx] at hs
    refine ⟨l, ns, rfl, cut_le.seq hs, h0, fun a k hn hk => ⟨a, _, k, rfl, upd_same, hk, fun rs p hp hmem _ hnp => ?_⟩⟩
    have e : rs = rise := SKM.rise_uniq _ _ hp h2 fun x => by rw [hmem, decide_eq_true_eq, h1]
    rw [e]
    have tt := ((t.up S).up S2).up (same_new hn (o := SetO c.w a (fun j => decide (j ∈ ns)) k))
    exact q _ _ ((S2.trans (same_new hn)).trans (same_new hnp)) (dp_newL tt hnp of_ints)⟩
end
end SK
set_option maxHeartbeats 4000000
namespace SKM
theorem moved_snoc (e : Edge) : ∀ (E : List Edge) (f : Fnd), moved (E ++ [e]) f = (moved E f || better (E.foldl relax f) e)
  | [], f => by
    show (better f e || false) = (false || better f e)
    cases better f e <;> rfl
  | e0 :: E, f => by
    show (better f e0 || moved (E ++ [e]) (relax f e0)) = (better f e0 || moved E (relax f e0) || better (E.foldl relax (relax f e0)) e)
    rw [moved_snoc e E]
    cases better f e0 <;> rfl
end SKM
namespace SK
open PySem PySem.Spec PyProof.Rows L2 SKM
/-! ### more for a heap that changes in places -/
theorem same_upd {H H' : Hp} {p : Addr} {o : HO} (S : Same H H') (hn : H p = none) : Same H (upd H' p o) := fun b x e => by
  rw [upd_ne (ne_of_none e hn)]
  exact S _ _ e
theorem cut_chg {ms : List Addr} {H H' : Hp} {p : Addr} {o : HO} (S : Same (cut ms H) (cut ms H')) (h : p ∈ ms) : Same (cut ms H) (cut ms (upd H' p o)) := by rw [cut_mut h]; exact S
section
variable {c : Ct} {ms : List Addr} {σ : L2.St} {H : Hp} {a b e tg : Expr} {pos : Pos}
theorem eg_name {i : Nat} {x : Str} {v : V} {Q : L2.St → Hp → Prop} (hN : c.N.Nodup) (q : Q (σ.set i (some v)) H) (hi : c.N[i]? = some x := by rfl) (hx : c.sc.names.lookup x = some .local := by rfl) : EG c (.Name x pos) v σ H Q :=
  ⟨gName i, fun X hX => pg_name (by rw [hX.N]; exact hN) (by rw [hX.N]; exact hi) (by rw [hX.sc]; exact .inl hx) (by rw [hX.sc]; exact .inr hx), q⟩
theorem eg_tup2 {t1 t2 : Expr} {kk : Nat} {d1 d2 : PyData} {v : V} {Q : L2.St → Hp → Prop} (hv : Dp c.K (cut ms H) v (.tuple [d1, d2])) (q : ∀ x1 x2, Dp c.K (cut ms H) x1 d1 → Dp c.K (cut ms H) x2 d2 → EG c t1 x1 σ H fun σ1 H1 => ∃ v r, [x2] = v :: r ∧ EG c t2 v σ1 H1 fun σ2 H2 => r = [] ∧ Q σ2 H2)
    (hs1 : ∀ X : Cx, (assignEach [t1, t2] X.env).map (·.2) = assign t1 X.env :: (assignEach [t2] X.env).map (·.2) := by intro _; rfl) (hs2 : ∀ X : Cx, (assignEach [t2] X.env).map (·.2) = assign t2 X.env :: (assignEach [] X.env).map (·.2) := by intro _; rfl)
    (he : ∀ X : Cx, (assignEach [t1, t2] X.env).length = 2 := by intro _; rfl) (hst : ∀ X : Cx, (assignEach [t1, t2] X.env).findIdx? (·.1) = none := by intro _; rfl) : EG c (.Tuple [t1, t2] kk pos) v σ H Q := by
  obtain ⟨p, xs, rfl, hs, hx⟩ := dp_tup hv
  obtain ⟨x1, x2, rfl, h1, h2⟩ := dpall2 hx
  exact ⟨gTup c.K 2 (gCons (EG c t1) (gCons (EG c t2) gNil)), fun X hX => hX.K ▸ pg_tup hX.calm (pgs_cons (EG.any hX _) (pgs_cons (EG.any hX _) pgs_nil (hs2 X)) (hs1 X)) (he X) (hst X),
    p, [x1, x2], rfl, sqt_mono cut_le hs, rfl, x1, [x2], rfl, q x1 x2 h1 h2⟩
end
/-! ### the shapes of data -/
def fldV : Option Int → V
  | none => .non
  | some i => .int i
def fldD : Option Int → PyData
  | none => .none
  | some i => .int i
def wayD (w : Way) : PyData := .tuple [natD w.u, natD w.v, .int w.lo, .int w.hi]
def landD (n : Nat) (ws : List Way) : PyData := .tuple [natD n, .tuple (ws.map wayD)]
def intsT (s : List Int) : PyData := .tuple (s.map .int)
theorem fld_dp {K : PySem.W.Frag} {H : Hp} : ∀ o : Option Int, Dp K H (fldV o) (fldD o)
  | none => .non
  | some i => .int i
theorem dp_fld {K : PySem.W.Frag} {H : Hp} {v : V} : ∀ {o : Option Int}, Dp K H v (fldD o) → v = fldV o
  | none, h => dp_none h
  | some i, h => dp_int h
theorem dpall_fld {K : PySem.W.Frag} {H : Hp} : ∀ {f : Fnd} {vs : List V}, DpAll K H vs (f.map fldD) → vs = f.map fldV
  | [], _, h => dpall0 h
  | o :: f, _, h => by
    obtain ⟨v, r, rfl, h1, h2⟩ := dpall_uncons h
    rw [dp_fld h1, dpall_fld h2]
    rfl
theorem fld_dpall {K : PySem.W.Frag} {H : Hp} : ∀ f : Fnd, DpAll K H (f.map fldV) (f.map fldD)
  | [] => .nil
  | o :: f => .cons (fld_dp o) (fld_dpall f)
theorem isN_fld (o : Option Int) : isN (fldD o) = o.isNone := by cases o <;> rfl
theorem rep_none (n : Nat) : (List.replicate n [PyData.none]).flatten = (List.replicate n (none : Option Int)).map fldD := by
  induction n with
  | zero => rfl
  | succ n ih =>
    rw [List.replicate_succ, List.flatten_cons, ih]
    rfl
theorem fld_at {f : Fnd} {u : Nat} (h : u < f.length) : atI (f.map fldV) (u : Int) = some (fldV (f.getD u none)) := by
  refine atI_nat ?_
  rw [List.getElem?_map, List.getElem?_eq_getElem h, List.getD_eq_getElem?_getD, List.getElem?_eq_getElem h]
  rfl
section
variable {P : Program} {w : World} {K : PySem.W.Frag} {mg : Str → Option Value} {base : Heap}
/-! ### arrive -/
def RArrive : List PyData → PyData → Prop := fun ds d => ∃ n ws st s, ds = [landD n ws, natD st, intsT s] ∧ st < n ∧ n ≤ 1000 ∧ WsOk ws n ∧ InS ws s ∧ d = .tuple ((arr n ws st s).map fldD)
theorem edg_pairs (ws : List Way) (s : List Int) : (pairs (ws.map wayD) (s.map .int)).length = (edg ws s).length := by
  unfold pairs edg
  rw [List.length_zipWith, List.length_zipWith, List.length_map, List.length_map]
theorem pairs_edg {ws : List Way} {s : List Int} {i : Nat} {d : PyData} (h : (pairs (ws.map wayD) (s.map .int))[i]? = some d) : ∃ (w : Way) (t : Int), ws[i]? = some w ∧ (edg ws s)[i]? = some (w.u, w.v, t) ∧ d = .tuple [wayD w, .int t] := by
  obtain ⟨x, y, h1, h2, rfl⟩ := pairs_get h
  rw [List.getElem?_map] at h1 h2
  obtain ⟨w, hw, rfl⟩ := Option.map_eq_some_iff.mp h1
  obtain ⟨t, ht, rfl⟩ := Option.map_eq_some_iff.mp h2
  exact ⟨w, t, hw, edg_get.mpr ⟨w, hw, ht, rfl, rfl⟩, rfl⟩
def mvAt (E : List Edge) (f : Fnd) : Nat → Bool
  | 0 => true
  | k + 1 => moved E (passes E k f)
theorem fn_arrive {f : Addr} {fd : FuncData} (a : At K mg "arrive" sArrive f fd ["land", "start", "spreads"]) (T : Mg mg) (k : Nat) : Fn1 P w K mg base CX0 (k + 1) "arrive" ["land", "start", "spreads"] (spP K RArrive) :=
  a.fnP scArrive (fun ds d h => by obtain ⟨_, _, _, _, rfl, _⟩ := h; rfl) fun A X H vs Q ms ds d hX hr t hvs hR q => by
    obtain ⟨n, ws, st, s, rfl, hst, hn1, O, hs, rfl⟩ := hR
    obtain ⟨v0, v1, v2, rfl, d0, d1, d2⟩ := dpall3 hvs
    have hland : ∀ {ms' : List Addr} {H' : Hp} {σ' : L2.St} {pos p2 p3 : Pos} {j}, σ'[0]? = some (some v0) → Same (cut ms H) (cut ms' H') → PD (ctOf P w K mg base nArrive sArrive A) ms' σ' H' (.Subscript (.Name "land" pos) (.Constant (.int 1) j p3) p2) (.tuple (ws.map wayD)) := fun h0 S => pd_ixT (pd_name (i := 0) h0 (dp_mono S d0)) pd_int rfl
    have rp : (List.replicate (n : Int).toNat [PyData.none]).flatten = (List.replicate n (none : Option Int)).map fldD := by rw [Int.toNat_natCast]; exact rep_none n
    refine ss_set 3 hX (PL.go (ms := ms) (pl_rep (ds := [.none]) (k := (n : Int)) (by omega) (by omega) (by simp; exact Nat.le_trans hn1 (by decide)) (pl_lst (pad_cons pd_none pad_nil) (by decide)).pt (pd_ixT (pd_name (i := 0) rfl d0) pd_int rfl)) t fun p xs H1 S1 hp0 hp1 hx => ?_)
    rw [rp] at hx
    obtain rfl := dpall_fld hx
    have tm : p ∈ p :: ms := List.mem_cons_self
    have c1 := same_more (ms := ms) S1 hp0
    have t1 : Trk (p :: ms) H1 := (t.up S1).more hp1
    refine ss_asg hX (PD.go (ms := p :: ms) pd_int t1 fun v H2 S2 hv => ?_)
    obtain rfl := dp_int hv
    refine eg_sub (ms := p :: ms) (i := 3) (p := p) (t1.up S2) rfl (S2 _ _ hp1) (pd_name (i := 1) rfl (dp_mono (c1.trans (cut_same S2)) d1)) (ixN_nat (by simpa using hst)) fun H3 S3 => ?_
    have e0 : ((List.replicate n (none : Option Int)).map fldV).set st (.int 0) = (init n st).map fldV := by unfold init; rw [List.map_set]; rfl
    rw [e0]
    have S13 : Same H (upd H3 p (.lst ((init n st).map fldV))) := same_upd (S1.trans (S2.trans S3)) hp0
    refine ss_set 4 hX (PD.go (ms := p :: ms) pd_bool (((t1.up S2).up S3).upd) fun v H4 S4 hv => ?_)
    obtain rfl := dp_bool hv
    have G := edg_good O hs
    refine ss_while hX (fun m σ' H' => ∃ kk u5 u6 u7 u8, kk ≤ n + 1 ∧ m = n + 1 - kk ∧ σ' = [some v0, some v1, some v2, some (.ref p), some (.bl (mvAt (edg ws s) (init n st) kk)), u5, u6, u7, u8] ∧ H' p = some (.lst ((passes (edg ws s) kk (init n st)).map fldV)) ∧ Same H H' ∧ Trk (p :: ms) H') ⟨_, 0, none, none, none, none, Nat.zero_le _, rfl, rfl, S4 _ _ upd_same, S13.trans S4, (((t1.up S2).up S3).upd).up S4⟩ fun m σ' H' hW => ?_
    obtain ⟨kk, u5, u6, u7, u8, hkk, rfl, rfl, hp, SH, tH⟩ := hW
    refine PB.goB (ms := p :: ms) (pb_val (pd_name (i := 4) rfl (.bl _))) tH fun H5 S5 => ?_
    cases hmv : mvAt (edg ws s) (init n st) kk with
    | true =>
      refine iteT ?_
      have hkn : kk ≤ n := by
        rcases Nat.lt_or_ge n kk with h | h
        · obtain rfl : kk = n + 1 := by omega
          have := moved_end G hst (k := n) (by omega)
          rw [show mvAt (edg ws s) (init n st) (n + 1) = moved (edg ws s) (passes (edg ws s) n (init n st)) from rfl, this] at hmv
          cases hmv
        · exact h
      refine ⟨fun σ2 H2 => ∃ u5 u6 u7 u8, σ2 = [some v0, some v1, some v2, some (.ref p), some (.bl (mvAt (edg ws s) (init n st) (kk + 1))), u5, u6, u7, u8] ∧ H2 p = some (.lst ((passes (edg ws s) (kk + 1) (init n st)).map fldV)) ∧ Same H H2 ∧ Trk (p :: ms) H2, fun σ2 H2 ⟨a5, a6, a7, a8, e, h1, h2, h3⟩ => ⟨n + 1 - (kk + 1), by omega, kk + 1, a5, a6, a7, a8, by omega, rfl, e, h1, h2, h3⟩, ?_⟩
      refine ss_set 4 hX (PD.go (ms := p :: ms) pd_bool (tH.up S5) fun v H6 S6 hv => ?_)
      obtain rfl := dp_bool hv
      have c6 : Same (cut ms H) (cut (p :: ms) H6) := same_more (SH.trans (S5.trans S6)) hp0
      refine ss_for (ms := p :: ms) hX (pdi_zipT (hland rfl c6) (pd_name (i := 2) rfl (dp_mono c6 d2)) T.zip) ((tH.up S5).up S6) fun H7 S7 => ?_
      have hf0 : (passes (edg ws s) kk (init n st)).length = n := by rw [passes_len, init_len]
      refine ⟨fun i σ2 H2 => ∃ u5 u6 u7 u8, σ2 = [some v0, some v1, some v2, some (.ref p), some (.bl (moved ((edg ws s).take i) (passes (edg ws s) kk (init n st)))), u5, u6, u7, u8] ∧ H2 p = some (.lst ((((edg ws s).take i).foldl relax (passes (edg ws s) kk (init n st))).map fldV)) ∧ Same H H2 ∧ Trk (p :: ms) H2 ∧ Same (cut (p :: ms) H7) (cut (p :: ms) H2),
        ⟨u5, u6, u7, u8, rfl, S7 _ _ (S6 _ _ (S5 _ _ hp)), SH.trans (S5.trans (S6.trans S7)), ((tH.up S5).up S6).up S7, Same.refl _⟩, fun i σ2 H2 ⟨_, _, _, _, _, _, _, h3, h4⟩ => ⟨h4, h3⟩, fun i d x σ2 H2 H2' hi hP S8 hx => ?_, fun σ2 H2 ⟨a5, a6, a7, a8, e, h1, h2, h3, _⟩ => ?_⟩
      · obtain ⟨a5, a6, a7, a8, rfl, h1, h2, h3, h4⟩ := hP
        obtain ⟨w1, t1', hw, he, rfl⟩ := pairs_edg hi
        refine (gd_tup (gds_cons (gd_tup (gds_cons (gd_name (i := 5) scArrive.nd) (gds_cons (gd_name (i := 6) scArrive.nd) (gds_cons (gd_name (i := 7) scArrive.nd) (gds_cons (gd_name (i := 7) scArrive.nd) gds_nil)))) rfl) (gds_cons (gd_name (i := 8) scArrive.nd) gds_nil)) rfl : GD _ (p :: ms) _ (.tuple [wayD w1, .int t1']) _) x _ H2' _ hx fun us hus => ?_
        obtain ⟨b1, b2, b3, b4, b5, rfl, e1, e2, e3, e4, e5⟩ := dpall5 hus
        have hwm := List.mem_of_getElem? hw
        have hu := O.near _ hwm
        have hv := O.far _ hwm
        generalize hF : ((edg ws s).take i).foldl relax (passes (edg ws s) kk (init n st)) = F at h1
        have hFl : F.length = n := by rw [← hF, fold_len, hf0]
        have h1' : H2' p = some (.lst (F.map fldV)) := S8 _ _ h1
        have t8 := h3.up S8
        have emv : moved ((edg ws s).take (i + 1)) (passes (edg ws s) kk (init n st)) = (moved ((edg ws s).take i) (passes (edg ws s) kk (init n st)) || better F (w1.u, w1.v, t1')) := by
          rw [List.take_add_one, he, ← hF]
          exact moved_snoc _ _ _
        have eF : ((edg ws s).take (i + 1)).foldl relax (passes (edg ws s) kk (init n st)) = relax F (w1.u, w1.v, t1') := by
          rw [List.take_add_one, he, List.foldl_append, hF]
          rfl
        have ixu : ∀ {σ' : L2.St} {H' : Hp} {q1 q2 q3 : Pos}, σ'[3]? = some (some (.ref p)) → σ'[5]? = some (some b1) → Same H2' H' → PD (ctOf P w K mg base nArrive sArrive A) (p :: ms) σ' H' (.Subscript (.Name "found" q1) (.Name "near" q2) q3) (fldD (F.getD w1.u none)) := fun g3 g5 S =>
          pd_ixM (i := 3) g3 (S _ _ h1') (pd_name (i := 5) g5 (dp_mono (cut_same S) e1)) (fld_at (by rw [hFl]; exact hu)) (fld_dp _)
        have ixv : ∀ {σ' : L2.St} {H' : Hp} {q1 q2 q3 : Pos}, σ'[3]? = some (some (.ref p)) → σ'[6]? = some (some b2) → Same H2' H' → PD (ctOf P w K mg base nArrive sArrive A) (p :: ms) σ' H' (.Subscript (.Name "found" q1) (.Name "far" q2) q3) (fldD (F.getD w1.v none)) := fun g3 g5 S =>
          pd_ixM (i := 3) g3 (S _ _ h1') (pd_name (i := 6) g5 (dp_mono (cut_same S) e2)) (fld_at (by rw [hFl]; exact hv)) (fld_dp _)
        refine ss_if (ms := p :: ms) (k := better F (w1.u, w1.v, t1')) hX ?_ t8 (fun hb H9 S9 => ?_) fun hb H9 S9 => ?_
        · cases hA : F.getD w1.u none with
          | none =>
            rw [hA] at ixu
            refine (pb_and2 (k' := false) (pb_notN (ixu rfl rfl (Same.refl _))) fun z => nomatch z).cast ?_
            unfold better
            dsimp only
            rw [hA]
            rfl
          | some dA =>
            rw [hA] at ixu
            cases hB : F.getD w1.v none with
            | none =>
              rw [hB] at ixv
              refine (pb_and2 (pb_notN (ixu rfl rfl (Same.refl _))) fun _ => pb_or2 (k' := false) (pb_isN (ixv rfl rfl (Same.refl _))) fun z => nomatch z).cast ?_
              unfold better
              dsimp only
              rw [hA, hB]
              rfl
            | some dB =>
              rw [hB] at ixv
              refine (pb_and2 (pb_notN (ixu rfl rfl (Same.refl _))) fun _ => pb_or2 (pb_isN (ixv rfl rfl (Same.refl _))) fun _ => pb_lt (pd_add (ixu rfl rfl (Same.refl _)) (pd_name (i := 8) rfl e5)) (ixv rfl rfl (Same.refl _))).cast ?_
              unfold better
              dsimp only
              rw [hA, hB]
              rfl
        · obtain ⟨dA, hA, _⟩ := better_some hb
          dsimp only at hA
          rw [hA] at ixu
          refine ss_asg hX (PD.go (ms := p :: ms) (pd_tup (pad_cons (pd_add (ixu rfl rfl S9) (pd_name (i := 8) rfl (dp_mono (cut_same S9) e5))) (pad_cons pd_bool pad_nil)) (by show 2 ≤ sizeLine; decide)) (t8.up S9) fun v H10 S10 hv10 => ?_)
          refine eg_tup2 (ms := p :: ms) hv10 fun x1 x2 y1 y2 => ?_
          obtain rfl := dp_int y1
          obtain rfl := dp_bool y2
          refine eg_sub (ms := p :: ms) (i := 3) (p := p) ((t8.up S9).up S10) rfl (S10 _ _ (S9 _ _ h1')) (pd_name (i := 6) rfl (dp_mono (cut_same (S9.trans S10)) e2)) (ixN_nat (by rw [List.length_map, hFl]; exact hv)) fun H11 S11 => ?_
          refine ⟨_, _, rfl, eg_name (i := 4) scArrive.nd ⟨rfl, ss_nil (ss_nil ?_)⟩⟩
          refine ⟨_, _, _, _, by rw [emv, hb, Bool.or_true]; rfl, ?_, ?_, ?_, ?_⟩
          · rw [upd_same, eF]
            unfold relax
            rw [if_pos hb, List.map_set]
            dsimp only
            rw [hA]
            rfl
          · exact same_upd (h2.trans (S8.trans (S9.trans (S10.trans S11)))) hp0
          · exact (((t8.up S9).up S10).up S11).upd
          · exact cut_chg (h4.trans (cut_same (S8.trans (S9.trans (S10.trans S11))))) tm
        · refine ss_nil (ss_nil ?_)
          refine ⟨_, _, _, _, by rw [emv, hb, Bool.or_false]; rfl, ?_, h2.trans (S8.trans S9), t8.up S9, h4.trans (cut_same (S8.trans S9))⟩
          rw [S9 _ _ h1', eF]
          unfold relax
          rw [hb]
          rfl
      · have hlen : (pairs (ws.map wayD) (s.map .int)).length = (edg ws s).length := edg_pairs ws s
        rw [hlen, List.take_length] at e h1
        exact ss_nil ⟨a5, a6, a7, a8, e, h1, h2, h3⟩
    | false =>
      refine iteF ?_
      cases kk with
      | zero => cases hmv
      | succ j =>
        have hst' := passes_still (k := j) (f := init n st) hmv
        have e1 : passes (edg ws s) (j + 1) (init n st) = arr n ws st s := by
          unfold arr
          rw [hst' 1, ← hst' (n - j)]
          congr 1
          omega
        rw [e1] at hp
        refine ss_ret hX (PD.go (ms := ms) (pd_tupleL (pd_name (i := 3) rfl (.lst (.inl (.inl (cut_of (t.new hp0) (S5 _ _ hp)))) (fld_dpall _))) T.tuple) (t.up (SH.trans S5)) fun v H6 S6 hv => q _ _ (SH.trans (S5.trans S6)) hv)
end
end SK
set_option maxHeartbeats 4000000
namespace SKM
theorem flat_len {α β : Type} (f : α → List β) (m : Nat) : ∀ l : List α, (∀ x ∈ l, (f x).length ≤ m) → (l.flatMap f).length ≤ l.length * m
  | [], _ => by simp
  | x :: l, h => by
    rw [List.flatMap_cons, List.length_append, List.length_cons, Nat.succ_mul]
    have h1 := h x List.mem_cons_self
    have h2 := flat_len f m l fun y hy => h y (List.mem_cons_of_mem _ hy)
    omega
theorem rf_len {ws : List Way} {p : Nat} (h7 : ws.length ≤ 7) : ∀ k h gone, (rf ws p k h gone).length ≤ 7 ^ k
  | 0, _, _ => Nat.zero_le _
  | k + 1, h, gone => by
    rw [rf_succ]
    have hp : 1 ≤ 7 ^ k := Nat.pow_pos (by decide)
    split
    · rw [Nat.pow_succ]
      show 1 ≤ _
      omega
    · refine Nat.le_trans (flat_len _ (7 ^ k) _ fun x _ => ?_) ?_
      · split
        · rw [List.length_map]
          exact rf_len h7 k _ _
        · exact Nat.zero_le _
      · rw [List.length_zipIdx, Nat.pow_succ, Nat.mul_comm (7 ^ k)]
        exact Nat.mul_le_mul_right _ h7
theorem rf_short {ws : List Way} {p : Nat} : ∀ k h gone R, R ∈ rf ws p k h gone → R.length < k
  | 0, _, _, _, hR => by cases hR
  | k + 1, h, gone, R, hR => by
    rcases mem_rf.mp hR with ⟨_, rfl⟩ | ⟨_, i, w, R', _, _, _, hR', rfl⟩
    · exact Nat.succ_pos k
    · exact Nat.succ_lt_succ (rf_short k _ _ _ hR')
theorem flat_take_len {α β : Type} (f : α → List β) (m : Nat) (l : List α) (i : Nat) (h : ∀ x ∈ l, (f x).length ≤ m) : ((l.take i).flatMap f).length ≤ l.length * m := by
  refine Nat.le_trans (flat_len f m _ fun x hx => h x (List.mem_of_mem_take hx)) (Nat.mul_le_mul_right _ ?_)
  rw [List.length_take]
  omega
theorem flat_snoc {α β : Type} (f : α → List β) {l : List α} {i : Nat} {x : α} (h : l[i]? = some x) : (l.take (i + 1)).flatMap f = (l.take i).flatMap f ++ f x := by
  rw [List.take_add_one, h, List.flatMap_append]
  simp
end SKM
namespace SK
open PySem PySem.Spec PyProof.Rows L2 SKM
section
variable {P : Program} {w : World} {K : PySem.W.Frag} {mg : Str → Option Value} {base : Heap}
/-- the lands that are asked -/
structure Lnd (n : Nat) (ws : List Way) : Prop where
  ok : WsOk ws n
  n6 : n ≤ 6
  w7 : ws.length ≤ 7
def roadD (r : List Nat) : PyData := tupN r
def RRf (k : Nat) : List PyData → PyData → Prop := fun ds d => ∃ n ws h p gone j, ds = [landD n ws, natD h, natD p, tupN gone] ∧ Lnd n ws ∧ h < n ∧ gone.Nodup ∧ (∀ x ∈ gone, x < n) ∧ gone ≠ [] ∧ j + gone.length = n + 1 ∧ j ≤ k ∧ d = .list ((rf ws p j h gone).map tupN)
theorem eqN (a b : Nat) : decide ((a : Int) = (b : Int)) = decide (a = b) := decide_eq_decide.mpr (by omega)
theorem numb_ways {ws : List Way} {i : Nat} {d : PyData} (h : (numb (ws.map wayD))[i]? = some d) : ∃ w, ws[i]? = some w ∧ ws.zipIdx[i]? = some (w, i) ∧ d = .tuple [natD i, wayD w] := by
  obtain ⟨x, hx, rfl⟩ := numb_get h
  rw [List.getElem?_map] at hx
  obtain ⟨w, hw, rfl⟩ := Option.map_eq_some_iff.mp hx
  exact ⟨w, hw, by rw [List.getElem?_zipIdx, hw]; simp, rfl⟩
theorem fn_roads_from {f : Addr} {fd : FuncData} (a : At K mg "roads_from" sRoadsFrom f fd ["land", "here", "place", "gone"]) (T : Mg mg) (k : Nat) : Fn1 P w K mg base CX0 (k + 1) "roads_from" ["land", "here", "place", "gone"] (spP K (RRf k)) := by
  have len : ∀ k ds d, RRf k ds d → ds.length = ["land", "here", "place", "gone"].length := fun k ds d h => by obtain ⟨_, _, _, _, _, _, rfl, _⟩ := h; rfl
  induction k with
  | zero =>
    refine a.fnP scRoadsFrom (len _) fun A X H vs Q ms ds d hX hr t hvs hR q => ?_
    obtain ⟨n, ws, h, p, gone, j, _, L, _, hn, hlt, _, hj, hk, _⟩ := hR
    have := nodup_lt hn hlt
    omega
  | succ k IH =>
    refine a.fnP scRoadsFrom (len _) fun A X H vs Q ms ds d hX hr t hvs hR q => ?_
    obtain ⟨n, ws, h, p, gone, j, rfl, L, hh, hn, hlt, hg0, hj, hk, rfl⟩ := hR
    obtain ⟨v0, v1, v2, v3, rfl, d0, d1, d2, d3⟩ := dpall4 hvs
    have hgl := nodup_lt hn hlt
    obtain ⟨j, rfl⟩ : ∃ j', j = j' + 1 := ⟨j - 1, by omega⟩
    have hg1 : 1 ≤ gone.length := List.length_pos_iff.mpr hg0
    have hj6 : j ≤ 5 := by have := L.n6; omega
    rw [rf_succ] at q
    refine ss_if (ms := ms) hX ((pb_eqI (pd_name (i := 1) rfl d1) (pd_name (i := 2) rfl d2)).cast (eqN h p)) t (fun hk1 H1 S1 => ?_) fun hk1 H1 S1 => ?_
    · rw [if_pos (of_decide_eq_true hk1)] at q
      refine ss_ret hX (PD.go (ms := ms) (pd_lst (pad_cons (pd_tup pad_nil (by decide)) pad_nil) (by decide)) (t.up S1) fun v H2 S2 hv => q _ _ (S1.trans S2) hv)
    · rw [if_neg (of_decide_eq_false hk1)] at q
      refine ss_nil ?_
      refine ss_set 4 hX (PL.go (ms := ms) (pl_lst pad_nil (by decide)) (t.up S1) fun p1 xs H2 S2 hp0 hp1 hx => ?_)
      obtain rfl := dpall0 hx
      have S12 := S1.trans S2
      have hp00 : H p1 = none := S1.free hp0
      have c2 := same_more (ms := ms) S12 hp00
      have t2 : Trk (p1 :: ms) H2 := (t.up S12).more hp1
      have tm : p1 ∈ p1 :: ms := List.mem_cons_self
      generalize hG : (fun e : Way × Nat => if e.1.u = h ∧ e.1.v ∉ gone then (rf ws p j e.1.v (gone ++ [e.1.v])).map (e.2 :: ·) else []) = G at q
      have hGl : ∀ x ∈ ws.zipIdx, (G x).length ≤ 7 ^ j := fun x _ => by
        rw [← hG]
        dsimp only
        split
        · rw [List.length_map]; exact rf_len L.w7 j _ _
        · exact Nat.zero_le _
      have hsz : ws.zipIdx.length * 7 ^ j ≤ 117649 := by
        rw [List.length_zipIdx]
        have h1 : 7 ^ j ≤ 7 ^ 5 := Nat.pow_le_pow_right (by decide) hj6
        exact Nat.le_trans (Nat.mul_le_mul L.w7 h1) (by decide)
      refine ss_for (ms := p1 :: ms) hX (pdi_enumT (pd_ixT (pd_name (i := 0) rfl (dp_mono c2 d0)) pd_int rfl) T.enum) t2 fun H3 S3 => ?_
      refine ⟨fun i σ' H' => ∃ u5 u6 u7 u8 u9 xs, σ' = [some v0, some v1, some v2, some v3, some (.ref p1), u5, u6, u7, u8, u9] ∧ H' p1 = some (.lst xs) ∧ DpAll K (cut (p1 :: ms) H') xs (((ws.zipIdx.take i).flatMap G).map tupN) ∧ Same H H' ∧ Trk (p1 :: ms) H' ∧ Same (cut (p1 :: ms) H3) (cut (p1 :: ms) H'),
        ⟨none, none, none, none, none, [], rfl, S3 _ _ hp1, .nil, S12.trans S3, t2.up S3, Same.refl _⟩, fun i σ2 H2 ⟨_, _, _, _, _, _, _, _, _, _, h3, h4⟩ => ⟨h4, h3⟩, fun i d x σ2 H4 H5 hi hP S5 hx => ?_, fun σ2 H2 ⟨a5, a6, a7, a8, a9, xs, e, h1, h2, h3, h4, _⟩ => ?_⟩
      · obtain ⟨a5, a6, a7, a8, a9, xs, rfl, h1, h2, h3, h4, h5⟩ := hP
        obtain ⟨w1, hw, hz, rfl⟩ := numb_ways hi
        refine (gd_tup (gds_cons (gd_name (i := 5) scRoadsFrom.nd) (gds_cons (gd_tup (gds_cons (gd_name (i := 6) scRoadsFrom.nd) (gds_cons (gd_name (i := 7) scRoadsFrom.nd) (gds_cons (gd_name (i := 8) scRoadsFrom.nd) (gds_cons (gd_name (i := 8) scRoadsFrom.nd) gds_nil)))) rfl) gds_nil)) rfl : GD _ (p1 :: ms) _ (.tuple [natD i, wayD w1]) _) x _ H5 _ hx fun us hus => ?_
        obtain ⟨b1, b2, b3, b4, b5, rfl, e1, e2, e3, e4, e5⟩ := dpall5 hus
        have hwm := List.mem_of_getElem? hw
        have S05 : Same H H5 := h3.trans S5
        have c5 : Same (cut ms H) (cut (p1 :: ms) H5) := same_more S05 hp00
        have t5 := h4.up S5
        have hp5 : H5 p1 = some (.lst xs) := S5 _ _ h1
        have eG : ((ws.zipIdx.take (i + 1)).flatMap G).map tupN = ((ws.zipIdx.take i).flatMap G).map tupN ++ (G (w1, i)).map tupN := by rw [flat_snoc G hz, List.map_append]
        refine ss_if (ms := p1 :: ms) (k := decide (w1.u = h) && !decide (w1.v ∈ gone)) hX (pb_and2 ((pb_eqI (pd_name (i := 6) rfl e2) (pd_name (i := 1) rfl (dp_mono c5 d1))).cast (eqN _ _)) fun _ => pb_notInN (pd_name (i := 7) rfl e3) (pd_name (i := 3) rfl (dp_mono c5 d3))) t5 (fun hb H6 S6 => ?_) fun hb H6 S6 => ?_
        · rw [Bool.and_eq_true] at hb
          have hb1 := of_decide_eq_true hb.1
          have hb2 : w1.v ∉ gone := by simpa using hb.2
          have eg : G (w1, i) = (rf ws p j w1.v (gone ++ [w1.v])).map (i :: ·) := by
            rw [← hG]
            dsimp only
            rw [if_pos ⟨hb1, hb2⟩]
          have c6 : Same (cut ms H) (cut (p1 :: ms) H6) := same_more (S05.trans S6) hp00
          refine ss_expr hX (es_ext1 (ms := p1 :: ms) (i := 4) (p := p1) (xs := xs) (ds := (G (w1, i)).map tupN) (t5.up S6) rfl (S6 _ _ hp5) ?_ (pl_of (lc_map (own := [("own", 9)]) (bf := fun m => [(9, ((rf ws p j w1.v (gone ++ [w1.v])).map tupN).getD m .none)]) scRoadsFrom.nd (by show blkC nRoadsFrom (defScope sRoadsFrom) _ _ = true; decide +kernel) (pdi_list (pd_call IH hr (d := .list ((rf ws p j w1.v (gone ++ [w1.v])).map tupN)) (ds := [landD n ws, natD w1.v, natD p, tupN (gone ++ [w1.v])]) ?_ ?_)) ?_ ?_ ?_ ?_ ?_)).pt fun vs H7 S7 hvs => ?_)
          · rw [dpall_len h2, List.length_map, List.length_map]
            have h8 := flat_take_len G (7 ^ j) ws.zipIdx i hGl
            have h9 := hGl _ (List.mem_of_getElem? hz)
            have h10 : 7 ^ j ≤ 7 ^ 5 := Nat.pow_le_pow_right (by decide) hj6
            have h11 : (117649 + 7 ^ 5 : Nat) ≤ sizeLine := by decide
            omega
          · refine ⟨n, ws, w1.v, p, gone ++ [w1.v], j, rfl, L, L.ok.far _ hwm, ?_, fun x hx => ?_, by simp, by rw [List.length_append]; simp; omega, by omega, rfl⟩
            · rw [List.nodup_append]
              exact ⟨hn, by simp, fun x hx y hy e => hb2 (by rw [List.mem_singleton.mp hy] at e; rw [← e]; exact hx)⟩
            · rcases List.mem_append.mp hx with hx | hx
              · exact hlt x hx
              · rw [List.mem_singleton.mp hx]; exact L.ok.far _ hwm
          · refine (pad_cons (pd_name (i := 0) rfl (dp_mono c6 d0)) (pad_cons (pd_name (i := 7) rfl (dp_mono (cut_same S6) e3)) (pad_cons (pd_name (i := 2) rfl (dp_mono c6 d2)) (pad_cons ?_ pad_nil))))
            refine PD.cast (pd_tup (pad_star (pd_name (i := 3) rfl (dp_mono c6 d3)) (pad_cons (pd_name (i := 7) rfl (dp_mono (cut_same S6) e3)) pad_nil)) ?_) ?_
            · rw [List.length_append, List.length_map]
              exact Nat.le_trans (show gone.length + 1 ≤ 100 by have := L.n6; omega) (by decide)
            · unfold tupN
              rw [List.map_append]
              rfl
          · rw [eg, List.length_map, List.length_map, List.length_map]
          · rw [List.length_map]
            exact Nat.le_trans (rf_len L.w7 j _ _) (Nat.le_trans (Nat.pow_le_pow_right (by decide) hj6) (by decide))
          · intro m dd ms' hd
            rw [getD_of hd]
            exact gd_name scRoadsFrom.nd
          · intro m pp hpp
            rw [List.mem_singleton.mp hpp]
            exact List.mem_singleton.mpr rfl
          · intro m dd ee vs ms' H8 hd hee S8 Sc hvs
            rw [List.map_singleton, getD_of hd] at hvs
            obtain ⟨v9, rfl, hv9⟩ := dpall1 hvs
            rw [List.getElem?_map] at hd
            obtain ⟨r, hr1, rfl⟩ := Option.map_eq_some_iff.mp hd
            rw [eg, List.getElem?_map, List.getElem?_map, hr1] at hee
            have ee1 : tupN (i :: r) = ee := Option.some.inj hee
            rw [← ee1]
            refine PD.cast (pd_tup (pad_cons (pd_name (i := 5) rfl (dp_mono (Same.trans (cut_same S6) Sc) e1)) (pad_star (pd_name (i := 9) rfl hv9) pad_nil)) ?_) ?_
            · rw [List.length_cons, List.append_nil, List.length_map]
              have := rf_short _ _ _ _ (List.mem_of_getElem? hr1)
              exact Nat.le_trans (show r.length + 1 ≤ 100 by omega) (by decide)
            · unfold tupN
              rw [List.append_nil]
              rfl
          · refine ss_nil (ss_nil ?_)
            refine ⟨_, _, _, _, _, _, rfl, upd_same, ?_, same_upd (S05.trans (S6.trans S7)) hp00, ((t5.up S6).up S7).upd, cut_chg (h5.trans (cut_same (S5.trans (S6.trans S7)))) tm⟩
            rw [cut_mut tm, eG]
            exact dpall_app (dpall_mono (cut_same (S5.trans (S6.trans S7))) h2) hvs
        · refine ss_nil (ss_nil ?_)
          refine ⟨_, _, _, _, _, _, rfl, S6 _ _ hp5, ?_, S05.trans S6, t5.up S6, h5.trans (cut_same (S5.trans S6))⟩
          have eg : G (w1, i) = [] := by
            rw [← hG]
            dsimp only
            rw [if_neg ?_]
            rintro ⟨g1, g2⟩
            rw [decide_eq_true g1, decide_eq_false g2] at hb
            cases hb
          rw [eG, eg, List.map_nil, List.append_nil]
          exact dpall_mono (cut_same (S5.trans S6)) h2
      · have hlen : (numb (ws.map wayD)).length = ws.zipIdx.length := by rw [numb_len, List.length_map, List.length_zipIdx]
        rw [hlen, List.take_length] at h2
        rw [e]
        refine ss_ret hX (PD.go (ms := ms) (pd_name (i := 4) rfl (.lst (.inl (.inl (cut_of (t.new hp00) h1))) (dpall_mono (cut_sub (ms := p1 :: ms) fun m hm => List.mem_cons_of_mem _ hm) h2))) (t.up h3) fun v H6 S6 hv => q _ _ (h3.trans S6) hv)
end
end SK
set_option maxHeartbeats 2000000
namespace SK
open PySem PySem.Spec PyProof.Rows L2
/-! ### defs that may let an exception out -/
def EX (X : Cx) (e : Expr) : TE := fun σ H Q => ∃ t : TE, PE X e t ∧ t σ H Q
theorem EX.any (X : Cx) (e : Expr) : PE X e (EX X e) := ⟨fun pins s σ H Q I ⟨t, p, q⟩ => p.run pins s σ H Q I q⟩
def AX (X : Cx) (es : List Expr) : TA := fun σ H Q => ∃ t : TA, PA X es t ∧ t σ H Q
theorem AX.any (X : Cx) (es : List Expr) : PA X es (AX X es) := ⟨fun pos pins s σ H Q I ⟨t, p, q⟩ => p.run pos pins s σ H Q I q⟩
section
variable {X : Cx} {c : Ct} {st : Stmt} {rest : List Stmt} {D : Ends} {σ : L2.St} {H : Hp} {a e tg : Expr} {es : List Expr} {pos : Pos} {ms : List Addr} {d : PyData} {ds : List PyData}
theorem ex_of (h : c.In X) {Q : VK} (q : ES c e σ H Q) : EX X e σ H Q := ⟨ES c e, ES.any h e, q⟩
theorem ax_of (h : c.In X) {Q : List V → Hp → Prop} (q : EA c es σ H Q) : AX X es σ H Q := ⟨EA c es, EA.any h es, q⟩
theorem ax_cons {Q : List V → Hp → Prop} (q : EX X e σ H fun v H1 => AX X es σ H1 fun vs H2 => Q (v :: vs) H2) (hs : starEach (e :: es) X.env = (false, eval e X.env) :: starEach es X.env := by rfl) : AX X (e :: es) σ H Q := ⟨tCons (EX X e) (AX X es), pa_cons (EX.any X e) (AX.any X es) hs, q⟩
theorem PAd.go (h : PAd c ms σ H es ds) (t : Trk ms H) {Q : List V → Hp → Prop} (q : ∀ vs H', Same H H' → DpAll c.K (cut ms H') vs ds → Q vs H') : EA c es σ H Q := h t H Q (Same.refl H) q
/-- what a def may let out -/
structure OwnX (c : Ct) (X : Cx) (E : XK) : Prop extends Own c X where
  tk : Takes X (fun cls d _ H => E cls d H)
theorem OwnX.pass {E : XK} (h : OwnX c X E) : Passes (L2.CX X.prog X.w) X E := passes_call h.tk fun _ _ _ _ q => q
theorem ex_call {CX : CXT} {E : XK} {k : Nat} {x : Str} {ps : List Str} {sp : Sp} {p : Pos} {Q : VK} (hX : c.In X) (hp : Passes CX X E) (F : c.Fn CX k x ps sp) (hr : Room k c.A) (h : AX X (e :: es) σ H fun vs H1 => sp vs H1 Q E) (hg : GlC c x := by rfl)
    (hdb : (x == ("__debug__" : Str)) = false := by decide) (he : starEach (e :: es) X.env = (false, eval e X.env) :: starEach es X.env := by rfl) (hpl : (backTo pos (starEach es X.env)).any (·.1) = false := by rfl) : EX X (.Call (.Name x p) (e :: es) [] pos) σ H Q := by
  obtain ⟨⟨f, fd, F, hm, hk, hb⟩, _⟩ := F
  refine ⟨tCall sp [] E (AX X (e :: es)), ?_, ?_⟩
  · refine pe_call (CX := CX) (k := k) (f := f) (fd := fd) (ps := ps) (ds := []) ?_ (by rw [hX.A]; exact hr) (hg.of hX) (by rw [hX.mg]; exact hm) (by rw [hX.K]; exact hk) (by rw [hX.K]; exact hb.b) .nil hp (AX.any X _) hdb he hpl
    rw [hX.P, hX.w, hX.K, hX.mg, hX.base]
    exact F
  · show AX X (e :: es) σ H fun vs H1 => sp (vs ++ []) H1 Q E
    simpa only [List.append_nil] using h
theorem OwnX.passC {E : XK} (h : OwnX c X E) : Passes (L2.CX c.P c.w) X E := by
  have := h.pass
  rwa [h.i.P, h.i.w] at this
theorem ss_setX (i : Nat) {x : Str} {p : Pos} (hX : Own c X) (q : EX X e σ H fun v H' => SS X rest D (σ.set i (some v)) H') (hi : c.N[i]? = some x := by rfl) (hx : Loc c.sc x := by first | exact Or.inl rfl | exact Or.inr rfl) (hs : swapsWith e (some (.Name x p)) pos.line c.e0 = pure false := by rfl) :
    SS X (.Assign [.Name x p] e pos :: rest) D σ H := ss_cons (ps_set (by rw [hX.i.N]; exact hX.nd) (by rw [hX.i.N]; exact hi) (by rw [hX.i.sc]; exact hx) (EX.any X e) (by rw [sw_congr _ _ _ hX.i.e0]; exact hs) (.inl (hX.fn x))) q
theorem ss_retX (hX : Own c X) (q : EX X e σ H D.rt) : SS X (.Return (some e) pos :: rest) D σ H := ss_cons (ps_ret (EX.any X e)) q
theorem ss_raise {E : XK} {t : L2.St → Hp → XK → Prop} (hX : OwnX c X E) (hm : PMk X e t) (q : t σ H E) : SS X (.Raise (some e) none pos :: rest) D σ H := ss_cons (ps_raise hX.i.calm hX.tk hm) q
end
section
variable {P : Program} {w : World} {K : PySem.W.Frag} {mg : Str → Option Value} {base : Heap}
theorem Fn1.imp {CX : CXT} {k : Nat} {x : Str} {ps : List Str} {sp sp' : Sp} (F : Fn1 P w K mg base CX k x ps sp) (h : ∀ vs H Q E, sp' vs H Q E → sp vs H Q E) : Fn1 P w K mg base CX k x ps sp' := by
  obtain ⟨⟨f, fd, F, r⟩, p⟩ := F
  exact ⟨⟨f, fd, F.imp h, r⟩, p⟩
/-- what comes of it: a value, NoPlace with this number, CanNot -/
def spX (K : PySem.W.Frag) (CP CC : Addr) (R : List PyData → PyData → Prop) (RP : List PyData → Int → Prop) (RC : List PyData → Prop) : Sp := fun vs H Q E => ∃ ms ds, Trk ms H ∧ DpAll K (cut ms H) vs ds ∧
  ((∃ d, R ds d ∧ ∀ v H', Same H H' → Dp K (cut ms H') v d → Q v H') ∨
   (∃ n, RP ds n ∧ ∀ dd H', Same H H' → H dd = none → H' dd = some (.xd [(("number" : Str), .int n)]) → E (.ref CP) (some dd) H') ∨
   (RC ds ∧ ∀ H', Same H H' → E (.ref CC) none H'))
theorem At.fnX {x : Str} {st : Stmt} {f : Addr} {fd : FuncData} {ps N : List Str} {k : Nat} {sp : Sp} (a : At K mg x st f fd ps) (S : FnScope N ps (defScope st)) (len : ∀ vs H Q E, sp vs H Q E → vs.length = ps.length)
    (body : ∀ (A : Around) (X : Cx) (H : Hp) (vs : List V) (Q : VK) (E : XK), OwnX (ctOf P w K mg base N st A) X E → Room k A → sp vs H Q E →
      SS X (defBody st) { nx := fun _ H' => Q .non H', rt := Q } (start N vs) H) : Fn1 P w K mg base (L2.CX P w) (k + 1) x ps sp := by
  refine fn1_ofX (a.F.okX S len fun cdv A outer s H vs Q E hr h => ?_) a.m a.F.kp a.bl
  exact body (A.deeper (envOfC x (defScope st) s.heap.objs.size f cdv)) _ H vs Q E ⟨⟨⟨rfl, rfl, rfl, rfl, rfl, rfl, rfl, rfl, rfl, fun _ _ => rfl⟩, rfl, S.nd, passes_of rfl⟩, takes_of rfl rfl rfl rfl⟩ hr h
theorem Fn1.plain {CP CC : Addr} {k : Nat} {x : Str} {ps : List Str} {R : List PyData → PyData → Prop} {RP : List PyData → Int → Prop} {RC : List PyData → Prop} (F : Fn1 P w K mg base (L2.CX P w) k x ps (spX K CP CC R RP RC)) : Fn1 P w K mg base (L2.CX P w) k x ps (spP K R) :=
  F.imp fun vs H Q E ⟨ms, ds, d, t, h, r, q⟩ => ⟨ms, ds, t, h, .inl ⟨d, r, q⟩⟩
/-- NoPlace(e) is made -/
def tMkNP (C : Addr) (ta : TA) : L2.St → Hp → XK → Prop := fun σ H Q => ta σ H fun vs H1 => ∃ v, vs = [v] ∧ ∀ d, H1 d = none → Q (.ref C) (some d) (upd H1 d (.xd [(("number" : Str), v)]))
def NPok (P : Program) (w : World) (K : PySem.W.Frag) (mg : Str → Option Value) (base : Heap) (C : Addr) : Prop :=
  ∀ (X : Cx), X.prog = P → X.w = w → X.K = K → X.mg = mg → X.base = base → Room 2 X.A → Gl X "NoPlace" → ∀ (e : Expr) (ta : TA) (p pos : Pos), PA X [e] ta → starEach [e] X.env = (false, eval e X.env) :: starEach [] X.env → PMk X (.Call (.Name "NoPlace" p) [e] [] pos) (tMkNP C ta)
def CNok (P : Program) (w : World) (K : PySem.W.Frag) (mg : Str → Option Value) (base : Heap) (C : Addr) : Prop :=
  ∀ (X : Cx), X.prog = P → X.w = w → X.K = K → X.mg = mg → X.base = base → Room 2 X.A → Gl X "CanNot" → ∀ (p pos : Pos), PMk X (.Call (.Name "CanNot" p) [] [] pos) (fun _ H Q => Q (.ref C) none H)
end
end SK
set_option maxHeartbeats 4000000
namespace SK
open PySem PySem.Spec PyProof.Rows L2 SKM
section
variable {P : Program} {w : World} {K : PySem.W.Frag} {mg : Str → Option Value} {base : Heap}
def LandIn (L : PyData) (n : Nat) (ws : List Way) : Prop := okD 3 L = true ∧ tupF 3 L = landD n ws
def RTup (n : Nat) : List PyData → PyData → Prop := fun ds d => ∃ x, ds = [x] ∧ okD n x = true ∧ d = tupF n x
theorem okD_ints (n : Nat) : ∀ qs : List Int, (qs.map PyData.int).all (okD n) = true
  | [] => rfl
  | q :: qs => by
    rw [List.map_cons, List.all_cons, okD_ints n qs]
    cases n <;> rfl
theorem tupF_ints (n : Nat) : ∀ qs : List Int, (qs.map PyData.int).map (tupF n) = qs.map PyData.int
  | [] => rfl
  | q :: qs => by
    rw [List.map_cons, List.map_cons, tupF_ints n qs]
    cases n <;> rfl
theorem okD_intsT {n : Nat} {qs : List Int} (h : qs.length ≤ 1000) : okD (n + 1) (.tuple (qs.map .int)) = true := by
  show (decide ((qs.map PyData.int).length ≤ 1000) && (qs.map PyData.int).all (okD n)) = true
  rw [okD_ints, Bool.and_true, decide_eq_true_eq, List.length_map]
  exact h
theorem tupF_intsT {n : Nat} {qs : List Int} : tupF (n + 1) (.tuple (qs.map .int)) = .tuple (qs.map .int) := by
  show PyData.tuple ((qs.map PyData.int).map (tupF n)) = _
  rw [tupF_ints]
/-! ### sure_places -/
def OkP (n : Nat) (q : Int) : Prop := 0 ≤ q ∧ q < n
def spSure (K : PySem.W.Frag) (CP : Addr) : Sp := fun vs H Q E => ∃ (ms : List Addr) (L : PyData) (n : Nat) (ws : List Way) (qs : List Int), Trk ms H ∧ DpAll K (cut ms H) vs [L, .tuple (qs.map .int)] ∧ LandIn L n ws ∧ qs.length ≤ 10 ∧
  ((∀ q ∈ qs, OkP n q) → ∀ v H', Same H H' → Dp K (cut ms H') v (landD n ws) → Q v H') ∧
  (∀ (i : Nat) (x : Int), qs[i]? = some x → (∀ (j : Nat) (y : Int), j < i → qs[j]? = some y → OkP n y) → ¬ OkP n x → ∀ dd H', Same H H' → H dd = none → H' dd = some (.xd [(("number" : Str), .int x)]) → E (.ref CP) (some dd) H')
theorem fn_sure_places {f : Addr} {fd : FuncData} {CP : Addr} {k : Nat} (a : At K mg "sure_places" sSurePlaces f fd ["land", "numbers"]) (T : Mg mg) (hk : 4 ≤ k) (F : Fn1 P w K mg base CX0 k "tupled" ["value"] (spP K (RTup 3))) (np : NPok P w K mg base CP) : Fn1 P w K mg base (L2.CX P w) (k + 1) "sure_places" ["land", "numbers"] (spSure K CP) :=
  a.fnX scSurePlaces (fun vs H Q E h => by
    obtain ⟨_, _, _, _, _, _, h, _⟩ := h
    exact dpall_len h) fun A X H vs Q E hX hr h => by
    obtain ⟨ms, L, n, ws, qs, t, hvs, hL, hq10, good, bad⟩ := h
    obtain ⟨v0, v1, rfl, d0, d1⟩ := dpall2 hvs
    have hX' := hX.toOwn
    refine ss_set 2 hX' (PD.go (ms := ms) (pd_call F hr (d := landD n ws) ⟨L, rfl, hL.1, hL.2.symm⟩ (pad_cons (pd_name (i := 0) rfl d0) pad_nil)) t fun v2 H1 S1 h2 => ?_)
    have d1' := dp_mono (cut_same S1) d1
    refine ss_for (ms := ms) hX' (pdi_tup (pd_call F hr (d := .tuple (qs.map .int)) ⟨_, rfl, okD_intsT (by omega), tupF_intsT.symm⟩ (pad_cons (pd_name (i := 1) rfl d1') pad_nil))) (t.up S1) fun H2 S2 => ?_
    refine ⟨fun i σ' H' => ∃ u3, σ' = [some v0, some v1, some v2, u3] ∧ (∀ (j : Nat) (y : Int), j < i → qs[j]? = some y → OkP n y) ∧ Same H2 H', ⟨none, rfl, fun j y hj => absurd hj (Nat.not_lt_zero j), Same.refl _⟩, fun i σ' H' ⟨_, _, _, S⟩ => ⟨cut_same S, ((t.up S1).up S2).up S⟩, fun i d x σ' H3 H4 hi hP S4 hx => ?_, fun σ' H3 ⟨u3, e, hall, S3⟩ => ?_⟩
    · obtain ⟨u3, rfl, hall, S3⟩ := hP
      rw [List.getElem?_map] at hi
      obtain ⟨q, hq, rfl⟩ := Option.map_eq_some_iff.mp hi
      have St := ((t.up S1).up S2).up (S3.trans S4)
      have S14 : Same H1 H4 := S2.trans (S3.trans S4)
      refine (gd_name (i := 3) scSurePlaces.nd : GD _ ms _ (.int q) _) x _ H4 _ hx fun us hus => ?_
      obtain ⟨v3, rfl, h3⟩ := dpall1 hus
      have h2' := dp_mono (cut_same S14) h2
      refine ss_if (ms := ms) (k := !(decide (0 ≤ q) && decide (q < n))) hX' (pb_not (pb_chain (fun _ _ => op_le) (fun _ _ => op_lt) (r2_b0 rfl) (r2_b0 rfl) pd_int (pd_name (i := 3) rfl h3) (pd_ixT (pd_name (i := 2) rfl h2') pd_int rfl))) St (fun hb H5 S5 => ?_) fun hb H5 S5 => ?_
      · have hno : ¬ OkP n q := fun ⟨g1, g2⟩ => by rw [decide_eq_true g1, decide_eq_true g2] at hb; cases hb
        have hi' := hX.i
        refine ss_raise hX (np X hi'.P hi'.w hi'.K hi'.mg hi'.base (by rw [hi'.A]; exact hr.mono (by omega)) (by show X.env.scope.names.lookup _ = _; rw [hi'.sc]; rfl) _ _ _ _ (EA.any hi' [.Name "number" _]) rfl) ?_
        refine PAd.go (ms := ms) (pad_cons (pd_name (i := 3) rfl (dp_mono (cut_same S5) h3)) pad_nil) (St.up S5) fun vs H6 S6 hvs => ?_
        obtain ⟨v, rfl, hv⟩ := dpall1 hvs
        obtain rfl := dp_int hv
        refine ⟨_, rfl, fun dd hdd => bad i q hq hall hno dd _ ?_ ?_ upd_same⟩
        · exact same_upd (S1.trans (S14.trans (S5.trans S6))) ((S1.trans (S14.trans (S5.trans S6))).free hdd)
        · exact (S1.trans (S14.trans (S5.trans S6))).free hdd
      · have hok : OkP n q := by
          have : (decide (0 ≤ q) && decide (q < (n : Int))) = true := by simpa using hb
          rw [Bool.and_eq_true] at this
          exact ⟨of_decide_eq_true this.1, of_decide_eq_true this.2⟩
        refine ss_nil (ss_nil ?_)
        refine ⟨_, rfl, fun j y hj hy => ?_, S3.trans (S4.trans S5)⟩
        rcases Nat.lt_or_ge j i with h | h
        · exact hall j y h hy
        · obtain rfl : j = i := by omega
          rw [hq] at hy
          rw [← Option.some.inj hy]
          exact hok
    · rw [e]
      have S23 := S2.trans S3
      refine ss_ret hX' (PD.go (ms := ms) (pd_name (i := 2) rfl (dp_mono (cut_same S23) h2)) (((t.up S1).up S2).up S3) fun v H6 S6 hv => good (fun q hq => ?_) v _ (S1.trans (S23.trans S6)) hv)
      obtain ⟨j, hj, e⟩ := List.getElem_of_mem hq
      refine hall j q ?_ (by rw [List.getElem?_eq_getElem hj, e])
      rw [List.length_map]
      exact hj
end
end SK
set_option maxHeartbeats 4000000
namespace SK
open PySem PySem.Spec PyProof.Rows L2 SKM
/-! ### levels -/
def lv : Nat → PyData → Bool
  | _, .none => true
  | _, .bool _ => true
  | _, .int _ => true
  | _, .str x => PyData.canLay0 (.str x)
  | n + 1, .list xs => xs.all (lv n)
  | n + 1, .tuple xs => xs.all (lv n)
  | 0, .list _ => false
  | 0, .tuple _ => false
  | _, .dict _ => false
theorem lv_all {n : Nat} (IH : ∀ d, lv n d = true → PyData.canLay0 d = true ∧ d.depth ≤ n) : ∀ xs : List PyData, xs.all (lv n) = true → PyData.canLayAll0 xs = true ∧ PyData.depthAll xs ≤ n
  | [], _ => ⟨by rw [PyData.canLayAll0], by rw [PyData.depthAll]; exact Nat.zero_le _⟩
  | x :: xs, h => by
    rw [List.all_cons, Bool.and_eq_true] at h
    obtain ⟨a1, a2⟩ := IH x h.1
    obtain ⟨b1, b2⟩ := lv_all IH xs h.2
    exact ⟨by rw [PyData.canLayAll0, a1, b1]; rfl, by rw [PyData.depthAll]; exact Nat.max_le.mpr ⟨a2, b2⟩⟩
theorem lv_ok : ∀ (n : Nat) (d : PyData), lv n d = true → PyData.canLay0 d = true ∧ d.depth ≤ n := by
  intro n
  induction n with
  | zero =>
    intro d h
    cases d with
    | none => exact ⟨by rw [PyData.canLay0], by rw [PyData.depth]; exact Nat.zero_le _⟩
    | bool b => exact ⟨by rw [PyData.canLay0], by rw [PyData.depth]; exact Nat.zero_le _⟩
    | int i => exact ⟨by rw [PyData.canLay0], by rw [PyData.depth]; exact Nat.zero_le _⟩
    | str x => exact ⟨h, by rw [PyData.depth]; exact Nat.zero_le _⟩
    | list xs => cases h
    | tuple xs => cases h
    | dict xs => cases h
  | succ n IH =>
    intro d h
    cases d with
    | none => exact ⟨by rw [PyData.canLay0], by rw [PyData.depth]; exact Nat.zero_le _⟩
    | bool b => exact ⟨by rw [PyData.canLay0], by rw [PyData.depth]; exact Nat.zero_le _⟩
    | int i => exact ⟨by rw [PyData.canLay0], by rw [PyData.depth]; exact Nat.zero_le _⟩
    | str x => exact ⟨h, by rw [PyData.depth]; exact Nat.zero_le _⟩
    | list xs =>
      obtain ⟨a, b⟩ := lv_all IH xs h
      exact ⟨by rw [PyData.canLay0]; exact a, by rw [PyData.depth]; omega⟩
    | tuple xs =>
      obtain ⟨a, b⟩ := lv_all IH xs h
      exact ⟨by rw [PyData.canLay0]; exact a, by rw [PyData.depth]; omega⟩
    | dict xs => cases h
theorem shaped_lv {n : Nat} {d : PyData} (h : lv n d = true) (hn : n ≤ 64 := by decide) : SeqAt.shaped d = true := by
  obtain ⟨a, b⟩ := lv_ok n d h
  unfold SeqAt.shaped
  rw [a, Bool.true_and]
  exact decide_eq_true (Nat.le_trans b hn)
theorem lv_map {α : Type} {n : Nat} (f : α → PyData) (h : ∀ a, lv n (f a) = true) : ∀ xs : List α, (xs.map f).all (lv n) = true
  | [] => rfl
  | x :: xs => by rw [List.map_cons, List.all_cons, h x, lv_map f h xs]; rfl
theorem lv_int (n : Nat) (i : Int) : lv n (.int i) = true := by cases n <;> rfl
theorem lv_none (n : Nat) : lv n .none = true := by cases n <;> rfl
theorem lv_bool (n : Nat) (i : Bool) : lv n (.bool i) = true := by cases n <;> rfl
theorem lv_tupN (n : Nat) (r : List Nat) : lv (n + 1) (tupN r) = true := lv_map natD (fun a => lv_int n a) r
theorem lv_intsT (n : Nat) (r : List Int) : lv (n + 1) (intsT r) = true := lv_map PyData.int (fun a => lv_int n a) r
theorem eqv_nil (x : PyData) (xs : List PyData) : PyData.eqv (.list (x :: xs)) (.list []) = false := by rw [PyData.eqv, PyData.eqvAll]
theorem eqv_nil_list (xs : List PyData) : PyData.eqv (.list xs) (.list []) = xs.isEmpty := by
  cases xs with
  | nil => rw [PyData.eqv, PyData.eqvAll]; rfl
  | cons x xs => exact eqv_nil x xs
section
variable {P : Program} {w : World} {K : PySem.W.Frag} {mg : Str → Option Value} {base : Heap}
/-! ### roads -/
def RSure : List PyData → PyData → Prop := fun ds d => ∃ (L : PyData) (n : Nat) (ws : List Way) (qs : List Int), ds = [L, .tuple (qs.map .int)] ∧ LandIn L n ws ∧ qs.length ≤ 10 ∧ (∀ q ∈ qs, OkP n q) ∧ d = landD n ws
theorem sure_plain {CX : CXT} {k : Nat} {CP : Addr} (F : Fn1 P w K mg base CX k "sure_places" ["land", "numbers"] (spSure K CP)) : Fn1 P w K mg base CX k "sure_places" ["land", "numbers"] (spP K RSure) :=
  F.imp fun vs H Q E ⟨ms, ds, d, t, h, ⟨L, n, ws, qs, e1, hL, hl, hq, e2⟩, q⟩ => by
    subst e1
    subst e2
    refine ⟨ms, L, n, ws, qs, t, h, hL, hl, fun _ => q, fun i x hi _ hno => absurd (hq x (List.mem_of_getElem? hi)) hno⟩
theorem rf_ne {ws : List Way} {p k h : Nat} {gone R : List Nat} (hR : R ∈ rf ws p k h gone) (hn : h ≠ p) : R ≠ [] := by
  cases k with
  | zero => cases hR
  | succ k =>
    rcases mem_rf.mp hR with ⟨e, _⟩ | ⟨_, i, w, R', _, _, _, _, rfl⟩
    · exact absurd e hn
    · exact fun z => by cases z
theorem rf_sortable {ws : List Way} {n st o : Nat} : (∀ r ∈ rf ws o n st [st], r ≠ []) ∨ (rf ws o n st [st]).length ≤ 1 := by
  by_cases h : st = o
  · refine .inr ?_
    cases n with
    | zero => exact Nat.zero_le _
    | succ n => rw [rf_succ, if_pos h]; exact Nat.le_refl _
  · exact .inl fun r hr => rf_ne hr h
def RRoads : List PyData → PyData → Prop := fun ds d => ∃ L n ws st o, ds = [L, natD st, natD o] ∧ LandIn L n ws ∧ Lnd n ws ∧ st < n ∧ o < n ∧ d = .list ((roadsM n ws st o).map tupN)
theorem okP_nat {n q : Nat} (h : q < n) : OkP n (q : Int) := ⟨by omega, by omega⟩
theorem fn_roads {f : Addr} {fd : FuncData} {CX : CXT} {k : Nat} (a : At K mg "roads" sRoads f fd ["land", "start", "place"]) (T : Mg mg) (F : Fn1 P w K mg base CX k "sure_places" ["land", "numbers"] (spP K RSure)) (G : Fn1 P w K mg base CX0 k "roads_from" ["land", "here", "place", "gone"] (spP K (RRf 6))) :
    Fn1 P w K mg base CX0 (k + 1) "roads" ["land", "start", "place"] (spP K RRoads) :=
  a.fnP scRoads (fun ds d h => by obtain ⟨_, _, _, _, _, rfl, _⟩ := h; rfl) fun A X H vs Q ms ds d hX hr t hvs hR q => by
    obtain ⟨L, n, ws, st, o, rfl, hL, Ln, hs, ho, rfl⟩ := hR
    obtain ⟨v0, v1, v2, rfl, d0, d1, d2⟩ := dpall3 hvs
    refine ss_ret hX (PD.go (ms := ms) (pl_sortN (rs := rf ws o n st [st]) (show A.units + 3 < cLine by have := hr.un; omega) rf_sortable (pd_call G hr (d := .list ((rf ws o n st [st]).map tupN)) (ds := [landD n ws, natD st, natD o, tupN [st]]) ⟨n, ws, st, o, [st], n, rfl, Ln, hs, by simp, by simpa using hs, by simp, rfl, Ln.n6, rfl⟩ ?_) T.sorted).pd t q)
    refine pad_cons (pd_call F hr (d := landD n ws) (ds := [L, .tuple ([(st : Int), (o : Int)].map .int)]) ⟨L, n, ws, _, rfl, hL, (by show 2 ≤ 10; decide), fun q hq => ?_, rfl⟩ (pad_cons (pd_name (i := 0) rfl d0) (pad_cons (pd_tup (pad_cons (pd_name (i := 1) rfl d1) (pad_cons (pd_name (i := 2) rfl d2) pad_nil)) (by show 2 ≤ sizeLine; decide)) pad_nil)))
      (pad_cons (pd_name (i := 1) rfl d1) (pad_cons (pd_name (i := 2) rfl d2) (pad_cons (pd_tup (pad_cons (pd_name (i := 1) rfl d1) pad_nil) (by show 1 ≤ sizeLine; decide)) pad_nil)))
    rcases List.mem_cons.mp hq with rfl | hq
    · exact okP_nat hs
    · rw [List.mem_singleton.mp hq]; exact okP_nat ho
/-! ### low_along -/
def RLow : List PyData → PyData → Prop := fun ds d => ∃ n ws R, ds = [landD n ws, tupN R] ∧ ws.length ≤ 1000 ∧ d = intsT (corner ws R)
theorem fn_low_along {f : Addr} {fd : FuncData} (a : At K mg "low_along" sLowAlong f fd ["land", "road"]) (T : Mg mg) (k : Nat) : Fn1 P w K mg base CX0 (k + 1) "low_along" ["land", "road"] (spP K RLow) :=
  a.fnP scLowAlong (fun ds d h => by obtain ⟨_, _, _, rfl, _⟩ := h; rfl) fun A X H vs Q ms ds d hX hr t hvs hR q => by
    obtain ⟨n, ws, R, rfl, hl, rfl⟩ := hR
    obtain ⟨v0, v1, rfl, d0, d1⟩ := dpall2 hvs
    refine ss_ret hX (PD.go (ms := ms) (pd_tupleL (pd_of (lc_map (own := [("number", 2), ("own", 3)]) (bf := fun i => [(2, natD i), (3, (ws.map wayD).getD i .none)]) scLowAlong.nd (by show blkC nLowAlong (defScope sLowAlong) _ _ = true; decide +kernel) (pdi_enumT (pd_ixT (pd_name (i := 0) rfl d0) pd_int rfl) T.enum) ?_ ?_ ?_ ?_ ?_)) T.tuple) t q)
    · rw [List.length_map, corner_len, numb_len, List.length_map]
    · rw [numb_len, List.length_map]
      exact Nat.le_trans hl (by decide)
    · intro i d ms' hd
      obtain ⟨w1, hw, _, rfl⟩ := numb_ways hd
      have e : (ws.map wayD)[i]? = some (wayD w1) := by rw [List.getElem?_map, hw]; rfl
      rw [getD_of e]
      exact gd_tup (gds_cons (gd_name (i := 2) scLowAlong.nd) (gds_cons (gd_name (i := 3) scLowAlong.nd) gds_nil)) rfl
    · intro i p hp
      simp only [List.map_cons, List.map_nil]
      rcases List.mem_cons.mp hp with rfl | hp
      · exact List.mem_cons_self
      · rw [List.mem_singleton.mp hp]
        exact List.mem_cons_of_mem _ List.mem_cons_self
    · intro i d e vs ms' H1 hd he S Sc hvs
      obtain ⟨w1, hw, _, rfl⟩ := numb_ways hd
      have e1 : (ws.map wayD)[i]? = some (wayD w1) := by rw [List.getElem?_map, hw]; rfl
      rw [List.map_cons, List.map_cons, List.map_nil] at hvs
      dsimp only at hvs
      rw [getD_of e1] at hvs
      obtain ⟨b1, b2, rfl, g1, g2⟩ := dpall2 hvs
      rw [List.getElem?_map, corner_get hw] at he
      have ee : PyData.int (if i ∈ R then w1.lo else w1.hi) = e := Option.some.inj he
      rw [← ee]
      refine pd_if (pb_inN (pd_name (i := 2) rfl g1) (pd_name (i := 1) rfl (dp_mono Sc d1))) (fun hk => ?_) fun hk => ?_
      · rw [if_pos (of_decide_eq_true hk)]
        exact pd_ixT (pd_name (i := 3) rfl g2) pd_int rfl
      · rw [if_neg (of_decide_eq_false hk)]
        exact pd_ixT (pd_name (i := 3) rfl g2) pd_int rfl
end
end SK
set_option maxHeartbeats 4000000
namespace SK
open PySem PySem.Spec PyProof.Rows L2 SKM
def lateD (x : Int × List Nat) : PyData := .tuple [.int x.1, tupN x.2]
theorem fldD_at {f : Fnd} {u : Nat} (h : u < f.length) : atI (f.map fldD) (u : Int) = some (fldD (f.getD u none)) := by
  refine atI_nat ?_
  rw [List.getElem?_map, List.getElem?_eq_getElem h, List.getD_eq_getElem?_getD, List.getElem?_eq_getElem h]
  rfl
theorem lv_lateD (x : Int × List Nat) : lv 2 (lateD x) = true := by
  show ([PyData.int x.1, tupN x.2]).all (lv 1) = true
  rw [List.all_cons, List.all_cons, List.all_nil, lv_int, lv_tupN]
  rfl
theorem roadsM_len {n : Nat} {ws : List Way} {st o : Nat} (L : Lnd n ws) : (roadsM n ws st o).length ≤ 117649 := by
  unfold roadsM
  rw [(isort_perm _).length_eq]
  exact Nat.le_trans (rf_len L.w7 n _ _) (Nat.le_trans (Nat.pow_le_pow_right (by decide) L.n6) (by decide))
theorem lateL_len {n : Nat} {ws : List Way} {st p o : Nat} (L : Lnd n ws) : (lateL n ws st p o).length ≤ 117649 := by
  refine Nat.le_trans (flat_len _ 1 _ fun x _ => ?_) (by rw [Nat.mul_one]; exact roadsM_len L)
  split <;> simp
section
variable {P : Program} {w : World} {K : PySem.W.Frag} {mg : Str → Option Value} {base : Heap}
def RLate : List PyData → PyData → Prop := fun ds d => ∃ n ws st p o, ds = [landD n ws, natD st, natD p, natD o] ∧ Lnd n ws ∧ st < n ∧ p < n ∧ o < n ∧ d = .list ((lateL n ws st p o).map lateD)
theorem fn_late_roads {f : Addr} {fd : FuncData} {k : Nat} (a : At K mg "late_roads" sLateRoads f fd ["land", "start", "place", "other"]) (T : Mg mg) (G : Fn1 P w K mg base CX0 k "roads_from" ["land", "here", "place", "gone"] (spP K (RRf 6))) (FA : Fn1 P w K mg base CX0 k "arrive" ["land", "start", "spreads"] (spP K RArrive)) (FL : Fn1 P w K mg base CX0 k "low_along" ["land", "road"] (spP K RLow)) :
    Fn1 P w K mg base CX0 (k + 1) "late_roads" ["land", "start", "place", "other"] (spP K RLate) :=
  a.fnP scLateRoads (fun ds d h => by obtain ⟨_, _, _, _, _, rfl, _⟩ := h; rfl) fun A X H vs Q ms ds d hX hr t hvs hR q => by
    obtain ⟨n, ws, st, p, o, rfl, Ln, hs, hp, ho, rfl⟩ := hR
    obtain ⟨v0, v1, v2, v3, rfl, d0, d1, d2, d3⟩ := dpall4 hvs
    refine ss_set 4 hX (PL.go (ms := ms) (pl_lst pad_nil (by decide)) t fun p1 xs H2 S2 hp0 hp1 hx => ?_)
    obtain rfl := dpall0 hx
    have c2 := same_more (ms := ms) S2 hp0
    have t2 : Trk (p1 :: ms) H2 := (t.up S2).more hp1
    have tm : p1 ∈ p1 :: ms := List.mem_cons_self
    refine ss_for (ms := p1 :: ms) (ds := (roadsM n ws st o).map tupN) hX (pdi_list (pl_sortN (rs := rf ws o n st [st]) (show A.units + 3 < cLine by have := hr.un; omega) rf_sortable (pd_call G hr (d := .list ((rf ws o n st [st]).map tupN)) (ds := [landD n ws, natD st, natD o, tupN [st]]) ⟨n, ws, st, o, [st], n, rfl, Ln, hs, by simp, by simpa using hs, by simp, rfl, Ln.n6, rfl⟩
      (pad_cons (pd_name (i := 0) rfl (dp_mono c2 d0)) (pad_cons (pd_name (i := 1) rfl (dp_mono c2 d1)) (pad_cons (pd_name (i := 3) rfl (dp_mono c2 d3)) (pad_cons (pd_tup (pad_cons (pd_name (i := 1) rfl (dp_mono c2 d1)) pad_nil) (by show 1 ≤ sizeLine; decide)) pad_nil))))) T.sorted).pd) t2 fun H3 S3 => ?_
    generalize hG : (fun R : List Nat => if (arr n ws st (corner ws R)).getD p none = none then [] else [(lateV n ws st p o (corner ws R), R)]) = G'
    have eL : lateL n ws st p o = (roadsM n ws st o).flatMap G' := by rw [← hG]; rfl
    have hGl : ∀ x ∈ roadsM n ws st o, (G' x).length ≤ 1 := fun x _ => by rw [← hG]; dsimp only; split <;> simp
    refine ⟨fun i σ' H' => ∃ u5 u6 xs, σ' = [some v0, some v1, some v2, some v3, some (.ref p1), u5, u6] ∧ H' p1 = some (.lst xs) ∧ DpAll K (cut (p1 :: ms) H') xs ((((roadsM n ws st o).take i).flatMap G').map lateD) ∧ Same H H' ∧ Trk (p1 :: ms) H' ∧ Same (cut (p1 :: ms) H3) (cut (p1 :: ms) H'),
      ⟨none, none, [], rfl, S3 _ _ hp1, .nil, S2.trans S3, t2.up S3, Same.refl _⟩, fun i σ2 H2 ⟨_, _, _, _, _, _, _, h3, h4⟩ => ⟨h4, h3⟩, fun i d x σ2 H4 H5 hi hP S5 hx => ?_, fun σ2 H2 ⟨a5, a6, xs, e, h1, h2, h3, h4, _⟩ => ?_⟩
    · obtain ⟨a5, a6, xs, rfl, h1, h2, h3, h4, h5⟩ := hP
      rw [List.getElem?_map] at hi
      obtain ⟨R, hR, rfl⟩ := Option.map_eq_some_iff.mp hi
      refine (gd_name (i := 5) scLateRoads.nd : GD _ (p1 :: ms) _ (tupN R) _) x _ H5 _ hx fun us hus => ?_
      obtain ⟨b5, rfl, e5⟩ := dpall1 hus
      have S05 : Same H H5 := h3.trans S5
      have c5 : Same (cut ms H) (cut (p1 :: ms) H5) := same_more S05 hp0
      have t5 := h4.up S5
      have hin := corner_in Ln.ok R
      refine ss_set 6 hX (PD.go (ms := p1 :: ms) (d := .tuple ((arr n ws st (corner ws R)).map fldD)) (pd_call FA hr (ds := [landD n ws, natD st, intsT (corner ws R)]) ⟨n, ws, st, _, rfl, hs, Nat.le_trans Ln.n6 (by decide), Ln.ok, hin, rfl⟩ (pad_cons (pd_name (i := 0) rfl (dp_mono c5 d0)) (pad_cons (pd_name (i := 1) rfl (dp_mono c5 d1)) (pad_cons (pd_call FL hr (ds := [landD n ws, tupN R]) ⟨n, ws, R, rfl, Nat.le_trans Ln.w7 (by decide), rfl⟩ (pad_cons (pd_name (i := 0) rfl (dp_mono c5 d0)) (pad_cons (pd_name (i := 5) rfl e5) pad_nil))) pad_nil)))) t5 fun v6 H6 S6 e6 => ?_)
      have c6 : Same (cut ms H) (cut (p1 :: ms) H6) := same_more (S05.trans S6) hp0
      have fl : (arr n ws st (corner ws R)).length = n := arr_len
      have ixp : ∀ {σ' : L2.St} {H' : Hp} {q1 q2 q3 : Pos}, σ'[6]? = some (some v6) → σ'[2]? = some (some v2) → Same H6 H' → PD (ctOf P w K mg base nLateRoads sLateRoads A) (p1 :: ms) σ' H' (.Subscript (.Name "ticks" q1) (.Name "place" q2) q3) (fldD ((arr n ws st (corner ws R)).getD p none)) := fun g3 g5 S =>
        pd_ixT (pd_name (i := 6) g3 (dp_mono (cut_same S) e6)) (pd_name (i := 2) g5 (dp_mono (c6.trans (cut_same S)) d2)) (fldD_at (by rw [fl]; exact hp))
      have ixo : ∀ {σ' : L2.St} {H' : Hp} {q1 q2 q3 : Pos}, σ'[6]? = some (some v6) → σ'[3]? = some (some v3) → Same H6 H' → PD (ctOf P w K mg base nLateRoads sLateRoads A) (p1 :: ms) σ' H' (.Subscript (.Name "ticks" q1) (.Name "other" q2) q3) (fldD ((arr n ws st (corner ws R)).getD o none)) := fun g3 g5 S =>
        pd_ixT (pd_name (i := 6) g3 (dp_mono (cut_same S) e6)) (pd_name (i := 3) g5 (dp_mono (c6.trans (cut_same S)) d3)) (fldD_at (by rw [fl]; exact ho))
      have eG : (((roadsM n ws st o).take (i + 1)).flatMap G').map lateD = (((roadsM n ws st o).take i).flatMap G').map lateD ++ (G' R).map lateD := by rw [flat_snoc G' hR, List.map_append]
      have hp6 : H6 p1 = some (.lst xs) := S6 _ _ (S5 _ _ h1)
      refine ss_if (ms := p1 :: ms) (k := !isN (fldD ((arr n ws st (corner ws R)).getD p none))) hX (pb_notN (ixp rfl rfl (Same.refl _))) (t5.up S6) (fun hb H7 S7 => ?_) fun hb H7 S7 => ?_
      · have hRo : Rch n ws st o := List.ne_nil_of_mem (roadsM_mem.mp (List.mem_of_getElem? hR))
        obtain ⟨dO, hdO, _⟩ := arr_some Ln.ok hs hin hRo
        cases hA : (arr n ws st (corner ws R)).getD p none with
        | none => rw [hA] at hb; cases hb
        | some dA =>
          rw [hA] at ixp
          rw [hdO] at ixo
          have eg : G' R = [(dA - dO, R)] := by
            rw [← hG]
            dsimp only
            rw [hA, if_neg (fun z => by cases z)]
            unfold lateV
            rw [hA, hdO]
            rfl
          refine ss_expr hX (es_app1 (ms := p1 :: ms) (i := 4) (p := p1) (xs := xs) (d := lateD (dA - dO, R)) ((t5.up S6).up S7) rfl (S7 _ _ hp6) ?_ (pd_tup (pad_cons (pd_sub (ixp rfl rfl S7) (ixo rfl rfl S7)) (pad_cons (pd_name (i := 5) rfl (dp_mono (cut_same (S6.trans S7)) e5)) pad_nil)) (by show 2 ≤ sizeLine; decide)) fun vs H8 S8 hvs => ?_)
          · rw [dpall_len h2, List.length_map]
            have h8 := flat_take_len G' 1 _ i hGl
            have h9 := roadsM_len (st := st) (o := o) Ln
            have h10 : (117649 : Nat) < sizeLine := by decide
            omega
          · refine ss_nil (ss_nil ?_)
            refine ⟨_, _, _, rfl, upd_same, ?_, same_upd (S05.trans (S6.trans (S7.trans S8))) hp0, (((t5.up S6).up S7).up S8).upd, cut_chg (h5.trans (cut_same (S5.trans (S6.trans (S7.trans S8))))) tm⟩
            rw [cut_mut tm, eG, eg]
            exact dpall_app (dpall_mono (cut_same (S5.trans (S6.trans (S7.trans S8)))) h2) (.cons hvs .nil)
      · refine ss_nil (ss_nil ?_)
        refine ⟨_, _, _, rfl, S7 _ _ hp6, ?_, S05.trans (S6.trans S7), (t5.up S6).up S7, h5.trans (cut_same (S5.trans (S6.trans S7)))⟩
        have eg : G' R = [] := by
          rw [← hG]
          dsimp only
          cases hA : (arr n ws st (corner ws R)).getD p none with
          | none => rfl
          | some dA => rw [hA] at hb; cases hb
        rw [eG, eg, List.map_nil, List.append_nil]
        exact dpall_mono (cut_same (S5.trans (S6.trans S7))) h2
    · rw [List.length_map, List.take_length, ← eL] at h2
      rw [e]
      refine ss_ret hX (PD.go (ms := ms) (pd_name (i := 4) rfl (.lst (.inl (.inl (cut_of (t.new hp0) h1))) (dpall_mono (cut_sub (ms := p1 :: ms) fun m hm => List.mem_cons_of_mem _ hm) h2))) (t.up h3) fun v H6 S6 hv => q _ _ (h3.trans S6) hv)
end
end SK
set_option maxHeartbeats 4000000
namespace SK
open PySem PySem.Spec PyProof.Rows L2 SKM
theorem dp_fresh {K : PySem.W.Frag} {ms : List Addr} {H H' : Hp} {p : Addr} {xs : List V} {es : List PyData} (t : Trk ms H) (hn : H p = none) (hp : H' p = some (.lst xs)) (ha : DpAll K (cut (p :: ms) H') xs es) : Dp K (cut ms H') (.ref p) (.list es) :=
  .lst (.inl (.inl (cut_of (t.new hn) hp))) (dpall_mono (cut_sub (ms := p :: ms) fun m hm => List.mem_cons_of_mem _ hm) ha)
section
variable {P : Program} {w : World} {K : PySem.W.Frag} {mg : Str → Option Value} {base : Heap}
/-! ### greatest_late -/
def Gr (n : Nat) (ws : List Way) (st p o : Nat) (d : PyData) : Prop := (lateL n ws st p o = [] ∧ d = .none) ∨ ∃ m, IsMax m ((lateL n ws st p o).map (·.1)) ∧ d = .int m
def RGr : List PyData → PyData → Prop := fun ds d => ∃ n ws st p o, ds = [landD n ws, natD st, natD p, natD o] ∧ Lnd n ws ∧ st < n ∧ p < n ∧ o < n ∧ Gr n ws st p o d
theorem map_fst_int (l : List (Int × List Nat)) : l.map (fun x => PyData.int x.1) = (l.map (·.1)).map PyData.int := by rw [List.map_map]; rfl
theorem fn_greatest_late {f : Addr} {fd : FuncData} {k : Nat} (a : At K mg "greatest_late" sGreatestLate f fd ["land", "start", "place", "other"]) (T : Mg mg) (FL : Fn1 P w K mg base CX0 k "late_roads" ["land", "start", "place", "other"] (spP K RLate)) : Fn1 P w K mg base CX0 (k + 1) "greatest_late" ["land", "start", "place", "other"] (spP K RGr) :=
  a.fnP scGreatestLate (fun ds d h => by obtain ⟨_, _, _, _, _, rfl, _⟩ := h; rfl) fun A X H vs Q ms ds d hX hr t hvs hR q => by
    obtain ⟨n, ws, st, p, o, rfl, Ln, hs, hp, ho, hd⟩ := hR
    obtain ⟨v0, v1, v2, v3, rfl, d0, d1, d2, d3⟩ := dpall4 hvs
    refine ss_setLc 4 (ms := ms) (es := (lateL n ws st p o).map fun x => .int x.1) hX (lc_map (own := [("late", 5), ("_", 6)]) (bf := fun i => [(5, .int ((lateL n ws st p o).getD i (0, [])).1), (6, tupN ((lateL n ws st p o).getD i (0, [])).2)]) scGreatestLate.nd (by show blkC nGreatestLate (defScope sGreatestLate) _ _ = true; decide +kernel)
      (pdi_list (pd_call FL hr (d := .list ((lateL n ws st p o).map lateD)) ⟨n, ws, st, p, o, rfl, Ln, hs, hp, ho, rfl⟩ (pad_cons (pd_name (i := 0) rfl d0) (pad_cons (pd_name (i := 1) rfl d1) (pad_cons (pd_name (i := 2) rfl d2) (pad_cons (pd_name (i := 3) rfl d3) pad_nil)))))) ?_ ?_ ?_ ?_ ?_) t fun p1 xs H1 S1 hn hp1 hx => ?_
    · rw [List.length_map, List.length_map]
    · rw [List.length_map]
      exact Nat.le_trans (lateL_len Ln) (by decide)
    · intro i d ms' hi
      rw [List.getElem?_map] at hi
      obtain ⟨x, hx, rfl⟩ := Option.map_eq_some_iff.mp hi
      rw [getD_of hx]
      exact gd_tup (gds_cons (gd_name (i := 5) scGreatestLate.nd) (gds_cons (gd_name (i := 6) scGreatestLate.nd) gds_nil)) rfl
    · intro i pp hpp
      simp only [List.map_cons, List.map_nil]
      rcases List.mem_cons.mp hpp with rfl | hpp
      · exact List.mem_cons_self
      · rw [List.mem_singleton.mp hpp]
        exact List.mem_cons_of_mem _ List.mem_cons_self
    · intro i d e vs ms' H1 hi he S Sc hvs
      rw [List.getElem?_map] at hi he
      obtain ⟨x, hx, rfl⟩ := Option.map_eq_some_iff.mp hi
      rw [hx] at he
      rw [← (show PyData.int x.1 = e from Option.some.inj he)]
      rw [List.map_cons, List.map_cons, List.map_nil] at hvs
      dsimp only at hvs
      rw [getD_of hx] at hvs
      obtain ⟨b1, b2, rfl, g1, g2⟩ := dpall2 hvs
      exact pd_name (i := 5) rfl g1
    · have hd4 := dp_fresh t hn hp1 hx
      have hlv : ∀ l : List (Int × List Nat), lv 1 (.list (l.map fun x => .int x.1)) = true := fun l => lv_map _ (fun x => lv_int 0 _) l
      refine ss_ret hX (PD.go (ms := ms) (pd_if (k := !(lateL n ws st p o).isEmpty) ((pb_neD (d' := .list []) (show A.units + 64 < cLine from hr.units) (shaped_lv (hlv _)) (shaped_lv (n := 1) rfl) (pd_name (i := 4) rfl hd4) (pd_lst pad_nil (by decide))).cast ?_) (fun hk => ?_) fun hk => ?_) (t.up S1) fun v H6 S6 hv => q _ _ (S1.trans S6) hv)
      · rw [eqv_nil_list, List.isEmpty_map]
      · have hne : lateL n ws st p o ≠ [] := fun z => by rw [z] at hk; cases hk
        rcases hd with ⟨z, _⟩ | ⟨m, hm, rfl⟩
        · exact absurd z hne
        · rw [map_fst_int] at hd4
          exact pd_maxI (pd_name (i := 4) rfl hd4) hm.1 hm.2 T.max
      · have hne : lateL n ws st p o = [] := by
          cases e : lateL n ws st p o with
          | nil => rfl
          | cons x l => rw [e] at hk; cases hk
        rcases hd with ⟨_, rfl⟩ | ⟨m, hm, _⟩
        · exact pd_none
        · rw [hne] at hm
          cases hm.1
/-! ### the asks -/
def Ask (ds : List PyData) (n : Nat) (ws : List Way) (st p o : Nat) : Prop := ∃ L, ds = [L, natD st, natD p, natD o] ∧ LandIn L n ws ∧ Lnd n ws ∧ st < n ∧ p < n ∧ o < n
def FirstBad (n : Nat) (qs : List Int) (x : Int) : Prop := ∃ i : Nat, qs[i]? = some x ∧ (∀ (j : Nat) (y : Int), j < i → qs[j]? = some y → OkP n y) ∧ ¬ OkP n x
theorem FirstBad.uniq {n : Nat} {qs : List Int} {x x' : Int} (h : FirstBad n qs x) {i : Nat} (h1 : qs[i]? = some x') (h2 : ∀ (j : Nat) (y : Int), j < i → qs[j]? = some y → OkP n y) (h3 : ¬ OkP n x') : x = x' := by
  obtain ⟨j, a1, a2, a3⟩ := h
  rcases Nat.lt_trichotomy i j with c | c | c
  · exact absurd (a2 i x' c h1) h3
  · subst c
    rw [a1] at h1
    exact Option.some.inj h1
  · exact absurd (h2 j x c a1) a3
def Bad3 (ds : List PyData) (x : Int) : Prop := ∃ L n ws a b c, ds = [L, .int a, .int b, .int c] ∧ LandIn L n ws ∧ FirstBad n [a, b, c] x
section
variable {A : Around} {X : Cx} {N : List Str} {st : Stmt} {E : XK} {ms : List Addr} {H : Hp} {σ : L2.St} {CP CC : Addr} {k : Nat}
/-- sure_places(land, (start, place, other)), told by its two ends -/
theorem ex_sure {c : Ct} {e1 e2 : Expr} {p pos : Pos} {L : PyData} {n : Nat} {ws : List Way} {qs : List Int} {Q : VK} (hX : OwnX c X E) (F : c.Fn (L2.CX c.P c.w) k "sure_places" ["land", "numbers"] (spSure c.K CP)) (hr : Room k c.A) (t : Trk ms H) (ha : PAd c ms σ H [e1, e2] [L, .tuple (qs.map .int)]) (hL : LandIn L n ws) (h10 : qs.length ≤ 10)
    (good : (∀ q ∈ qs, OkP n q) → ∀ v H', Same H H' → Dp c.K (cut ms H') v (landD n ws) → Q v H') (bad : ∀ x, FirstBad n qs x → ∀ dd H', Same H H' → H dd = none → H' dd = some (.xd [(("number" : Str), .int x)]) → E (.ref CP) (some dd) H')
    (hg : GlC c "sure_places" := by rfl) (he : starEach [e1, e2] X.env = (false, eval e1 X.env) :: starEach [e2] X.env := by rfl) (hpl : (backTo pos (starEach [e2] X.env)).any (·.1) = false := by rfl) : EX X (.Call (.Name "sure_places" p) [e1, e2] [] pos) σ H Q :=
  ex_call hX.i hX.passC F hr (ax_of hX.i (ha.go t fun vs H1 S1 hvs => ⟨ms, L, n, ws, qs, t.up S1, hvs, hL, h10, fun hq v H' S hv => good hq v H' (S1.trans S) hv, fun i x h1 h2 h3 dd H' S hn hd => bad x ⟨i, h1, h2, h3⟩ dd H' (S1.trans S) (S1.free hn) hd⟩)) hg (by decide) he hpl
end
/-! ### most_late -/
def RMost : List PyData → PyData → Prop := fun ds d => ∃ n ws st p o, Ask ds n ws st p o ∧ Gr n ws st p o d
theorem natD_int (n : Nat) : natD n = .int (n : Int) := rfl
theorem spX_len {ps : List Str} {CP CC : Addr} {R : List PyData → PyData → Prop} {RC : List PyData → Prop} (h1 : ∀ ds d, R ds d → ds.length = ps.length) (h2 : ∀ ds x, Bad3 ds x → ds.length = ps.length) (h3 : ∀ ds, RC ds → ds.length = ps.length) : ∀ vs H Q E, spX K CP CC R Bad3 RC vs H Q E → vs.length = ps.length := fun vs H Q E h => by
  obtain ⟨ms, ds, _, hv, h⟩ := h
  rw [dpall_len hv]
  rcases h with ⟨d, h, _⟩ | ⟨n, h, _⟩ | ⟨h, _⟩
  · exact h1 _ _ h
  · exact h2 _ _ h
  · exact h3 _ h
theorem bad3_len {ds : List PyData} {x : Int} (h : Bad3 ds x) : ds.length = 4 := by obtain ⟨_, _, _, _, _, _, rfl, _⟩ := h; rfl
theorem ask_len {ds : List PyData} {n : Nat} {ws : List Way} {st p o : Nat} (h : Ask ds n ws st p o) : ds.length = 4 := by obtain ⟨_, rfl, _⟩ := h; rfl
theorem allOk {n a b c : Nat} (h1 : a < n) (h2 : b < n) (h3 : c < n) : ∀ q ∈ [(a : Int), (b : Int), (c : Int)], OkP n q := fun q hq => by
  simp only [List.mem_cons, List.not_mem_nil, or_false] at hq
  rcases hq with rfl | rfl | rfl
  · exact okP_nat h1
  · exact okP_nat h2
  · exact okP_nat h3
theorem noBad {n : Nat} {qs : List Int} (h : ∀ q ∈ qs, OkP n q) {x : Int} (hb : FirstBad n qs x) : False := by
  obtain ⟨i, h1, _, h3⟩ := hb
  exact h3 (h x (List.mem_of_getElem? h1))
theorem bad_no {n : Nat} {qs : List Int} {x : Int} (hb : FirstBad n qs x) (h : ∀ q ∈ qs, OkP n q) : False := noBad h hb
/-- either four numbers that are asked rightly, or a wrong one -/
def In4 (ds : List PyData) (good : ∀ (n : Nat) (ws : List Way) (st p o : Nat), Prop) : Prop := ∃ n ws st p o, Ask ds n ws st p o ∧ good n ws st p o
theorem fn_most_late {f : Addr} {fd : FuncData} {k : Nat} {CP CC : Addr} (a : At K mg "most_late" sMostLate f fd ["land", "start", "place", "other"]) (T : Mg mg) (FS : Fn1 P w K mg base (L2.CX P w) k "sure_places" ["land", "numbers"] (spSure K CP)) (FG : Fn1 P w K mg base CX0 k "greatest_late" ["land", "start", "place", "other"] (spP K RGr)) :
    Fn1 P w K mg base (L2.CX P w) (k + 1) "most_late" ["land", "start", "place", "other"] (spX K CP CC RMost Bad3 fun _ => False) :=
  a.fnX scMostLate (spX_len (fun ds d ⟨_, _, _, _, _, h, _⟩ => ask_len h) (fun ds x h => bad3_len h) fun ds h => h.elim) fun A X H vs Q E hX hr h => by
    obtain ⟨ms, ds, t, hvs, h⟩ := h
    have key : ∃ L n ws x y z, ds = [L, .int x, .int y, .int z] ∧ LandIn L n ws ∧ ((∀ q ∈ [x, y, z], OkP n q) → ∃ st p o : Nat, x = st ∧ y = p ∧ z = o ∧ Lnd n ws ∧ st < n ∧ p < n ∧ o < n ∧ ∃ d, Gr n ws st p o d ∧ ∀ v H', Same H H' → Dp K (cut ms H') v d → Q v H') ∧
        ∀ b, FirstBad n [x, y, z] b → ∀ dd H', Same H H' → H dd = none → H' dd = some (.xd [(("number" : Str), .int b)]) → E (.ref CP) (some dd) H' := by
      rcases h with ⟨d, ⟨n, ws, st, p, o, ⟨L, rfl, hL, Ln, hs, hp, ho⟩, hd⟩, q⟩ | ⟨b, ⟨L, n, ws, x, y, z, rfl, hL, hb⟩, q⟩ | ⟨h, _⟩
      · exact ⟨L, n, ws, st, p, o, rfl, hL, fun _ => ⟨st, p, o, rfl, rfl, rfl, Ln, hs, hp, ho, d, hd, q⟩, fun b hb => (bad_no hb (allOk hs hp ho)).elim⟩
      · refine ⟨L, n, ws, x, y, z, rfl, hL, fun hq => (bad_no hb hq).elim, fun b' hb' => ?_⟩
        obtain ⟨i, g1, g2, g3⟩ := hb'
        rw [← hb.uniq g1 g2 g3]
        exact q
      · exact h.elim
    obtain ⟨L, n, ws, x, y, z, rfl, hL, good, bad⟩ := key
    obtain ⟨v0, v1, v2, v3, rfl, d0, d1, d2, d3⟩ := dpall4 hvs
    have hX' := hX.toOwn
    refine ss_retX hX' (ex_call hX.i pass0 FG hr (ax_cons (ex_sure (ms := ms) (L := L) (n := n) (ws := ws) (qs := [x, y, z]) hX FS hr t (pad_cons (pd_name (i := 0) rfl d0) (pad_cons (pd_tup (pad_cons (pd_name (i := 1) rfl d1) (pad_cons (pd_name (i := 2) rfl d2) (pad_cons (pd_name (i := 3) rfl d3) pad_nil))) (by show 3 ≤ sizeLine; decide)) pad_nil)) hL (by show 3 ≤ 10; decide) (fun hq v H1 S1 hv => ?_) bad)))
    obtain ⟨s, p, o, rfl, rfl, rfl, Ln, hs, hp, ho, d, hd, q⟩ := good hq
    refine ax_of hX.i (PAd.go (ms := ms) (ds := [natD s, natD p, natD o]) (pad_cons (pd_name (i := 1) rfl (dp_mono (cut_same S1) d1)) (pad_cons (pd_name (i := 2) rfl (dp_mono (cut_same S1) d2)) (pad_cons (pd_name (i := 3) rfl (dp_mono (cut_same S1) d3)) pad_nil))) (t.up S1) fun us H2 S2 hus => ?_)
    exact ⟨ms, [landD n ws, natD s, natD p, natD o], d, (t.up S1).up S2, .cons (dp_mono (cut_same S2) hv) hus, ⟨n, ws, s, p, o, rfl, Ln, hs, hp, ho, hd⟩, fun v' H3 S3 hv' => q _ _ (S1.trans (S2.trans S3)) hv'⟩
end
end SK
set_option maxHeartbeats 4000000
namespace SK
open PySem PySem.Spec PyProof.Rows L2 SKM
section
variable {P : Program} {w : World} {K : PySem.W.Frag} {mg : Str → Option Value} {base : Heap}
abbrev GT := Nat → List Way → Nat → Nat → Nat → PyData → Prop
abbrev GC := Nat → List Way → Nat → Nat → Nat → Prop
def RX (G : GT) : List PyData → PyData → Prop := fun ds d => ∃ n ws st p o, Ask ds n ws st p o ∧ G n ws st p o d
def RCX (C : GC) : List PyData → Prop := fun ds => ∃ n ws st p o, Ask ds n ws st p o ∧ C n ws st p o
abbrev spA (K : PySem.W.Frag) (CP CC : Addr) (G : GT) (C : GC) : Sp := spX K CP CC (RX G) Bad3 (RCX C)
theorem spA_len {CP CC : Addr} {G : GT} {C : GC} {ps : List Str} (h : ps.length = 4) : ∀ vs H Q E, spA K CP CC G C vs H Q E → vs.length = ps.length :=
  spX_len (fun ds d ⟨_, _, _, _, _, q, _⟩ => (ask_len q).trans h.symm) (fun ds x q => (bad3_len q).trans h.symm) fun ds ⟨_, _, _, _, _, q, _⟩ => (ask_len q).trans h.symm
/-- what the caller gives, told by the three numbers -/
theorem key4 {CP CC : Addr} {G : GT} {C : GC} {vs : List V} {H : Hp} {Q : VK} {E : XK} (h : spA K CP CC G C vs H Q E) : ∃ ms L n ws x y z, Trk ms H ∧ DpAll K (cut ms H) vs [L, .int x, .int y, .int z] ∧ LandIn L n ws ∧
    ((∀ q ∈ [x, y, z], OkP n q) → ∃ st p o : Nat, x = st ∧ y = p ∧ z = o ∧ Lnd n ws ∧ st < n ∧ p < n ∧ o < n ∧ ((∃ d, G n ws st p o d ∧ ∀ v H', Same H H' → Dp K (cut ms H') v d → Q v H') ∨ (C n ws st p o ∧ ∀ H', Same H H' → E (.ref CC) none H'))) ∧
    ∀ b, FirstBad n [x, y, z] b → ∀ dd H', Same H H' → H dd = none → H' dd = some (.xd [(("number" : Str), .int b)]) → E (.ref CP) (some dd) H' := by
  obtain ⟨ms, ds, t, hvs, h⟩ := h
  rcases h with ⟨d, ⟨n, ws, st, p, o, ⟨L, rfl, hL, Ln, hs, hp, ho⟩, hd⟩, q⟩ | ⟨b, ⟨L, n, ws, x, y, z, rfl, hL, hb⟩, q⟩ | ⟨⟨n, ws, st, p, o, ⟨L, rfl, hL, Ln, hs, hp, ho⟩, hc⟩, q⟩
  · exact ⟨ms, L, n, ws, st, p, o, t, hvs, hL, fun _ => ⟨st, p, o, rfl, rfl, rfl, Ln, hs, hp, ho, .inl ⟨d, hd, q⟩⟩, fun b hb => (bad_no hb (allOk hs hp ho)).elim⟩
  · refine ⟨ms, L, n, ws, x, y, z, t, hvs, hL, fun hq => (bad_no hb hq).elim, fun b' hb' => ?_⟩
    obtain ⟨i, g1, g2, g3⟩ := hb'
    rw [← hb.uniq g1 g2 g3]
    exact q
  · exact ⟨ms, L, n, ws, st, p, o, t, hvs, hL, fun _ => ⟨st, p, o, rfl, rfl, rfl, Ln, hs, hp, ho, .inr ⟨hc, q⟩⟩, fun b hb => (bad_no hb (allOk hs hp ho)).elim⟩
/-! ### lateness -/
def Lt2 : GT := fun n ws st p o d => (lateL n ws st p o = [] ∧ d = .none) ∨ ∃ m m', IsMax m ((lateL n ws st p o).map (·.1)) ∧ IsMax m' ((lateL n ws st o p).map (·.1)) ∧ d = .tuple [.int (-m'), .int m]
theorem fn_lateness {f : Addr} {fd : FuncData} {k : Nat} {CP CC : Addr} (a : At K mg "lateness" sLateness f fd ["land", "start", "place", "other"]) (T : Mg mg) (FS : Fn1 P w K mg base (L2.CX P w) k "sure_places" ["land", "numbers"] (spSure K CP)) (FG : Fn1 P w K mg base CX0 k "greatest_late" ["land", "start", "place", "other"] (spP K RGr)) :
    Fn1 P w K mg base (L2.CX P w) (k + 1) "lateness" ["land", "start", "place", "other"] (spA K CP CC Lt2 fun _ _ _ _ _ => False) :=
  a.fnX scLateness (spA_len rfl) fun A X H vs Q E hX hr h => by
    obtain ⟨ms, L, n, ws, x, y, z, t, hvs, hL, good, bad⟩ := key4 h
    obtain ⟨v0, v1, v2, v3, rfl, d0, d1, d2, d3⟩ := dpall4 hvs
    have hX' := hX.toOwn
    refine ss_setX 4 hX' (ex_sure (ms := ms) (L := L) (n := n) (ws := ws) (qs := [x, y, z]) hX FS hr t (pad_cons (pd_name (i := 0) rfl d0) (pad_cons (pd_tup (pad_cons (pd_name (i := 1) rfl d1) (pad_cons (pd_name (i := 2) rfl d2) (pad_cons (pd_name (i := 3) rfl d3) pad_nil))) (by show 3 ≤ sizeLine; decide)) pad_nil)) hL (by show 3 ≤ 10; decide) (fun hq v4 H1 S1 d4 => ?_) bad)
    obtain ⟨s, p, o, rfl, rfl, rfl, Ln, hs, hp, ho, hd⟩ := good hq
    have e1 := dp_mono (cut_same (ms := ms) S1) d1
    have e2 := dp_mono (cut_same (ms := ms) S1) d2
    have e3 := dp_mono (cut_same (ms := ms) S1) d3
    rcases hd with ⟨d, hd, q⟩ | ⟨hc, _⟩
    · rcases hd with ⟨h0, rfl⟩ | ⟨m, m', hm, hm', rfl⟩
      · refine ss_set 5 hX' (PD.go (ms := ms) (pd_call FG hr (d := .none) (ds := [landD n ws, natD s, natD p, natD o]) ⟨n, ws, s, p, o, rfl, Ln, hs, hp, ho, .inl ⟨h0, rfl⟩⟩ (pad_cons (pd_name (i := 4) rfl d4) (pad_cons (pd_name (i := 1) rfl e1) (pad_cons (pd_name (i := 2) rfl e2) (pad_cons (pd_name (i := 3) rfl e3) pad_nil))))) (t.up S1) fun v5 H2 S2 d5 => ?_)
        exact ss_ret hX' (PD.go (ms := ms) (pd_if (pb_isN (pd_name (i := 5) rfl d5)) (fun _ => pd_none) fun z => nomatch z) ((t.up S1).up S2) fun v H6 S6 hv => q _ _ (S1.trans (S2.trans S6)) hv)
      · refine ss_set 5 hX' (PD.go (ms := ms) (pd_call FG hr (d := .int m) (ds := [landD n ws, natD s, natD p, natD o]) ⟨n, ws, s, p, o, rfl, Ln, hs, hp, ho, .inr ⟨m, hm, rfl⟩⟩ (pad_cons (pd_name (i := 4) rfl d4) (pad_cons (pd_name (i := 1) rfl e1) (pad_cons (pd_name (i := 2) rfl e2) (pad_cons (pd_name (i := 3) rfl e3) pad_nil))))) (t.up S1) fun v5 H2 S2 d5 => ?_)
        refine ss_ret hX' (PD.go (ms := ms) (pd_if (pb_isN (pd_name (i := 5) rfl d5)) (fun z => nomatch z) fun _ => pd_tup (pad_cons (pd_neg (pd_call FG hr (d := .int m') (ds := [landD n ws, natD s, natD o, natD p]) ⟨n, ws, s, o, p, rfl, Ln, hs, ho, hp, .inr ⟨m', hm', rfl⟩⟩ (pad_cons (pd_name (i := 4) rfl (dp_mono (cut_same S2) d4)) (pad_cons (pd_name (i := 1) rfl (dp_mono (cut_same S2) e1)) (pad_cons (pd_name (i := 3) rfl (dp_mono (cut_same S2) e3)) (pad_cons (pd_name (i := 2) rfl (dp_mono (cut_same S2) e2)) pad_nil)))))) (pad_cons (pd_name (i := 5) rfl d5) pad_nil)) (by show 2 ≤ sizeLine; decide)) ((t.up S1).up S2) fun v H6 S6 hv => q _ _ (S1.trans (S2.trans S6)) hv)
    · exact hc.elim
/-! ### worst_road -/
def Wst (n : Nat) (ws : List Way) (st p o : Nat) (R : List Nat) : Prop := ∃ m, IsMax m ((lateL n ws st p o).map (·.1)) ∧ (m, R) ∈ lateL n ws st p o ∧ ∀ R', (m, R') ∈ lateL n ws st p o → lexN R' R = false
def WRd : GT := fun n ws st p o d => ∃ R, Wst n ws st p o R ∧ d = tupN R
def NoL : GC := fun n ws st p o => lateL n ws st p o = []
theorem keep_filter {m : Int} : ∀ l : List (Int × List Nat), keep (l.map fun x => decide (x.1 = m)) (l.map fun x => tupN x.2) = ((l.filter fun x => decide (x.1 = m)).map (·.2)).map tupN
  | [] => rfl
  | x :: l => by
    have ih := keep_filter (m := m) l
    unfold keep at ih ⊢
    rw [List.map_cons, List.map_cons, List.zip_cons_cons, List.flatMap_cons, ih]
    by_cases h : x.1 = m
    · rw [List.filter_cons_of_pos (by simpa using h)]
      simp [h]
    · rw [List.filter_cons_of_neg (by simpa using h)]
      simp [h]
theorem fn_worst_road {f : Addr} {fd : FuncData} {k : Nat} {CP CC : Addr} (a : At K mg "worst_road" sWorstRoad f fd ["land", "start", "place", "other"]) (T : Mg mg) (hk : 2 ≤ k) (FS : Fn1 P w K mg base (L2.CX P w) k "sure_places" ["land", "numbers"] (spSure K CP)) (FL : Fn1 P w K mg base CX0 k "late_roads" ["land", "start", "place", "other"] (spP K RLate)) (cn : CNok P w K mg base CC) :
    Fn1 P w K mg base (L2.CX P w) (k + 1) "worst_road" ["land", "start", "place", "other"] (spA K CP CC WRd NoL) :=
  a.fnX scWorstRoad (spA_len rfl) fun A X H vs Q E hX hr h => by
    obtain ⟨ms, L, n, ws, x, y, z, t, hvs, hL, good, bad⟩ := key4 h
    obtain ⟨v0, v1, v2, v3, rfl, d0, d1, d2, d3⟩ := dpall4 hvs
    have hX' := hX.toOwn
    have hi := hX.i
    refine ss_setX 4 hX' (ex_call hX.i pass0 FL hr (ax_cons (ex_sure (ms := ms) (L := L) (n := n) (ws := ws) (qs := [x, y, z]) hX FS hr t (pad_cons (pd_name (i := 0) rfl d0) (pad_cons (pd_tup (pad_cons (pd_name (i := 1) rfl d1) (pad_cons (pd_name (i := 2) rfl d2) (pad_cons (pd_name (i := 3) rfl d3) pad_nil))) (by show 3 ≤ sizeLine; decide)) pad_nil)) hL (by show 3 ≤ 10; decide) (fun hq v H1 S1 hv => ?_) bad)))
    obtain ⟨s, p, o, rfl, rfl, rfl, Ln, hs, hp, ho, hd⟩ := good hq
    refine ax_of hX.i (PAd.go (ms := ms) (ds := [natD s, natD p, natD o]) (pad_cons (pd_name (i := 1) rfl (dp_mono (cut_same S1) d1)) (pad_cons (pd_name (i := 2) rfl (dp_mono (cut_same S1) d2)) (pad_cons (pd_name (i := 3) rfl (dp_mono (cut_same S1) d3)) pad_nil))) (t.up S1) fun us H2 S2 hus => ?_)
    refine ⟨ms, [landD n ws, natD s, natD p, natD o], .list ((lateL n ws s p o).map lateD), (t.up S1).up S2, .cons (dp_mono (cut_same S2) hv) hus, ⟨n, ws, s, p, o, rfl, Ln, hs, hp, ho, rfl⟩, fun v4 H3 S3 d4 => ?_⟩
    have S03 := S1.trans (S2.trans S3)
    have t3 := t.up S03
    have hlv : ∀ l : List (Int × List Nat), lv 3 (.list (l.map lateD)) = true := fun l => lv_map _ (fun x => lv_lateD x) l
    refine ss_if (ms := ms) (k := (lateL n ws s p o).isEmpty) hX' ((pb_eqD (d' := .list []) (show A.units + 64 < cLine from hr.units) (shaped_lv (hlv _)) (shaped_lv (n := 1) rfl) (pd_name (i := 4) rfl d4) (pd_lst pad_nil (by decide))).cast ?_) t3 (fun hb H4 S4 => ?_) fun hb H4 S4 => ?_
    · rw [eqv_nil_list, List.isEmpty_map]
    · have h0 : lateL n ws s p o = [] := List.isEmpty_iff.mp hb
      rcases hd with ⟨d, ⟨R, ⟨m, hm, _⟩, _⟩, _⟩ | ⟨_, q⟩
      · rw [h0] at hm
        cases hm.1
      · exact ss_raise hX (cn X hi.P hi.w hi.K hi.mg hi.base (by rw [hi.A]; exact hr.mono hk) (by show X.env.scope.names.lookup _ = _; rw [hi.sc]; rfl) _ _) (q _ (S03.trans S4))
    · have h0 : lateL n ws s p o ≠ [] := fun z => by rw [z] at hb; cases hb
      rcases hd with ⟨d, ⟨R, ⟨m, hm, hmem, hleast⟩, rfl⟩, q⟩ | ⟨z, _⟩
      · refine ss_nil ?_
        have d4' := dp_mono (cut_same (ms := ms) S4) d4
        have eN : ∀ (i : Nat) (x : Int × List Nat), (lateL n ws s p o)[i]? = some x → (lateL n ws s p o).getD i (0, []) = x := fun i x hx => getD_of hx
        refine ss_set 5 hX' (PD.go (ms := ms) (d := .int m) (pd_maxI (nl := (lateL n ws s p o).map (·.1)) ((pd_of (es := (lateL n ws s p o).map fun x => .int x.1) (lc_map (own := [("late", 6), ("_", 7)]) (bf := fun i => [(6, .int ((lateL n ws s p o).getD i (0, [])).1), (7, tupN ((lateL n ws s p o).getD i (0, [])).2)]) scWorstRoad.nd (by show blkC nWorstRoad (defScope sWorstRoad) _ _ = true; decide +kernel)
          (pdi_list (pd_name (i := 4) rfl d4')) ?_ ?_ ?_ ?_ ?_)).cast (by rw [map_fst_int])) hm.1 hm.2 T.max) (t3.up S4) fun v5 H5 S5 d5 => ?_)
        · rw [List.length_map, List.length_map]
        · rw [List.length_map]
          exact Nat.le_trans (lateL_len Ln) (by decide)
        · intro i d ms' hi
          rw [List.getElem?_map] at hi
          obtain ⟨x, hx, rfl⟩ := Option.map_eq_some_iff.mp hi
          rw [getD_of hx]
          exact gd_tup (gds_cons (gd_name (i := 6) scWorstRoad.nd) (gds_cons (gd_name (i := 7) scWorstRoad.nd) gds_nil)) rfl
        · intro i pp hpp
          simp only [List.map_cons, List.map_nil]
          rcases List.mem_cons.mp hpp with rfl | hpp
          · exact List.mem_cons_self
          · rw [List.mem_singleton.mp hpp]
            exact List.mem_cons_of_mem _ List.mem_cons_self
        · intro i d e vs ms' H1 hi he S Sc hvs
          rw [List.getElem?_map] at hi he
          obtain ⟨x, hx, rfl⟩ := Option.map_eq_some_iff.mp hi
          rw [hx] at he
          rw [← (show PyData.int x.1 = e from Option.some.inj he)]
          rw [List.map_cons, List.map_cons, List.map_nil] at hvs
          dsimp only at hvs
          rw [getD_of hx] at hvs
          obtain ⟨b1, b2, rfl, g1, g2⟩ := dpall2 hvs
          exact pd_name (i := 6) rfl g1
        · have d4'' := dp_mono (cut_same (ms := ms) S5) d4'
          refine ss_ret hX' (PD.go (ms := ms) (pd_minN (rs := ((lateL n ws s p o).filter fun x => decide (x.1 = m)).map (·.2)) (m := R) (show A.units + 3 < cLine by have := hr.un; omega) ?_ ?_ ((pd_of (lc_flt (own := [("late", 6), ("road", 8)]) (ks := (lateL n ws s p o).map fun x => decide (x.1 = m)) (es := (lateL n ws s p o).map fun x => tupN x.2) (bf := fun i => [(6, .int ((lateL n ws s p o).getD i (0, [])).1), (8, tupN ((lateL n ws s p o).getD i (0, [])).2)]) scWorstRoad.nd (by show blkC nWorstRoad (defScope sWorstRoad) _ _ = true; decide +kernel)
            (pdi_list (pd_name (i := 4) rfl d4'')) ?_ ?_ ?_ ?_ ?_ ?_ ?_)).cast (by rw [keep_filter])) T.min) ((t3.up S4).up S5) fun v H6 S6 hv => q _ _ (S03.trans (S4.trans (S5.trans S6))) hv)
          · exact List.mem_map.mpr ⟨(m, R), List.mem_filter.mpr ⟨hmem, by simp⟩, rfl⟩
          · intro R' hR'
            obtain ⟨⟨m2, R2⟩, h2, rfl⟩ := List.mem_map.mp hR'
            obtain ⟨h3, h4⟩ := List.mem_filter.mp h2
            have : m2 = m := of_decide_eq_true h4
            rw [this] at h3
            exact hleast _ h3
          · rw [List.length_map, List.length_map]
          · rw [List.length_map, List.length_map]
          · rw [List.length_map]
            exact Nat.le_trans (lateL_len Ln) (by decide)
          · intro i d ms' hi
            rw [List.getElem?_map] at hi
            obtain ⟨x, hx, rfl⟩ := Option.map_eq_some_iff.mp hi
            rw [getD_of hx]
            exact gd_tup (gds_cons (gd_name (i := 6) scWorstRoad.nd) (gds_cons (gd_name (i := 8) scWorstRoad.nd) gds_nil)) rfl
          · intro i pp hpp
            simp only [List.map_cons, List.map_nil]
            rcases List.mem_cons.mp hpp with rfl | hpp
            · exact List.mem_cons_self
            · rw [List.mem_singleton.mp hpp]
              exact List.mem_cons_of_mem _ List.mem_cons_self
          · intro i d kk vs ms' H1 hi hk1 S Sc hvs
            rw [List.getElem?_map] at hi hk1
            obtain ⟨x, hx, rfl⟩ := Option.map_eq_some_iff.mp hi
            rw [hx] at hk1
            rw [← (show decide (x.1 = m) = kk from Option.some.inj hk1)]
            rw [List.map_cons, List.map_cons, List.map_nil] at hvs
            dsimp only at hvs
            rw [getD_of hx] at hvs
            obtain ⟨b1, b2, rfl, g1, g2⟩ := dpall2 hvs
            exact pb_eqI (pd_name (i := 6) rfl g1) (pd_name (i := 5) rfl (dp_mono Sc d5))
          · intro i d e vs ms' H1 hi he hk1 S Sc hvs
            rw [List.getElem?_map] at hi he
            obtain ⟨x, hx, rfl⟩ := Option.map_eq_some_iff.mp hi
            rw [hx] at he
            rw [← (show tupN x.2 = e from Option.some.inj he)]
            rw [List.map_cons, List.map_cons, List.map_nil] at hvs
            dsimp only at hvs
            rw [getD_of hx] at hvs
            obtain ⟨b1, b2, rfl, g1, g2⟩ := dpall2 hvs
            exact pd_name (i := 8) rfl g2
      · exact absurd z h0
/-! ### worst_spreads -/
def WSp : GT := fun n ws st p o d => ∃ R, Wst n ws st p o R ∧ d = intsT (corner ws R)
theorem fn_worst_spreads {f : Addr} {fd : FuncData} {k : Nat} {CP CC : Addr} (a : At K mg "worst_spreads" sWorstSpreads f fd ["land", "start", "place", "other"]) (T : Mg mg) (FT : Fn1 P w K mg base CX0 k "tupled" ["value"] (spP K (RTup 3))) (FL : Fn1 P w K mg base CX0 k "low_along" ["land", "road"] (spP K RLow)) (FW : Fn1 P w K mg base (L2.CX P w) k "worst_road" ["land", "start", "place", "other"] (spA K CP CC WRd NoL)) :
    Fn1 P w K mg base (L2.CX P w) (k + 1) "worst_spreads" ["land", "start", "place", "other"] (spA K CP CC WSp NoL) :=
  a.fnX scWorstSpreads (spA_len rfl) fun A X H vs Q E hX hr h => by
    obtain ⟨ms, L, n, ws, x, y, z, t, hvs, hL, good, bad⟩ := key4 h
    obtain ⟨v0, v1, v2, v3, rfl, d0, d1, d2, d3⟩ := dpall4 hvs
    have hX' := hX.toOwn
    refine ss_retX hX' (ex_call hX.i pass0 FL hr (ax_cons (ex_of hX.i (PD.go (ms := ms) (pd_call FT hr (d := landD n ws) ⟨L, rfl, hL.1, hL.2.symm⟩ (pad_cons (pd_name (i := 0) rfl d0) pad_nil)) t fun v H1 S1 hv => ?_))))
    refine ax_cons (ex_call hX.i hX.passC FW hr (ax_of hX.i (PAd.go (ms := ms) (ds := [L, .int x, .int y, .int z]) (pad_cons (pd_name (i := 0) rfl (dp_mono (cut_same S1) d0)) (pad_cons (pd_name (i := 1) rfl (dp_mono (cut_same S1) d1)) (pad_cons (pd_name (i := 2) rfl (dp_mono (cut_same S1) d2)) (pad_cons (pd_name (i := 3) rfl (dp_mono (cut_same S1) d3)) pad_nil)))) (t.up S1) fun us H2 S2 hus => ?_)))
    have S12 := S1.trans S2
    refine ⟨ms, _, t.up S12, hus, ?_⟩
    by_cases hq : ∀ q ∈ [x, y, z], OkP n q
    · obtain ⟨s, p, o, rfl, rfl, rfl, Ln, hs, hp, ho, hd⟩ := good hq
      have ask : Ask [L, .int s, .int p, .int o] n ws s p o := ⟨L, rfl, hL, Ln, hs, hp, ho⟩
      rcases hd with ⟨d, ⟨R, hR, rfl⟩, q⟩ | ⟨hc, q⟩
      · refine .inl ⟨tupN R, ⟨n, ws, s, p, o, ask, R, hR, rfl⟩, fun v' H3 S3 hv' => ?_⟩
        refine ax_of hX.i ⟨tNil, fun _ _ => pa_nil, ?_⟩
        refine ⟨ms, [landD n ws, tupN R], _, t.up (S12.trans S3), .cons (dp_mono (cut_same (S2.trans S3)) hv) (.cons hv' .nil), ⟨n, ws, R, rfl, Nat.le_trans Ln.w7 (by decide), rfl⟩, fun v6 H6 S6 h6 => q _ _ (S12.trans (S3.trans S6)) h6⟩
      · exact .inr (.inr ⟨⟨n, ws, s, p, o, ask, hc⟩, fun H3 S3 => q _ (S12.trans S3)⟩)
    · have hb : ∃ b, FirstBad n [x, y, z] b := by
        by_cases h0 : OkP n x
        · by_cases h1 : OkP n y
          · have h2 : ¬ OkP n z := fun h2 => hq fun q hq => by
              simp only [List.mem_cons, List.not_mem_nil, or_false] at hq
              rcases hq with rfl | rfl | rfl <;> assumption
            refine ⟨z, 2, rfl, fun j u hj hu => ?_, h2⟩
            rcases j with _ | _ | j
            · cases hu; exact h0
            · cases hu; exact h1
            · omega
          · refine ⟨y, 1, rfl, fun j u hj hu => ?_, h1⟩
            obtain rfl : j = 0 := by omega
            cases hu
            exact h0
        · exact ⟨x, 0, rfl, fun j u hj => absurd hj (Nat.not_lt_zero j), h0⟩
      obtain ⟨b, hb⟩ := hb
      refine .inr (.inl ⟨b, ⟨L, n, ws, x, y, z, rfl, hL, hb⟩, fun dd H3 S3 hn hdd => bad b hb dd _ (S12.trans S3) (S12.free hn) hdd⟩)
end
end SK
set_option maxHeartbeats 4000000
namespace SK
open PySem PySem.Spec PyProof.Rows L2 SKM
/-! ### things that are SPREADS -/
def numOf : PyData → Int
  | .int i => i
  | _ => 0
def inW (w : Way) (t : Int) : Bool := decide (w.lo ≤ t) && decide (t ≤ w.hi)
def isSp (ws : List Way) : PyData → Bool
  | .tuple xs => decide (xs.length = ws.length) && xs.all isNum && (List.zipWith inW ws (xs.map numOf)).all id
  | _ => false
theorem nums_back : ∀ {xs : List PyData}, xs.all isNum = true → xs = (xs.map numOf).map PyData.int
  | [], _ => rfl
  | x :: xs, h => by
    rw [List.all_cons, Bool.and_eq_true] at h
    rw [List.map_cons, List.map_cons, ← nums_back h.2]
    cases x <;> first | rfl | cases h.1
theorem isSp_iff {ws : List Way} {x : PyData} : isSp ws x = true ↔ ∃ s, x = intsT s ∧ InS ws s := by
  constructor
  · intro h
    cases x with
    | tuple xs =>
      unfold isSp at h
      rw [Bool.and_eq_true, Bool.and_eq_true] at h
      obtain ⟨⟨h1, h2⟩, h3⟩ := h
      have h1 := of_decide_eq_true h1
      refine ⟨xs.map numOf, by unfold intsT; rw [← nums_back h2], by rw [List.length_map]; exact h1, fun i w t hw ht => ?_⟩
      have h4 : (List.zipWith inW ws (xs.map numOf))[i]? = some (inW w t) := by rw [List.getElem?_zipWith, hw, ht]
      have h5 := List.all_eq_true.mp h3 _ (List.mem_of_getElem? h4)
      have h6 : inW w t = true := h5
      unfold inW at h6
      rw [Bool.and_eq_true] at h6
      exact ⟨of_decide_eq_true h6.1, of_decide_eq_true h6.2⟩
    | _ => cases h
  · rintro ⟨s, rfl, hs⟩
    show (decide ((s.map PyData.int).length = ws.length) && (s.map PyData.int).all isNum && (List.zipWith inW ws ((s.map PyData.int).map numOf)).all id) = true
    rw [Bool.and_eq_true, Bool.and_eq_true]
    refine ⟨⟨decide_eq_true (by rw [List.length_map]; exact hs.len), List.all_eq_true.mpr fun x hx => ?_⟩, List.all_eq_true.mpr fun b hb => ?_⟩
    · obtain ⟨i, _, rfl⟩ := List.mem_map.mp hx
      rfl
    · rw [List.map_map] at hb
      have e : (numOf ∘ PyData.int) = id := by funext i; rfl
      rw [e, List.map_id] at hb
      obtain ⟨i, hi, e2⟩ := List.getElem_of_mem hb
      have h4 : (List.zipWith inW ws s)[i]? = some b := by rw [List.getElem?_eq_getElem hi, e2]
      rw [List.getElem?_zipWith] at h4
      cases hw : ws[i]? with
      | none => rw [hw] at h4; simp at h4
      | some w =>
        cases ht : s[i]? with
        | none => rw [hw, ht] at h4; simp at h4
        | some t =>
          rw [hw, ht] at h4
          have h5 : inW w t = b := by simpa using h4
          rw [← h5]
          obtain ⟨a1, a2⟩ := hs.bd i w t hw ht
          show inW w t = true
          unfold inW
          rw [decide_eq_true a1, decide_eq_true a2]
          rfl
section
variable {P : Program} {w : World} {K : PySem.W.Frag} {mg : Str → Option Value} {base : Heap}
def shortT : PyData → Bool
  | .tuple xs => decide (xs.length ≤ 1000)
  | _ => true
def RIsNum : List PyData → PyData → Prop := fun ds d => ∃ x, ds = [x] ∧ d = .bool (isNum x)
def RIsSp : List PyData → PyData → Prop := fun ds d => ∃ n ws x, ds = [landD n ws, x] ∧ ws.length ≤ 1000 ∧ shortT x = true ∧ d = .bool (isSp ws x)
theorem fn_is_spreads {f : Addr} {fd : FuncData} {k : Nat} (a : At K mg "is_spreads" sIsSpreads f fd ["land", "thing"]) (T : Mg mg) (FN : Fn1 P w K mg base CX0 k "is_number" ["thing"] (spP K RIsNum)) : Fn1 P w K mg base CX0 (k + 1) "is_spreads" ["land", "thing"] (spP K RIsSp) :=
  a.fnP scIsSpreads (fun ds d h => by obtain ⟨_, _, _, rfl, _⟩ := h; rfl) fun A X H vs Q ms ds d hX hr t hvs hR q => by
    obtain ⟨n, ws, x, rfl, hl, hsh, rfl⟩ := hR
    obtain ⟨v0, v1, rfl, d0, d1⟩ := dpall2 hvs
    have hland : ∀ {ms' : List Addr} {H' : Hp} {σ' : L2.St} {pos p2 p3 : Pos} {j}, σ'[0]? = some (some v0) → Same (cut ms H) (cut ms' H') → PD (ctOf P w K mg base nIsSpreads sIsSpreads A) ms' σ' H' (.Subscript (.Name "land" pos) (.Constant (.int 1) j p3) p2) (.tuple (ws.map wayD)) := fun h0 S => pd_ixT (pd_name (i := 0) h0 (dp_mono S d0)) pd_int rfl
    have hisi : ∀ {H' : Hp} {σ' : L2.St} {p1 p2 p3 p4}, σ'[1]? = some (some v1) → Same H H' → PD (ctOf P w K mg base nIsSpreads sIsSpreads A) ms σ' H' (.Call (.Name "isinstance" p1) [.Name "thing" p2, .Name "tuple" p3] [] p4) (.bool (isTuple x)) := fun h1 S => pd_isi (pd_name (i := 1) h1 (dp_mono (cut_same S) d1)) (kit_tuple x (dp_nodict d1)) T.isi T.tuple (by decide +kernel)
    cases hx : isTuple x with
    | false =>
      rw [hx] at hisi
      have e : isSp ws x = false := by cases x <;> first | rfl | cases hx
      rw [e] at q
      refine ss_if (ms := ms) (k := true) hX ((pb_w (pw_ord (k := true) (k' := false) (pb_not (pb_val (hisi rfl (Same.refl _)))) fun z => nomatch z)).cast rfl) t (fun _ H1 S1 => ?_) fun z => nomatch z
      exact ss_ret hX (PD.go (ms := ms) pd_bool (t.up S1) fun v H2 S2 hv => q _ _ (S1.trans S2) hv)
    | true =>
      rw [hx] at hisi
      obtain ⟨xs, rfl⟩ : ∃ xs, x = .tuple xs := by cases x <;> first | exact ⟨_, rfl⟩ | cases hx
      have hxl : xs.length ≤ 1000 := of_decide_eq_true hsh
      refine ss_if (ms := ms) (k := (false || (!decide (xs.length = ws.length) || !xs.all isNum))) hX (pb_w (pw_ord (pb_not (pb_val (hisi rfl (Same.refl _)))) fun _ => pw_ord ((pb_neI (pd_lenT (pd_name (i := 1) rfl d1) T.len) (pd_lenT (hland rfl (Same.refl _)) T.len)).cast ?_) fun _ => pw_or1d ((pb_not (pb_val (pd_all (bs := xs.map isNum) ((pd_of (lc_map (own := [("ticks", 2)]) (bf := fun i => [(2, xs.getD i .none)]) (es := xs.map fun x => .bool (isNum x)) scIsSpreads.nd (by show blkC nIsSpreads (defScope sIsSpreads) _ _ = true; decide +kernel) (pdi_tup (pd_name (i := 1) rfl d1)) ?_ ?_ ?_ ?_ ?_)).cast ?_) T.all))).cast ?_))) t (fun hb H1 S1 => ?_) fun hb H1 S1 => ?_
      · rw [List.length_map, eqN]
      · rw [List.length_map]
      · exact Nat.le_trans hxl (by decide)
      · intro i d ms' hi
        rw [getD_of hi]
        exact gd_name scIsSpreads.nd
      · intro i pp hpp
        rw [List.mem_singleton.mp hpp]
        exact List.mem_singleton.mpr rfl
      · intro i d e vs ms' H1 hi he S Sc hvs
        rw [List.getElem?_map, hi] at he
        rw [← (show PyData.bool (isNum d) = e from Option.some.inj he)]
        rw [List.map_singleton] at hvs
        dsimp only at hvs
        rw [getD_of hi] at hvs
        obtain ⟨b1, rfl, g1⟩ := dpall1 hvs
        exact pd_call FN hr ⟨d, rfl, rfl⟩ (pad_cons (pd_name (i := 2) rfl g1) pad_nil)
      · rw [List.map_map]; rfl
      · rw [List.all_map]; rfl
      · have e : isSp ws (.tuple xs) = false := by
          show (decide (xs.length = ws.length) && xs.all isNum && (List.zipWith inW ws (xs.map numOf)).all id) = false
          cases h1 : decide (xs.length = ws.length) with
          | false => rfl
          | true =>
            rw [h1] at hb
            have h2 : xs.all isNum = false := by simpa using hb
            rw [h2]
            rfl
        rw [e] at q
        exact ss_ret hX (PD.go (ms := ms) pd_bool (t.up S1) fun v H2 S2 hv => q _ _ (S1.trans S2) hv)
      · rw [Bool.false_or, Bool.or_eq_false_iff] at hb
        have h1 : xs.length = ws.length := of_decide_eq_true (by simpa using hb.1)
        have h2 : xs.all isNum = true := by simpa using hb.2
        have e : isSp ws (.tuple xs) = (List.zipWith inW ws (xs.map numOf)).all id := by
          show (decide (xs.length = ws.length) && xs.all isNum && (List.zipWith inW ws (xs.map numOf)).all id) = _
          rw [decide_eq_true h1, h2]
          rfl
        rw [e] at q
        have hxs := nums_back h2
        refine ss_nil ?_
        have hz : ∀ (i : Nat) (d : PyData), (pairs (ws.map wayD) xs)[i]? = some d → ∃ (w1 : Way) (t1 : Int), ws[i]? = some w1 ∧ xs[i]? = some (.int t1) ∧ (xs.map numOf)[i]? = some t1 ∧ d = .tuple [wayD w1, .int t1] := fun i d hd => by
          obtain ⟨x1, y1, g1, g2, rfl⟩ := pairs_get hd
          rw [List.getElem?_map] at g1
          obtain ⟨w1, hw, rfl⟩ := Option.map_eq_some_iff.mp g1
          rw [hxs, List.getElem?_map] at g2
          obtain ⟨t1, ht, rfl⟩ := Option.map_eq_some_iff.mp g2
          refine ⟨w1, t1, hw, ?_, ht, rfl⟩
          rw [hxs, List.getElem?_map, ht]
          rfl
        refine ss_ret hX (PD.go (ms := ms) (pd_all (bs := List.zipWith inW ws (xs.map numOf)) (pd_of (lc_map (own := [("_", 3), ("low", 4), ("high", 5), ("ticks", 2)]) (bf := fun i => [(3, (natD (ws.getD i ⟨0, 0, 0, 0⟩).u)), (3, natD (ws.getD i ⟨0, 0, 0, 0⟩).v), (4, .int (ws.getD i ⟨0, 0, 0, 0⟩).lo), (5, .int (ws.getD i ⟨0, 0, 0, 0⟩).hi), (2, xs.getD i .none)]) scIsSpreads.nd (by show blkC nIsSpreads (defScope sIsSpreads) _ _ = true; decide +kernel)
          (pdi_zipT (hland rfl (cut_same S1)) (pd_name (i := 1) rfl (dp_mono (cut_same S1) d1)) T.zip) ?_ ?_ ?_ ?_ ?_)) T.all) (t.up S1) fun v H2 S2 hv => q _ _ (S1.trans S2) hv)
        · unfold pairs
          rw [List.length_map, List.length_zipWith, List.length_zipWith, List.length_map, List.length_map]
        · unfold pairs
          rw [List.length_zipWith, List.length_map]
          exact Nat.le_trans (Nat.min_le_left _ _) (Nat.le_trans hl (by decide))
        · intro i d ms' hi
          obtain ⟨w1, t1, hw, hx1, _, rfl⟩ := hz i d hi
          rw [getD_of hw, getD_of hx1]
          exact gd_tup (gds_cons (gd_tup (gds_cons (gd_name (i := 3) scIsSpreads.nd) (gds_cons (gd_name (i := 3) scIsSpreads.nd) (gds_cons (gd_name (i := 4) scIsSpreads.nd) (gds_cons (gd_name (i := 5) scIsSpreads.nd) gds_nil)))) rfl) (gds_cons (gd_name (i := 2) scIsSpreads.nd) gds_nil)) rfl
        · intro i pp hpp
          simp only [List.map_cons, List.map_nil, List.mem_cons, List.not_mem_nil, or_false] at hpp ⊢
          rcases hpp with rfl | rfl | rfl | rfl | rfl <;> simp
        · intro i d e vs ms' H3 hi he S Sc hvs
          obtain ⟨w1, t1, hw, hx1, hn1, rfl⟩ := hz i d hi
          rw [List.getElem?_map, List.getElem?_zipWith, hw, hn1] at he
          rw [← (show PyData.bool (inW w1 t1) = e by simpa using he)]
          simp only [List.map_cons, List.map_nil] at hvs
          rw [getD_of hw, getD_of hx1] at hvs
          obtain ⟨b1, b2, b3, b4, b5, rfl, g1, g2, g3, g4, g5⟩ := dpall5 hvs
          exact pd_chain (fun _ _ => op_le) (fun _ _ => op_le) (r2_b0 rfl) (r2_b0 rfl) (pd_name (i := 4) rfl g3) (pd_name (i := 2) rfl g5) (pd_name (i := 5) rfl g4)
/-! ### is_worst -/
def intsOf : PyData → List Int
  | .tuple xs => xs.map numOf
  | _ => []
theorem intsOf_T (s : List Int) : intsOf (intsT s) = s := by
  show (s.map PyData.int).map numOf = s
  rw [List.map_map]
  exact List.map_id s
def Isw (n : Nat) (ws : List Way) (st p o : Nat) (x : PyData) (b : Bool) : Prop := (lateL n ws st p o = [] ∧ b = false) ∨ ∃ m, IsMax m ((lateL n ws st p o).map (·.1)) ∧ b = (isSp ws x && decide (lateV n ws st p o (intsOf x) = m))
def RIsW : List PyData → PyData → Prop := fun ds d => ∃ L n ws st p o x b, ds = [L, natD st, natD p, natD o, x] ∧ LandIn L n ws ∧ Lnd n ws ∧ st < n ∧ p < n ∧ o < n ∧ shortT x = true ∧ Isw n ws st p o x b ∧ d = .bool b
theorem lateL_rch {n : Nat} {ws : List Way} {st p o : Nat} (O : WsOk ws n) (hs : st < n) (h : lateL n ws st p o ≠ []) : Rch n ws st p ∧ Rch n ws st o := by
  by_cases hh : Rch n ws st p ∧ Rch n ws st o
  · exact hh
  · exact absurd (lateL_nil O hs hh) h
theorem fn_is_worst {f : Addr} {fd : FuncData} {CX : CXT} {k : Nat} (a : At K mg "is_worst" sIsWorst f fd ["land", "start", "place", "other", "thing"]) (T : Mg mg) (FS : Fn1 P w K mg base CX k "sure_places" ["land", "numbers"] (spP K RSure)) (FG : Fn1 P w K mg base CX0 k "greatest_late" ["land", "start", "place", "other"] (spP K RGr)) (FI : Fn1 P w K mg base CX0 k "is_spreads" ["land", "thing"] (spP K RIsSp)) (FA : Fn1 P w K mg base CX0 k "arrive" ["land", "start", "spreads"] (spP K RArrive)) :
    Fn1 P w K mg base CX0 (k + 1) "is_worst" ["land", "start", "place", "other", "thing"] (spP K RIsW) :=
  a.fnP scIsWorst (fun ds d h => by obtain ⟨_, _, _, _, _, _, _, _, rfl, _⟩ := h; rfl) fun A X H vs Q ms ds d hX hr t hvs hR q => by
    obtain ⟨L, n, ws, st, p, o, x, b, rfl, hL, Ln, hs, hp, ho, hsh, hb, rfl⟩ := hR
    obtain ⟨v0, v1, v2, v3, v4, rfl, d0, d1, d2, d3, d4⟩ := dpall5 hvs
    refine ss_set 5 hX (PD.go (ms := ms) (pd_call FS hr (d := landD n ws) (ds := [L, .tuple ([(st : Int), (p : Int), (o : Int)].map .int)]) ⟨L, n, ws, _, rfl, hL, (by show 3 ≤ 10; decide), allOk hs hp ho, rfl⟩ (pad_cons (pd_name (i := 0) rfl d0) (pad_cons (pd_tup (pad_cons (pd_name (i := 1) rfl d1) (pad_cons (pd_name (i := 2) rfl d2) (pad_cons (pd_name (i := 3) rfl d3) pad_nil))) (by show 3 ≤ sizeLine; decide)) pad_nil))) t fun v5 H1 S1 d5 => ?_)
    have e1 := dp_mono (cut_same (ms := ms) S1) d1
    have e2 := dp_mono (cut_same (ms := ms) S1) d2
    have e3 := dp_mono (cut_same (ms := ms) S1) d3
    have e4 := dp_mono (cut_same (ms := ms) S1) d4
    obtain ⟨dm, hdm, hcase⟩ : ∃ dm, Gr n ws st p o dm ∧ ((lateL n ws st p o = [] ∧ dm = .none ∧ b = false) ∨ ∃ m, IsMax m ((lateL n ws st p o).map (·.1)) ∧ dm = .int m ∧ b = (isSp ws x && decide (lateV n ws st p o (intsOf x) = m))) := by
      rcases hb with ⟨h0, hb⟩ | ⟨m, hm, hb⟩
      · exact ⟨.none, .inl ⟨h0, rfl⟩, .inl ⟨h0, rfl, hb⟩⟩
      · exact ⟨.int m, .inr ⟨m, hm, rfl⟩, .inr ⟨m, hm, rfl, hb⟩⟩
    refine ss_set 6 hX (PD.go (ms := ms) (pd_call FG hr (d := dm) (ds := [landD n ws, natD st, natD p, natD o]) ⟨n, ws, st, p, o, rfl, Ln, hs, hp, ho, hdm⟩ (pad_cons (pd_name (i := 5) rfl d5) (pad_cons (pd_name (i := 1) rfl e1) (pad_cons (pd_name (i := 2) rfl e2) (pad_cons (pd_name (i := 3) rfl e3) pad_nil))))) (t.up S1) fun v6 H2 S2 d6 => ?_)
    rcases hcase with ⟨h0, rfl, rfl⟩ | ⟨m, hm, rfl, rfl⟩
    · refine ss_if (ms := ms) (k := true) hX ((pb_or2 (k := true) (k' := false) (pb_isN (pd_name (i := 6) rfl d6)) fun z => nomatch z).cast rfl) ((t.up S1).up S2) (fun _ H3 S3 => ?_) fun z => nomatch z
      exact ss_ret hX (PD.go (ms := ms) pd_bool (((t.up S1).up S2).up S3) fun v H4 S4 hv => q _ _ (S1.trans (S2.trans (S3.trans S4))) hv)
    · have c12 : Same (cut ms H1) (cut ms H2) := cut_same S2
      refine ss_if (ms := ms) (k := (false || !isSp ws x)) hX (pb_or2 (pb_isN (pd_name (i := 6) rfl d6)) fun _ => pb_not (pb_val (pd_call FI hr (d := .bool (isSp ws x)) ⟨n, ws, x, rfl, Nat.le_trans Ln.w7 (by decide), hsh, rfl⟩ (pad_cons (pd_name (i := 5) rfl (dp_mono c12 d5)) (pad_cons (pd_name (i := 4) rfl (dp_mono c12 e4)) pad_nil))))) ((t.up S1).up S2) (fun hk H3 S3 => ?_) fun hk H3 S3 => ?_
      · have hf : isSp ws x = false := by simpa using hk
        rw [hf] at q
        exact ss_ret hX (PD.go (ms := ms) pd_bool (((t.up S1).up S2).up S3) fun v H4 S4 hv => q _ _ (S1.trans (S2.trans (S3.trans S4))) hv)
      · have hf : isSp ws x = true := by simpa using hk
        obtain ⟨s, rfl, hin⟩ := isSp_iff.mp hf
        rw [hf, intsOf_T, Bool.true_and] at q
        refine ss_nil ?_
        have c13 : Same (cut ms H1) (cut ms H3) := cut_same (S2.trans S3)
        refine ss_set 7 hX (PD.go (ms := ms) (d := .tuple ((arr n ws st s).map fldD)) (pd_call FA hr (ds := [landD n ws, natD st, intsT s]) ⟨n, ws, st, s, rfl, hs, Nat.le_trans Ln.n6 (by decide), Ln.ok, hin, rfl⟩ (pad_cons (pd_name (i := 5) rfl (dp_mono c13 d5)) (pad_cons (pd_name (i := 1) rfl (dp_mono c13 e1)) (pad_cons (pd_name (i := 4) rfl (dp_mono c13 e4)) pad_nil)))) (((t.up S1).up S2).up S3) fun v7 H4 S4 d7 => ?_)
        have hne : lateL n ws st p o ≠ [] := fun z => by rw [z] at hm; cases hm.1
        obtain ⟨hRp, hRo⟩ := lateL_rch Ln.ok hs hne
        obtain ⟨dA, hdA, _⟩ := arr_some Ln.ok hs hin hRp
        obtain ⟨dO, hdO, _⟩ := arr_some Ln.ok hs hin hRo
        have fl : (arr n ws st s).length = n := arr_len
        have g1 : atI ((arr n ws st s).map fldD) (p : Int) = some (.int dA) := by rw [fldD_at (by rw [fl]; exact hp), hdA]; rfl
        have g2 : atI ((arr n ws st s).map fldD) (o : Int) = some (.int dO) := by rw [fldD_at (by rw [fl]; exact ho), hdO]; rfl
        have elv : lateV n ws st p o s = dA - dO := by unfold lateV; rw [hdA, hdO]; rfl
        rw [elv] at q
        have c14 : Same (cut ms H1) (cut ms H4) := c13.trans (cut_same S4)
        exact ss_ret hX (PD.go (ms := ms) (pd_eqI (pd_sub (pd_ixT (pd_name (i := 7) rfl d7) (pd_name (i := 2) rfl (dp_mono c14 e2)) g1) (pd_ixT (pd_name (i := 7) rfl d7) (pd_name (i := 3) rfl (dp_mono c14 e3)) g2)) (pd_name (i := 6) rfl (dp_mono (cut_same (S3.trans S4)) d6))) ((((t.up S1).up S2).up S3).up S4) fun v H5 S5 hv => q _ _ (S1.trans (S2.trans (S3.trans (S4.trans S5)))) hv)
end
end SK
set_option maxHeartbeats 4000000
namespace SK
open PySem PySem.Spec PyProof.Rows L2 SKM
section
variable {P : Program} {w : World} {K : PySem.W.Frag} {mg : Str → Option Value} {base : Heap}
/-! ### _law_lists -/
def RLst (n : Nat) : List PyData → PyData → Prop := fun ds d => ∃ x, ds = [x] ∧ okD n x = true ∧ d = lstF n x
theorem isSeq_or (x : PyData) : (isList x || isTuple x) = isSeq x := by cases x <;> rfl
theorem fn_law_lists {f : Addr} {fd : FuncData} (a : At K mg "_law_lists" sLawLists f fd ["_law_matter"]) (T : Mg mg) (n : Nat) : Fn1 P w K mg base CX0 (n + 1) "_law_lists" ["_law_matter"] (spP K (RLst n)) := by
  induction n with
  | zero =>
    refine a.fnP scLawLists (fun ds d h => by obtain ⟨x, rfl, _⟩ := h; rfl) fun A X H vs Q ms ds d hX hr t hvs hR q => ?_
    obtain ⟨x, rfl, ok, ed⟩ := hR
    rw [ed] at q
    obtain ⟨v0, rfl, hv⟩ := dpall1 hvs
    refine ss_ret hX (PD.go (ms := ms) ?_ t q)
    refine pd_if (pb_val (pd_isi2 (pd_name (i := 0) rfl hv) (kit_list x (dp_nodict hv)) (kit_tuple x (dp_nodict hv)) T.isi T.list T.tuple (by decide +kernel) (by decide +kernel))) (fun hk => ?_) fun hk => ?_
    · cases x <;> first | (cases hk; done) | (cases ok; done)
    · have e : lstF 0 x = x := by cases x <;> rfl
      rw [e]
      exact pd_name (i := 0) rfl hv
  | succ n IH =>
    refine a.fnP scLawLists (fun ds d h => by obtain ⟨x, rfl, _⟩ := h; rfl) fun A X H vs Q ms ds d hX hr t hvs hR q => ?_
    obtain ⟨x, rfl, ok, ed⟩ := hR
    rw [ed] at q
    obtain ⟨v0, rfl, hv⟩ := dpall1 hvs
    refine ss_ret hX (PD.go (ms := ms) ?_ t q)
    refine pd_if (pb_val (pd_isi2 (pd_name (i := 0) rfl hv) (kit_list x (dp_nodict hv)) (kit_tuple x (dp_nodict hv)) T.isi T.list T.tuple (by decide +kernel) (by decide +kernel))) (fun hk => ?_) fun hk => ?_
    · have key : ∃ xs : List PyData, (decide (xs.length ≤ 1000) && xs.all (okD n)) = true ∧ lstF (n + 1) x = .list (xs.map (lstF n)) ∧ ∀ tg p, PDI (ctOf P w K mg base nLawLists sLawLists A) ms (start nLawLists [v0]) H tg (.Name "_law_matter" p) xs := by
        cases x with
        | list xs => exact ⟨xs, ok, rfl, fun tg p => pdi_list (pd_name (i := 0) rfl hv)⟩
        | tuple xs => exact ⟨xs, ok, rfl, fun tg p => pdi_tup (pd_name (i := 0) rfl hv)⟩
        | _ => cases hk
      obtain ⟨xs, hxs, ex, hit⟩ := key
      rw [Bool.and_eq_true] at hxs
      rw [ex]
      refine pd_of (lc_map (own := [("_law_bit", 1)]) (bf := fun i => [(1, xs.getD i .none)]) scLawLists.nd (by show blkC nLawLists (defScope sLawLists) _ _ = true; decide +kernel) (hit _ _) (List.length_map _) (Nat.le_trans (of_decide_eq_true hxs.1) (by decide)) (fun i d ms' hd => ?_) (fun i p hp => ?_) fun i d e vs ms' H1 hd he S Sc hvs => ?_)
      · rw [getD_of hd]
        exact gd_name scLawLists.nd
      · rw [List.mem_singleton.mp hp]
        exact List.mem_singleton.mpr rfl
      · rw [List.getElem?_map, hd] at he
        rw [← (show lstF n d = e from Option.some.inj he)]
        have hok := List.all_eq_true.mp hxs.2 d (List.mem_of_getElem? hd)
        rw [List.map_singleton] at hvs
        dsimp only at hvs
        rw [getD_of hd] at hvs
        obtain ⟨b1, rfl, g1⟩ := dpall1 hvs
        exact pd_call IH hr ⟨d, rfl, hok, rfl⟩ (pad_cons (pd_name (i := 1) rfl g1) pad_nil)
    · have e : lstF (n + 1) x = x := by
        cases x <;> first | rfl | cases hk
      rw [e]
      exact pd_name (i := 0) rfl hv
/-! ### _law_same, of the same data -/
def okS : Nat → PyData → Bool
  | _, .none => true
  | _, .bool _ => true
  | _, .int _ => true
  | _, .str _ => true
  | n + 1, .list xs => decide (xs.length ≤ 200000) && xs.all (okS n)
  | n + 1, .tuple xs => decide (xs.length ≤ 200000) && xs.all (okS n)
  | 0, .list _ => false
  | 0, .tuple _ => false
  | _, .dict _ => false
def RSame (n : Nat) : List PyData → PyData → Prop := fun ds d => ∃ x, ds = [x, x] ∧ okS n x = true ∧ lv n x = true ∧ d = .bool true
theorem eqv_flat {x : PyData} (h : isSeq x = false) (hd : ∀ y, x ≠ .dict y) : PyData.eqv x x = true := by
  cases x with
  | none => rw [PyData.eqv]
  | bool b => rw [PyData.eqv]; simp
  | int i => rw [PyData.eqv]; simp
  | str s => rw [PyData.eqv]; simp
  | list xs => cases h
  | tuple xs => cases h
  | dict xs => exact absurd rfl (hd xs)
theorem fn_law_same {f : Addr} {fd : FuncData} (a : At K mg "_law_same" sLawSame f fd ["_law_got", "_law_due"]) (T : Mg mg) (n : Nat) : Fn1 P w K mg base CX0 (n + 1) "_law_same" ["_law_got", "_law_due"] (spP K (RSame n)) := by
  have len : ∀ n ds d, RSame n ds d → ds.length = ["_law_got", "_law_due"].length := fun n ds d h => by obtain ⟨_, rfl, _⟩ := h; rfl
  have flat : ∀ {n : Nat} {A : Around} {X : Cx} {H : Hp} {v0 v1 : V} {Q : VK} {ms : List Addr} {x : PyData}, Own (ctOf P w K mg base nLawSame sLawSame A) X → Room n A → Trk ms H → Dp K (cut ms H) v0 x → Dp K (cut ms H) v1 x → isSeq x = false → lv n x = true → (∀ v H', Same H H' → Dp K (cut ms H') v (.bool true) → Q v H') →
      SS X (defBody sLawSame) { nx := fun _ H' => Q .non H', rt := Q } (start nLawSame [v0, v1]) H := by
    intro n A X H v0 v1 Q ms x hX hr t h0 h1 hf hl q
    refine ss_if (ms := ms) (k := false) hX ((pb_val (pd_isi2 (pd_name (i := 1) rfl h1) (kit_list x (dp_nodict h1)) (kit_tuple x (dp_nodict h1)) T.isi T.list T.tuple (by decide +kernel) (by decide +kernel))).cast (by rw [isSeq_or, hf])) t (fun z => nomatch z) fun _ H1 S1 => ?_
    refine ss_nil ?_
    have g0 := dp_mono (cut_same (ms := ms) S1) h0
    have g1 := dp_mono (cut_same (ms := ms) S1) h1
    cases hi : isNum x with
    | false =>
      have hsh : SeqAt.shaped x = true := shaped_lv (n := 0) (by cases n with
        | zero => exact hl
        | succ n => cases x <;> first | rfl | exact hl | cases hf)
      refine ss_if (ms := ms) (k := true) hX ((pb_or2 (pb_isN (pd_name (i := 1) rfl g1)) fun _ => pb_val (pd_isi2 (pd_name (i := 1) rfl g1) (kit_bool x (dp_nodict g1)) (kit_str x (dp_nodict g1)) T.isi T.bool T.str (by decide +kernel) (by decide +kernel))).cast ?_) (t.up S1) (fun _ H2 S2 => ?_) fun z => nomatch z
      · cases x <;> first | rfl | (cases hf; done) | (cases hi; done) | exact absurd rfl (dp_nodict h0 _)
      · have k0 := dp_mono (cut_same (ms := ms) S2) g0
        have k1 := dp_mono (cut_same (ms := ms) S2) g1
        refine ss_ret hX (PD.go (ms := ms) (PD.cast (pd_and (pd_eqD (show A.units + 64 < cLine from hr.units) hsh hsh (pd_name (i := 0) rfl k0) (pd_name (i := 1) rfl k1)) fun _ => pd_and (pd_eqB (pd_isi (pd_name (i := 0) rfl k0) (kit_bool x (dp_nodict k0)) T.isi T.bool (by decide +kernel)) (pd_isi (pd_name (i := 1) rfl k1) (kit_bool x (dp_nodict k1)) T.isi T.bool (by decide +kernel))) fun _ => pd_one (pd_eqB (pd_isN (pd_name (i := 0) rfl k0)) (pd_isN (pd_name (i := 1) rfl k1)))) ?_) ((t.up S1).up S2) fun v H3 S3 hv => q _ _ (S1.trans (S2.trans S3)) hv)
        rw [eqv_flat hf (dp_nodict h0), decide_eq_true rfl, decide_eq_true rfl]
        rfl
    | true =>
      obtain ⟨i, rfl⟩ : ∃ i, x = .int i := by cases x <;> first | exact ⟨_, rfl⟩ | cases hi
      refine ss_if (ms := ms) (k := false) hX ((pb_or2 (pb_isN (pd_name (i := 1) rfl g1)) fun _ => pb_val (pd_isi2 (pd_name (i := 1) rfl g1) (kit_bool _ (dp_nodict g1)) (kit_str _ (dp_nodict g1)) T.isi T.bool T.str (by decide +kernel) (by decide +kernel))).cast rfl) (t.up S1) (fun z => nomatch z) fun _ H2 S2 => ?_
      have k0 := dp_mono (cut_same (ms := ms) S2) g0
      have k1 := dp_mono (cut_same (ms := ms) S2) g1
      refine ss_nil ?_
      refine ss_ret hX (PD.go (ms := ms) (PD.cast (pd_and (pd_isi (pd_name (i := 0) rfl k0) (kit_int _ (dp_nodict k0)) T.isi T.int (by decide +kernel)) fun _ => pd_and (pd_not (pd_isi (pd_name (i := 0) rfl k0) (kit_bool _ (dp_nodict k0)) T.isi T.bool (by decide +kernel))) fun _ => pd_one (pd_eqI (pd_name (i := 0) rfl k0) (pd_name (i := 1) rfl k1))) ?_) ((t.up S1).up S2) fun v H3 S3 hv => q _ _ (S1.trans (S2.trans S3)) hv)
      rw [decide_eq_true rfl]
      rfl
  induction n with
  | zero =>
    refine a.fnP scLawSame (len _) fun A X H vs Q ms ds d hX hr t hvs hR q => ?_
    obtain ⟨x, rfl, ok, hl, rfl⟩ := hR
    obtain ⟨v0, v1, rfl, h0, h1⟩ := dpall2 hvs
    exact flat hX hr t h0 h1 (by cases x <;> first | rfl | cases ok) hl q
  | succ n IH =>
    refine a.fnP scLawSame (len _) fun A X H vs Q ms ds d hX hr t hvs hR q => ?_
    obtain ⟨x, rfl, ok, hl, rfl⟩ := hR
    obtain ⟨v0, v1, rfl, h0, h1⟩ := dpall2 hvs
    cases hf : isSeq x with
    | false => exact flat hX hr t h0 h1 hf hl q
    | true =>
      refine ss_if (ms := ms) (k := true) hX ((pb_val (pd_isi2 (pd_name (i := 1) rfl h1) (kit_list x (dp_nodict h1)) (kit_tuple x (dp_nodict h1)) T.isi T.list T.tuple (by decide +kernel) (by decide +kernel))).cast (by rw [isSeq_or, hf])) t (fun _ H1 S1 => ?_) fun z => nomatch z
      have g0 := dp_mono (cut_same (ms := ms) S1) h0
      have g1 := dp_mono (cut_same (ms := ms) S1) h1
      refine ss_if (ms := ms) (k := false) hX ((pb_or2 (pb_neB (pd_isi (pd_name (i := 0) rfl g0) (kit_list x (dp_nodict g0)) T.isi T.list (by decide +kernel)) (pd_isi (pd_name (i := 1) rfl g1) (kit_list x (dp_nodict g1)) T.isi T.list (by decide +kernel))) fun _ => pb_neB (pd_isi (pd_name (i := 0) rfl g0) (kit_tuple x (dp_nodict g0)) T.isi T.tuple (by decide +kernel)) (pd_isi (pd_name (i := 1) rfl g1) (kit_tuple x (dp_nodict g1)) T.isi T.tuple (by decide +kernel))).cast ?_) (t.up S1) (fun z => nomatch z) fun _ H2 S2 => ?_
      · rw [decide_eq_true rfl, decide_eq_true rfl]
        rfl
      · have k0 := dp_mono (cut_same (ms := ms) S2) g0
        have k1 := dp_mono (cut_same (ms := ms) S2) g1
        refine ss_nil ?_
        have key : ∃ xs : List PyData, (decide (xs.length ≤ 200000) && xs.all (okS n)) = true ∧ xs.all (lv n) = true ∧ (∀ {p1 p2 p3 : Pos}, PD (ctOf P w K mg base nLawSame sLawSame A) ms (start nLawSame [v0, v1]) H2 (.Call (.Name "len" p1) [.Name "_law_got" p2] [] p3) (.int xs.length)) ∧ (∀ {p1 p2 p3 : Pos}, PD (ctOf P w K mg base nLawSame sLawSame A) ms (start nLawSame [v0, v1]) H2 (.Call (.Name "len" p1) [.Name "_law_due" p2] [] p3) (.int xs.length)) ∧
            ∀ {es kk tp p1 p2 p3 p4}, PDI (ctOf P w K mg base nLawSame sLawSame A) ms (start nLawSame [v0, v1]) H2 (.Tuple es kk tp) (.Call (.Name "zip" p1) [.Name "_law_got" p2, .Name "_law_due" p3] [] p4) (pairs xs xs) := by
          cases x with
          | list xs => exact ⟨xs, ok, hl, pd_lenL (pd_name (i := 0) rfl k0) T.len, pd_lenL (pd_name (i := 1) rfl k1) T.len, pdi_zipL (pd_name (i := 0) rfl k0) (pd_name (i := 1) rfl k1) T.zip⟩
          | tuple xs => exact ⟨xs, ok, hl, pd_lenT (pd_name (i := 0) rfl k0) T.len, pd_lenT (pd_name (i := 1) rfl k1) T.len, pdi_zipT (pd_name (i := 0) rfl k0) (pd_name (i := 1) rfl k1) T.zip⟩
          | _ => cases hf
        obtain ⟨xs, hxs, hlv, len0, len1, hit⟩ := key
        rw [Bool.and_eq_true] at hxs
        have hxl := of_decide_eq_true hxs.1
        refine ss_ret hX (PD.go (ms := ms) (PD.cast (pd_and (pd_eqI len0 len1) fun _ => pd_one (pd_all (bs := xs.map fun _ => true) ((pd_of (lc_map (own := [("_law_mine", 2), ("_law_its", 3)]) (bf := fun i => [(2, xs.getD i .none), (3, xs.getD i .none)]) (es := xs.map fun _ => .bool true) scLawSame.nd (by show blkC nLawSame (defScope sLawSame) _ _ = true; decide +kernel) hit ?_ ?_ ?_ ?_ ?_)).cast ?_) T.all)) ?_) ((t.up S1).up S2) fun v H3 S3 hv => q _ _ (S1.trans (S2.trans S3)) hv)
        · unfold pairs
          rw [List.length_map, List.length_zipWith]
          omega
        · unfold pairs
          rw [List.length_zipWith]
          exact Nat.le_trans (show min xs.length xs.length ≤ 200000 by omega) (by decide)
        · intro i d ms' hd
          obtain ⟨x1, y1, e1, e2, rfl⟩ := pairs_get hd
          rw [e1] at e2
          cases e2
          rw [getD_of e1]
          exact gd_tup (gds_cons (gd_name (i := 2) scLawSame.nd) (gds_cons (gd_name (i := 3) scLawSame.nd) gds_nil)) rfl
        · intro i pp hpp
          simp only [List.map_cons, List.map_nil]
          rcases List.mem_cons.mp hpp with rfl | hpp
          · exact List.mem_cons_self
          · rw [List.mem_singleton.mp hpp]
            exact List.mem_cons_of_mem _ List.mem_cons_self
        · intro i d e vs ms' H3 hd he S Sc hvs
          obtain ⟨x1, y1, e1, e2, rfl⟩ := pairs_get hd
          rw [e1] at e2
          cases e2
          rw [List.getElem?_map, e1] at he
          rw [← (show PyData.bool true = e from Option.some.inj he)]
          simp only [List.map_cons, List.map_nil] at hvs
          rw [getD_of e1] at hvs
          obtain ⟨b1, b2, rfl, g1, g2⟩ := dpall2 hvs
          have hm := List.mem_of_getElem? e1
          exact pd_call IH hr ⟨x1, rfl, List.all_eq_true.mp hxs.2 _ hm, List.all_eq_true.mp hlv _ hm, rfl⟩ (pad_cons (pd_name (i := 2) rfl g1) (pad_cons (pd_name (i := 3) rfl g2) pad_nil))
        · rw [List.map_map]; rfl
        · rw [decide_eq_true rfl]
          have : (xs.map fun _ => true).all id = true := by rw [List.all_map]; exact List.all_eq_true.mpr fun _ _ => rfl
          rw [this]
          rfl
end
end SK
set_option maxHeartbeats 4000000
namespace SK
open PySem PySem.Spec PyProof.Rows L2 SKM
section
variable {P : Program} {w : World} {K : PySem.W.Frag} {mg : Str → Option Value} {base : Heap}
theorem pb_eqN {c : Ct} {ms : List Addr} {σ : L2.St} {H : Hp} {a b : Expr} {pos : Pos} {i j : Nat} (ha : PD c ms σ H a (natD i)) (hb : PD c ms σ H b (natD j)) : PB c ms σ H (.Compare a [.Eq] [b] pos) (decide (i = j)) := (pb_eqI ha hb).cast (eqN i j)
theorem pdi_rangeN {c : Ct} {ms : List Addr} {σ : L2.St} {H : Hp} {tg e : Expr} {p pos : Pos} {n : Nat} (h : PD c ms σ H e (natD n)) (h1 : n ≤ 1000) (hm : c.mg "range" = none) (hg : GlC c "range" := by rfl) (ns : NSt e := by intro _ _; rfl) : PDI c ms σ H tg (.Call (.Name "range" p) [e] [] pos) (intsD 0 n) := by
  have := pdi_range1 (tg := tg) (p := p) (pos := pos) (n := (n : Int)) h (by omega) (by omega) hm hg ns
  rwa [Int.toNat_natCast] at this
/-! ### _law_ticks_by -/
def RTicks : List PyData → PyData → Prop := fun ds d => ∃ n ws st s, ds = [landD n ws, natD st, intsT s] ∧ st < n ∧ n ≤ 1000 ∧ WsOk ws n ∧ InS ws s ∧ d = .list ((arr n ws st s).map fldD)
theorem init_map (n st : Nat) (h : st < n) : (List.range n).map (fun k => if k = st then some (0 : Int) else none) = init n st := by
  unfold init
  refine List.ext_getElem? fun i => ?_
  rw [List.getElem?_map, List.getElem?_set]
  by_cases hi : i < n
  · rw [List.getElem?_range hi]
    by_cases e : st = i
    · subst e
      rw [if_pos rfl, List.length_replicate, if_pos hi]
      simp
    · rw [if_neg e, List.getElem?_replicate, if_pos hi]
      simp [Ne.symm e]
  · rw [List.getElem?_eq_none (by simpa using hi)]
    by_cases e : st = i
    · omega
    · rw [if_neg e, List.getElem?_replicate, if_neg hi]
      rfl
theorem fn_law_ticks_by {f : Addr} {fd : FuncData} (a : At K mg "_law_ticks_by" sLawTicksBy f fd ["_law_plan_so", "_law_start_so", "_law_lengths_so"]) (T : Mg mg) (k : Nat) : Fn1 P w K mg base CX0 (k + 1) "_law_ticks_by" ["_law_plan_so", "_law_start_so", "_law_lengths_so"] (spP K RTicks) :=
  a.fnP scLawTicksBy (fun ds d h => by obtain ⟨_, _, _, _, rfl, _⟩ := h; rfl) fun A X H vs Q ms ds d hX hr t hvs hR q => by
    obtain ⟨n, ws, st, s, rfl, hst, hn1, O, hs, rfl⟩ := hR
    obtain ⟨v0, v1, v2, rfl, d0, d1, d2⟩ := dpall3 hvs
    have rng : ∀ {ms' : List Addr} {H' : Hp} {σ' : L2.St} {tg p1 p2 p3 p4 p5 j}, σ'[0]? = some (some v0) → Same (cut ms H) (cut ms' H') → PDI (ctOf P w K mg base nLawTicksBy sLawTicksBy A) ms' σ' H' tg (.Call (.Name "range" p1) [.Subscript (.Name "_law_plan_so" p2) (.Constant (.int 0) j p3) p4] [] p5) (intsD 0 n) := fun h0 S => pdi_rangeN (pd_ixT (pd_name (i := 0) h0 (dp_mono S d0)) pd_int rfl) hn1 T.range
    refine ss_setLc 3 (ms := ms) (es := (init n st).map fldD) hX (lc_map (own := [("_law_k", 4)]) (bf := fun i => [(4, natD i)]) scLawTicksBy.nd (by show blkC nLawTicksBy (defScope sLawTicksBy) _ _ = true; decide +kernel) (rng rfl (Same.refl _)) ?_ ?_ ?_ ?_ ?_) t fun p xs H1 S1 hp0 hp1 hx => ?_
    · rw [List.length_map, init_len, intsD_len]
    · rw [intsD_len]
      exact Nat.le_trans hn1 (by decide)
    · intro i d ms' hi
      obtain ⟨_, rfl⟩ := intsD_get hi
      rw [Int.zero_add]
      exact gd_name scLawTicksBy.nd
    · intro i pp hpp
      rw [List.mem_singleton.mp hpp]
      exact List.mem_singleton.mpr rfl
    · intro i d e vs ms' H1 hi he S Sc hvs
      obtain ⟨hin, rfl⟩ := intsD_get hi
      rw [← init_map n st hst, List.map_map, List.getElem?_map, List.getElem?_range hin] at he
      rw [← (show fldD (if i = st then some 0 else none) = e from Option.some.inj he)]
      rw [List.map_singleton] at hvs
      obtain ⟨b1, rfl, g1⟩ := dpall1 hvs
      refine pd_if (pb_eqN (pd_name (i := 4) rfl g1) (pd_name (i := 1) rfl (dp_mono Sc d1))) (fun hk => ?_) fun hk => ?_
      · rw [if_pos (of_decide_eq_true hk)]
        exact pd_int
      · rw [if_neg (of_decide_eq_false hk)]
        exact pd_none
    obtain rfl := dpall_fld hx
    have tm : p ∈ p :: ms := List.mem_cons_self
    have t1 : Trk (p :: ms) H1 := (t.up S1).more hp1
    have c1 := same_more (ms := ms) S1 hp0
    refine ss_for (ms := p :: ms) hX (rng rfl c1) t1 fun H2 S2 => ?_
    refine ⟨fun i σ' H' => ∃ u4 u5 u6 u7, σ' = [some v0, some v1, some v2, some (.ref p), u4, u5, u6, u7] ∧ H' p = some (.lst ((passes (edg ws s) i (init n st)).map fldV)) ∧ Same H H' ∧ Trk (p :: ms) H' ∧ Same (cut (p :: ms) H2) (cut (p :: ms) H'), ⟨none, none, none, none, rfl, S2 _ _ hp1, S1.trans S2, t1.up S2, Same.refl _⟩, fun i σ' H' ⟨_, _, _, _, _, _, _, h3, h4⟩ => ⟨h4, h3⟩, fun kk d x σ' H3 H4 hi hP S4 hx => ?_, fun σ' H3 ⟨u4, u5, u6, u7, e, h1, h2, h3, _⟩ => ?_⟩
    · obtain ⟨u4, u5, u6, u7, rfl, hp3, h2, h3, h4⟩ := hP
      refine (gd_name (i := 5) scLawTicksBy.nd : GD _ (p :: ms) _ d _) x _ H4 _ hx fun us hus => ?_
      obtain ⟨b5, rfl, _⟩ := dpall1 hus
      have c4 : Same (cut ms H) (cut (p :: ms) H4) := same_more (h2.trans S4) hp0
      refine ss_for (ms := p :: ms) hX (pdi_zipT (pd_ixT (pd_name (i := 0) rfl (dp_mono c4 d0)) pd_int rfl) (pd_name (i := 2) rfl (dp_mono c4 d2)) T.zip) (h3.up S4) fun H7 S7 => ?_
      have hf0 : (passes (edg ws s) kk (init n st)).length = n := by rw [passes_len, init_len]
      refine ⟨fun i σ2 H2 => ∃ u6 u7, σ2 = [some v0, some v1, some v2, some (.ref p), u4, some b5, u6, u7] ∧ H2 p = some (.lst ((((edg ws s).take i).foldl relax (passes (edg ws s) kk (init n st))).map fldV)) ∧ Same H H2 ∧ Trk (p :: ms) H2 ∧ Same (cut (p :: ms) H7) (cut (p :: ms) H2),
        ⟨u6, u7, rfl, S7 _ _ (S4 _ _ hp3), h2.trans (S4.trans S7), (h3.up S4).up S7, Same.refl _⟩, fun i σ2 H2 ⟨_, _, _, _, _, h3, h4⟩ => ⟨h4, h3⟩, fun i d x σ2 H2 H2' hi hP S8 hx => ?_, fun σ2 H8 ⟨a6, a7, e, g1, g2, g3, g4⟩ => ?_⟩
      · obtain ⟨a6, a7, rfl, g1, g2, g3, g4⟩ := hP
        obtain ⟨w1, t1', hw, he, rfl⟩ := pairs_edg hi
        refine (gd_tup (gds_cons (gd_name (i := 6) scLawTicksBy.nd) (gds_cons (gd_name (i := 7) scLawTicksBy.nd) gds_nil)) rfl : GD _ (p :: ms) _ (.tuple [wayD w1, .int t1']) _) x _ H2' _ hx fun us hus => ?_
        obtain ⟨b6, b7, rfl, e6, e7⟩ := dpall2 hus
        have hwm := List.mem_of_getElem? hw
        have hu := O.near _ hwm
        have hv := O.far _ hwm
        generalize hF : ((edg ws s).take i).foldl relax (passes (edg ws s) kk (init n st)) = F at g1
        have hFl : F.length = n := by rw [← hF, fold_len, hf0]
        have h1' : H2' p = some (.lst (F.map fldV)) := S8 _ _ g1
        have t8 := g3.up S8
        have eF : ((edg ws s).take (i + 1)).foldl relax (passes (edg ws s) kk (init n st)) = relax F (w1.u, w1.v, t1') := by
          rw [List.take_add_one, he, List.foldl_append, hF]
          rfl
        have near : ∀ {σ' : L2.St} {H' : Hp} {q1 q2 q3 j}, σ'[6]? = some (some b6) → Same H2' H' → PD (ctOf P w K mg base nLawTicksBy sLawTicksBy A) (p :: ms) σ' H' (.Subscript (.Name "_law_its" q1) (.Constant (.int 0) j q2) q3) (natD w1.u) := fun h6 S => pd_ixT (pd_name (i := 6) h6 (dp_mono (cut_same S) e6)) pd_int rfl
        have far : ∀ {σ' : L2.St} {H' : Hp} {q1 q2 q3 j}, σ'[6]? = some (some b6) → Same H2' H' → PD (ctOf P w K mg base nLawTicksBy sLawTicksBy A) (p :: ms) σ' H' (.Subscript (.Name "_law_its" q1) (.Constant (.int 1) j q2) q3) (natD w1.v) := fun h6 S => pd_ixT (pd_name (i := 6) h6 (dp_mono (cut_same S) e6)) pd_int rfl
        have ixu : ∀ {σ' : L2.St} {H' : Hp} {q1 q2 q3 q4 q5 j}, σ'[3]? = some (some (.ref p)) → σ'[6]? = some (some b6) → Same H2' H' → PD (ctOf P w K mg base nLawTicksBy sLawTicksBy A) (p :: ms) σ' H' (.Subscript (.Name "_law_own" q1) (.Subscript (.Name "_law_its" q2) (.Constant (.int 0) j q3) q4) q5) (fldD (F.getD w1.u none)) := fun g3 g6 S =>
          pd_ixM (i := 3) g3 (S _ _ h1') (near g6 S) (fld_at (by rw [hFl]; exact hu)) (fld_dp _)
        have ixv : ∀ {σ' : L2.St} {H' : Hp} {q1 q2 q3 q4 q5 j}, σ'[3]? = some (some (.ref p)) → σ'[6]? = some (some b6) → Same H2' H' → PD (ctOf P w K mg base nLawTicksBy sLawTicksBy A) (p :: ms) σ' H' (.Subscript (.Name "_law_own" q1) (.Subscript (.Name "_law_its" q2) (.Constant (.int 1) j q3) q4) q5) (fldD (F.getD w1.v none)) := fun g3 g6 S =>
          pd_ixM (i := 3) g3 (S _ _ h1') (far g6 S) (fld_at (by rw [hFl]; exact hv)) (fld_dp _)
        refine ss_if (ms := p :: ms) (k := better F (w1.u, w1.v, t1')) hX ?_ t8 (fun hb H9 S9 => ?_) fun hb H9 S9 => ?_
        · cases hA : F.getD w1.u none with
          | none =>
            rw [hA] at ixu
            refine (pb_and2 (k' := false) (pb_notN (ixu rfl rfl (Same.refl _))) fun z => nomatch z).cast ?_
            unfold better
            dsimp only
            rw [hA]
            rfl
          | some dA =>
            rw [hA] at ixu
            cases hB : F.getD w1.v none with
            | none =>
              rw [hB] at ixv
              refine (pb_and2 (pb_notN (ixu rfl rfl (Same.refl _))) fun _ => pb_or2 (k' := false) (pb_isN (ixv rfl rfl (Same.refl _))) fun z => nomatch z).cast ?_
              unfold better
              dsimp only
              rw [hA, hB]
              rfl
            | some dB =>
              rw [hB] at ixv
              refine (pb_and2 (pb_notN (ixu rfl rfl (Same.refl _))) fun _ => pb_or2 (pb_isN (ixv rfl rfl (Same.refl _))) fun _ => pb_lt (pd_add (ixu rfl rfl (Same.refl _)) (pd_name (i := 7) rfl e7)) (ixv rfl rfl (Same.refl _))).cast ?_
              unfold better
              dsimp only
              rw [hA, hB]
              rfl
        · obtain ⟨dA, hA, _⟩ := better_some hb
          dsimp only at hA
          rw [hA] at ixu
          refine ss_asg hX (PD.go (ms := p :: ms) (pd_add (ixu rfl rfl S9) (pd_name (i := 7) rfl (dp_mono (cut_same S9) e7))) (t8.up S9) fun v H10 S10 hv10 => ?_)
          obtain rfl := dp_int hv10
          refine eg_sub (ms := p :: ms) (i := 3) (p := p) ((t8.up S9).up S10) rfl (S10 _ _ (S9 _ _ h1')) (far rfl (S9.trans S10)) (ixN_nat (by rw [List.length_map, hFl]; exact hv)) fun H11 S11 => ?_
          refine ss_nil (ss_nil ?_)
          refine ⟨_, _, rfl, ?_, ?_, ?_, ?_⟩
          · rw [upd_same, eF]
            unfold relax
            rw [if_pos hb, List.map_set]
            dsimp only
            rw [hA]
            rfl
          · exact same_upd (g2.trans (S8.trans (S9.trans (S10.trans S11)))) hp0
          · exact (((t8.up S9).up S10).up S11).upd
          · exact cut_chg (g4.trans (cut_same (S8.trans (S9.trans (S10.trans S11))))) tm
        · refine ss_nil (ss_nil ?_)
          refine ⟨_, _, rfl, ?_, g2.trans (S8.trans S9), t8.up S9, g4.trans (cut_same (S8.trans S9))⟩
          rw [S9 _ _ h1', eF]
          unfold relax
          rw [hb]
          rfl
      · have hlen : (pairs (ws.map wayD) (s.map .int)).length = (edg ws s).length := edg_pairs ws s
        rw [hlen, List.take_length] at g1
        refine ss_nil ?_
        exact ⟨_, _, _, _, e, g1, g2, g3, h4.trans ((cut_same (S4.trans S7)).trans g4)⟩
    · rw [e]
      rw [intsD_len] at h1
      refine ss_ret hX (PD.go (ms := ms) (pd_name (i := 3) rfl (.lst (.inl (.inl (cut_of (t.new hp0) h1))) (fld_dpall _))) (t.up h2) fun v H6 S6 hv => q _ _ (h2.trans S6) hv)
/-! ### _law_all_lengths -/
def RAll : List PyData → PyData → Prop := fun ds d => ∃ n ws, ds = [landD n ws] ∧ WsOk ws n ∧ ws.length ≤ 7 ∧ many ws ≤ 1000 ∧ (∀ w ∈ ws, w.hi ≤ 1000) ∧ d = .list ((allL ws).map intsT)
theorem many_snoc (ws : List Way) (w : Way) : many (ws ++ [w]) = many ws * (w.hi + 1 - w.lo).toNat := by unfold many; rw [List.foldl_append]; rfl
theorem many_take {n : Nat} {ws : List Way} (O : WsOk ws n) (i : Nat) : many (ws.take i) ≤ many ws := by
  have key : ∀ (l : List Way) (a : Nat), (∀ w ∈ l, w.lo ≤ w.hi) → a ≤ l.foldl (fun a w => a * (w.hi + 1 - w.lo).toNat) a := by
    intro l
    induction l with
    | nil => intro a _; exact Nat.le_refl _
    | cons w l ih =>
      intro a h
      have hw := h w List.mem_cons_self
      refine Nat.le_trans (Nat.le_mul_of_pos_right a (show 0 < (w.hi + 1 - w.lo).toNat by omega)) (ih _ fun x hx => h x (List.mem_cons_of_mem _ hx))
  unfold many
  have e : ws.foldl (fun a w => a * (w.hi + 1 - w.lo).toNat) 1 = (ws.drop i).foldl (fun a w => a * (w.hi + 1 - w.lo).toNat) ((ws.take i).foldl (fun a w => a * (w.hi + 1 - w.lo).toNat) 1) := by
    rw [← List.foldl_append, List.take_append_drop]
  rw [e]
  exact key _ _ fun w hw => O.hi w (List.mem_of_mem_drop hw)
theorem rng_intsD (lo hi : Int) : (rng lo hi).map PyData.int = intsD lo (hi + 1 - lo).toNat := by unfold rng intsD; rw [List.map_map]; rfl
theorem allL_snoc (ws : List Way) (w : Way) : allL (ws ++ [w]) = grow (allL ws) w := by unfold allL; rw [List.foldl_append]; rfl
theorem rng_len (lo hi : Int) : (rng lo hi).length = (hi + 1 - lo).toNat := by unfold rng; rw [List.length_map, List.length_range]
theorem fn_law_all_lengths {f : Addr} {fd : FuncData} (a : At K mg "_law_all_lengths" sLawAllLengths f fd ["_law_plan_so"]) (T : Mg mg) (k : Nat) : Fn1 P w K mg base CX0 (k + 1) "_law_all_lengths" ["_law_plan_so"] (spP K RAll) :=
  a.fnP scLawAllLengths (fun ds d h => by obtain ⟨_, _, rfl, _⟩ := h; rfl) fun A X H vs Q ms ds d hX hr t hvs hR q => by
    obtain ⟨n, ws, rfl, O, h7, hm, hhi, rfl⟩ := hR
    obtain ⟨v0, rfl, d0⟩ := dpall1 hvs
    refine ss_set 1 hX (PD.go (ms := ms) (pd_lst (pad_cons (pd_tup pad_nil (by decide)) pad_nil) (by show 1 ≤ sizeLine; decide)) t fun v1 H1 S1 e1 => ?_)
    refine ss_for (ms := ms) hX (pdi_tup (pd_ixT (pd_name (i := 0) rfl (dp_mono (cut_same S1) d0)) pd_int rfl)) (t.up S1) fun H2 S2 => ?_
    refine ⟨fun i σ' H' => ∃ f1 u2 u3 u4 u5 u6 u7 u8, σ' = [some v0, some f1, u2, u3, u4, u5, u6, u7, u8] ∧ Dp K (cut ms H') f1 (.list ((allL (ws.take i)).map intsT)) ∧ Same H2 H', ⟨v1, none, none, none, none, none, none, none, rfl, dp_mono (cut_same S2) e1, Same.refl _⟩, fun i σ' H' ⟨_, _, _, _, _, _, _, _, _, _, S⟩ => ⟨cut_same S, ((t.up S1).up S2).up S⟩, fun i d x σ' H3 H4 hi hP S4 hx => ?_, fun σ' H3 ⟨f1, u2, u3, u4, u5, u6, u7, u8, e, h1, S3⟩ => ?_⟩
    · obtain ⟨f1, u2, u3, u4, u5, u6, u7, u8, rfl, h1, S3⟩ := hP
      rw [List.getElem?_map] at hi
      obtain ⟨w1, hw, rfl⟩ := Option.map_eq_some_iff.mp hi
      have hwm := List.mem_of_getElem? hw
      have St := ((t.up S1).up S2).up (S3.trans S4)
      refine (gd_tup (gds_cons (gd_name (i := 2) scLawAllLengths.nd) (gds_cons (gd_name (i := 3) scLawAllLengths.nd) (gds_cons (gd_name (i := 4) scLawAllLengths.nd) (gds_cons (gd_name (i := 5) scLawAllLengths.nd) gds_nil)))) rfl : GD _ ms _ (wayD w1) _) x _ H4 _ hx fun us hus => ?_
      obtain ⟨b2, b3, b4, b5, rfl, g2, g3, g4, g5⟩ := dpall4 hus
      have hwl := O.lo _ hwm
      have hwh := O.hi _ hwm
      have hwb := hhi _ hwm
      have eT : ws.take (i + 1) = ws.take i ++ [w1] := by rw [List.take_add_one, hw]; rfl
      have mT := many_take O (i + 1)
      have lT : (allL (ws.take i)).length * (w1.hi + 1 - w1.lo).toNat ≤ 1000 := by
        rw [len_allL, ← many_snoc, ← eT]
        exact Nat.le_trans mT hm
      have l1 : (allL (ws.take i)).length ≤ 1000 := by
        rw [len_allL]
        exact Nat.le_trans (many_take O i) hm
      refine ss_set 6 hX (PL.go (ms := ms) (pl_lst pad_nil (by decide)) St fun p xs H5 S5 hn5 hp5 hx5 => ?_)
      obtain rfl := dpall0 hx5
      have h1' := dp_mono (cut_same (ms := ms) (S4.trans S5)) h1
      refine ss_for (ms := ms) hX (pdi_list (pd_name (i := 1) rfl h1')) (St.up S5) fun H6 S6 => ?_
      generalize hG : (fun r : List Int => (rng w1.lo w1.hi).map fun n => r ++ [n]) = G'
      have hGl : ∀ x, (G' x).length = (w1.hi + 1 - w1.lo).toNat := fun x => by rw [← hG]; dsimp only; rw [List.length_map, rng_len]
      refine ⟨fun j σ2 H' => ∃ pl ys u7 u8, σ2 = [some v0, some f1, some b2, some b3, some b4, some b5, some (.ref pl), u7, u8] ∧ H' pl = some (.lst ys) ∧ pl ∉ ms ∧ DpAll K (cut ms H') ys ((((allL (ws.take i)).take j).flatMap G').map intsT) ∧ Same H6 H', ⟨p, [], _, _, rfl, S6 _ _ hp5, St.new hn5, .nil, Same.refl _⟩, fun j σ2 H' ⟨_, _, _, _, _, _, _, _, S⟩ => ⟨cut_same S, ((St.up S5).up S6).up S⟩, fun j d x σ2 H7 H8 hj hP S8 hx => ?_, fun σ2 H7 ⟨pl, ys, u7, u8, e, hp7, hm7, hy7, S7⟩ => ?_⟩
      · obtain ⟨pl, ys, a7, a8, rfl, hp7, hm7, hy7, S7⟩ := hP
        rw [List.getElem?_map] at hj
        obtain ⟨r, hr1, rfl⟩ := Option.map_eq_some_iff.mp hj
        have St8 := ((St.up S5).up S6).up (S7.trans S8)
        refine (gd_name (i := 7) scLawAllLengths.nd : GD _ ms _ (intsT r) _) x _ H8 _ hx fun us hus => ?_
        obtain ⟨b7, rfl, g7⟩ := dpall1 hus
        have S48 : Same H4 H8 := S5.trans (S6.trans (S7.trans S8))
        have k4 := dp_mono (cut_same (ms := ms) S48) g4
        have k5 := dp_mono (cut_same (ms := ms) S48) g5
        have rl : r.length ≤ 1000 := by
          have hin := mem_allL.mp (List.mem_of_getElem? hr1)
          rw [hin.len, List.length_take]
          omega
        have gl : (G' r).length ≤ 1000 := by
          rw [hGl]
          have : 1 ≤ (allL (ws.take i)).length := by
            have := (List.getElem?_eq_some_iff.mp hr1).1
            omega
          exact Nat.le_trans (Nat.le_mul_of_pos_left _ this) lT
        have sz : ys.length + ((G' r).map intsT).length ≤ sizeLine := by
          rw [dpall_len hy7, List.length_map, List.length_map]
          have h8 := flat_take_len G' (w1.hi + 1 - w1.lo).toNat (allL (ws.take i)) j fun x _ => Nat.le_of_eq (hGl x)
          have h9 : (2000 : Nat) ≤ sizeLine := by decide
          omega
        refine ss_set 6 hX (PL.go (ms := ms) (pl_cat (ds := (((allL (ws.take i)).take j).flatMap G').map intsT) (es' := (G' r).map intsT) (by rw [← dpall_len hy7]; exact sz) (pt_name (i := 6) rfl (S8 _ _ hp7) (dpall_mono (cut_same S8) hy7)) (pl_of (lc_map (own := [("_law_n", 8)]) (bf := fun m => [(8, .int (w1.lo + (m : Int)))]) scLawAllLengths.nd (by show blkC nLawAllLengths (defScope sLawAllLengths) _ _ = true; decide +kernel)
          (pdi_range2 (pd_name (i := 4) rfl k4) (pd_add (pd_name (i := 5) rfl k5) pd_int) (by omega) T.range) ?_ ?_ ?_ ?_ ?_)).pt) St8 fun p9 zs H9 S9 hn9 hp9 hz9 => ?_)
        · rw [List.length_map, hGl, intsD_len]
        · rw [intsD_len, ← hGl r]
          exact Nat.le_trans gl (by decide)
        · intro m d ms' hd
          obtain ⟨_, rfl⟩ := intsD_get hd
          exact gd_name scLawAllLengths.nd
        · intro m pp hpp
          rw [List.mem_singleton.mp hpp]
          exact List.mem_singleton.mpr rfl
        · intro m d e vs ms' H1 hd he S Sc hvs
          obtain ⟨hml, rfl⟩ := intsD_get hd
          have e2 : e = intsT (r ++ [w1.lo + (m : Int)]) := by
            rw [← hG] at he
            dsimp only at he
            rw [List.map_map, List.getElem?_map] at he
            have e3 : (rng w1.lo w1.hi)[m]? = some (w1.lo + (m : Int)) := by
              unfold rng
              rw [List.getElem?_map, List.getElem?_range (by omega)]
              rfl
            rw [e3] at he
            exact (Option.some.inj he).symm
          rw [e2]
          rw [List.map_singleton] at hvs
          obtain ⟨b8, rfl, g8⟩ := dpall1 hvs
          refine PD.cast (pd_catT (ds := r.map .int) (es := [.int (w1.lo + (m : Int))]) (by rw [List.length_map]; exact Nat.le_trans (show r.length + 1 ≤ 2000 by omega) (by decide)) (pd_name (i := 7) rfl (dp_mono Sc g7)) (pd_tup (pad_cons (pd_name (i := 8) rfl g8) pad_nil) (by show 1 ≤ sizeLine; decide))) ?_
          show PyData.tuple _ = PyData.tuple _
          rw [List.map_append]
          rfl
        · refine ss_nil ?_
          refine ⟨p9, zs, _, _, rfl, hp9, St8.new hn9, ?_, S7.trans (S8.trans S9)⟩
          rw [flat_snoc G' hr1, List.map_append]
          exact dpall_mono (cut_sub (ms := p9 :: ms) fun m hm => List.mem_cons_of_mem _ hm) hz9
      · rw [List.length_map, List.take_length] at hy7
        rw [e]
        have S47 : Same H4 H7 := S5.trans (S6.trans S7)
        have d7 : Dp K (cut ms H7) (.ref pl) (.list (((allL (ws.take i)).flatMap G').map intsT)) := .lst (.inl (.inl (cut_of hm7 hp7))) hy7
        refine ss_set 1 hX (PD.go (ms := ms) (pd_name (i := 6) rfl d7) (St.up S47) fun v9 H9 S9 d9 => ?_)
        refine ss_nil ?_
        refine ⟨v9, _, _, _, _, _, _, _, rfl, ?_, S3.trans (S4.trans (S47.trans S9))⟩
        rw [eT, allL_snoc]
        unfold grow
        rw [← hG] at d9
        exact d9
    · rw [List.length_map, List.take_length] at h1
      rw [e]
      refine ss_ret hX (PD.go (ms := ms) (pd_name (i := 1) rfl h1) (((t.up S1).up S2).up S3) fun v H6 S6 hv => q _ _ (S1.trans (S2.trans (S3.trans S6))) hv)
end
end SK
set_option maxHeartbeats 4000000
namespace SKM
theorem longer1_len {ws : List Way} (h7 : ws.length ≤ 7) (x : List Nat × List Nat) : (longer1 ws x).length ≤ 7 := by
  unfold longer1
  refine Nat.le_trans (flat_len _ 1 _ fun e _ => ?_) (by rw [List.length_zipIdx, Nat.mul_one]; exact h7)
  split <;> simp
theorem longer_len {ws : List Way} (h7 : ws.length ≤ 7) (p : Nat) (line : List (List Nat × List Nat)) : (longer ws p line).length ≤ line.length * 7 := by
  unfold longer
  refine flat_len _ 7 _ fun x _ => ?_
  split
  · exact Nat.zero_le _
  · exact longer1_len h7 x
theorem longer_mem {ws : List Way} {p : Nat} {line : List (List Nat × List Nat)} {y : List Nat × List Nat} (h : y ∈ longer ws p line) : ∃ x ∈ line, ∃ i v, y = (x.1 ++ [i], x.2 ++ [v]) := by
  unfold longer at h
  obtain ⟨x, hx, hy⟩ := List.mem_flatMap.mp h
  refine ⟨x, hx, ?_⟩
  split at hy
  · cases hy
  · unfold longer1 at hy
    obtain ⟨e, _, he⟩ := List.mem_flatMap.mp hy
    split at he
    · exact ⟨_, _, List.mem_singleton.mp he⟩
    · cases he
theorem lastN_at (g : List Nat) (h : g ≠ []) : g[g.length - 1]? = some (lastN g) := by
  unfold lastN
  rw [List.getLastD_eq_getLast?, List.getLast?_eq_getElem?]
  have hl : 0 < g.length := List.length_pos_iff.mpr h
  rw [List.getElem?_eq_getElem (by omega)]
  rfl
end SKM
namespace SK
open PySem PySem.Spec PyProof.Rows L2 SKM
section
variable {c : Ct} {ms : List Addr} {σ : L2.St} {H : Hp} {a b e : Expr} {pos : Pos}
theorem ea2 {Q : List V → Hp → Prop} (q : ES c a σ H fun v H1 => ES c b σ H1 fun w H2 => Q [v, w] H2) (ns : NSt a := by intro _ _; rfl) (ns2 : NSt b := by intro _ _; rfl) : EA c [a, b] σ H Q :=
  ⟨tCons (ES c a) (tCons (ES c b) tNil), fun X hX => pa_cons (ES.any hX _) (pa_cons (ES.any hX _) pa_nil (ns2 X [])) (ns X [b]), q⟩
theorem last_at {g : List Nat} (h : g ≠ []) : atI (g.map natD) (-1) = some (natD (lastN g)) := by
  have hl : 0 < g.length := List.length_pos_iff.mpr h
  unfold atI ixN
  rw [List.length_map, if_neg (by omega), if_pos (by omega)]
  show (g.map natD)[(-1 + (g.length : Int)).toNat]? = _
  have e : (-1 + (g.length : Int)).toNat = g.length - 1 := by omega
  rw [e, List.getElem?_map, lastN_at g h]
  rfl
end
section
variable {P : Program} {w : World} {K : PySem.W.Frag} {mg : Str → Option Value} {base : Heap}
def lineD (x : List Nat × List Nat) : PyData := .tuple [tupN x.1, tupN x.2]
def RLR : List PyData → PyData → Prop := fun ds d => ∃ n ws st p, ds = [landD n ws, natD st, natD p] ∧ Lnd n ws ∧ 1 ≤ n ∧ d = .list ((roadsM n ws st p).map tupN)
theorem fn_law_roads {f : Addr} {fd : FuncData} (a : At K mg "_law_roads" sLawRoads f fd ["_law_plan_here", "_law_start_so", "_law_place_so"]) (T : Mg mg) (k : Nat) : Fn1 P w K mg base CX0 (k + 1) "_law_roads" ["_law_plan_here", "_law_start_so", "_law_place_so"] (spP K RLR) :=
  a.fnP scLawRoads (fun ds d h => by obtain ⟨_, _, _, _, rfl, _⟩ := h; rfl) fun A X H vs Q ms ds d hX hr t hvs hR q => by
    obtain ⟨n, ws, st, p, rfl, Ln, hn1, rfl⟩ := hR
    obtain ⟨v0, v1, v2, rfl, d0, d1, d2⟩ := dpall3 hvs
    refine ss_par 3 4 hX (ea2 (PD.go (ms := ms) (d := .list ([([], [st])].map lineD)) (pd_lst (pad_cons (pd_tup (pad_cons (pd_tup pad_nil (Nat.zero_le _)) (pad_cons (pd_tup (pad_cons (pd_name (i := 1) rfl d1) pad_nil) (by show 1 ≤ sizeLine; decide)) pad_nil)) (by show 2 ≤ sizeLine; decide)) pad_nil) (by show 1 ≤ sizeLine; decide)) t fun v3 H1 S1 d3 => PL.go (ms := ms) (pl_lst pad_nil (by decide)) (t.up S1) fun pf xs H2 S2 hf0 hf1 hx => ⟨_, _, rfl, ?_⟩))
    obtain rfl := dpall0 hx
    have S12 := S1.trans S2
    have hfn : H pf = none := S1.free hf0
    have t2 : Trk (pf :: ms) H2 := (t.up S12).more hf1
    have c2 : Same (cut ms H) (cut (pf :: ms) H2) := same_more S12 hfn
    have d3' : Dp K (cut (pf :: ms) H2) v3 (.list ([([], [st])].map lineD)) := dp_mono (same_more S2 hf0) d3
    refine ss_for (ms := pf :: ms) hX (pdi_rangeN (pd_ixT (pd_name (i := 0) rfl (dp_mono c2 d0)) pd_int rfl) (Nat.le_trans Ln.n6 (by decide)) T.range) t2 fun H3 S3 => ?_
    have full : (laps ws p n [([], [st])] []).length ≤ 117649 := by
      rw [(laps_rf ws p n st).length_eq]
      exact Nat.le_trans (rf_len Ln.w7 n _ _) (Nat.le_trans (Nat.pow_le_pow_right (by decide) Ln.n6) (by decide))
    refine ⟨fun i σ' H' => ∃ ln u5 u6 u7 u8 u9 u10 xs line found, σ' = [some v0, some v1, some v2, some ln, some (.ref pf), u5, u6, u7, u8, u9, u10] ∧ Dp K (cut (pf :: ms) H') ln (.list (line.map lineD)) ∧ H' pf = some (.lst xs) ∧ DpAll K (cut (pf :: ms) H') xs (found.map tupN) ∧
        laps ws p (n - i) line found = laps ws p n [([], [st])] [] ∧ line.length ≤ 7 ^ i ∧ (∀ x ∈ line, x.2 ≠ [] ∧ x.1.length ≤ i ∧ x.2.length ≤ i + 1) ∧ Same H H' ∧ Trk (pf :: ms) H' ∧ Same (cut (pf :: ms) H3) (cut (pf :: ms) H'),
      ⟨v3, none, none, none, none, none, none, [], [([], [st])], [], rfl, dp_mono (cut_same S3) d3', S3 _ _ hf1, .nil, rfl, by simp, by simp, S12.trans S3, t2.up S3, Same.refl _⟩,
      fun i σ' H' ⟨_, _, _, _, _, _, _, _, _, _, _, _, _, _, _, _, _, _, h3, h4⟩ => ⟨h4, h3⟩, fun i d x σ' H4 H5 hi hP S5 hx => ?_, fun σ' H4 ⟨ln, u5, u6, u7, u8, u9, u10, xs, line, found, e, h1, h2, h3, h4, _, _, h7, h8, _⟩ => ?_⟩
    · obtain ⟨ln, u5, u6, u7, u8, u9, u10, xs, line, found, rfl, h1, h2, h3, h4, h5, h6, h7, h8, h9⟩ := hP
      obtain ⟨hin, rfl⟩ := intsD_get hi
      have t5 := h8.up S5
      have S05 := h7.trans S5
      refine (gd_name (i := 5) scLawRoads.nd : GD _ (pf :: ms) _ _ _) x _ H5 _ hx fun us hus => ?_
      obtain ⟨b5, rfl, _⟩ := dpall1 hus
      refine ss_set 6 hX (PL.go (ms := pf :: ms) (pl_lst pad_nil (by decide)) t5 fun pl ys H6 S6 hl0 hl1 hy => ?_)
      obtain rfl := dpall0 hy
      have hf5 : H5 pf = some (.lst xs) := S5 _ _ h2
      have hne : pf ≠ pl := ne_of_none hf5 hl0
      have S06 := S05.trans S6
      have hln : H pl = none := S05.free hl0
      have tmf : pf ∈ pl :: pf :: ms := List.mem_cons_of_mem _ List.mem_cons_self
      have tml : pl ∈ pl :: pf :: ms := List.mem_cons_self
      have t6 : Trk (pl :: pf :: ms) H6 := (t5.up S6).more hl1
      have cc : ∀ {H' : Hp}, Same H H' → Same (cut ms H) (cut (pl :: pf :: ms) H') := fun {H'} S => by
        intro b o e
        have h := cut_at e
        refine cut_of ?_ (S _ _ h.2)
        intro hm
        rcases List.mem_cons.mp hm with rfl | hm
        · rw [hln] at h; cases h.2
        · rcases List.mem_cons.mp hm with rfl | hm
          · rw [hfn] at h; cases h.2
          · exact h.1 hm
      have c56 : Same (cut (pf :: ms) H5) (cut (pl :: pf :: ms) H6) := same_more S6 hl0
      have h1' : Dp K (cut (pl :: pf :: ms) H6) ln (.list (line.map lineD)) := dp_mono c56 (dp_mono (cut_same S5) h1)
      have hlap : laps ws p (n - (i + 1)) (longer ws p line) (found ++ come p line) = laps ws p n [([], [st])] [] := by
        rw [← h4]
        have e : n - i = (n - (i + 1)) + 1 := by omega
        rw [e, laps]
      have fullc : (found ++ come p line).length ≤ 117649 := by
        refine Nat.le_trans ?_ full
        rw [← hlap, (laps_perm ws p _ _ _).length_eq, List.length_append (as := found ++ come p line)]
        omega
      have hp7i : 7 ^ i * 7 ≤ 7 ^ 6 := by
        rw [← Nat.pow_succ]
        exact Nat.pow_le_pow_right (by decide) (by have := Ln.n6; omega)
      generalize hGc : (fun x : List Nat × List Nat => if lastN x.2 = p then [x.1] else []) = Gc
      generalize hGl : (fun x : List Nat × List Nat => if lastN x.2 = p then [] else longer1 ws x) = Gl
      have ec : come p line = line.flatMap Gc := by rw [← hGc]; rfl
      have el : longer ws p line = line.flatMap Gl := by rw [← hGl]; rfl
      have cl1 : ∀ x, (Gc x).length ≤ 1 := fun x => by rw [← hGc]; dsimp only; split <;> simp
      have ll1 : ∀ x, (Gl x).length ≤ 7 := fun x => by
        rw [← hGl]
        dsimp only
        split
        · exact Nat.zero_le _
        · exact longer1_len Ln.w7 x
      have take_c : ∀ j, ((line.take j).flatMap Gc).length ≤ (line.flatMap Gc).length := fun j => by
        have e : line.flatMap Gc = (line.take j).flatMap Gc ++ (line.drop j).flatMap Gc := by rw [← List.flatMap_append, List.take_append_drop]
        rw [e, List.length_append]
        omega
      have big : (117649 : Nat) + 1000 ≤ sizeLine := by decide
      refine ss_for (ms := pl :: pf :: ms) hX (pdi_list (pd_name (i := 3) rfl h1')) t6 fun H7 S7 => ?_
      refine ⟨fun j σ2 H' => ∃ u7 u8 u9 u10 xs ys, σ2 = [some v0, some v1, some v2, some ln, some (.ref pf), some b5, some (.ref pl), u7, u8, u9, u10] ∧ H' pf = some (.lst xs) ∧ DpAll K (cut (pl :: pf :: ms) H') xs ((found ++ (line.take j).flatMap Gc).map tupN) ∧ H' pl = some (.lst ys) ∧ DpAll K (cut (pl :: pf :: ms) H') ys (((line.take j).flatMap Gl).map lineD) ∧ Same H H' ∧ Trk (pl :: pf :: ms) H' ∧ Same (cut (pl :: pf :: ms) H7) (cut (pl :: pf :: ms) H'),
        ⟨u7, u8, u9, u10, xs, [], rfl, S7 _ _ (S6 _ _ hf5), by simpa using dpall_mono (cut_same S7) (dpall_mono c56 (dpall_mono (cut_same S5) h3)), S7 _ _ hl1, .nil, S06.trans S7, t6.up S7, Same.refl _⟩, fun j σ2 H' ⟨_, _, _, _, _, _, _, _, _, _, _, _, a, b⟩ => ⟨b, a⟩, fun j d x σ2 H8 H9 hj hP S9 hx => ?_, fun σ2 H8 ⟨a7, a8, a9, a10, xs', ys', e, g1, g2, g3, g4, g5, g6, g7⟩ => ?_⟩
      · obtain ⟨a7, a8, a9, a10, xs', ys', rfl, g1, g2, g3, g4, g5, g6, g7⟩ := hP
        rw [List.getElem?_map] at hj
        obtain ⟨y, hy, rfl⟩ := Option.map_eq_some_iff.mp hj
        obtain ⟨y1, y2, y3⟩ := h6 y (List.mem_of_getElem? hy)
        have t9 := g6.up S9
        have S09 := g5.trans S9
        refine (gd_tup (gds_cons (gd_name (i := 7) scLawRoads.nd) (gds_cons (gd_name (i := 8) scLawRoads.nd) gds_nil)) rfl : GD _ (pl :: pf :: ms) _ (lineD y) _) x _ H9 _ hx fun us hus => ?_
        obtain ⟨b7, b8, rfl, e7, e8⟩ := dpall2 hus
        have lastp : ∀ {σ' : L2.St} {H' : Hp} {q1 q2 q3 q4 j}, σ'[8]? = some (some b8) → Same H9 H' → PD (ctOf P w K mg base nLawRoads sLawRoads A) (pl :: pf :: ms) σ' H' (.Subscript (.Name "_law_gone" q1) (.UnaryOp .USub (.Constant (.int 1) j q2) q3) q4) (natD (lastN y.2)) := fun g8 S => pd_ixT (pd_name (i := 8) g8 (dp_mono (cut_same S) e8)) (pd_neg pd_int) (last_at y1)
        have eC : found ++ (line.take (j + 1)).flatMap Gc = found ++ (line.take j).flatMap Gc ++ Gc y := by rw [flat_snoc Gc hy, List.append_assoc]
        have eL : (line.take (j + 1)).flatMap Gl = (line.take j).flatMap Gl ++ Gl y := flat_snoc Gl hy
        have g1' : H9 pf = some (.lst xs') := S9 _ _ g1
        have g3' : H9 pl = some (.lst ys') := S9 _ _ g3
        refine ss_if (ms := pl :: pf :: ms) (k := decide (lastN y.2 = p)) hX (pb_eqN (lastp rfl (Same.refl _)) (pd_name (i := 2) rfl (dp_mono (cc S09) d2))) t9 (fun hb H10 S10 => ?_) fun hb H10 S10 => ?_
        · have hb := of_decide_eq_true hb
          have f1 : Gc y = [y.1] := by rw [← hGc]; dsimp only; rw [if_pos hb]
          have f2 : Gl y = [] := by rw [← hGl]; dsimp only; rw [if_pos hb]
          refine ss_expr hX (es_app1 (ms := pl :: pf :: ms) (i := 4) (p := pf) (xs := xs') (t9.up S10) rfl (S10 _ _ g1') ?_ (pd_name (i := 7) rfl (dp_mono (cut_same S10) e7)) fun v H11 S11 hv => ?_)
          · rw [dpall_len g2, List.length_map, List.length_append]
            rw [List.length_append, ec] at fullc
            have := take_c j
            omega
          · refine ss_nil (ss_nil ?_)
            have S8b := S9.trans (S10.trans S11)
            refine ⟨_, _, _, _, _, ys', rfl, upd_same, ?_, ?_, ?_, same_upd (g5.trans S8b) hfn, ((t9.up S10).up S11).upd, cut_chg (g7.trans (cut_same S8b)) tmf⟩
            · rw [cut_mut tmf, eC, f1, List.map_append]
              exact dpall_app (dpall_mono (cut_same S8b) g2) (.cons hv .nil)
            · rw [upd_ne hne.symm]
              exact S11 _ _ (S10 _ _ g3')
            · rw [cut_mut tmf, eL, f2, List.append_nil]
              exact dpall_mono (cut_same S8b) g4
        · have hb := of_decide_eq_false hb
          have f1 : Gc y = [] := by rw [← hGc]; dsimp only; rw [if_neg hb]
          have f2 : Gl y = longer1 ws y := by rw [← hGl]; dsimp only; rw [if_neg hb]
          have S910 := S9.trans S10
          generalize hG1 : (fun e : Way × Nat => if e.1.u = lastN y.2 ∧ e.1.v ∉ y.2 then [(y.1 ++ [e.2], y.2 ++ [e.1.v])] else []) = G1
          have e1 : longer1 ws y = ws.zipIdx.flatMap G1 := by rw [← hG1]; rfl
          have l1 : ∀ x, (G1 x).length ≤ 1 := fun x => by rw [← hG1]; dsimp only; split <;> simp
          refine ss_for (ms := pl :: pf :: ms) hX (pdi_enumT (pd_ixT (pd_name (i := 0) rfl (dp_mono (cc (S09.trans S10)) d0)) pd_int rfl) T.enum) (t9.up S10) fun H11 S11 => ?_
          refine ⟨fun m σ3 H' => ∃ u9 u10 zs, σ3 = [some v0, some v1, some v2, some ln, some (.ref pf), some b5, some (.ref pl), some b7, some b8, u9, u10] ∧ H' pf = some (.lst xs') ∧ H' pl = some (.lst zs) ∧ DpAll K (cut (pl :: pf :: ms) H') zs (((line.take j).flatMap Gl ++ (ws.zipIdx.take m).flatMap G1).map lineD) ∧ Same H H' ∧ Trk (pl :: pf :: ms) H' ∧ Same (cut (pl :: pf :: ms) H11) (cut (pl :: pf :: ms) H'),
            ⟨a9, a10, ys', rfl, S11 _ _ (S10 _ _ g1'), S11 _ _ (S10 _ _ g3'), by simpa using dpall_mono (cut_same (S910.trans S11)) g4, g5.trans (S910.trans S11), (t9.up S10).up S11, Same.refl _⟩, fun m σ3 H' ⟨_, _, _, _, _, _, _, _, a, b⟩ => ⟨b, a⟩, fun m d x σ3 H12 H13 hm hP S13 hx => ?_, fun σ3 H12 ⟨c9, c10, zs, e, k1, k2, k3, k4, k5, k6⟩ => ?_⟩
          · obtain ⟨c9, c10, zs, rfl, k1, k2, k3, k4, k5, k6⟩ := hP
            obtain ⟨w1, hw, hz, rfl⟩ := numb_ways hm
            have hwm := List.mem_of_getElem? hw
            refine (gd_tup (gds_cons (gd_name (i := 9) scLawRoads.nd) (gds_cons (gd_name (i := 10) scLawRoads.nd) gds_nil)) rfl : GD _ (pl :: pf :: ms) _ (.tuple [natD m, wayD w1]) _) x _ H13 _ hx fun us hus => ?_
            obtain ⟨b9, b10, rfl, e9, e10⟩ := dpall2 hus
            have t13 := k5.up S13
            have q1113 : Same (cut (pl :: pf :: ms) H11) (cut (pl :: pf :: ms) H13) := k6.trans (cut_same S13)
            have q913 : Same (cut (pl :: pf :: ms) H9) (cut (pl :: pf :: ms) H13) := (cut_same (S10.trans S11)).trans q1113
            have e7' := dp_mono q913 e7
            have e8' := dp_mono q913 e8
            have ownp : ∀ {i : Int} {d : PyData} {σ' : L2.St} {H' : Hp} {q1 q2 q3 j}, σ'[10]? = some (some b10) → Same H13 H' → atI [natD w1.u, natD w1.v, .int w1.lo, .int w1.hi] i = some d → PD (ctOf P w K mg base nLawRoads sLawRoads A) (pl :: pf :: ms) σ' H' (.Subscript (.Name "_law_own" q1) (.Constant (.int i) j q2) q3) d := fun g10 S hat => pd_ixT (pd_name (i := 10) g10 (dp_mono (cut_same S) e10)) pd_int hat
            have lastq : ∀ {σ' : L2.St} {H' : Hp} {q1 q2 q3 q4 j}, σ'[8]? = some (some b8) → Same H13 H' → PD (ctOf P w K mg base nLawRoads sLawRoads A) (pl :: pf :: ms) σ' H' (.Subscript (.Name "_law_gone" q1) (.UnaryOp .USub (.Constant (.int 1) j q2) q3) q4) (natD (lastN y.2)) := fun g8 S => pd_ixT (pd_name (i := 8) g8 (dp_mono (cut_same S) e8')) (pd_neg pd_int) (last_at y1)
            have eG : (line.take j).flatMap Gl ++ (ws.zipIdx.take (m + 1)).flatMap G1 = (line.take j).flatMap Gl ++ (ws.zipIdx.take m).flatMap G1 ++ G1 (w1, m) := by rw [flat_snoc G1 hz, List.append_assoc]
            refine ss_if (ms := pl :: pf :: ms) (k := decide (w1.u = lastN y.2) && !decide (w1.v ∈ y.2)) hX (pb_and2 (pb_eqN (ownp rfl (Same.refl _) rfl) (lastq rfl (Same.refl _))) fun _ => pb_notInN (ownp rfl (Same.refl _) rfl) (pd_name (i := 8) rfl e8')) t13 (fun hb1 H14 S14 => ?_) fun hb1 H14 S14 => ?_
            · rw [Bool.and_eq_true] at hb1
              have m1 := of_decide_eq_true hb1.1
              have m2 : w1.v ∉ y.2 := by simpa using hb1.2
              have f3 : G1 (w1, m) = [(y.1 ++ [m], y.2 ++ [w1.v])] := by rw [← hG1]; dsimp only; rw [if_pos ⟨m1, m2⟩]
              have e7'' := dp_mono (cut_same (ms := pl :: pf :: ms) S14) e7'
              have e8'' := dp_mono (cut_same (ms := pl :: pf :: ms) S14) e8'
              refine ss_expr hX (es_app1 (ms := pl :: pf :: ms) (i := 6) (p := pl) (xs := zs) (d := lineD (y.1 ++ [m], y.2 ++ [w1.v])) (t13.up S14) rfl (S14 _ _ (S13 _ _ k2)) ?_ ?_ fun v H15 S15 hv => ?_)
              · rw [dpall_len k3, List.length_map, List.length_append]
                have z1 := flat_take_len Gl 7 line j fun x _ => ll1 x
                have z2 := flat_take_len G1 1 ws.zipIdx m fun x _ => l1 x
                rw [List.length_zipIdx, Nat.mul_one] at z2
                have z3 : line.length * 7 ≤ 117649 := Nat.le_trans (Nat.mul_le_mul_right 7 h5) (Nat.le_trans hp7i (by decide))
                have := Ln.w7
                omega
              · have i5 := Ln.n6
                refine PD.cast (pd_tup (pad_cons (pd_catT (ds := y.1.map natD) (es := [natD m]) (by rw [List.length_map]; exact Nat.le_trans (show y.1.length + 1 ≤ 1000 by omega) (by decide)) (pd_name (i := 7) rfl e7'') (pd_tup (pad_cons (pd_name (i := 9) rfl (dp_mono (cut_same S14) e9)) pad_nil) (by show 1 ≤ sizeLine; decide))) (pad_cons (pd_catT (ds := y.2.map natD) (es := [natD w1.v]) (by rw [List.length_map]; exact Nat.le_trans (show y.2.length + 1 ≤ 1000 by omega) (by decide)) (pd_name (i := 8) rfl e8'') (pd_tup (pad_cons (ownp rfl S14 rfl) pad_nil) (by show 1 ≤ sizeLine; decide))) pad_nil)) (by show 2 ≤ sizeLine; decide)) ?_
                unfold lineD tupN
                rw [List.map_append, List.map_append]
                rfl
              · refine ss_nil (ss_nil ?_)
                have S12b := S13.trans (S14.trans S15)
                refine ⟨_, _, _, rfl, ?_, upd_same, ?_, same_upd (k4.trans S12b) hln, ((t13.up S14).up S15).upd, cut_chg (k6.trans (cut_same S12b)) tml⟩
                · rw [upd_ne hne]
                  exact S15 _ _ (S14 _ _ (S13 _ _ k1))
                · rw [cut_mut tml, eG, f3, List.map_append]
                  exact dpall_app (dpall_mono (cut_same S12b) k3) (.cons hv .nil)
            · have f3 : G1 (w1, m) = [] := by
                rw [← hG1]
                dsimp only
                rw [if_neg ?_]
                rintro ⟨m1, m2⟩
                rw [decide_eq_true m1, decide_eq_false m2] at hb1
                cases hb1
              refine ss_nil (ss_nil ?_)
              have S12b := S13.trans S14
              refine ⟨_, _, _, rfl, S14 _ _ (S13 _ _ k1), S14 _ _ (S13 _ _ k2), ?_, k4.trans S12b, t13.up S14, k6.trans (cut_same S12b)⟩
              rw [eG, f3, List.append_nil]
              exact dpall_mono (cut_same S12b) k3
          · have hlen : (numb (ws.map wayD)).length = ws.zipIdx.length := by rw [numb_len, List.length_map, List.length_zipIdx]
            rw [hlen, List.take_length, ← e1, ← f2] at k3
            refine ss_nil (ss_nil ?_)
            have q812 : Same (cut (pl :: pf :: ms) H8) (cut (pl :: pf :: ms) H12) := (cut_same (S910.trans S11)).trans k6
            refine ⟨_, _, _, _, xs', zs, e, k1, ?_, k2, ?_, k4, k5, g7.trans q812⟩
            · rw [eC, f1, List.append_nil]
              exact dpall_mono q812 g2
            · rw [eL]
              exact k3
      · rw [List.length_map, List.take_length] at g2 g4
        rw [← ec] at g2
        rw [← el] at g4
        rw [e]
        have hl8 : Dp K (cut (pf :: ms) H8) (.ref pl) (.list ((longer ws p line).map lineD)) := by
          refine .lst (.inl (.inl (cut_of ?_ g3))) (dpall_mono (cut_sub (ms := pl :: pf :: ms) fun m hm => List.mem_cons_of_mem _ hm) g4)
          exact t5.new hl0
        have tf8 : Trk (pf :: ms) H8 := fun m hm => g6 m (List.mem_cons_of_mem _ hm)
        refine ss_set 3 hX (PD.go (ms := pf :: ms) (pd_name (i := 6) rfl hl8) tf8 fun v9 H9 S9 d9 => ?_)
        refine ss_nil ?_
        have q38 : Same (cut (pf :: ms) H3) (cut (pf :: ms) H8) := by
          refine h9.trans ((cut_same S5).trans (Same.trans ?_ (cut_sub (ms := pl :: pf :: ms) fun m hm => List.mem_cons_of_mem _ hm)))
          exact (same_more (S6.trans S7) hl0).trans g7
        refine ⟨v9, _, _, _, _, _, _, xs', longer ws p line, found ++ come p line, rfl, d9, S9 _ _ g1, dpall_mono (cut_same S9) (dpall_mono (cut_sub (ms := pl :: pf :: ms) fun m hm => List.mem_cons_of_mem _ hm) g2), hlap, ?_, fun y hy => ?_, g5.trans S9, tf8.up S9, q38.trans (cut_same S9)⟩
        · rw [Nat.pow_succ]
          exact Nat.le_trans (longer_len Ln.w7 p line) (Nat.mul_le_mul_right 7 h5)
        · obtain ⟨x, hx, i', v', rfl⟩ := longer_mem hy
          obtain ⟨y1, y2, y3⟩ := h6 x hx
          dsimp only
          rw [List.length_append, List.length_append]
          refine ⟨by simp, ?_, ?_⟩
          · show x.1.length + 1 ≤ i + 1
            omega
          · show x.2.length + 1 ≤ i + 1 + 1
            omega
    · rw [intsD_len, Nat.sub_self] at h4
      have h4' : found = laps ws p n [([], [st])] [] := h4
      have hperm : found.Perm (rf ws p n st [st]) := by rw [h4']; exact laps_rf ws p n st
      have hD : Dp K (cut ms H4) (.ref pf) (.list (found.map tupN)) := .lst (.inl (.inl (cut_of (t.new hfn) h2))) (dpall_mono (cut_sub (ms := pf :: ms) fun m hm => List.mem_cons_of_mem _ hm) h3)
      rw [e]
      have hk : (∀ r ∈ found, r ≠ []) ∨ found.length ≤ 1 := by
        rcases (rf_sortable : (∀ r ∈ rf ws p n st [st], r ≠ []) ∨ (rf ws p n st [st]).length ≤ 1) with h | h
        · exact .inl fun r hr => h r (hperm.mem_iff.mp hr)
        · exact .inr (by rw [hperm.length_eq]; exact h)
      have eI : isort found = roadsM n ws st p := isort_congr hperm
      refine ss_ret hX (PD.go (ms := ms) (PD.cast (pl_sortN (rs := found) (show A.units + 3 < cLine by have := hr.un; omega) hk (pd_name (i := 4) rfl hD) T.sorted).pd (by rw [eI])) (t.up h7) fun v H6 S6 hv => q _ _ (h7.trans S6) hv)
end
end SK
set_option maxHeartbeats 4000000
namespace SK
open PySem PySem.Spec PyProof.Rows L2 SKM
/-! ### what is drawn from -/
def Tin (H : Hp) (t : Addr) (n : Nat) : Prop := ∃ a b c : Int, H t = some (.lst [.int a, .int b, .int c]) ∧ 0 ≤ a ∧ 0 ≤ c ∧ c ≤ n
theorem Tin.up {H : Hp} {t : Addr} {n m : Nat} (h : Tin H t n) (hm : n ≤ m) : Tin H t m := by
  obtain ⟨a, b, c, h1, h2, h3, h4⟩ := h
  exact ⟨a, b, c, h1, h2, h3, by omega⟩
theorem Tin.same {H H' : Hp} {t : Addr} {n : Nat} (h : Tin H t n) (S : Same H H') : Tin H' t n := by
  obtain ⟨a, b, c, h1, h2⟩ := h
  exact ⟨a, b, c, S _ _ h1, h2⟩
theorem Tin.ne {H : Hp} {t p : Addr} {n : Nat} (h : Tin H t n) (hn : H p = none) : t ≠ p := by
  obtain ⟨a, b, c, h1, _⟩ := h
  exact ne_of_none h1 hn
theorem Tin.some {H : Hp} {t : Addr} {n : Nat} (h : Tin H t n) : ∃ o, H t = Option.some o := by
  obtain ⟨a, b, c, h1, _⟩ := h
  exact ⟨_, h1⟩
theorem Tin.chg {H : Hp} {t p : Addr} {n : Nat} {o : HO} (h : Tin H t n) (hn : t ≠ p) : Tin (upd H p o) t n := by
  obtain ⟨a, b, c, h1, h2⟩ := h
  exact ⟨a, b, c, by rw [upd_ne hn]; exact h1, h2⟩
/-- all but t stands -/
def But (t : Addr) (H H' : Hp) : Prop := ∀ b o, b ≠ t → H b = some o → H' b = some o
theorem But.of {t : Addr} {H H' : Hp} (S : Same H H') : But t H H' := fun b o _ e => S _ _ e
theorem But.trans {t : Addr} {H H1 H2 : Hp} (a : But t H H1) (b : But t H1 H2) : But t H H2 := fun x o h e => b x o h (a x o h e)
theorem But.cut {t : Addr} {ms : List Addr} {H H' : Hp} (a : But t H H') (h : t ∈ ms) : Same (cut ms H) (cut ms H') := fun b o e => by
  have e1 := cut_at e
  exact cut_of e1.1 (a b o (fun z => e1.1 (z ▸ h)) e1.2)
theorem But.chg {t : Addr} {H H' : Hp} {o : HO} (a : But t H H') : But t H (upd H' t o) := fun b x hb e => by
  rw [upd_ne hb]
  exact a b x hb e
theorem But.trk {t : Addr} {ms : List Addr} {H H' : Hp} {n : Nat} (a : But t H H') (tr : Trk ms H) (h : Tin H' t n) : Trk ms H' := fun m hm e => by
  by_cases hb : m = t
  · obtain ⟨o, e2⟩ := h.some
    rw [hb, e2] at e
    cases e
  · cases e2 : H m with
    | none => exact tr m hm e2
    | some o => rw [a m o hb e2] at e; cases e
theorem But.free {t p : Addr} {H H' : Hp} {n : Nat} (a : But t H H') (h : Tin H t n) (e : H' p = none) (hn : Tin H' t n') : H p = none := by
  cases e2 : H p with
  | none => rfl
  | some o =>
    by_cases hb : p = t
    · obtain ⟨o2, e3⟩ := hn.some
      rw [hb, e3] at e
      cases e
    · rw [a p o hb e2] at e
      cases e
section
variable {c : Ct} {ms : List Addr} {σ : L2.St} {H : Hp} {a b e : Expr} {pos : Pos}
theorem ea1 {Q : List V → Hp → Prop} (q : ES c e σ H fun v H1 => Q [v] H1) (ns : NSt e := by intro _ _; rfl) : EA c [e] σ H Q := ⟨tCons (ES c e) tNil, fun X hX => pa_cons (ES.any hX _) pa_nil (ns X []), q⟩
theorem ea3 {e3 : Expr} {Q : List V → Hp → Prop} (q : ES c a σ H fun v H1 => ES c b σ H1 fun w H2 => ES c e3 σ H2 fun u H3 => Q [v, w, u] H3) (ns : NSt a := by intro _ _; rfl) (ns2 : NSt b := by intro _ _; rfl) (ns3 : NSt e3 := by intro _ _; rfl) : EA c [a, b, e3] σ H Q :=
  ⟨tCons (ES c a) (tCons (ES c b) (tCons (ES c e3) tNil)), fun X hX => pa_cons (ES.any hX _) (pa_cons (ES.any hX _) (pa_cons (ES.any hX _) pa_nil (ns3 X [])) (ns2 X [e3])) (ns X [b, e3]), q⟩
theorem es_name {i : Nat} {x : Str} {v : V} {Q : VK} (hσ : σ[i]? = some (some v)) (q : Q v H) (hN : c.N[i]? = some x := by rfl) (hv : Vis c.sc x := by first | exact Or.inl rfl | exact Or.inr (Or.inl rfl) | exact Or.inr (Or.inr rfl))
    (h1 : (x == ("__debug__" : Str)) = false := by decide) (h2 : (x == ("__classdict__" : Str)) = false := by decide) : ES c (.Name x pos) σ H Q :=
  ⟨tVar i, fun X hX => pe_var (by rw [hX.N]; exact hN) (by rw [hX.sc]; exact hv) h1 h2, v, hσ, q⟩
theorem es_lenM {i : Nat} {x : Str} {p1 px : Pos} {p : Addr} {xs : List V} {Q : VK} (hσ : σ[i]? = some (some (.ref p))) (hp : H p = some (.lst xs)) (q : Q (.int xs.length) H) (hm : c.mg "len" = none) (hg : GlC c "len" := by rfl) (hN : c.N[i]? = some x := by rfl) (hv : Vis c.sc x := by first | exact Or.inl rfl | exact Or.inr (Or.inl rfl) | exact Or.inr (Or.inr rfl))
    (h1 : (x == ("__debug__" : Str)) = false := by decide) (h2 : (x == ("__classdict__" : Str)) = false := by decide) : ES c (.Call (.Name "len" p1) [.Name x px] [] pos) σ H Q :=
  ⟨tCB (fun xs H Q => ∃ p ys, xs = [V.ref p] ∧ (SqL c.K H p ys ∨ SqT c.K H p ys) ∧ Q (.int ys.length) H) (tCons (tVar i) tNil), fun X hX => pe_callB (hX.K ▸ call_len_seq) (hg.of hX) (by rw [hX.mg]; exact hm) PySem.boot_len (pa_cons (pe_var (by rw [hX.N]; exact hN) (by rw [hX.sc]; exact hv) h1 h2) pa_nil (by rfl)) (by decide) (by decide) (by rfl) (by rfl),
    .ref p, hσ, p, xs, rfl, .inl (.inl (.inl hp)), q⟩
/-- an op b, whatever a and b do -/
theorem es_add {Q : VK} (q : ES c a σ H fun v H1 => ES c b σ H1 fun u H2 => ∃ i j : Int, v = .int i ∧ u = .int j ∧ Q (.int (i + j)) H2) : ES c (.BinOp a .Add b pos) σ H Q :=
  ⟨tOp (rI0 fun i j => .int (i + j)) (ES c a) (ES c b), fun X hX => pe_op op_add (ES.any hX a) (ES.any hX b), q⟩
theorem es_int {i : Int} {j} {Q : VK} (q : Q (.int i) H) : ES c (.Constant (.int i) j pos) σ H Q := ⟨tC (.int i), fun X hX => pe_int, q⟩
end
section
variable {P : Program} {w : World} {K : PySem.W.Frag} {mg : Str → Option Value} {base : Heap}
/-! ### _law_take -/
def spTake : Sp := fun vs H Q _ => ∃ (t : Addr) (below : Int) (m : Nat), vs = [.ref t, .int below] ∧ 0 < below ∧ below < 1073741824 ∧ m ≤ 1000000 ∧ Tin H t m ∧ ∀ (r : Int) (H' : Hp), 0 ≤ r → r < below → But t H H' → Tin H' t (m + 1) → Q (.int r) H'
theorem fn_law_take {f : Addr} {fd : FuncData} (a : At K mg "_law_take" sLawTake f fd ["_law_tin", "_law_below_so"]) (T : Mg mg) (k : Nat) : Fn1 P w K mg base CX0 (k + 1) "_law_take" ["_law_tin", "_law_below_so"] spTake :=
  a.fn scLawTake (fun vs H Q E h => by obtain ⟨_, _, _, rfl, _⟩ := h; rfl) fun A X H vs Q E hX hr h => by
    obtain ⟨t, below, m, rfl, hb0, hb1, hm, hT, q⟩ := h
    obtain ⟨a0, b0, c0, hp, ha, hc, hcm⟩ := hT
    have tr : Trk [t] H := fun x hx => by rw [List.mem_singleton.mp hx, hp]; exact fun z => by cases z
    have tm : t ∈ [t] := List.mem_singleton.mpr rfl
    have ix : ∀ {xs : List V} {σ' : L2.St} {H' : Hp} {i j : Int} {q1 q2 q3 l}, σ'[0]? = some (some (.ref t)) → H' t = some (.lst xs) → atI xs i = some (.int j) → PD (ctOf P w K mg base nLawTake sLawTake A) [t] σ' H' (.Subscript (.Name "_law_tin" q1) (.Constant (.int i) l q2) q3) (.int j) := fun g h e => pd_ixM (i := 0) g h pd_int e (.int _)
    have bel : ∀ {σ' : L2.St} {H' : Hp} {q1}, σ'[1]? = some (some (.int below)) → PD (ctOf P w K mg base nLawTake sLawTake A) [t] σ' H' (.Name "_law_below_so" q1) (.int below) := fun g => pd_name (i := 1) g (.int _)
    refine ss_if (ms := [t]) (k := decide (0 < a0)) hX (pb_gt (ix rfl hp rfl) pd_int) tr (fun hk H1 S1 => ?_) fun hk H1 S1 => ?_
    · have hp1 := S1 _ _ hp
      refine ss_set 2 hX (PD.go (ms := [t]) (pd_mod hb0 (pd_intI (ix rfl hp1 rfl) T.int) (bel rfl)) (tr.up S1) fun v H2 S2 hv => ?_)
      obtain rfl := dp_int hv
      have hp2 := S2 _ _ hp1
      refine ss_asg hX (PD.go (ms := [t]) (pd_fdiv ⟨hb0, hb1⟩ (ix rfl hp2 rfl) (bel rfl)) ((tr.up S1).up S2) fun v H3 S3 hv => ?_)
      obtain rfl := dp_int hv
      have hp3 := S3 _ _ hp2
      refine eg_sub (ms := [t]) (i := 0) (p := t) (((tr.up S1).up S2).up S3) rfl hp3 pd_int (j := 0) rfl fun H4 S4 => ?_
      refine ss_ret hX (PD.go (ms := [t]) (pd_name (i := 2) rfl (.int _)) ((((tr.up S1).up S2).up S3).up S4).upd fun v H5 S5 hv => ?_)
      obtain rfl := dp_int hv
      refine q _ _ (Int.emod_nonneg _ (by omega)) (Int.emod_lt_of_pos _ hb0) ((But.of (S1.trans (S2.trans (S3.trans S4)))).chg.trans (But.of S5)) ⟨a0 / below, b0, c0, S5 _ _ upd_same, Int.ediv_nonneg ha (by omega), hc, by omega⟩
    · refine ss_nil ?_
      have hp1 := S1 _ _ hp
      refine ss_asg hX (PD.go (ms := [t]) (pd_add (ix rfl hp1 (i := 2) rfl) pd_int) (tr.up S1) fun v H2 S2 hv => ?_)
      obtain rfl := dp_int hv
      have hp2 := S2 _ _ hp1
      refine eg_sub (ms := [t]) (i := 0) (p := t) ((tr.up S1).up S2) rfl hp2 pd_int (j := 2) rfl fun H3 S3 => ?_
      have tr3 := (((tr.up S1).up S2).up S3).upd (p := t) (o := .lst ([V.int a0, V.int b0, V.int c0].set 2 (V.int (c0 + 1))))
      have hp3 : (upd H3 t (.lst ([V.int a0, V.int b0, V.int c0].set 2 (V.int (c0 + 1))))) t = some (.lst [.int a0, .int b0, .int (c0 + 1)]) := upd_same
      have B3 : But t H (upd H3 t (.lst ([V.int a0, V.int b0, V.int c0].set 2 (V.int (c0 + 1))))) := (But.of (S1.trans (S2.trans S3))).chg
      refine ss_set 3 hX (PD.go (ms := [t]) (pd_mod (by decide) (pd_intI (pd_mul (.inr ⟨by omega, by omega⟩) (pd_add (ix rfl hp3 (i := 1) rfl) (pd_mul (.inl (by decide)) pd_int (ix rfl hp3 (i := 2) rfl))) (pd_add pd_int (ix rfl hp3 (i := 2) rfl))) T.int) pd_int) tr3 fun v H4 S4 hv => ?_)
      obtain rfl := dp_int hv
      have hp4 := S4 _ _ hp3
      generalize hO : (b0 + 48271 * (c0 + 1)) * (39373 + (c0 + 1)) % 2147483647 = once
      refine ss_set 4 hX (PD.go (ms := [t]) (pd_add (pd_mod (by decide) (pd_intI (pd_name (i := 3) rfl (.int _)) T.int) pd_int) pd_int) (tr3.up S4) fun v H5 S5 hv => ?_)
      obtain rfl := dp_int hv
      have hp5 := S5 _ _ hp4
      have hw1 := Int.emod_nonneg once (show (40009 : Int) ≠ 0 by decide)
      have hw2 := Int.emod_lt_of_pos once (show (0 : Int) < 40009 by decide)
      refine ss_set 5 hX (PD.go (ms := [t]) (pd_mod (by decide) (pd_intI (pd_mul (.inr ⟨by omega, by omega⟩) (pd_add (pd_add (pd_name (i := 3) rfl (.int _)) (ix rfl hp5 (i := 2) rfl)) (pd_fdiv ⟨by decide, by decide⟩ (ix rfl hp5 (i := 1) rfl) pd_int)) (pd_name (i := 4) rfl (.int _))) T.int) pd_int) ((tr3.up S4).up S5) fun v H6 S6 hv => ?_)
      obtain rfl := dp_int hv
      have hp6 := S6 _ _ hp5
      refine ss_ret hX (PD.go (ms := [t]) (pd_mod hb0 (pd_intI (pd_fdiv ⟨by decide, by decide⟩ (pd_mod (by decide) (pd_intI (pd_add (pd_mul (.inr (by decide)) (pd_name (i := 5) rfl (.int _)) pd_int) (pd_name (i := 3) rfl (.int _))) T.int) pd_int) pd_int) T.int) (bel rfl)) (((tr3.up S4).up S5).up S6) fun v H7 S7 hv => ?_)
      obtain rfl := dp_int hv
      exact q _ _ (Int.emod_nonneg _ (by omega)) (Int.emod_lt_of_pos _ hb0) (B3.trans (But.of (S4.trans (S5.trans (S6.trans S7))))) ⟨a0, b0, c0 + 1, S7 _ _ hp6, ha, by omega, by omega⟩
end
end SK
set_option maxHeartbeats 4000000
namespace SK
open PySem PySem.Spec PyProof.Rows L2 SKM
theorem PL.cast {c : Ct} {ms : List Addr} {σ : L2.St} {H : Hp} {e : Expr} {es es' : List PyData} (h : PL c ms σ H e es) (e1 : es = es') : PL c ms σ H e es' := e1 ▸ h
theorem b01 (b : Bool) : 0 ≤ (if b = true then (1 : Int) else 0) ∧ (if b = true then (1 : Int) else 0) ≤ 1 := by cases b <;> decide
section
variable {P : Program} {w : World} {K : PySem.W.Frag} {mg : Str → Option Value} {base : Heap}
/-! ### _law_box -/
def spBox (K : PySem.W.Frag) : Sp := fun vs H Q _ => ∃ (ms : List Addr) (c : Int), Trk ms H ∧ DpAll K (cut ms H) vs [.list [.int c], .int 0] ∧ ∀ (p : Addr) (a b : Int) (H' : Hp), 0 ≤ a → Same H H' → H p = none → H' p = some (.lst [.int a, .int b, .int 0]) → Q (.ref p) H'
theorem fn_law_box {f : Addr} {fd : FuncData} (a : At K mg "_law_box" sLawBox f fd ["_law_script", "_law_k"]) (T : Mg mg) (k : Nat) : Fn1 P w K mg base CX0 (k + 1) "_law_box" ["_law_script", "_law_k"] (spBox K) :=
  a.fn scLawBox (fun vs H Q E h => by obtain ⟨_, _, _, h, _⟩ := h; exact dpall_len h) fun A X H vs Q E hX hr h => by
    obtain ⟨ms, c, t, hvs, q⟩ := h
    obtain ⟨v0, v1, rfl, d0, d1⟩ := dpall2 hvs
    refine ss_set 2 hX (PD.go (ms := ms) (d := .int c) (pd_if (k := true) ((pb_lt (pd_name (i := 1) rfl d1) (pd_lenL (pd_name (i := 0) rfl d0) T.len)).cast rfl) (fun _ => pd_ixL (pd_name (i := 0) rfl d0) (pd_name (i := 1) rfl d1) rfl) fun z => nomatch z) t fun v H1 S1 hv => ?_)
    obtain rfl := dp_int hv
    have d1' := dp_mono (cut_same (ms := ms) S1) d1
    refine ss_ret hX (PL.go (ms := ms) (pl_lst (pad_cons (pd_mul (.inr ?_) (pd_abs (pd_name (i := 2) rfl (.int _)) T.abs) (pd_intB (pd_ge (pd_abs (pd_name (i := 2) rfl (.int _)) T.abs) (pd_pow (i := 10) (j := 18) ⟨by decide, by decide, by decide⟩ pd_int pd_int)) T.int)) (pad_cons (pd_add (pd_add (pd_mod (by decide) (pd_intI (pd_name (i := 2) rfl (.int _)) T.int) pd_int) (pd_mul (.inl (by decide)) pd_int (pd_name (i := 1) rfl d1'))) pd_int) (pad_cons pd_int pad_nil))) (by show 3 ≤ sizeLine; decide)) (t.up S1) fun p xs H2 S2 hp0 hp1 hx => ?_)
    · have := b01 (decide ((10 : Int) ^ (18 : Int).toNat ≤ if c < 0 then -c else c))
      exact ⟨by omega, by omega⟩
    · obtain ⟨x1, x2, x3, rfl, e1, e2, e3⟩ := dpall3 hx
      obtain rfl := dp_int e1
      obtain rfl := dp_int e2
      obtain rfl := dp_int e3
      refine q _ _ _ _ (Int.mul_nonneg ?_ (b01 _).1) (S1.trans S2) (S1.free hp0) hp1
      split <;> omega
/-! ### _law_cells -/
def spCells (K : PySem.W.Frag) : Sp := fun vs H Q _ => ∃ (ms : List Addr) (ns : List Int), Trk ms H ∧ DpAll K (cut ms H) vs [.list (ns.map .int), .int 1] ∧ ns.length ≤ 63 ∧ ∀ (c : Int) (v : V) (H' : Hp), Same H H' → Dp K (cut ms H') v (.list [.int c]) → Q v H'
theorem take_int (ns : List Int) (a b : Nat) : ((ns.map PyData.int).drop a).take b = ((ns.drop a).take b).map PyData.int := by rw [List.map_take, List.map_drop]
theorem fn_law_cells {f : Addr} {fd : FuncData} (a : At K mg "_law_cells" sLawCells f fd ["_law_script", "_law_most_so"]) (T : Mg mg) (k : Nat) : Fn1 P w K mg base CX0 (k + 1) "_law_cells" ["_law_script", "_law_most_so"] (spCells K) :=
  a.fn scLawCells (fun vs H Q E h => by obtain ⟨_, _, _, h, _⟩ := h; exact dpall_len h) fun A X H vs Q E hX hr h => by
    obtain ⟨ms, ns, t, hvs, h63, q⟩ := h
    obtain ⟨v0, v1, rfl, d0, d1⟩ := dpall2 hvs
    have lt : ∀ (m : Nat), m = ns.length → (((ns.map PyData.int).drop (HT.sIx m 0 none)).take (HT.sIx m m (some 1) - HT.sIx m 0 none)) = (ns.take 1).map .int := fun m hm => by
      rw [take_int]
      have e1 : HT.sIx m 0 none = 0 := rfl
      have e2 : HT.sIx m m (some 1) = min 1 m := HT.sIx_nat m m 1
      rw [e1, e2, List.drop_zero, Nat.sub_zero]
      congr 1
      cases ns with
      | nil => simp
      | cons x ns => rw [hm, List.length_cons]; rw [show min 1 (ns.length + 1) = 1 by omega]
    refine ss_set 2 hX (PL.go (ms := ms) (es := [.int (ns.headD 0)]) (pl_or (ds := (ns.take 1).map .int) (PL.cast (pl_listL (pd_slL (lo := none) (hi := some 1) (pd_name (i := 0) rfl d0) (fun H1 Q S q => eo_none q) (fun H1 Q S q => eo_some t (pd_name (i := 1) rfl d1) S q)) T.list) (lt _ (List.length_map _))) (fun h0 => pl_one (PL.cast (pl_lst (pad_cons pd_int pad_nil) (by show 1 ≤ sizeLine; decide)) ?_)) fun h0 => ?_) t fun p xs H1 S1 hp0 hp1 hx => ?_)
    · cases ns with
      | nil => rfl
      | cons x ns => cases h0
    · cases ns with
      | nil => exact absurd rfl h0
      | cons x ns => rfl
    · obtain ⟨x0, rfl, e0⟩ := dpall1 hx
      obtain rfl := dp_int e0
      have tm : p ∈ p :: ms := List.mem_cons_self
      have t1 : Trk (p :: ms) H1 := (t.up S1).more hp1
      have c1 := same_more (ms := ms) S1 hp0
      have d0' := dp_mono c1 d0
      have d1' := dp_mono c1 d1
      refine ss_for (ms := p :: ms) hX (pdi_enumL (pd_slL (lo := some 1) (hi := some 63) (pd_name (i := 0) rfl d0') (fun H1 Q S q => eo_some t1 (pd_name (i := 1) rfl d1') S q) (fun H1 Q S q => eo_some t1 pd_int S q)) T.enum) t1 fun H2 S2 => ?_
      rw [take_int]
      generalize hzs : ((ns.drop _).take _) = zs
      have hzl : zs.length ≤ 63 := by rw [← hzs, List.length_take, List.length_drop]; omega
      refine ⟨fun i σ' H' => ∃ c u3 u4 u5, σ' = [some v0, some v1, some (.ref p), u3, u4, u5] ∧ H' p = some (.lst [.int c]) ∧ Same H H' ∧ Trk (p :: ms) H' ∧ Same (cut (p :: ms) H2) (cut (p :: ms) H'), ⟨_, none, none, none, rfl, S2 _ _ hp1, S1.trans S2, t1.up S2, Same.refl _⟩, fun i σ' H' ⟨_, _, _, _, _, _, _, h3, h4⟩ => ⟨h4, h3⟩, fun i d x σ' H3 H4 hi hP S4 hx => ?_, fun σ' H3 ⟨c, u3, u4, u5, e, h1, h2, h3, _⟩ => ?_⟩
      · obtain ⟨c, u3, u4, u5, rfl, h1, h2, h3, h4⟩ := hP
        obtain ⟨y, hy, rfl⟩ := numb_get hi
        rw [List.getElem?_map] at hy
        obtain ⟨z, hz, rfl⟩ := Option.map_eq_some_iff.mp hy
        refine (gd_tup (gds_cons (gd_name (i := 3) scLawCells.nd) (gds_cons (gd_name (i := 4) scLawCells.nd) gds_nil)) rfl : GD _ (p :: ms) _ (.tuple [.int (i : Nat), .int z]) _) x _ H4 _ hx fun us hus => ?_
        obtain ⟨b3, b4, rfl, e3, e4⟩ := dpall2 hus
        have t4 := h3.up S4
        have hil : i < 63 := by
          have := (List.getElem?_eq_some_iff.mp hz).1
          omega
        refine ss_set 5 hX (PD.go (ms := p :: ms) (pd_mod (by decide) (pd_intI (pd_name (i := 3) rfl e3) T.int) (pd_name (i := 1) rfl (dp_mono (same_more (h2.trans S4) hp0) d1))) t4 fun v H5 S5 hv => ?_)
        obtain rfl := dp_int hv
        have ez : ((i : Nat) : Int) % 1 = 0 := Int.emod_one _
        rw [ez]
        have hp5 : H5 p = some (.lst [.int c]) := S5 _ _ (S4 _ _ h1)
        refine ss_asg hX (PD.go (ms := p :: ms) (pd_add (pd_ixM (i := 2) rfl hp5 (pd_name (i := 5) rfl (.int _)) rfl (.int c)) (pd_mul (.inr ?_) (pd_name (i := 4) rfl (dp_mono (cut_same S5) e4)) (pd_add (pd_name (i := 3) rfl (dp_mono (cut_same S5) e3)) pd_int))) (t4.up S5) fun v H6 S6 hv => ?_)
        · exact ⟨by omega, by omega⟩
        · obtain rfl := dp_int hv
          refine eg_sub (ms := p :: ms) (i := 2) (p := p) ((t4.up S5).up S6) rfl (S6 _ _ hp5) (pd_name (i := 5) rfl (.int _)) (j := 0) rfl fun H7 S7 => ss_nil ?_
          have S47 := S4.trans (S5.trans (S6.trans S7))
          exact ⟨_, _, _, _, rfl, upd_same, same_upd (h2.trans S47) hp0, (((t4.up S5).up S6).up S7).upd, cut_chg (h4.trans (cut_same S47)) tm⟩
      · rw [e]
        refine ss_ret hX (PD.go (ms := ms) (pd_name (i := 2) rfl (.lst (.inl (.inl (cut_of (t.new hp0) h1))) (.cons (.int c) .nil))) (t.up h2) fun v H6 S6 hv => q _ _ _ (h2.trans S6) hv)
end
end SK
set_option maxHeartbeats 4000000
namespace SK
open PySem PySem.Spec PyProof.Rows L2 SKM
section
variable {P : Program} {w : World} {K : PySem.W.Frag} {mg : Str → Option Value} {base : Heap}
/-! ### _law_pick -/
def spPick (K : PySem.W.Frag) : Sp := fun vs H Q _ => ∃ (ms : List Addr) (t : Addr) (vg : V) (gs : List PyData) (cnt m : Nat), vs = [.ref t, vg, .int (cnt : Int)] ∧ Trk ms H ∧ t ∈ ms ∧ Dp K (cut ms H) vg (.list gs) ∧ gs.length ≤ 1000 ∧ cnt ≤ 1000 ∧ m ≤ 10000 ∧ Tin H t m ∧
  ∀ (p : Addr) (xs : List V) (es : List PyData) (H' : Hp), But t H H' → H p = none → H' p = some (.lst xs) → DpAll K (cut (p :: ms) H') xs es → (∀ e ∈ es, e ∈ gs) → es.length ≤ cnt → Tin H' t (m + cnt) → Q (.ref p) H'
theorem mem_eraseIdx {α : Type} {x : α} : ∀ {l : List α} {i : Nat}, x ∈ l.eraseIdx i → x ∈ l
  | [], _, h => h
  | y :: l, 0, h => List.mem_cons_of_mem _ h
  | y :: l, i + 1, h => by
    rcases List.mem_cons.mp h with rfl | h
    · exact List.mem_cons_self
    · exact List.mem_cons_of_mem _ (mem_eraseIdx h)
theorem fn_law_pick {f : Addr} {fd : FuncData} {k : Nat} (a : At K mg "_law_pick" sLawPick f fd ["_law_tin", "_law_goods_so", "_law_count_so"]) (T : Mg mg) (FT : Fn1 P w K mg base CX0 k "_law_take" ["_law_tin", "_law_below_so"] spTake) : Fn1 P w K mg base CX0 (k + 1) "_law_pick" ["_law_tin", "_law_goods_so", "_law_count_so"] (spPick K) :=
  a.fn scLawPick (fun vs H Q E h => by obtain ⟨_, _, _, _, _, _, rfl, _⟩ := h; rfl) fun A X H vs Q E hX hr h => by
    obtain ⟨ms, t, vg, gs, cnt, m, rfl, tr, htm, dg, hgl, hcl, hml, hT, q⟩ := h
    refine ss_par 3 4 hX (ea2 (PL.go (ms := ms) (pl_listL (pd_name (i := 1) rfl dg) T.list) tr fun pp xs H1 S1 hp0 hp1 hx => PL.go (ms := ms) (pl_lst pad_nil (by decide)) (tr.up S1) fun pf ys H2 S2 hf0 hf1 hy => ⟨_, _, rfl, ?_⟩))
    obtain rfl := dpall0 hy
    have hpn : H pf = none := S1.free hf0
    have hpp2 : H2 pp = some (.lst xs) := S2 _ _ hp1
    have hne : pp ≠ pf := ne_of_none hp1 hf0
    have S12 := S1.trans S2
    have T2 := hT.same S12
    have tp : t ≠ pp := hT.ne hp0
    have tf : t ≠ pf := hT.ne hpn
    have hxl : xs.length = gs.length := dpall_len hx
    have t2 : Trk (pf :: pp :: ms) H2 := ((tr.up S12).more hpp2).more hf1
    have mf : pf ∈ pf :: pp :: ms := List.mem_cons_self
    have mp : pp ∈ pf :: pp :: ms := List.mem_cons_of_mem _ List.mem_cons_self
    have mt : t ∈ pf :: pp :: ms := List.mem_cons_of_mem _ (List.mem_cons_of_mem _ htm)
    have lenP : PD (ctOf P w K mg base nLawPick sLawPick A) (pf :: pp :: ms) ((start nLawPick [.ref t, vg, .int (cnt : Int)]).set 3 (some (.ref pp)) |>.set 4 (some (.ref pf))) H2 (.Call (.Name "len" ⟨0, 0, 0, 0⟩) [.Name "_law_pool_so" ⟨0, 0, 0, 0⟩] [] ⟨0, 0, 0, 0⟩) (.int xs.length) := fun tt H1 Q S q => es_lenM (i := 3) (p := pp) (xs := xs) rfl (S _ _ hpp2) (q _ _ (Same.refl _) (.int _)) T.len
    have lenP' : ∀ {p1 p2 p3 : Pos}, PD (ctOf P w K mg base nLawPick sLawPick A) (pf :: pp :: ms) ((start nLawPick [.ref t, vg, .int (cnt : Int)]).set 3 (some (.ref pp)) |>.set 4 (some (.ref pf))) H2 (.Call (.Name "len" p1) [.Name "_law_pool_so" p2] [] p3) (.int xs.length) := fun tt H1 Q S q => es_lenM (i := 3) (p := pp) (xs := xs) rfl (S _ _ hpp2) (q _ _ (Same.refl _) (.int _)) T.len
    have eMin : (if (xs.length : Int) < (cnt : Int) then (xs.length : Int) else (cnt : Int)) = ((min xs.length cnt : Nat) : Int) := by split <;> omega
    refine ss_for (ms := pf :: pp :: ms) hX (pdi_rangeN (n := min xs.length cnt) (PD.cast (pd_min2 (i := (cnt : Int)) (pd_intI (pd_name (i := 2) rfl (.int _)) T.int) lenP' T.min) (by rw [eMin]; rfl)) (by omega) T.range) t2 fun H3 S3 => ?_
    refine ⟨fun i σ' H' => ∃ u5 pool found pg fg, σ' = [some (.ref t), some vg, some (.int (cnt : Int)), some (.ref pp), some (.ref pf), u5] ∧ H' pp = some (.lst pool) ∧ H' pf = some (.lst found) ∧ DpAll K (cut (pf :: pp :: ms) H') pool pg ∧ DpAll K (cut (pf :: pp :: ms) H') found fg ∧ (∀ e ∈ pg, e ∈ gs) ∧ (∀ e ∈ fg, e ∈ gs) ∧ pg.length + i = xs.length ∧ fg.length = i ∧ But t H H' ∧ Tin H' t (m + i) ∧ Trk (pf :: pp :: ms) H' ∧ Same (cut (pf :: pp :: ms) H3) (cut (pf :: pp :: ms) H'),
      ⟨none, xs, [], gs, [], rfl, S3 _ _ hpp2, S3 _ _ hf1, ?_, .nil, fun e he => he, (fun e he => by cases he), hxl.symm, rfl, But.of (S12.trans S3), T2.same S3, t2.up S3, Same.refl _⟩, fun i σ' H' ⟨_, _, _, _, _, _, _, _, _, _, _, _, _, _, _, _, h3, h4⟩ => ⟨h4, h3⟩, fun i d x σ' H4 H5 hi hP S5 hx => ?_, fun σ' H4 ⟨u5, pool, found, pg, fg, e, h1, h2, h3, h4, h5, h6, h7, h8, h9, h10, h11, h12⟩ => ?_⟩
    · refine dpall_mono (cut_same S3) (dpall_mono ?_ hx)
      refine Same.trans (same_more S2 hf0) (cut_sub fun x hx => ?_)
      exact hx
    · obtain ⟨u5, pool, found, pg, fg, rfl, h1, h2, h3, h4, h5, h6, h7, h8, h9, h10, h11, h12⟩ := hP
      obtain ⟨hin, rfl⟩ := intsD_get hi
      have t5 := h11.up S5
      refine (gd_name (i := 5) scLawPick.nd : GD _ (pf :: pp :: ms) _ _ _) x _ H5 _ hx fun us hus => ?_
      obtain ⟨b5, rfl, _⟩ := dpall1 hus
      have hpl : pool.length = pg.length := dpall_len h3
      have g1 : H5 pp = some (.lst pool) := S5 _ _ h1
      have g2 : H5 pf = some (.lst found) := S5 _ _ h2
      have hgp : 0 < pool.length := by omega
      refine ss_expr hX (es_app (i := 4) (p := pf) rfl g2 (ea1 (es_pop (i := 3) (p := pp) rfl g1 (ea1 (es_call FT hr (ea2 (es_name (i := 0) rfl (es_lenM (i := 3) (p := pp) rfl g1 ?_ T.len))))))))
      refine ⟨t, (pool.length : Int), m + i, rfl, by omega, by omega, by omega, h10.same S5, fun r H6 hr0 hr1 B6 T6 => ?_⟩
      have q1 : H6 pp = some (.lst pool) := B6 _ _ (Ne.symm tp) g1
      have q2 : H6 pf = some (.lst found) := B6 _ _ (Ne.symm tf) g2
      obtain ⟨j, rfl⟩ : ∃ j : Nat, r = (j : Int) := ⟨r.toNat, by omega⟩
      have hj : j < pool.length := by omega
      have hjg : pg[j]? = some (pg[j]'(by omega)) := List.getElem?_eq_getElem _
      obtain ⟨x6, hx6, hd6⟩ := dpall_get h3 hjg
      have C6 : Same (cut (pf :: pp :: ms) H4) (cut (pf :: pp :: ms) H6) := (cut_same S5).trans (B6.cut mt)
      have six : seqIndex? (j : Int) pool.length = some j := by
        rw [seqIndex_of (by omega) (by omega), Int.toNat_natCast]
      refine ⟨pp, pool, (j : Int), j, x6, rfl, rfl, q1, by omega, by omega, six, hx6, ?_⟩
      refine ⟨pf, found, x6, rfl, rfl, by rw [upd_ne hne.symm]; exact q2, ?_, ?_⟩
      · have : (2000 : Nat) ≤ sizeLine := by decide
        have := dpall_len h4
        omega
      · refine ss_nil ?_
        refine ⟨_, pool.eraseIdx j, found ++ [x6], pg.eraseIdx j, fg ++ [pg[j]'(by omega)], rfl, ?_, upd_same, ?_, ?_, fun e he => h5 e (mem_eraseIdx he), fun e he => ?_, ?_, by rw [List.length_append, h8]; rfl, ?_, ?_, ?_, ?_⟩
        · rw [upd_ne hne, upd_same]
        · rw [cut_mut mf, cut_mut mp]
          exact dpall_erase j (dpall_mono C6 h3)
        · rw [cut_mut mf, cut_mut mp]
          exact dpall_app (dpall_mono C6 h4) (.cons (dp_mono C6 hd6) .nil)
        · rcases List.mem_append.mp he with he | he
          · exact h6 e he
          · rw [List.mem_singleton.mp he]
            exact h5 _ (List.mem_of_getElem? hjg)
        · rw [List.length_eraseIdx, if_pos (by omega)]
          omega
        · intro b o hb e
          have hb1 : b ≠ pf := ne_of_none e hpn
          have hb2 : b ≠ pp := ne_of_none e hp0
          rw [upd_ne hb1, upd_ne hb2]
          exact B6 _ _ hb (S5 _ _ (h9 _ _ hb e))
        · have e : m + (i + 1) = m + i + 1 := by omega
          rw [e]
          exact (T6.chg tp).chg tf
        · exact ((B6.trk t5 T6).upd).upd
        · exact cut_chg (cut_chg (h12.trans C6) mp) mf
    · rw [e]
      rw [intsD_len] at h7 h8 h10
      have C : Same (cut (pf :: pp :: ms) H4) (cut (pf :: ms) H4) := cut_sub fun x hx => by
        rcases List.mem_cons.mp hx with rfl | hx
        · exact List.mem_cons_self
        · exact List.mem_cons_of_mem _ (List.mem_cons_of_mem _ hx)
      refine ss_ret hX (es_name (i := 4) rfl ?_)
      exact q pf found fg H4 h9 hpn h2 (dpall_mono C h4) h6 (by omega) (h10.up (by omega))
end
end SK
set_option maxHeartbeats 4000000
namespace SK
open PySem PySem.Spec PyProof.Rows L2 SKM
def pairD (p : Nat × Nat) : PyData := .tuple [natD p.1, natD p.2]
theorem keep_map {α : Type} (f : α → Bool) (g : α → PyData) : ∀ l : List α, keep (l.map f) (l.map g) = (l.filter f).map g
  | [] => rfl
  | x :: l => by
    have ih := keep_map f g l
    unfold keep at ih ⊢
    rw [List.map_cons, List.map_cons, List.zip_cons_cons, List.flatMap_cons, ih]
    cases h : f x with
    | true => rw [List.filter_cons_of_pos h]; simp
    | false => rw [List.filter_cons_of_neg (by rw [h]; exact Bool.false_ne_true)]; simp
section
variable {c : Ct} {ms : List Addr} {σ : L2.St} {H : Hp} {a b e : Expr} {pos : Pos}
theorem es_catM {Q : VK} (q : ES c a σ H fun v H1 => ES c b σ H1 fun u H2 => ∃ l r xs zs, v = .ref l ∧ u = .ref r ∧ H2 l = some (.lst xs) ∧ H2 r = some (.lst zs) ∧ xs.length + zs.length ≤ sizeLine ∧ ∀ p, H2 p = none → Q (.ref p) (upd H2 p (.lst (xs ++ zs)))) : ES c (.BinOp a .Add b pos) σ H Q :=
  ⟨tOp rCat (ES c a) (ES c b), fun X hX => pe_op op_cat (ES.any hX _) (ES.any hX _), q⟩
theorem ES.mono {Q Q' : VK} (h : ES c e σ H Q) (k : ∀ v H', Q v H' → Q' v H') : ES c e σ H Q' := by
  obtain ⟨t, ht, q⟩ := h
  exact ⟨fun σ H Q' => ∃ Q, t σ H Q ∧ ∀ v H', Q v H' → Q' v H', fun X hX => ⟨fun pins s σ H Q' I ⟨Q, q, k⟩ => thn ((ht X hX).run pins s σ H Q I q) fun u s' ⟨v, H', I', r, q'⟩ => ⟨v, H', I', r, k _ _ q'⟩⟩, Q, q, k⟩
theorem eb_eqM {Q : Bool → Hp → Prop} (q : ES c a σ H fun v H1 => ES c b σ H1 fun u H2 => ∃ i j : Int, v = .int i ∧ u = .int j ∧ ∃ k, V.bl (decide (i = j)) = V.bl k ∧ Q k H2) : EB c (.Compare a [.Eq] [b] pos) σ H Q :=
  ⟨tTest (tOp (fun x y H Q => ∃ i j : Int, x = .int i ∧ y = .int j ∧ Q (.bl (decide (i = j))) H) (ES c a) (ES c b)), fun X hX => pt_cmpR (fun pins s σ H x y v u Q I rx ry ⟨i, j, e1, e2, q⟩ => by
    subst e1
    subst e2
    refine op_eq pins s σ H _ _ v u Q I rx ry ⟨rfl, ?_⟩
    have e : decide (V.int i = V.int j) = decide (i = j) := decide_eq_decide.mpr ⟨fun z => V.int.inj z, fun z => by rw [z]⟩
    rw [e]
    exact q) (ES.any hX a) (ES.any hX b) (nomark b), q⟩
theorem dpall_pairs {K : PySem.W.Frag} {H : Hp} : ∀ {ps : List (Nat × Nat)} {xs : List V}, DpAll K H xs (ps.map pairD) → ∃ ks : List (Addr × List Int), xs = ks.map (fun p => V.ref p.1) ∧ ks.map (·.2) = ps.map (fun p => [(p.1 : Int), (p.2 : Int)]) ∧ ∀ p ∈ ks, SqT K H p.1 (p.2.map V.int)
  | [], xs, h => ⟨[], by rw [dpall0 h]; rfl, rfl, fun p hp => by cases hp⟩
  | p :: ps, _, h => by
    obtain ⟨v, r, rfl, h1, h2⟩ := dpall_uncons h
    obtain ⟨a, ys, rfl, hs, hy⟩ := dp_tup h1
    obtain ⟨y1, y2, rfl, g1, g2⟩ := dpall2 hy
    obtain rfl := dp_int g1
    obtain rfl := dp_int g2
    obtain ⟨ks, e1, e2, e3⟩ := dpall_pairs h2
    refine ⟨(a, [(p.1 : Int), (p.2 : Int)]) :: ks, by rw [e1]; rfl, by rw [List.map_cons, List.map_cons, e2], fun q hq => ?_⟩
    rcases List.mem_cons.mp hq with rfl | hq
    · exact hs
    · exact e3 q hq
theorem pairs_dpall {K : PySem.W.Frag} {H : Hp} : ∀ (L : List (Addr × List Int)), (∀ p ∈ L, SqT K H p.1 (p.2.map V.int) ∧ ∃ q : Nat × Nat, p.2 = [(q.1 : Int), (q.2 : Int)]) → ∃ qs : List (Nat × Nat), DpAll K H (L.map fun p => V.ref p.1) (qs.map pairD) ∧ L.map (·.2) = qs.map (fun p => [(p.1 : Int), (p.2 : Int)])
  | [], _ => ⟨[], .nil, rfl⟩
  | p :: L, h => by
    obtain ⟨h1, q, h2⟩ := h p List.mem_cons_self
    obtain ⟨qs, e1, e2⟩ := pairs_dpall L fun x hx => h x (List.mem_cons_of_mem _ hx)
    refine ⟨q :: qs, .cons ?_ e1, by rw [List.map_cons, List.map_cons, e2, h2]⟩
    rw [h2] at h1
    exact .tup h1 (.cons (.int _) (.cons (.int _) .nil))
/-- sorted(set(pairs)) -/
theorem es_sortSet {p1 p2 q1 : Pos} {Q : VK} (hu : c.A.units + 64 < cLine) (h : ES c e σ H fun v H2 => ∃ (l : Addr) (xs : List V) (ps : List (Nat × Nat)), v = .ref l ∧ H2 l = some (.lst xs) ∧ DpAll c.K (cut ms H2) xs (ps.map pairD) ∧ ps.length < 64 ∧ (∀ p ∈ ps, p.1 < 64 ∧ p.2 < 64) ∧ Trk ms H2 ∧
      ∀ (p : Addr) (ys : List V) (qs : List (Nat × Nat)) (H' : Hp), Same H2 H' → H2 p = none → H' p = some (.lst ys) → DpAll c.K (cut (p :: ms) H') ys (qs.map pairD) → (∀ q ∈ qs, q ∈ ps) → qs.length ≤ ps.length → Q (.ref p) H')
    (hm : c.mg "sorted" = none) (hm2 : c.mg "set" = none) (hg : GlC c "sorted" := by rfl) (hg2 : GlC c "set" := by rfl) (ns : NSt e := by intro _ _; rfl) : ES c (.Call (.Name "sorted" p1) [.Call (.Name "set" p2) [e] [] q1] [] pos) σ H Q := by
  refine ⟨tCB (rSortedT c.K c.P c.w) (tCons (tCB (rSetOfT c.K c.P c.w) (tCons (ES c e) tNil)) tNil), fun X hX => hX.P ▸ hX.w ▸ hX.K ▸ pe_callB (cr_sortedT hX.calm) (hg.of hX) (by rw [hX.mg]; exact hm) (by decide +kernel) (pa_cons (pe_callTy (cr_setOfT hX.calm (by rw [hX.A]; exact hu)) (hg2.of hX) (by rw [hX.mg]; exact hm2) (by decide +kernel) (pa_cons (ES.any hX _) pa_nil (ns X [])) (by decide) (by decide) (ns X []) (by rfl)) pa_nil (by rfl)) (by decide) (by decide) (by rfl) (by rfl), ?_⟩
  refine h.mono fun v H2 ⟨l, xs, ps, ev, hl, hx, h64, hps, tr, q⟩ => ?_
  subst ev
  obtain ⟨ks, rfl, eks, hks⟩ := dpall_pairs hx
  have hkl : ks.length = ps.length := by
    have := congrArg List.length eks
    rwa [List.length_map, List.length_map] at this
  have kmem : ∀ p ∈ ks, ∃ q ∈ ps, p.2 = [(q.1 : Int), (q.2 : Int)] := fun p hp => by
    have h1 : p.2 ∈ ks.map (·.2) := List.mem_map.mpr ⟨p, hp, rfl⟩
    rw [eks] at h1
    obtain ⟨q, hq, e⟩ := List.mem_map.mp h1
    exact ⟨q, hq, e.symm⟩
  refine ⟨l, ks, rfl, .inl (.inl hl), fun p hp => sqt_mono cut_le (hks p hp), by omega, fun a L ha hL1 hL2 => ?_⟩
  refine ⟨a, L, 2, 64, rfl, upd_same, fun p hp => sqt_mono (cut_le.trans (same_new ha)) (hks p (hL1 p hp)), by decide, fun p hp => ?_, fun L' p hperm hnd hlen _ hp => ?_⟩
  · obtain ⟨q, hq, e⟩ := kmem p (hL1 p hp)
    obtain ⟨b1, b2⟩ := hps q hq
    rw [e]
    refine ⟨rfl, fun m hm => ?_⟩
    simp only [List.mem_cons, List.not_mem_nil, or_false] at hm
    rcases hm with rfl | rfl
    · exact ⟨by omega, by omega⟩
    · exact ⟨by omega, by omega⟩
  · have hL' : ∀ x ∈ L', x ∈ ks := fun x hx => hL1 x (hperm.mem_iff.mp hx)
    have S2 : Same H2 (upd (upd H2 a (SetTO c.P c.w a L)) p (.lst (L'.map fun q => V.ref q.1))) := (same_new ha).trans (same_new hp)
    have hnp : H2 p = none := (same_new ha).free hp
    obtain ⟨qs, e1, e2⟩ := pairs_dpall (K := c.K) (H := cut (p :: ms) (upd (upd H2 a (SetTO c.P c.w a L)) p (.lst (L'.map fun q => V.ref q.1)))) L' fun x hx => by
      obtain ⟨q, _, e⟩ := kmem x (hL' x hx)
      exact ⟨sqt_mono (same_more S2 hnp) (hks x (hL' x hx)), q, e⟩
    have inj : ∀ {q q' : Nat × Nat}, [(q.1 : Int), (q.2 : Int)] = [(q'.1 : Int), (q'.2 : Int)] → q = q' := fun {q q'} h => by
      injection h with h1 h2
      injection h2 with h2 _
      exact Prod.ext (Int.ofNat.inj h1) (Int.ofNat.inj h2)
    have qmem : ∀ q ∈ qs, q ∈ ps := fun q hq => by
      have h1 : [(q.1 : Int), (q.2 : Int)] ∈ qs.map (fun p => [(p.1 : Int), (p.2 : Int)]) := List.mem_map.mpr ⟨q, hq, rfl⟩
      rw [← e2] at h1
      obtain ⟨x, hx, e⟩ := List.mem_map.mp h1
      obtain ⟨q', hq', e'⟩ := kmem x (hL' x hx)
      rw [e'] at e
      rw [← inj e]
      exact hq'
    refine q p _ qs _ S2 hnp upd_same e1 qmem ?_
    have nd : qs.Nodup := by
      rw [e2] at hnd
      exact List.Pairwise.of_map (fun p : Nat × Nat => [(p.1 : Int), (p.2 : Int)]) (fun a b h e => h (by rw [e])) hnd
    have key : ∀ (l m : List (Nat × Nat)), l.Nodup → (∀ x ∈ l, x ∈ m) → l.length ≤ m.length := by
      intro l
      induction l with
      | nil => intro m _ _; exact Nat.zero_le _
      | cons x l ih =>
        intro m hn hs
        have hc := List.nodup_cons.mp hn
        have hx := hs x List.mem_cons_self
        have := ih (m.erase x) hc.2 fun y hy => by
          have hne : y ≠ x := fun e => hc.1 (e ▸ hy)
          exact (List.mem_erase_of_ne hne).mpr (hs y (List.mem_cons_of_mem _ hy))
        rw [List.length_erase_of_mem hx] at this
        have := List.length_pos_of_mem hx
        rw [List.length_cons]
        omega
    exact key _ _ nd qmem
end
end SK
set_option maxHeartbeats 4000000
namespace SK
open PySem PySem.Spec PyProof.Rows L2 SKM
section
variable {P : Program} {w : World} {K : PySem.W.Frag} {mg : Str → Option Value} {base : Heap}
structure PlanOk (n : Nat) (ws : List Way) : Prop where
  n3 : 3 ≤ n
  n5 : n ≤ 5
  ok : WsOk ws n
  w7 : ws.length ≤ 7
  m60 : many ws ≤ 60
  hi : ∀ w ∈ ws, w.hi ≤ 1000
def spPlan (K : PySem.W.Frag) : Sp := fun vs H Q _ => ∃ (ms : List Addr) (t : Addr) (m : Nat), vs = [.ref t, .int 60] ∧ Trk ms H ∧ t ∈ ms ∧ m ≤ 1000 ∧ Tin H t m ∧
  ∀ (n : Nat) (ws : List Way) (v : V) (H' : Hp), But t H H' → Tin H' t (m + 100) → Dp K (cut ms H') v (landD n ws) → PlanOk n ws → Q v H'
theorem wsOk_sub {n : Nat} {ws wl : List Way} (O : WsOk ws n) (h : ∀ x ∈ wl, x ∈ ws) : WsOk wl n := ⟨fun w hw => O.near w (h w hw), fun w hw => O.far w (h w hw), fun w hw => O.lo w (h w hw), fun w hw => O.hi w (h w hw)⟩
theorem fn_law_plan {f : Addr} {fd : FuncData} {k : Nat} (a : At K mg "_law_plan" sLawPlan f fd ["_law_tin", "_law_most_so"]) (T : Mg mg) (FT : Fn1 P w K mg base CX0 k "_law_take" ["_law_tin", "_law_below_so"] spTake) (FP : Fn1 P w K mg base CX0 k "_law_pick" ["_law_tin", "_law_goods_so", "_law_count_so"] (spPick K)) : Fn1 P w K mg base CX0 (k + 1) "_law_plan" ["_law_tin", "_law_most_so"] (spPlan K) :=
  a.fn scLawPlan (fun vs H Q E h => by obtain ⟨_, _, _, rfl, _⟩ := h; rfl) fun A X H vs Q E hX hr h => by
    obtain ⟨ms, t, m, rfl, tr, htm, hm, hT, q⟩ := h
    -- the number of places
    refine ss_set 2 hX (es_add (es_int (es_call FT hr (ea2 (es_name (i := 0) rfl (es_int ⟨t, 3, m, rfl, by decide, by decide, by omega, hT, fun r H1 hr0 hr1 B1 T1 => ⟨3, r, rfl, rfl, ?_⟩⟩))))))
    obtain ⟨n, hn, hn3, hn5⟩ : ∃ n : Nat, 3 + r = (n : Int) ∧ 3 ≤ n ∧ n ≤ 5 := ⟨(3 + r).toNat, by omega, by omega, by omega⟩
    rw [hn]
    have tr1 := B1.trk tr T1
    -- all pairs
    refine ss_set 3 hX (PL.go (ms := ms) (pl_lst pad_nil (by decide)) tr1 fun p2 xs2 H2 S2 hn2 hp2 hx2 => ?_)
    obtain rfl := dpall0 hx2
    have sz : ∀ {ms' : List Addr} {H' : Hp} {σ' : L2.St} {p}, σ'[2]? = some (some (.int (n : Int))) → PD (ctOf P w K mg base nLawPlan sLawPlan A) ms' σ' H' (.Name "_law_size" p) (natD n) := fun h => pd_name (i := 2) h (.int _)
    refine ss_for (ms := ms) hX (pdi_rangeN (sz rfl) (by omega) T.range) (tr1.up S2) fun H3 S3 => ?_
    refine ⟨fun i σ' H' => ∃ u4 u5 u6 u7 u8 u9 u10 u11 u12 pl ys ps, σ' = [some (.ref t), some (.int 60), some (.int (n : Int)), some (.ref pl), u4, u5, u6, u7, u8, u9, u10, u11, u12] ∧ H' pl = some (.lst ys) ∧ pl ∉ ms ∧ DpAll K (cut ms H') ys ((ps : List (Nat × Nat)).map pairD) ∧ ps.length ≤ 5 * i ∧ (∀ p ∈ ps, p.1 < n ∧ p.2 < n) ∧ Same H3 H',
      ⟨none, none, none, none, none, none, none, none, none, p2, [], [], rfl, S3 _ _ hp2, tr1.new hn2, .nil, Nat.zero_le _, (fun p hp => by cases hp), Same.refl _⟩, fun i σ' H' ⟨_, _, _, _, _, _, _, _, _, _, _, _, _, _, _, _, _, _, S⟩ => ⟨cut_same S, ((tr1.up S2).up S3).up S⟩, fun i d x σ' H4 H5 hi hP S5 hx => ?_, fun σ' H4 ⟨u4, u5, u6, u7, u8, u9, u10, u11, u12, pl, ys, ps, e, h1, h2, h3, h4, h5, S4⟩ => ?_⟩
    · obtain ⟨u4, u5, u6, u7, u8, u9, u10, u11, u12, pl, ys, ps, rfl, h1, h2, h3, h4, h5, S4⟩ := hP
      obtain ⟨hin, rfl⟩ := intsD_get hi
      rw [Int.zero_add] at hx
      refine (gd_name (i := 4) scLawPlan.nd : GD _ ms _ (natD i) _) x _ H5 _ hx fun us hus => ?_
      obtain ⟨b4, rfl, e4⟩ := dpall1 hus
      have t5 := ((tr1.up S2).up S3).up (S4.trans S5)
      have hkl : ((List.range n).filter fun m : Nat => !decide ((m : Int) = (i : Int))).length ≤ 5 := Nat.le_trans (List.length_filter_le _ _) (by rw [List.length_range]; omega)
      refine ss_set 3 hX (PL.go (ms := ms) (pl_cat (ds := ps.map pairD) (es' := (((List.range n).filter fun m : Nat => !decide ((m : Int) = (i : Int))).map fun m => (i, m)).map pairD) ?_ (pt_name (i := 3) rfl (S5 _ _ h1) (dpall_mono (cut_same S5) h3)) (PL.cast (pl_of (lc_flt (own := [("_law_m", 5)]) (ks := (List.range n).map fun m : Nat => !decide ((m : Int) = (i : Int))) (es := (List.range n).map fun m => pairD (i, m)) (bf := fun m => [(5, natD m)]) scLawPlan.nd (by show blkC nLawPlan (defScope sLawPlan) _ _ = true; decide +kernel)
        (pdi_rangeN (sz rfl) (by omega) T.range) ?_ ?_ ?_ ?_ ?_ ?_ ?_)) (by rw [keep_map, List.map_map]; rfl)).pt) t5 fun p9 zs H9 S9 hn9 hp9 hz9 => ?_)
      · rw [List.length_map, List.length_map, List.length_map]
        have : (1000 : Nat) ≤ sizeLine := by decide
        omega
      · rw [List.length_map, List.length_range, intsD_len]
      · rw [List.length_map, List.length_range, intsD_len]
      · rw [intsD_len]
        have : (1000 : Nat) ≤ sizeLine := by decide
        omega
      · intro m d ms' hd
        obtain ⟨_, rfl⟩ := intsD_get hd
        rw [Int.zero_add]
        exact gd_name scLawPlan.nd
      · intro m pp hpp
        rw [List.mem_singleton.mp hpp]
        exact List.mem_singleton.mpr rfl
      · intro m d kk vs ms' H1 hd hk1 S Sc hvs
        obtain ⟨hm1, rfl⟩ := intsD_get hd
        rw [List.getElem?_map, List.getElem?_range hm1] at hk1
        rw [← (show (!decide ((m : Int) = (i : Int))) = kk from Option.some.inj hk1)]
        obtain ⟨b5, rfl, g5⟩ := dpall1 hvs
        exact pb_neI (pd_name (i := 5) rfl g5) (pd_name (i := 4) rfl (dp_mono Sc e4))
      · intro m d e vs ms' H1 hd he hk1 S Sc hvs
        obtain ⟨hm1, rfl⟩ := intsD_get hd
        rw [List.getElem?_map, List.getElem?_range hm1] at he
        rw [← (show pairD (i, m) = e from Option.some.inj he)]
        obtain ⟨b5, rfl, g5⟩ := dpall1 hvs
        exact pd_tup (pad_cons (pd_name (i := 4) rfl (dp_mono Sc e4)) (pad_cons (pd_name (i := 5) rfl g5) pad_nil)) (by show 2 ≤ sizeLine; decide)
      · refine ss_nil ?_
        rw [← List.map_append] at hz9
        refine ⟨_, _, _, _, _, _, _, _, _, p9, zs, _, rfl, hp9, t5.new hn9, dpall_mono (cut_sub (ms := p9 :: ms) fun m hm => List.mem_cons_of_mem _ hm) hz9, ?_, fun y hy => ?_, S4.trans (S5.trans S9)⟩
        · rw [List.length_append, List.length_map]
          omega
        · rcases List.mem_append.mp hy with hy | hy
          · exact h5 y hy
          · obtain ⟨m1, hm1, rfl⟩ := List.mem_map.mp hy
            exact ⟨hin, List.mem_range.mp (List.mem_filter.mp hm1).1⟩
    · rw [e]
      rw [intsD_len] at h4
      have tr4 := ((tr1.up S2).up S3).up S4
      have T4 := T1.same (S2.trans (S3.trans S4))
      -- the first ones, the number of all SPREADS
      refine ss_par 6 7 hX (ea2 (PL.go (ms := ms) (es := ((List.range (n - 1)).map fun k => (k, k + 1)).map pairD) (pl_of (lc_map (own := [("_law_k", 4)]) (bf := fun m => [(4, natD m)]) scLawPlan.nd (by show blkC nLawPlan (defScope sLawPlan) _ _ = true; decide +kernel)
        (pdi_rangeN (n := n - 1) (PD.cast (pd_sub (sz rfl) pd_int) (by show PyData.int ((n : Int) - 1) = natD (n - 1); unfold natD; congr 1; omega)) (by omega) T.range) ?_ ?_ ?_ ?_ ?_)) tr4 fun p6 xs6 H6 S6 hn6 hp6 hx6 => PD.go (ms := p6 :: ms) pd_int ((tr4.up S6).more hp6) fun v7 H7 S7 hv7 => ⟨_, _, rfl, ?_⟩))
      · rw [List.length_map, List.length_map, List.length_range, intsD_len]
      · rw [intsD_len]
        have : (1000 : Nat) ≤ sizeLine := by decide
        omega
      · intro m d ms' hd
        obtain ⟨_, rfl⟩ := intsD_get hd
        rw [Int.zero_add]
        exact gd_name scLawPlan.nd
      · intro m pp hpp
        rw [List.mem_singleton.mp hpp]
        exact List.mem_singleton.mpr rfl
      · intro m d e vs ms' H1 hd he S Sc hvs
        obtain ⟨hm1, rfl⟩ := intsD_get hd
        rw [List.map_map, List.getElem?_map, List.getElem?_range hm1] at he
        rw [← (show pairD (m, m + 1) = e from Option.some.inj he)]
        obtain ⟨b5, rfl, g5⟩ := dpall1 hvs
        refine pd_tup (pad_cons ?_ (pad_cons ?_ pad_nil)) (by show 2 ≤ sizeLine; decide)
        · exact pd_name (i := 4) rfl g5
        · refine PD.cast (pd_add (pd_name (i := 4) rfl g5) pd_int) ?_
          rfl
      · obtain rfl := dp_int hv7
        have tr7 := (tr4.up S6).up S7
        have T7 := T4.same (S6.trans S7)
        have hp7 : H7 p6 = some (.lst xs6) := S7 _ _ hp6
        have hx7 := dpall_mono (cut_same (ms := p6 :: ms) S7) hx6
        have B7 : But t H H7 := B1.trans (But.of (S2.trans (S3.trans (S4.trans (S6.trans S7)))))
        have h1' : H7 pl = some (.lst ys) := S7 _ _ (S6 _ _ h1)
        have h3' : DpAll K (cut ms H7) ys (ps.map pairD) := dpall_mono (cut_same (S6.trans S7)) h3
        have hgl : (ps.map pairD).length ≤ 1000 := by rw [List.length_map]; omega
        have ne6 : t ≠ p6 := T4.ne hn6
        have big : (1000 : Nat) ≤ sizeLine := by decide
        -- the ways' places
        refine ss_set 6 hX (es_sortSet (ms := ms) (show A.units + 64 < cLine from hr.units) (es_catM (es_name (i := 6) rfl (es_call FP hr (ea3 (es_name (i := 0) rfl (es_name (i := 3) rfl (es_add (es_int (es_call FT hr (ea2 (es_name (i := 0) rfl (es_int ⟨t, 3, m + 1, rfl, by decide, by decide, by omega, T7, fun r2 H8 r20 r21 B8 T8 => ⟨1, r2, rfl, rfl, ?_⟩⟩)))))))))))) T.sorted T.set)
        obtain ⟨cnt, hcnt, hc3⟩ : ∃ cnt : Nat, 1 + r2 = (cnt : Int) ∧ cnt ≤ 3 := ⟨(1 + r2).toNat, by omega, by omega⟩
        rw [hcnt]
        have tr8 := B8.trk tr7 T8
        have hp8 : H8 p6 = some (.lst xs6) := B8 _ _ (Ne.symm ne6) hp7
        have nepl : pl ≠ t := fun z => h2 (z ▸ htm)
        have h1'' : H8 pl = some (.lst ys) := B8 _ _ nepl h1'
        have hg8 : Dp K (cut ms H8) (.ref pl) (.list (ps.map pairD)) := .lst (.inl (.inl (cut_of h2 h1''))) (dpall_mono (B8.cut htm) h3')
        refine ⟨ms, t, .ref pl, ps.map pairD, cnt, m + 1 + 1, rfl, tr8, htm, hg8, hgl, by omega, by omega, T8, fun p9 xs9 es9 H9 B9 hn9 hp9 hx9 hmem9 hl9 T9 => ?_⟩
        have hp69 : H9 p6 = some (.lst xs6) := B9 _ _ (Ne.symm ne6) hp8
        obtain ⟨qs9, hqs9, hqm⟩ : ∃ qs : List (Nat × Nat), es9 = qs.map pairD ∧ ∀ q ∈ qs, q ∈ ps := by
          clear hl9 hx9
          induction es9 with
          | nil => exact ⟨[], rfl, fun q hq => by cases hq⟩
          | cons e es ih =>
            obtain ⟨qs, e1, e2⟩ := ih fun x hx => hmem9 x (List.mem_cons_of_mem _ hx)
            obtain ⟨q0, hq0, e3⟩ := List.mem_map.mp (hmem9 e List.mem_cons_self)
            refine ⟨q0 :: qs, by rw [List.map_cons, e1, e3], fun y hy => ?_⟩
            rcases List.mem_cons.mp hy with rfl | hy
            · exact hq0
            · exact e2 y hy
        have hl69 : xs6.length = n - 1 := by rw [dpall_len hx6, List.length_map, List.length_map, List.length_range]
        have hl99 : xs9.length ≤ 3 := by rw [dpall_len hx9]; omega
        have B79 : But t H7 H9 := B8.trans B9
        have tr9 := B9.trk tr8 T9
        refine ⟨p6, p9, xs6, xs9, rfl, rfl, hp69, hp9, by omega, fun pc hpc => ?_⟩
        have S9c := same_new (H := H9) (o := HO.lst (xs6 ++ xs9)) hpc
        have hx6c : DpAll K (cut ms (upd H9 pc (.lst (xs6 ++ xs9)))) xs6 (((List.range (n - 1)).map fun k => (k, k + 1)).map pairD) := by
          refine dpall_mono (cut_same S9c) (dpall_mono (B79.cut htm) (dpall_mono (cut_sub (ms := p6 :: ms) fun x hx => List.mem_cons_of_mem _ hx) hx7))
        have hx9c : DpAll K (cut ms (upd H9 pc (.lst (xs6 ++ xs9)))) xs9 (qs9.map pairD) := by
          rw [← hqs9]
          exact dpall_mono (cut_same S9c) (dpall_mono (cut_sub (ms := p9 :: ms) fun x hx => List.mem_cons_of_mem _ hx) hx9)
        have hql : qs9.length ≤ 3 := by
          have := congrArg List.length hqs9
          rw [List.length_map] at this
          omega
        refine ⟨pc, xs6 ++ xs9, (List.range (n - 1)).map (fun k => (k, k + 1)) ++ qs9, rfl, upd_same, by rw [List.map_append]; exact dpall_app hx6c hx9c, ?_, fun y hy => ?_, tr9.up S9c, fun pf yf qs H10 S10 hn10 hp10 hy10 hq10 hql10 => ?_⟩
        · rw [List.length_append, List.length_map, List.length_range]
          omega
        · rcases List.mem_append.mp hy with hy | hy
          · obtain ⟨k1, hk1, rfl⟩ := List.mem_map.mp hy
            have := List.mem_range.mp hk1
            exact ⟨show k1 < 64 by omega, show k1 + 1 < 64 by omega⟩
          · obtain ⟨g1, g2⟩ := h5 y (hqm y hy)
            exact ⟨by omega, by omega⟩
        · have hqlt : ∀ y ∈ qs, y.1 < n ∧ y.2 < n := fun y hy => by
            rcases List.mem_append.mp (hq10 y hy) with hy | hy
            · obtain ⟨k1, hk1, rfl⟩ := List.mem_map.mp hy
              have := List.mem_range.mp hk1
              exact ⟨show k1 < n by omega, show k1 + 1 < n by omega⟩
            · exact h5 y (hqm y hy)
          have hq7 : qs.length ≤ 7 := by
            rw [List.length_append, List.length_map, List.length_range] at hql10
            omega
          have B10 : But t H H10 := B7.trans (B79.trans (But.of (S9c.trans S10)))
          have T10 : Tin H10 t (m + 10) := (T9.same (S9c.trans S10)).up (by omega)
          have tr10 := (tr9.up S9c).up S10
          have df : Dp K (cut ms H10) (.ref pf) (.list (qs.map pairD)) := dp_fresh (tr9.up S9c) hn10 hp10 hy10
          refine ss_set 8 hX (PL.go (ms := ms) (pl_lst pad_nil (by decide)) tr10 fun pw xw H11 S11 hn11 hp11 hx11 => ?_)
          obtain rfl := dpall0 hx11
          have mw : pw ∈ pw :: ms := List.mem_cons_self
          have mt : t ∈ pw :: ms := List.mem_cons_of_mem _ htm
          have tr11 : Trk (pw :: ms) H11 := (tr10.up S11).more hp11
          have T11 := T10.same S11
          have hwn : H pw = none := by
            cases e2 : H pw with
            | none => rfl
            | some o =>
              by_cases hb : pw = t
              · obtain ⟨o2, e3⟩ := T10.some
                rw [hb, e3] at hn11
                cases hn11
              · rw [B10 _ _ hb e2] at hn11
                cases hn11
          have net : t ≠ pw := T10.ne hn11
          have df11 : Dp K (cut (pw :: ms) H11) (.ref pf) (.list (qs.map pairD)) := dp_mono (same_more S11 hn11) df
          refine ss_for (ms := pw :: ms) hX (pdi_list (pd_name (i := 6) rfl df11)) tr11 fun H12 S12 => ?_
          refine ⟨fun i σ' H' => ∃ u4 u5 u9 u10 u11 u12 xs wl, σ' = [some (.ref t), some (.int 60), some (.int (n : Int)), some (.ref pl), u4, u5, some (.ref pf), some (.int ((many wl : Nat) : Int)), some (.ref pw), u9, u10, u11, u12] ∧ H' pw = some (.lst xs) ∧ DpAll K (cut (pw :: ms) H') xs (wl.map wayD) ∧ wl.length = i ∧ WsOk wl n ∧ many wl ≤ 60 ∧ (∀ x ∈ wl, x.hi ≤ 1000) ∧ But t H H' ∧ Tin H' t (m + 10 + 2 * i) ∧ Trk (pw :: ms) H' ∧ Same (cut (pw :: ms) H12) (cut (pw :: ms) H'),
            ⟨_, _, _, _, _, _, [], [], rfl, S12 _ _ hp11, .nil, rfl, ⟨(fun x hx => by cases hx), (fun x hx => by cases hx), (fun x hx => by cases hx), fun x hx => by cases hx⟩, by decide, (fun x hx => by cases hx), B10.trans (But.of (S11.trans S12)), T11.same S12, tr11.up S12, Same.refl _⟩, fun i σ' H' ⟨_, _, _, _, _, _, _, _, _, _, _, _, _, _, _, _, _, a, b⟩ => ⟨b, a⟩, fun i d x σ' H13 H14 hi hP S14 hx => ?_, fun σ' H13 ⟨u4, u5, u9, u10, u11, u12, xs, wl, e, g1, g2, g3, g4, g5, g6, g7, g8, g9, g10⟩ => ?_⟩
          · obtain ⟨u4, u5, u9, u10, u11, u12, xs, wl, rfl, g1, g2, g3, g4, g5, g6, g7, g8, g9, g10⟩ := hP
            have hi7 : i < 7 := by
              have := (List.getElem?_eq_some_iff.mp hi).1
              rw [List.length_map] at this
              omega
            rw [List.getElem?_map] at hi
            obtain ⟨y, hy, rfl⟩ := Option.map_eq_some_iff.mp hi
            obtain ⟨hy1, hy2⟩ := hqlt y (List.mem_of_getElem? hy)
            refine (gd_tup (gds_cons (gd_name (i := 9) scLawPlan.nd) (gds_cons (gd_name (i := 10) scLawPlan.nd) gds_nil)) rfl : GD _ (pw :: ms) _ (pairD y) _) x _ H14 _ hx fun us hus => ?_
            obtain ⟨b9, b10, rfl, e9, e10⟩ := dpall2 hus
            have t14 := g9.up S14
            refine ss_par 11 12 hX (ea2 (es_add (es_int (es_call FT hr (ea2 (es_name (i := 0) rfl (es_int ⟨t, 5, m + 10 + 2 * i, rfl, by decide, by decide, by omega, g8.same S14, fun r5 H15 r50 r51 B15 T15 => ⟨1, r5, rfl, rfl, es_call FT hr (ea2 (es_name (i := 0) rfl (es_int ⟨t, 4, m + 10 + 2 * i + 1, rfl, by decide, by decide, by omega, T15, fun r6 H16 r60 r61 B16 T16 => ⟨_, _, rfl, ?_⟩⟩)))⟩⟩)))))))
            have BB : But t H14 H16 := B15.trans B16
            have t16 := BB.trk t14 T16
            have C16 : Same (cut (pw :: ms) H14) (cut (pw :: ms) H16) := BB.cut mt
            have g1' : H16 pw = some (.lst xs) := BB _ _ (Ne.symm net) (S14 _ _ g1)
            obtain ⟨w2, hw2, hw3⟩ : ∃ w2 : Nat, (if ((many wl : Nat) : Int) * (r6 + 1) ≤ 60 then r6 else 0) = (w2 : Int) ∧ w2 ≤ 3 ∧ many wl * (w2 + 1) ≤ 60 := by
              by_cases hc : ((many wl : Nat) : Int) * (r6 + 1) ≤ 60
              · refine ⟨r6.toNat, by rw [if_pos hc]; omega, by omega, ?_⟩
                have e : ((many wl * (r6.toNat + 1) : Nat) : Int) = ((many wl : Nat) : Int) * (r6 + 1) := by
                  rw [Int.natCast_mul]
                  congr 1
                  omega
                omega
              · exact ⟨0, by rw [if_neg hc]; rfl, by omega, by omega⟩
            refine ss_set 12 hX (PD.go (ms := pw :: ms) (d := .int (w2 : Int)) (pd_if (k := decide (((many wl : Nat) : Int) * (r6 + 1) ≤ 60)) (pb_le (pd_mul (.inr ⟨by omega, by omega⟩) (pd_name (i := 7) rfl (.int _)) (pd_add (pd_name (i := 12) rfl (.int _)) pd_int)) (pd_name (i := 1) rfl (.int _))) (fun hk => ?_) fun hk => ?_) t16 fun v17 H17 S17 hv17 => ?_)
            · rw [← hw2, if_pos (of_decide_eq_true hk)]
              exact pd_name (i := 12) rfl (.int _)
            · rw [← hw2, if_neg (of_decide_eq_false hk)]
              exact pd_int
            · obtain rfl := dp_int hv17
              refine ss_set 7 hX (PD.go (ms := pw :: ms) (pd_mul (.inr ⟨by omega, by omega⟩) (pd_name (i := 7) rfl (.int _)) (pd_add (pd_name (i := 12) rfl (.int _)) pd_int)) (t16.up S17) fun v18 H18 S18 hv18 => ?_)
              obtain rfl := dp_int hv18
              obtain ⟨lo, hlo, hlo1, hlo2⟩ : ∃ lo : Int, 1 + r5 = lo ∧ 1 ≤ lo ∧ lo ≤ 5 := ⟨1 + r5, rfl, by omega, by omega⟩
              rw [hlo]
              have g1'' : H18 pw = some (.lst xs) := S18 _ _ (S17 _ _ g1')
              have C18 : Same (cut (pw :: ms) H14) (cut (pw :: ms) H18) := C16.trans (cut_same (S17.trans S18))
              have BB18 : But t H14 H18 := BB.trans (But.of (S17.trans S18))
              refine ss_expr hX (es_app1 (ms := pw :: ms) (i := 8) (p := pw) (xs := xs) (d := wayD ⟨y.1, y.2, lo, lo + (w2 : Int)⟩) ((t16.up S17).up S18) rfl g1'' ?_ (pd_tup (pad_cons (pd_name (i := 9) rfl (dp_mono C18 e9)) (pad_cons (pd_name (i := 10) rfl (dp_mono C18 e10)) (pad_cons (pd_name (i := 11) rfl (.int _)) (pad_cons (pd_add (pd_name (i := 11) rfl (.int _)) (pd_name (i := 12) rfl (.int _))) pad_nil)))) (by show 4 ≤ sizeLine; decide)) fun v19 H19 S19 hv19 => ?_)
              · rw [dpall_len g2, List.length_map]
                omega
              · refine ss_nil ?_
                have em : many (wl ++ [⟨y.1, y.2, lo, lo + (w2 : Int)⟩]) = many wl * (w2 + 1) := by
                  rw [many_snoc]
                  congr 1
                  show (lo + (w2 : Int) + 1 - lo).toNat = w2 + 1
                  omega
                have ei : ((many wl : Nat) : Int) * ((w2 : Int) + 1) = ((many (wl ++ [⟨y.1, y.2, lo, lo + (w2 : Int)⟩]) : Nat) : Int) := by
                  rw [em, Int.natCast_mul]
                  rfl
                rw [ei]
                refine ⟨u4, u5, _, _, _, _, _, wl ++ [⟨y.1, y.2, lo, lo + (w2 : Int)⟩], rfl, upd_same, ?_, by rw [List.length_append, g3]; rfl, ⟨fun z hz => ?_, fun z hz => ?_, fun z hz => ?_, fun z hz => ?_⟩, by rw [em]; exact hw3.2, fun z hz => ?_, ?_, ?_, ?_, ?_⟩
                · rw [cut_mut mw, List.map_append]
                  exact dpall_app (dpall_mono (((cut_same S14).trans C18).trans (cut_same S19)) g2) (.cons hv19 .nil)
                · rcases List.mem_append.mp hz with hz | hz
                  · exact g4.near z hz
                  · rw [List.mem_singleton.mp hz]; exact hy1
                · rcases List.mem_append.mp hz with hz | hz
                  · exact g4.far z hz
                  · rw [List.mem_singleton.mp hz]; exact hy2
                · rcases List.mem_append.mp hz with hz | hz
                  · exact g4.lo z hz
                  · rw [List.mem_singleton.mp hz]; exact hlo1
                · rcases List.mem_append.mp hz with hz | hz
                  · exact g4.hi z hz
                  · rw [List.mem_singleton.mp hz]
                    show lo ≤ lo + (w2 : Int)
                    omega
                · rcases List.mem_append.mp hz with hz | hz
                  · exact g6 z hz
                  · rw [List.mem_singleton.mp hz]
                    show lo + (w2 : Int) ≤ 1000
                    omega
                · intro b o hb e
                  have hbw : b ≠ pw := ne_of_none e hwn
                  rw [upd_ne hbw]
                  exact S19 _ _ (BB18 _ _ hb (S14 _ _ (g7 _ _ hb e)))
                · have T19 := T16.same (S17.trans (S18.trans S19))
                  refine (T19.up (by omega)).chg net
                · exact (((t16.up S17).up S18).up S19).upd
                · exact cut_chg (g10.trans ((cut_same S14).trans (C18.trans (cut_same S19)))) mw
          · rw [List.length_map] at g3 g8
            rw [e]
            have trm : Trk ms H13 := fun x hx => g9 x (List.mem_cons_of_mem _ hx)
            have hwm : pw ∉ ms := tr10.new hn11
            have dw : Dp K (cut ms H13) (.ref pw) (.list (wl.map wayD)) := .lst (.inl (.inl (cut_of hwm g1))) (dpall_mono (cut_sub (ms := pw :: ms) fun x hx => List.mem_cons_of_mem _ hx) g2)
            have fin : ∀ {σ2 : L2.St} {H2 : Hp} {vw : V} {wl' : List Way}, σ2[2]? = some (some (.int (n : Int))) → σ2[8]? = some (some vw) → Dp K (cut ms H2) vw (.list (wl'.map wayD)) → Trk ms H2 → But t H H2 → Tin H2 t (m + 100) → PlanOk n wl' → ∀ {p1 p2 p3 p4 p5 p6 kk}, SS X [.Return (some (.Tuple [.Name "_law_size" p1, .Call (.Name "tuple" p2) [.Name "_law_ways_so" p3] [] p4] kk p5)) p6] { nx := fun _ H' => Q .non H', rt := Q } σ2 H2 := fun s2 s8 dd trr bb tt ok _ _ _ _ _ _ _ =>
              ss_ret hX (PD.go (ms := ms) (pd_tup (pad_cons (sz s2) (pad_cons (pd_tupleL (pd_name (i := 8) s8 dd) T.tuple) pad_nil)) (by show 2 ≤ sizeLine; decide)) trr fun v H6 S6 hv => q n _ v H6 (bb.trans (But.of S6)) (tt.same S6) hv ok)
            have okW : PlanOk n wl := ⟨hn3, hn5, g4, by omega, g5, g6⟩
            refine ss_ifE hX (eb_eqM (es_call FT hr (ea2 (es_name (i := 0) rfl (es_int ⟨t, 6, m + 10 + 2 * qs.length, rfl, by decide, by decide, by omega, g8, fun r7 H20 r70 r71 B20 T20 => es_int ⟨r7, 0, rfl, rfl, decide (r7 = 0), rfl, ?_⟩⟩)))))
            have tr20 := B20.trk trm T20
            have T20' : Tin H20 t (m + 100) := T20.up (by omega)
            have dw20 := dp_mono (B20.cut htm) dw
            cases hk : decide (r7 = 0) with
            | true =>
              refine iteT ?_
              refine ss_set 8 hX (PD.go (ms := ms) (pd_slL (lo := none) (hi := some (-1)) (pd_name (i := 8) rfl dw20) (fun H1 Q S q => eo_none q) (fun H1 Q S q => eo_some tr20 (pd_neg pd_int) S q)) tr20 fun v21 H21 S21 hv21 => ?_)
              refine ss_nil ?_
              rw [← List.map_drop, ← List.map_take] at hv21
              have e0 : HT.sIx (wl.map wayD).length 0 none = 0 := rfl
              rw [e0, List.drop_zero] at hv21
              generalize HT.sIx (wl.map wayD).length (wl.map wayD).length (some (-1)) - 0 = jj at hv21
              exact fin rfl rfl hv21 (tr20.up S21) ((g7.trans B20).trans (But.of S21)) (T20'.same S21) ⟨hn3, hn5, wsOk_sub g4 fun x hx => List.mem_of_mem_take hx, by rw [List.length_take]; omega, Nat.le_trans (many_take g4 jj) g5, fun x hx => g6 x (List.mem_of_mem_take hx)⟩
            | false =>
              refine iteF ?_
              refine ss_nil ?_
              exact fin rfl rfl dw20 tr20 (g7.trans B20) T20' okW
end
end SK
namespace SKM
theorem case_math {n : Nat} {ws : List Way} {st p o : Nat} (O : WsOk ws n) (hs : st < n) (hp : Rch n ws st p) (ho : Rch n ws st o) : ∃ low high : Int, IsMax high ((lateL n ws st p o).map (·.1)) ∧ IsMax (-low) ((lateL n ws st o p).map (·.1)) ∧
    IsMax high ((allL ws).map (lateV n ws st p o)) ∧ low ∈ (allL ws).map (lateV n ws st p o) ∧ (∀ y ∈ (allL ws).map (lateV n ws st p o), low ≤ y) ∧ ∀ k, k ∈ rng low high ↔ k ∈ (allL ws).map (lateV n ws st p o) := by
  obtain ⟨high, hh⟩ := max_exists _ (lates_ne O hs (p := p) hp ho)
  obtain ⟨m', hm⟩ := max_exists _ (lates_ne O hs (p := o) ho hp)
  have h1 := max_all O hs hp ho hh
  have h2 := max_all O hs ho hp hm
  have hlow : -m' ∈ (allL ws).map (lateV n ws st p o) := by
    obtain ⟨s, hs1, e⟩ := List.mem_map.mp h2.1
    refine List.mem_map.mpr ⟨s, hs1, ?_⟩
    rw [lateV_swap p o] at e
    omega
  have hle : ∀ y ∈ (allL ws).map (lateV n ws st p o), -m' ≤ y := fun y hy => by
    obtain ⟨s, hs1, e⟩ := List.mem_map.mp hy
    have := h2.2 (lateV n ws st o p s) (List.mem_map.mpr ⟨s, hs1, rfl⟩)
    rw [lateV_swap p o] at this
    omega
  refine ⟨-m', high, hh, by rw [Int.neg_neg]; exact hm, h1, hlow, hle, fun k => ?_⟩
  rw [mem_rng]
  exact ⟨fun ⟨a, b⟩ => all_between O hs hp ho hlow h1.1 a b, fun h => ⟨hle k h, h1.2 k h⟩⟩
def wayR (n : Nat) (ws : List Way) (st p o : Nat) (high : Int) : List (List Nat) := (roadsM n ws st o).filter fun R => decide (lateV n ws st p o (corner ws R) = high)
theorem filter_first {α : Type} {r : α → α → Prop} (f : α → Bool) : ∀ (l : List α), l.Pairwise r → ∀ x xs, l.filter f = x :: xs → ∀ y ∈ l, f y = true → y = x ∨ r x y
  | [], _, _, _, h => by cases h
  | z :: l, hp, x, xs, h => fun y hy hf => by
    have hc := List.pairwise_cons.mp hp
    cases hz : f z with
    | true =>
      rw [List.filter_cons_of_pos hz] at h
      injection h with h1 h2
      subst h1
      rcases List.mem_cons.mp hy with rfl | hy
      · exact .inl rfl
      · exact .inr (hc.1 y hy)
    | false =>
      rw [List.filter_cons_of_neg (by rw [hz]; exact Bool.false_ne_true)] at h
      rcases List.mem_cons.mp hy with rfl | hy
      · rw [hz] at hf; cases hf
      · exact filter_first f l hc.2 x xs h y hy hf
theorem worst_first {n : Nat} {ws : List Way} {st p o : Nat} (O : WsOk ws n) (hs : st < n) (hp : Rch n ws st p) {high : Int} (hh : IsMax high ((lateL n ws st p o).map (·.1))) : ∃ R0 rest, wayR n ws st p o high = R0 :: rest ∧ (high, R0) ∈ lateL n ws st p o ∧ ∀ R', (high, R') ∈ lateL n ws st p o → lexN R' R0 = false := by
  have mem : ∀ R, (high, R) ∈ lateL n ws st p o ↔ R ∈ roadsM n ws st o ∧ lateV n ws st p o (corner ws R) = high := fun R => by
    rw [lateL_some O hs hp]
    constructor
    · intro h
      obtain ⟨R', h1, h2⟩ := List.mem_map.mp h
      injection h2 with h3 h4
      rw [← h4]
      exact ⟨h1, h3⟩
    · rintro ⟨h1, h2⟩
      exact List.mem_map.mpr ⟨R, h1, by rw [h2]⟩
  obtain ⟨⟨m2, R⟩, hR, e⟩ := List.mem_map.mp hh.1
  dsimp only at e
  subst e
  have hR2 := (mem R).mp hR
  have hin : R ∈ wayR n ws st p o m2 := List.mem_filter.mpr ⟨hR2.1, decide_eq_true hR2.2⟩
  cases hw : wayR n ws st p o m2 with
  | nil => rw [hw] at hin; cases hin
  | cons R0 rest =>
    have h0 : R0 ∈ wayR n ws st p o m2 := by rw [hw]; exact List.mem_cons_self
    have h0' := List.mem_filter.mp h0
    refine ⟨R0, rest, rfl, (mem R0).mpr ⟨h0'.1, of_decide_eq_true h0'.2⟩, fun R' hR' => ?_⟩
    have h1 := (mem R').mp hR'
    have srt : Srt (roadsM n ws st o) := isort_srt _
    rcases filter_first _ _ srt R0 rest hw R' h1.1 (decide_eq_true h1.2) with e | e
    · rw [e]; exact lexN_irr R0
    · exact e
theorem allL_ne {n : Nat} {ws : List Way} (O : WsOk ws n) : ∃ s0 rest, allL ws = s0 :: rest := by
  have h : corner ws [] ∈ allL ws := mem_allL.mpr (corner_in O [])
  cases e : allL ws with
  | nil => rw [e] at h; cases h
  | cons s0 rest => exact ⟨s0, rest, rfl⟩
theorem find_first {α : Type} [DecidableEq α] {x : α} : ∀ {l : List α}, x ∈ l → ∃ j : Nat, l[j]? = some x ∧ ∀ (m : Nat) (y : α), m < j → l[m]? = some y → y ≠ x
  | [], h => by cases h
  | z :: l, h => by
    by_cases e : z = x
    · exact ⟨0, by rw [e]; rfl, fun m y hm => absurd hm (Nat.not_lt_zero m)⟩
    · have h' : x ∈ l := by
        rcases List.mem_cons.mp h with h | h
        · exact absurd h.symm e
        · exact h
      obtain ⟨j, h1, h2⟩ := find_first h'
      refine ⟨j + 1, h1, fun m y hm hy => ?_⟩
      cases m with
      | zero =>
        have : z = y := Option.some.inj hy
        rw [← this]
        exact e
      | succ m => exact h2 m y (by omega) hy
end SKM
set_option maxHeartbeats 4000000
namespace SK
open PySem PySem.Spec PyProof.Rows L2 SKM
section
variable {c : Ct} {ms : List Addr} {σ : L2.St} {H : Hp} {a b e : Expr} {pos : Pos}
theorem eg_cell {i : Nat} {x : Str} {v : V} {Q : L2.St → Hp → Prop} (hN : c.N.Nodup) (q : Q (σ.set i (some v)) H) (hi : c.N[i]? = some x := by rfl) (hx : c.sc.names.lookup x = some .cell := by rfl) (hf : c.fnAll = true := by rfl) : EG c (.Name x pos) v σ H Q :=
  ⟨gName i, fun X hX => pg_name (by rw [hX.N]; exact hN) (by rw [hX.N]; exact hi) (by rw [hX.sc]; exact .inr hx) (.inl (hX.fn hf x)), q⟩
/-- (a, b), whatever the two do -/
theorem es_tupM {k : Nat} {Q : VK} (q : ES c a σ H fun v H1 => ES c b σ H1 fun u H2 => ∀ p, H2 p = none → Q (.ref p) (upd H2 p (.tup [v, u]))) (ns : NSt a := by intro _ _; rfl) (ns2 : NSt b := by intro _ _; rfl) : ES c (.Tuple [a, b] k pos) σ H Q :=
  ⟨tTup (tCons (ES c a) (tCons (ES c b) tNil)), fun X hX => pe_tup (pa_cons (ES.any hX _) (pa_cons (ES.any hX _) pa_nil (ns2 X [])) (ns X [b])), q.mono fun v H1 q1 => q1.mono fun u H2 q2 => ⟨by show 2 ≤ sizeLine; decide, q2⟩⟩
theorem pd_listT {p : Pos} {ds : List PyData} (ha : PD c ms σ H e (.tuple ds)) (hm : c.mg "list" = none) (hg : GlC c "list" := by rfl) (ns : NSt e := by intro _ _; rfl) : PD c ms σ H (.Call (.Name "list" p) [e] [] pos) (.list ds) :=
  pd_callTy (fun X hX => hX.K ▸ call_list_of) (fun vs H Q t h q => by
    obtain ⟨v, rfl, hv⟩ := dpall1 h
    obtain ⟨p, xs, rfl, hs, hx⟩ := dp_tup hv
    exact ⟨p, xs, rfl, .inr (sqt_mono cut_le hs), fun l hl => q _ _ (same_new hl) (dp_newL t hl hx)⟩) (pad_cons ha pad_nil (fun X => ns X [])) hm (by decide +kernel) hg (he := fun X => ns X [])
/-- xs.index(x) -/
theorem pd_index {x : Str} {px ap cp : Pos} {d z : PyData} {ds : List PyData} {j : Nat} (hu : c.A.units + 65 < cLine) (ho : PD c ms σ H (.Name x px) (.list ds)) (he : PD c ms σ H e d) (h1 : SeqAt.shaped (.list ds) = true) (h2 : SeqAt.shaped d = true) (hz : ds[j]? = some z) (hzj : PyData.eqv z d = true)
    (hno : ∀ (m : Nat) (z' : PyData), m < j → ds[m]? = some z' → PyData.eqv z' d = false) (ns : NSt e := by intro _ _; rfl) (hline : (ap.endLine == cp.line) = true := by rfl) : PD c ms σ H (.Call (.Attribute (.Name x px) "index" ap) [e] [] cp) (.int (j : Nat)) := fun t H1 Q S q =>
  ⟨tBM c.K "list" (rIndexD c.K) (ES c (.Name x px)) (EA c [e]), fun X hX => hX.K ▸ pe_bm PySem.F.plainAttrs_list PySem.F.slot_list_index PySem.F.type_list_index (mt_indexD (by rw [hX.A]; exact hu)) (ES.any hX _) (EA.any hX _) (by rfl) (by rw [ns X []]; rfl) hline (ns X []) (by rfl),
    ho t H1 _ S fun v H2 S2 dv => by
      obtain ⟨p, xs, ev, hs, hx⟩ := dp_list (dp_mono cut_le dv)
      refine ⟨by rw [ev]; exact .inl ⟨rfl, xs, hs⟩, pad_cons he pad_nil (fun X => ns X []) t H2 _ (S.trans S2) fun us H3 S3 dus => ?_⟩
      obtain ⟨u, rfl, hu2⟩ := dpall1 dus
      exact ⟨p, u, d, ds, j, z, ev, rfl, by rw [← ev]; exact dp_mono (S3) (dp_mono cut_le dv), dp_mono cut_le hu2, h1, h2, hz, hzj, hno, q _ _ (S2.trans S3) (.int _)⟩⟩
/-- list(range(lo, hi)) -/
theorem pl_listRange {p1 p2 q1 : Pos} {lo hi : Int} (h1 : -(2 ^ 40) ≤ lo) (h2 : hi ≤ 2 ^ 40) (h3 : lo ≤ hi) (h4 : hi - lo ≤ 1000) (ha : PD c ms σ H a (.int lo)) (hb : PD c ms σ H b (.int hi)) (hm : c.mg "list" = none) (hm2 : c.mg "range" = none) (hg : GlC c "list" := by rfl) (hg2 : GlC c "range" := by rfl) (ns : NSt a := by intro _ _; rfl) (ns2 : NSt b := by intro _ _; rfl) :
    PL c ms σ H (.Call (.Name "list" p1) [.Call (.Name "range" p2) [a, b] [] q1] [] pos) (intsD lo (hi - lo).toNat) := fun t H1 Q S q =>
  ⟨tLstRg (tRg2 (ES c a) (ES c b)), fun X hX => pe_listRg hX.calm (hg.of hX) (by rw [hX.mg]; exact hm) (prg_2 (hg2.of hX) (by rw [hX.mg]; exact hm2) (ES.any hX _) (ES.any hX _) (ns X [b]) (ns2 X []) (by rw [ns2 X []]; rfl)) (by rfl), ha t H1 _ S fun v H2 S2 dv => hb t H2 _ (S.trans S2) fun u H3 S3 du =>
    ⟨lo, hi, dp_int dv, dp_int du, ⟨by omega, by omega, by omega, by omega, by omega⟩, fun p hp => q _ _ _ ((S2.trans S3).trans (same_new hp)) ((S2.trans S3).free hp) upd_same (by
      have e : rgV lo hi = ((List.range (hi - lo).toNat).map fun k : Nat => lo + (k : Int)).map V.int := by unfold rgV; rw [List.map_map]; rfl
      have e2 : intsD lo (hi - lo).toNat = ((List.range (hi - lo).toNat).map fun k : Nat => lo + (k : Int)).map PyData.int := by unfold intsD; rw [List.map_map]; rfl
      rw [e, e2]
      exact of_ints)⟩⟩
end
/-! ### what is asked -/
def strD (s : String) : PyData := .str (PySem.Str.ofString s)
def cannotD : PyData := .list [strD "cannot", .bool true]
def placeD (x : Int) : PyData := .list [strD "place", .int x, .bool true]
def AskD (door : Nat) : GT := fun n ws st p o d => match door with
  | 0 => Gr n ws st p o d
  | 1 => Lt2 n ws st p o d
  | 2 => WRd n ws st p o d ∨ (NoL n ws st p o ∧ d = cannotD)
  | _ => WSp n ws st p o d ∨ (NoL n ws st p o ∧ d = cannotD)
def RAsk : List PyData → PyData → Prop := fun ds d => ∃ (door : Nat) (rest : List PyData), door < 4 ∧ ds = .int (door : Int) :: rest ∧ ((∃ n ws st p o, Ask rest n ws st p o ∧ AskD door n ws st p o d) ∨ ∃ x, Bad3 rest x ∧ d = placeD x)
theorem landD_in {n : Nat} {ws : List Way} (h : ws.length ≤ 1000) : LandIn (landD n ws) n ws := by
  have hw : ∀ l : List Way, (l.map wayD).all (okD 1) = true := fun l => by
    induction l with
    | nil => rfl
    | cons w l ih => rw [List.map_cons, List.all_cons, ih]; rfl
  have ht : ∀ l : List Way, (l.map wayD).map (tupF 1) = l.map wayD := fun l => by
    induction l with
    | nil => rfl
    | cons w l ih => rw [List.map_cons, List.map_cons, ih]; rfl
  constructor
  · show (decide (2 ≤ 1000) && (okD 2 (natD n) && ((decide ((ws.map wayD).length ≤ 1000) && (ws.map wayD).all (okD 1)) && true))) = true
    rw [hw, List.length_map, decide_eq_true h]
    rfl
  · show PyData.tuple [tupF 2 (natD n), .tuple ((ws.map wayD).map (tupF 1))] = _
    rw [ht]
    rfl
def softD (n : Nat) (ws : List Way) : PyData := lstF 3 (landD n ws)
theorem softD_eq (n : Nat) (ws : List Way) : softD n ws = .list [natD n, .list (ws.map fun w => .list [natD w.u, natD w.v, .int w.lo, .int w.hi])] := by
  show PyData.list [lstF 2 (natD n), .list ((ws.map wayD).map (lstF 1))] = _
  rw [List.map_map]
  rfl
theorem softD_in {n : Nat} {ws : List Way} (h : ws.length ≤ 1000) : LandIn (softD n ws) n ws := by
  rw [softD_eq]
  have hw : ∀ l : List Way, (l.map fun w => PyData.list [natD w.u, natD w.v, .int w.lo, .int w.hi]).all (okD 1) = true := fun l => by
    induction l with
    | nil => rfl
    | cons w l ih => rw [List.map_cons, List.all_cons, ih]; rfl
  have ht : ∀ l : List Way, (l.map fun w => PyData.list [natD w.u, natD w.v, .int w.lo, .int w.hi]).map (tupF 1) = l.map wayD := fun l => by
    induction l with
    | nil => rfl
    | cons w l ih => rw [List.map_cons, List.map_cons, ih]; rfl
  constructor
  · show (decide (2 ≤ 1000) && (okD 2 (natD n) && ((decide ((ws.map fun w => PyData.list [natD w.u, natD w.v, .int w.lo, .int w.hi]).length ≤ 1000) && (ws.map fun w => PyData.list [natD w.u, natD w.v, .int w.lo, .int w.hi]).all (okD 1)) && true))) = true
    rw [hw, List.length_map, decide_eq_true h]
    rfl
  · show PyData.tuple [tupF 2 (natD n), .tuple ((ws.map fun w => PyData.list [natD w.u, natD w.v, .int w.lo, .int w.hi]).map (tupF 1))] = _
    rw [ht]
    rfl
theorem eqv_refl_lv {n : Nat} {d : PyData} (h : lv n d = true) : PyData.eqv d d = true := SeqAt.eqv_refl d (lv_ok n d h).1
theorem eqv_intsAll : ∀ s s' : List Int, PyData.eqvAll (s.map .int) (s'.map .int) = decide (s = s')
  | [], [] => by rw [List.map_nil, PyData.eqvAll]; rfl
  | [], y :: s' => by rw [List.map_nil, List.map_cons, PyData.eqvAll]; rfl
  | x :: s, [] => by rw [List.map_nil, List.map_cons, PyData.eqvAll]; rfl
  | x :: s, y :: s' => by
    rw [List.map_cons, List.map_cons, PyData.eqvAll, eqv_intsAll s s', PyData.eqv, Bool.eq_iff_iff, Bool.and_eq_true, beq_iff_eq, decide_eq_true_eq, decide_eq_true_eq]
    exact ⟨fun ⟨a, b⟩ => by rw [a, b], fun h => by injection h with h1 h2; exact ⟨h1, h2⟩⟩
theorem eqv_intsT (s s' : List Int) : PyData.eqv (intsT s) (intsT s') = decide (s = s') := by
  unfold intsT
  rw [PyData.eqv]
  exact eqv_intsAll s s'
theorem any_intsT (s : List Int) : ∀ l : List (List Int), ((l.map intsT).any fun z => PyData.eqv z (intsT s)) = decide (s ∈ l)
  | [] => by simp
  | x :: l => by
    rw [List.map_cons, List.any_cons, any_intsT s l, eqv_intsT, Bool.eq_iff_iff, Bool.or_eq_true, decide_eq_true_eq, decide_eq_true_eq, decide_eq_true_eq, List.mem_cons]
    exact ⟨fun h => h.imp Eq.symm id, fun h => h.imp Eq.symm id⟩
theorem lv_intsTs (l : List (List Int)) : lv 2 (.list (l.map intsT)) = true := lv_map intsT (fun s => lv_intsT 0 s) l
section
variable {c : Ct} {ms : List Addr} {σ : L2.St} {H : Hp} {a b e : Expr} {pos : Pos}
/-- lengths.index(s): where the first s stands -/
theorem pd_indexT {x : Str} {px ap cp : Pos} {l : List (List Int)} {s : List Int} (hu : c.A.units + 65 < cLine) (ho : PD c ms σ H (.Name x px) (.list (l.map intsT))) (he : PD c ms σ H e (intsT s)) (hs : s ∈ l) (ns : NSt e := by intro _ _; rfl) (hline : (ap.endLine == cp.line) = true := by rfl) :
    ∃ j : Nat, l[j]? = some s ∧ PD c ms σ H (.Call (.Attribute (.Name x px) "index" ap) [e] [] cp) (.int (j : Nat)) := by
  obtain ⟨j, h1, h2⟩ := find_first hs
  refine ⟨j, h1, pd_index hu ho he (shaped_lv (lv_intsTs l)) (shaped_lv (lv_intsT 0 s)) (z := intsT s) (by rw [List.getElem?_map, h1]; rfl) (by rw [eqv_intsT]; exact decide_eq_true rfl) (fun m z' hm hz => ?_) ns hline⟩
  rw [List.getElem?_map] at hz
  obtain ⟨y, hy, rfl⟩ := Option.map_eq_some_iff.mp hz
  rw [eqv_intsT]
  exact decide_eq_false (h2 m y hm hy)
/-- lates[lengths.index(s)] -/
theorem pd_ixIndex {x y : Str} {py px ap cp : Pos} {l : List (List Int)} {s : List Int} {f : List Int → Int} (hu : c.A.units + 65 < cLine) (hl : PD c ms σ H (.Name y py) (.list ((l.map f).map .int))) (ho : PD c ms σ H (.Name x px) (.list (l.map intsT))) (he : PD c ms σ H e (intsT s)) (hs : s ∈ l) (ns : NSt e := by intro _ _; rfl) (hline : (ap.endLine == cp.line) = true := by rfl) :
    PD c ms σ H (.Subscript (.Name y py) (.Call (.Attribute (.Name x px) "index" ap) [e] [] cp) pos) (.int (f s)) := by
  obtain ⟨j, hj, hpd⟩ := pd_indexT (ap := ap) (cp := cp) hu ho he hs ns hline
  exact pd_ixL hl hpd (atI_nat (by rw [List.getElem?_map, List.getElem?_map, hj]; rfl)) (fun _ _ => rfl)
end
end SK
set_option maxHeartbeats 8000000
namespace SKM
theorem nodup_sub {α : Type} [DecidableEq α] : ∀ (l m : List α), l.Nodup → (∀ x ∈ l, x ∈ m) → l.length ≤ m.length
  | [], m, _, _ => Nat.zero_le _
  | x :: l, m, hn, hs => by
    have hc := List.nodup_cons.mp hn
    have hx := hs x List.mem_cons_self
    have := nodup_sub l (m.erase x) hc.2 fun y hy => by
      have hne : y ≠ x := fun e => hc.1 (e ▸ hy)
      exact (List.mem_erase_of_ne hne).mpr (hs y (List.mem_cons_of_mem _ hy))
    rw [List.length_erase_of_mem hx] at this
    have := List.length_pos_of_mem hx
    rw [List.length_cons]
    omega
theorem sum_bd (f : Nat → Int) (B : Int) : ∀ R : List Nat, (∀ i ∈ R, 0 ≤ f i ∧ f i ≤ B) → 0 ≤ (R.map f).sum ∧ (R.map f).sum ≤ R.length * B
  | [], _ => by simp
  | i :: R, h => by
    obtain ⟨a1, a2⟩ := h i List.mem_cons_self
    obtain ⟨b1, b2⟩ := sum_bd f B R fun j hj => h j (List.mem_cons_of_mem _ hj)
    rw [List.map_cons, List.sum_cons, List.length_cons]
    have e : ((R.length + 1 : Nat) : Int) * B = R.length * B + B := by
      rw [Int.natCast_add, Int.add_mul]
      simp
    omega
theorem mn_bd {n : Nat} {ws : List Way} {st v : Nat} {s : List Int} {d : Int} (O : WsOk ws n) (h : InS ws s) (hs : st < n) (hn : n ≤ 10) (hhi : ∀ w ∈ ws, w.hi ≤ 1000) (hm : Mn ws s st v d) : 0 ≤ d ∧ d ≤ 10000 := by
  obtain ⟨R, hR, e⟩ := road_of O h hs hm
  have hl := rf_short _ _ _ _ hR
  have key : ∀ i ∈ R, 0 ≤ s.getD i 0 ∧ s.getD i 0 ≤ 1000 := fun i hi => by
    obtain ⟨w, hw, _⟩ := rf_idx _ _ _ _ hR i hi
    have hil : i < s.length := by rw [h.len]; exact (List.getElem?_eq_some_iff.mp hw).1
    have hsi : s[i]? = some s[i] := List.getElem?_eq_getElem hil
    obtain ⟨b1, b2⟩ := h.bd i w _ hw hsi
    have hwm := List.mem_of_getElem? hw
    have := O.lo w hwm
    have := hhi w hwm
    rw [List.getD_eq_getElem?_getD, hsi]
    show 0 ≤ s[i] ∧ s[i] ≤ 1000
    omega
  obtain ⟨c1, c2⟩ := sum_bd (fun i => s.getD i 0) 1000 R key
  unfold rlen at e
  rw [e] at c1 c2
  refine ⟨c1, ?_⟩
  have : (R.length : Int) ≤ 10 := by omega
  omega
end SKM
namespace SK
open PySem PySem.Spec PyProof.Rows L2 SKM
section
variable {P : Program} {w : World} {K : PySem.W.Frag} {mg : Str → Option Value} {base : Heap}
def rowsD (n : Nat) (ws : List Way) (st : Nat) : PyData := .list ((allL ws).map fun s => .list ((arr n ws st s).map fldD))
def spCase (K : PySem.W.Frag) : Sp := fun vs H Q _ => ∃ (ms : List Addr) (t : Addr) (m n : Nat) (ws : List Way) (st : Nat) (vp vl vr : V), vs = [.ref t, vp, .int (st : Int), vl, vr] ∧ Trk ms H ∧ t ∈ ms ∧ Tin H t m ∧ m ≤ 5000 ∧ PlanOk n ws ∧ st < n ∧ Dp K (cut ms H) vp (landD n ws) ∧ Dp K (cut ms H) vl (.list ((allL ws).map intsT)) ∧ Dp K (cut ms H) vr (rowsD n ws st) ∧
  ∀ H', But t H H' → Tin H' t (m + 20) → Q (.bl true) H'
def wayRD (ws : List Way) (R : List Nat) : PyData := .tuple [tupN R, intsT (corner ws R)]
theorem filter_take {α : Type} (f : α → Bool) {l : List α} {i : Nat} {x : α} (h : l[i]? = some x) : (l.take (i + 1)).filter f = (l.take i).filter f ++ if f x = true then [x] else [] := by
  rw [List.take_add_one, h, List.filter_append]
  congr 1
  cases e : f x with
  | true => simp [e]
  | false => simp [e]
theorem okS_ints (n : Nat) (s : List Int) : (s.map PyData.int).all (okS n) = true := by
  induction s with
  | nil => rfl
  | cons x s ih => rw [List.map_cons, List.all_cons, ih]; cases n <;> rfl
theorem okS_intsT (n : Nat) {s : List Int} (h : s.length ≤ 200000) : okS (n + 1) (intsT s) = true := by
  show (decide ((s.map PyData.int).length ≤ 200000) && (s.map PyData.int).all (okS n)) = true
  rw [okS_ints, List.length_map, decide_eq_true h]
  rfl
theorem okS_tupN (n : Nat) {s : List Nat} (h : s.length ≤ 200000) : okS (n + 1) (tupN s) = true := by
  have e : tupN s = intsT (s.map fun n : Nat => (n : Int)) := by unfold tupN intsT; rw [natD_map]
  rw [e]
  exact okS_intsT n (by rw [List.length_map]; exact h)
theorem okS_map {α : Type} {n : Nat} (f : α → PyData) : ∀ l : List α, (∀ a ∈ l, okS n (f a) = true) → (l.map f).all (okS n) = true
  | [], _ => rfl
  | x :: l, h => by rw [List.map_cons, List.all_cons, h x List.mem_cons_self, okS_map f l fun a ha => h a (List.mem_cons_of_mem _ ha)]; rfl
theorem okS_list {n : Nat} {xs : List PyData} (h : xs.length ≤ 200000) (h2 : xs.all (okS n) = true) : okS (n + 1) (.list xs) = true := by
  show (decide (xs.length ≤ 200000) && xs.all (okS n)) = true
  rw [h2, decide_eq_true h]
  rfl
def thB (n : Nat) (ws : List Way) (st p o : Nat) (high : Int) (x : PyData) : Bool := isSp ws x && decide (lateV n ws st p o (intsOf x) = high)
structure CaseF (P : Program) (w : World) (K : PySem.W.Frag) (mg : Str → Option Value) (base : Heap) (k : Nat) : Prop where
  lists : Fn1 P w K mg base CX0 k "_law_lists" ["_law_matter"] (spP K (RLst 3))
  take : Fn1 P w K mg base CX0 k "_law_take" ["_law_tin", "_law_below_so"] spTake
  same : Fn1 P w K mg base CX0 k "_law_same" ["_law_got", "_law_due"] (spP K (RSame 3))
  roads : Fn1 P w K mg base CX0 k "roads" ["land", "start", "place"] (spP K RRoads)
  lroads : Fn1 P w K mg base CX0 k "_law_roads" ["_law_plan_here", "_law_start_so", "_law_place_so"] (spP K RLR)
  asked : Fn1 P w K mg base CX0 k "_law_asked" ["_law_door", "_law_plan_here", "_law_start_so", "_law_place_so", "_law_other_so"] (spP K RAsk)
  worst : Fn1 P w K mg base CX0 k "is_worst" ["land", "start", "place", "other", "thing"] (spP K RIsW)
  pick : Fn1 P w K mg base CX0 k "_law_pick" ["_law_tin", "_law_goods_so", "_law_count_so"] (spPick K)
theorem fn_law_case_right {f : Addr} {fd : FuncData} {k : Nat} (a : At K mg "_law_case_right" sLawCaseRight f fd ["_law_tin", "_law_plan_here", "_law_start_so", "_law_lengths", "_law_rows"]) (T : Mg mg) (F : CaseF P w K mg base k) : Fn1 P w K mg base CX0 (k + 1) "_law_case_right" ["_law_tin", "_law_plan_here", "_law_start_so", "_law_lengths", "_law_rows"] (spCase K) :=
  a.fn scLawCaseRight (fun vs H Q E h => by obtain ⟨_, _, _, _, _, _, _, _, _, rfl, _⟩ := h; rfl) fun A X H vs Q E hX hr h => by
    obtain ⟨ms, t, m, n, ws, st, vp, vl, vr, rfl, tr, htm, hT, hm, ok, hst, dp, dl, dr, q⟩ := h
    have O := ok.ok
    have hw7 := ok.w7
    have hn5 := ok.n5
    have Ln : Lnd n ws := ⟨O, by omega, hw7⟩
    have hw1000 : ws.length ≤ 1000 := by omega
    obtain ⟨s0, srest, es0⟩ := allL_ne O
    have hin0 : InS ws s0 := mem_allL.mp (by rw [es0]; exact List.mem_cons_self)
    have ls : (allL ws).length ≤ 60 := by rw [len_allL]; exact ok.m60
    have big : (300000 : Nat) ≤ sizeLine := by decide
    -- the numbers of places, the plan in lists
    refine ss_asg hX (PD.go (ms := ms) (pd_tup (ds := [natD n, softD n ws]) (pad_cons (pd_ixT (pd_name (i := 1) rfl dp) pd_int rfl) (pad_cons (pd_call F.lists hr ⟨landD n ws, rfl, (landD_in hw1000).1, rfl⟩ (pad_cons (pd_name (i := 1) rfl dp) pad_nil)) pad_nil)) (by show 2 ≤ sizeLine; decide)) tr fun v0 H1 S1 hv0 => ?_)
    refine eg_tup2 (ms := ms) hv0 fun v5 v6 d5 d6 => eg_name (i := 5) scLawCaseRight.nd ⟨_, _, rfl, eg_cell (i := 6) scLawCaseRight.nd ⟨rfl, ?_⟩⟩
    obtain rfl := dp_int d5
    -- two places
    refine ss_asg hX (es_tupM (es_call F.take hr (ea2 (es_name (i := 0) rfl (es_name (i := 5) rfl ⟨t, (n : Int), m, rfl, by have := ok.n3; omega, by omega, by omega, hT.same S1, fun r7 H2 r70 r71 B2 T2 => es_call F.take hr (ea2 (es_name (i := 0) rfl (es_name (i := 5) rfl ⟨t, (n : Int), m + 1, rfl, by have := ok.n3; omega, by omega, by omega, T2, fun r8 H3 r80 r81 B3 T3 pq hpq => ?_⟩)))⟩)))))
    obtain ⟨p, rfl, hp⟩ : ∃ p : Nat, r7 = (p : Int) ∧ p < n := ⟨r7.toNat, by omega, by omega⟩
    obtain ⟨o, rfl, ho⟩ : ∃ o : Nat, r8 = (o : Int) ∧ o < n := ⟨r8.toNat, by omega, by omega⟩
    have trq := (B2.trans B3).trk (tr.up S1) T3
    refine eg_tup2 (ms := ms) (dp_newT (ds := [.int (p : Int), .int (o : Int)]) trq hpq (.cons (.int _) (.cons (.int _) .nil))) fun v7 v8 d7 d8 => eg_cell (i := 7) scLawCaseRight.nd ⟨_, _, rfl, eg_cell (i := 8) scLawCaseRight.nd ⟨rfl, ?_⟩⟩
    obtain rfl := dp_int d7
    obtain rfl := dp_int d8
    have Sq : Same H3 (upd H3 pq (.tup [V.int (p : Int), V.int (o : Int)])) := same_new hpq
    clear d5 d7 d8
    replace T3 := T3.same Sq
    have B13 : But t H1 (upd H3 pq (.tup [V.int (p : Int), V.int (o : Int)])) := (B2.trans B3).trans (But.of Sq)
    have tr3 := trq.up Sq
    clear trq B2 B3 T2 hpq hv0
    generalize upd H3 pq (.tup [V.int (p : Int), V.int (o : Int)]) = H3' at *
    clear Sq H3
    have B03 : But t H H3' := (But.of S1).trans B13
    have C3 : Same (cut ms H) (cut ms H3') := B03.cut htm
    have C13 : Same (cut ms H1) (cut ms H3') := B13.cut htm
    replace dp := dp_mono C3 dp
    replace dl := dp_mono C3 dl
    replace dr := dp_mono C3 dr
    replace d6 := dp_mono C13 d6
    -- the roads
    have hroads : (roadsM n ws st o).length ≤ 117649 := roadsM_len Ln
    have ask : ∀ (L : PyData), LandIn L n ws → Ask [L, natD st, natD p, natD o] n ws st p o := fun L hL => ⟨L, rfl, hL, Ln, hst, hp, ho⟩
    have okR : ∀ R ∈ roadsM n ws st o, R.length ≤ 200000 := fun R hR => by
      have := rf_short _ _ _ _ (roadsM_mem.mp hR)
      omega
    refine ss_if (ms := ms) (k := !true) hX (pb_not (pb_val (pd_call F.same hr (d := .bool true) (ds := [.list ((roadsM n ws st o).map tupN), .list ((roadsM n ws st o).map tupN)]) ⟨_, rfl, okS_list (by rw [List.length_map]; omega) (okS_map tupN _ fun R hR => okS_tupN 1 (okR R hR)), lv_map tupN (fun R => lv_tupN 1 R) _, rfl⟩ (pad_cons (pd_call F.roads hr ⟨softD n ws, n, ws, st, o, rfl, softD_in hw1000, Ln, hst, ho, rfl⟩ (pad_cons (pd_name (i := 6) rfl d6) (pad_cons (pd_name (i := 2) rfl (.int _)) (pad_cons (pd_name (i := 8) rfl (.int _)) pad_nil)))) (pad_cons (pd_call F.lroads hr ⟨n, ws, st, o, rfl, Ln, by omega, rfl⟩ (pad_cons (pd_name (i := 1) rfl dp) (pad_cons (pd_name (i := 2) rfl (.int _)) (pad_cons (pd_name (i := 8) rfl (.int _)) pad_nil)))) pad_nil))))) tr3 (fun z => nomatch z) fun _ H4 S4 => ?_
    refine ss_nil ?_
    replace tr3 := tr3.up S4
    have T4 := T3.same S4
    have B04 := B03.trans (But.of S4)
    clear C3 C13 S1 B13 B03
    replace dp := dp_mono (cut_same S4) dp
    replace dl := dp_mono (cut_same S4) dl
    replace dr := dp_mono (cut_same S4) dr
    replace d6 := dp_mono (cut_same S4) d6
    clear S4 T3
    have hrow : ∀ {σ' : L2.St} {H' : Hp} {u : Nat} {x : Str} {i : Nat} {q1 q2 q3 q4 q5 j}, u < n → σ'[4]? = some (some vr) → σ'[i]? = some (some (.int (u : Int))) → Same H4 H' → (ctOf P w K mg base nLawCaseRight sLawCaseRight A).N[i]? = some x → Vis (defScope sLawCaseRight) x → (x == ("__debug__" : Str)) = false → (x == ("__classdict__" : Str)) = false →
        PD (ctOf P w K mg base nLawCaseRight sLawCaseRight A) ms σ' H' (.Subscript (.Subscript (.Name "_law_rows" q1) (.Constant (.int 0) j q2) q3) (.Name x q4) q5) (fldD ((arr n ws st s0).getD u none)) := fun {σ' H' u x i q1 q2 q3 q4 q5 j} hu g4 gi S hN hv h1 h2 =>
      pd_ixL (pd_ixL (ds := (allL ws).map fun s => .list ((arr n ws st s).map fldD)) (d := .list ((arr n ws st s0).map fldD)) (pd_name (i := 4) g4 (dp_mono (cut_same S) dr)) pd_int (by rw [es0]; exact atI_nat (j := 0) rfl)) (pd_name (i := i) gi (.int _) hN hv h1 h2) (fldD_at (by rw [arr_len]; exact hu)) (fun _ _ => rfl)
    by_cases hR : Rch n ws st p ∧ Rch n ws st o
    · obtain ⟨hRp, hRo⟩ := hR
      obtain ⟨dP, hdP, _⟩ := arr_some O hst hin0 hRp
      obtain ⟨dO, hdO, _⟩ := arr_some O hst hin0 hRo
      obtain ⟨low, high, mH, mL, mA, hlow, hlow2, hrng⟩ := case_math O hst hRp hRo
      refine ss_if (ms := ms) (k := false) hX ((pb_or2 (pb_isN (hrow (i := 7) hp rfl rfl (Same.refl _) rfl (Or.inr (Or.inl rfl)) (by decide) (by decide))) fun _ => pb_isN (hrow (i := 8) ho rfl rfl (Same.refl _) rfl (Or.inr (Or.inl rfl)) (by decide) (by decide))).cast (by rw [hdP, hdO]; rfl)) tr3 (fun z => nomatch z) fun _ H5 S5 => ?_
      refine ss_nil ?_
      replace dp := dp_mono (cut_same S5) dp
      replace dl := dp_mono (cut_same S5) dl
      replace dr := dp_mono (cut_same S5) dr
      replace d6 := dp_mono (cut_same S5) d6
      replace tr3 := tr3.up S5
      replace T4 := T4.same S5
      replace B04 := B04.trans (But.of S5)
      clear hrow S5 H4
      -- the latenesses at all SPREADS
      refine ss_set 11 hX (PL.go (ms := ms) (es := (allL ws).map fun s => .int (lateV n ws st p o s)) (pl_of (lc_map (own := [("_law_own", 12)]) (bf := fun i => [(12, ((allL ws).map fun s => PyData.list ((arr n ws st s).map fldD)).getD i .none)]) scLawCaseRight.nd (by show blkC nLawCaseRight (defScope sLawCaseRight) _ _ = true; decide +kernel) (pdi_list (pd_name (i := 4) rfl dr)) (by rw [List.length_map, List.length_map]) (by rw [List.length_map]; omega) (fun i d ms' hi => ?_) (fun i pp hpp => ?_) fun i d e vs ms' H6 hi he S Sc hvs => ?_)) tr3 fun pl xl H6 S6 hn6 hp6 hx6 => ?_)
      · rw [getD_of hi]
        exact gd_name scLawCaseRight.nd
      · rw [List.mem_singleton.mp hpp]
        exact List.mem_singleton.mpr rfl
      · rw [List.map_singleton, getD_of hi] at hvs
        obtain ⟨b12, rfl, g12⟩ := dpall1 hvs
        rw [List.getElem?_map] at hi he
        obtain ⟨s, hs1, rfl⟩ := Option.map_eq_some_iff.mp hi
        rw [hs1] at he
        rw [← (show PyData.int (lateV n ws st p o s) = e from Option.some.inj he)]
        have hin := mem_allL.mp (List.mem_of_getElem? hs1)
        obtain ⟨x1, g1, _⟩ := arr_some O hst hin hRp
        obtain ⟨x2, g2, _⟩ := arr_some O hst hin hRo
        have e1 : lateV n ws st p o s = x1 - x2 := by unfold lateV; rw [g1, g2]; rfl
        rw [e1]
        have k1 := fldD_at (f := arr n ws st s) (u := p) (by rw [arr_len]; exact hp)
        have k2 := fldD_at (f := arr n ws st s) (u := o) (by rw [arr_len]; exact ho)
        rw [g1] at k1
        rw [g2] at k2
        exact pd_sub (pd_ixL (pd_name (i := 12) rfl g12) (pd_name (i := 7) rfl (.int _)) k1) (pd_ixL (pd_name (i := 12) rfl g12) (pd_name (i := 8) rfl (.int _)) k2)
      · have dlat := dp_fresh tr3 hn6 hp6 hx6
        have elat : (allL ws).map (fun s => PyData.int (lateV n ws st p o s)) = ((allL ws).map (lateV n ws st p o)).map PyData.int := by rw [List.map_map]; rfl
        rw [elat] at dlat
        clear hx6 hn6 hp6
        replace dp := dp_mono (cut_same S6) dp
        replace dl := dp_mono (cut_same S6) dl
        replace d6 := dp_mono (cut_same S6) d6
        replace tr3 := tr3.up S6
        replace T4 := T4.same S6
        replace B04 := B04.trans (But.of S6)
        clear dr S6 H5
        -- the least, the greatest
        refine ss_asg hX (PD.go (ms := ms) (d := .tuple [.int low, .int high]) (pd_tup (pad_cons (pd_minI (pd_name (i := 11) rfl dlat) hlow hlow2 T.min) (pad_cons (pd_maxI (pd_name (i := 11) rfl dlat) mA.1 mA.2 T.max) pad_nil)) (by show 2 ≤ sizeLine; decide)) tr3 fun v9 H7 S7 hv9 => ?_)
        refine eg_tup2 (ms := ms) hv9 fun v13 v14 d13 d14 => eg_name (i := 13) scLawCaseRight.nd ⟨_, _, rfl, eg_cell (i := 14) scLawCaseRight.nd ⟨rfl, ?_⟩⟩
        obtain rfl := dp_int d13
        obtain rfl := dp_int d14
        clear hv9 d13 d14
        replace dp := dp_mono (cut_same S7) dp
        replace dl := dp_mono (cut_same S7) dl
        replace d6 := dp_mono (cut_same S7) d6
        replace dlat := dp_mono (cut_same S7) dlat
        replace tr3 := tr3.up S7
        replace T4 := T4.same S7
        replace B04 := B04.trans (But.of S7)
        clear S7 H6
        -- all between are had
        have bdL : ∀ y ∈ (allL ws).map (lateV n ws st p o), -10000 ≤ y ∧ y ≤ 10000 := fun y hy => by
          obtain ⟨s, hs1, rfl⟩ := List.mem_map.mp hy
          have hin := mem_allL.mp hs1
          obtain ⟨x1, g1, m1⟩ := arr_some O hst hin hRp
          obtain ⟨x2, g2, m2⟩ := arr_some O hst hin hRo
          rw [lateV_of O hst hin m2 m1]
          have := mn_bd O hin hst (by omega) ok.hi m1
          have := mn_bd O hin hst (by omega) ok.hi m2
          omega
        have b1 := bdL _ hlow
        have b2 := bdL _ mA.1
        have b3 : low ≤ high := hlow2 _ mA.1
        have rlen60 : (rng low high).length ≤ 60 := by
          have := nodup_sub (rng low high) ((allL ws).map (lateV n ws st p o)) ((rng_rise low high).imp fun {a b} h => Int.ne_of_lt h) fun x hx => (hrng x).mp hx
          rw [List.length_map] at this
          omega
        have rl2 : (high + 1 - low).toNat ≤ 60 := by rw [← rng_len]; exact rlen60
        refine ss_if (ms := ms) (k := !true) hX ((pb_neD (d := .list ((rng low high).map .int)) (d' := .list (intsD low (high + 1 - low).toNat)) (show A.units + 64 < cLine from hr.units) (shaped_lv (n := 1) (lv_map _ (fun i => lv_int 0 i) _)) (shaped_lv (n := 1) (by rw [← rng_intsD]; exact lv_map _ (fun i => lv_int 0 i) _))
          (pd_sortSetI (ns := (allL ws).map (lateV n ws st p o)) (rise := rng low high) (by rw [List.length_map]; omega) hrng (rng_rise low high) (pd_name (i := 11) rfl dlat) T.sorted T.set)
          (pl_listRange (by omega) (by omega) (by omega) (by omega) (pd_name (i := 13) rfl (.int _)) (pd_add (pd_name (i := 14) rfl (.int _)) pd_int) T.list T.range).pd).cast ?_) tr3 (fun z => nomatch z) fun _ H8 S8 => ?_
        · rw [← rng_intsD, eqv_refl_lv (n := 1) (d := .list ((rng low high).map .int)) (lv_map _ (fun i => lv_int 0 i) _)]
        · refine ss_nil ?_
          replace dp := dp_mono (cut_same S8) dp
          replace dl := dp_mono (cut_same S8) dl
          replace d6 := dp_mono (cut_same S8) d6
          replace dlat := dp_mono (cut_same S8) dlat
          replace tr3 := tr3.up S8
          replace T4 := T4.same S8
          replace B04 := B04.trans (But.of S8)
          clear S8 H7
          -- the roads with the greatest at their corners
          refine ss_set 15 hX (PL.go (ms := ms) (pl_lst pad_nil (by decide)) tr3 fun pw xw H9 S9 hn9 hp9 hx9 => ?_)
          obtain rfl := dpall0 hx9
          have mw : pw ∈ pw :: ms := List.mem_cons_self
          have netw : t ≠ pw := T4.ne hn9
          have hnw : pw ∉ ms := tr3.new hn9
          have c9 := same_more (ms := ms) S9 hn9
          have t9 : Trk (pw :: ms) H9 := (tr3.up S9).more hp9
          generalize hfh : (fun R : List Nat => decide (lateV n ws st p o (corner ws R) = high)) = fh
          have eW : wayR n ws st p o high = (roadsM n ws st o).filter fh := by rw [← hfh]; rfl
          refine ss_for (ms := pw :: ms) (ds := (roadsM n ws st o).map tupN) hX (pdi_list (pd_call F.lroads hr ⟨n, ws, st, o, rfl, Ln, by omega, rfl⟩ (pad_cons (pd_name (i := 1) rfl (dp_mono c9 dp)) (pad_cons (pd_name (i := 2) rfl (.int _)) (pad_cons (pd_name (i := 8) rfl (.int _)) pad_nil))))) t9 fun H10 S10 => ?_
          refine ⟨fun i σ' H' => ∃ u9 u10 u12 u16 u17 u18 u19 u20 xs, σ' = [some (.ref t), some vp, some (.int (st : Int)), some vl, some vr, some (.int (n : Int)), some v6, some (.int (p : Int)), some (.int (o : Int)), u9, u10, some (.ref pl), u12, some (.int low), some (.int high), some (.ref pw), u16, u17, u18, u19, u20] ∧ H' pw = some (.lst xs) ∧ DpAll K (cut (pw :: ms) H') xs ((((roadsM n ws st o).take i).filter fh).map (wayRD ws)) ∧ Trk (pw :: ms) H' ∧ Same (cut (pw :: ms) H10) (cut (pw :: ms) H') ∧ But pw H8 H',
            ⟨_, _, _, _, _, _, _, _, [], rfl, S10 _ _ hp9, .nil, t9.up S10, Same.refl _, But.of (S9.trans S10)⟩, fun i σ' H' ⟨_, _, _, _, _, _, _, _, _, _, _, _, a, b, _⟩ => ⟨b, a⟩, fun i d x σ' H11 H12 hi hP S12 hx => ?_, fun σ' H11 ⟨u9, u10, u12, u16, u17, u18, u19, u20, xs, e, g1, g2, g3, g4, g5⟩ => ?_⟩
          · obtain ⟨u9, u10, u12, u16, u17, u18, u19, u20, xs, rfl, g1, g2, g3, g4, g5⟩ := hP
            rw [List.getElem?_map] at hi
            obtain ⟨R, hR1, rfl⟩ := Option.map_eq_some_iff.mp hi
            refine (gd_name (i := 12) scLawCaseRight.nd : GD _ (pw :: ms) _ (tupN R) _) x _ H12 _ hx fun us hus => ?_
            obtain ⟨b12, rfl, e12⟩ := dpall1 hus
            have t12 := g3.up S12
            have C12 : Same (cut ms H8) (cut (pw :: ms) H12) := c9.trans ((cut_same S10).trans (g4.trans (cut_same S12)))
            refine ss_set 16 hX (PD.go (ms := pw :: ms) (d := intsT (corner ws R)) (pd_tupleL (pd_of (lc_map (own := [("_law_number", 17), ("_law_its", 18)]) (bf := fun i => [(17, natD i), (18, (ws.map wayD).getD i .none)]) scLawCaseRight.nd (by show blkC nLawCaseRight (defScope sLawCaseRight) _ _ = true; decide +kernel) (pdi_enumT (pd_ixT (pd_name (i := 1) rfl (dp_mono C12 dp)) pd_int rfl) T.enum) ?_ ?_ ?_ ?_ ?_)) T.tuple) t12 fun v16 H13 S13 d16 => ?_)
            · rw [List.length_map, corner_len, numb_len, List.length_map]
            · rw [numb_len, List.length_map]
              omega
            · intro i d ms' hd
              obtain ⟨w1, hw, _, rfl⟩ := numb_ways hd
              have e : (ws.map wayD)[i]? = some (wayD w1) := by rw [List.getElem?_map, hw]; rfl
              rw [getD_of e]
              exact gd_tup (gds_cons (gd_name (i := 17) scLawCaseRight.nd) (gds_cons (gd_name (i := 18) scLawCaseRight.nd) gds_nil)) rfl
            · intro i p hp
              simp only [List.map_cons, List.map_nil]
              rcases List.mem_cons.mp hp with rfl | hp
              · exact List.mem_cons_self
              · rw [List.mem_singleton.mp hp]
                exact List.mem_cons_of_mem _ List.mem_cons_self
            · intro i d e vs ms' H1 hd he S Sc hvs
              obtain ⟨w1, hw, _, rfl⟩ := numb_ways hd
              have e1 : (ws.map wayD)[i]? = some (wayD w1) := by rw [List.getElem?_map, hw]; rfl
              simp only [List.map_cons, List.map_nil] at hvs
              rw [getD_of e1] at hvs
              obtain ⟨b1, b2, rfl, k1, k2⟩ := dpall2 hvs
              rw [List.getElem?_map, corner_get hw] at he
              have ee : PyData.int (if i ∈ R then w1.lo else w1.hi) = e := Option.some.inj he
              rw [← ee]
              refine pd_if (pb_inN (pd_name (i := 17) rfl k1) (pd_name (i := 12) rfl (dp_mono Sc e12))) (fun hk => ?_) fun hk => ?_
              · rw [if_pos (of_decide_eq_true hk)]
                exact pd_ixT (pd_name (i := 18) rfl k2) pd_int rfl
              · rw [if_neg (of_decide_eq_false hk)]
                exact pd_ixT (pd_name (i := 18) rfl k2) pd_int rfl
            · have cin : corner ws R ∈ allL ws := mem_allL.mpr (corner_in O R)
              have C13 : Same (cut ms H8) (cut (pw :: ms) H13) := C12.trans (cut_same S13)
              refine ss_if (ms := pw :: ms) (k := fh R) hX (PB.cast (k := decide (lateV n ws st p o (corner ws R) = high)) (pb_eqI (pd_ixIndex (show A.units + 65 < cLine by have := hr.un; omega) (pd_name (i := 11) rfl (dp_mono C13 dlat)) (pd_name (i := 3) rfl (dp_mono C13 dl)) (pd_name (i := 16) rfl d16) cin) (pd_name (i := 14) rfl (.int _))) (by rw [← hfh])) (t12.up S13) (fun hb H14 S14 => ?_) fun hb H14 S14 => ?_
              · have g1' : H14 pw = some (.lst xs) := S14 _ _ (S13 _ _ (S12 _ _ g1))
                refine ss_expr hX (es_app1 (ms := pw :: ms) (i := 15) (p := pw) (xs := xs) (d := wayRD ws R) ((t12.up S13).up S14) rfl g1' ?_ (pd_tup (pad_cons (pd_name (i := 12) rfl (dp_mono (cut_same (S13.trans S14)) e12)) (pad_cons (pd_name (i := 16) rfl (dp_mono (cut_same S14) d16)) pad_nil)) (by show 2 ≤ sizeLine; decide)) fun v15 H15 S15 hv15 => ?_)
                · rw [dpall_len g2, List.length_map]
                  have z1 := List.length_filter_le fh ((roadsM n ws st o).take i)
                  rw [List.length_take] at z1
                  omega
                · refine ss_nil (ss_nil ?_)
                  have S1215 := S12.trans (S13.trans (S14.trans S15))
                  refine ⟨_, _, _, _, _, _, _, _, _, rfl, upd_same, ?_, (((t12.up S13).up S14).up S15).upd, cut_chg (g4.trans (cut_same S1215)) mw, (g5.trans (But.of S1215)).chg⟩
                  rw [cut_mut mw, filter_take fh hR1, if_pos hb, List.map_append]
                  exact dpall_app (dpall_mono (cut_same S1215) g2) (.cons hv15 .nil)
              · refine ss_nil (ss_nil ?_)
                have S1214 := S12.trans (S13.trans S14)
                refine ⟨_, _, _, _, _, _, _, _, xs, rfl, S1214 _ _ g1, ?_, (t12.up S13).up S14, g4.trans (cut_same S1214), g5.trans (But.of S1214)⟩
                rw [filter_take fh hR1, if_neg (by rw [hb]; exact Bool.false_ne_true), List.append_nil]
                exact dpall_mono (cut_same S1214) g2
          · rw [List.length_map, List.take_length, ← eW] at g2
            rw [e]
            clear e
            obtain ⟨R0, rrest, eR0, hR0, hR0least⟩ := worst_first O hst hRp mH
            rw [eR0] at g2
            have C11 : Same (cut ms H8) (cut ms H11) := fun b o e => by
              have e1 := cut_at e
              exact cut_of e1.1 (g5 b o (ne_of_none e1.2 hn9) e1.2)
            have tr11 : Trk ms H11 := fun x hx => g3 x (List.mem_cons_of_mem _ hx)
            have dW : Dp K (cut ms H11) (.ref pw) (.list ((R0 :: rrest).map (wayRD ws))) := .lst (.inl (.inl (cut_of hnw g1))) (dpall_mono (cut_sub (ms := pw :: ms) fun x hx => List.mem_cons_of_mem _ hx) g2)
            have T11 : Tin H11 t (m + 1 + 1) := by
              obtain ⟨a1, b1, c1, h1, h2⟩ := T4
              exact ⟨a1, b1, c1, g5 _ _ netw h1, h2⟩
            have B11 : But t H H11 := fun b o hb e => by
              have e4 := B04 _ _ hb e
              exact g5 b o (ne_of_none e4 hn9) e4
            replace dp := dp_mono C11 dp
            replace dl := dp_mono C11 dl
            replace d6 := dp_mono C11 d6
            replace dlat := dp_mono C11 dlat
            clear C11 g1 g2 g3 g4 g5 B04 T4 tr3 hp9 hx9 c9 t9
            have hroad0 : R0 ∈ roadsM n ws st o := by
              have : R0 ∈ wayR n ws st p o high := by rw [eR0]; exact List.mem_cons_self
              exact (List.mem_filter.mp this).1
            have hlW : (R0 :: rrest).length ≤ 117649 := by
              rw [← eR0]
              exact Nat.le_trans (List.length_filter_le _ _) hroads
            have lvW : ∀ l : List (List Nat), lv 3 (.list (l.map (wayRD ws))) = true := fun l => lv_map _ (fun R => by
              show ([tupN R, intsT (corner ws R)]).all (lv 1) = true
              rw [List.all_cons, List.all_cons, List.all_nil, lv_tupN, lv_intsT]
              rfl) l
            refine ss_if (ms := ms) (k := false) hX ((pb_eqD (d' := .list []) (show A.units + 64 < cLine from hr.units) (shaped_lv (lvW _)) (shaped_lv (n := 1) rfl) (pd_name (i := 15) rfl dW) (pd_lst pad_nil (by decide))).cast (by rw [eqv_nil_list]; rfl)) tr11 (fun z => nomatch z) fun _ H12 S12 => ?_
            refine ss_nil ?_
            replace dp := dp_mono (cut_same S12) dp
            replace dl := dp_mono (cut_same S12) dl
            replace d6 := dp_mono (cut_same S12) d6
            replace dlat := dp_mono (cut_same S12) dlat
            replace dW := dp_mono (cut_same S12) dW
            replace tr11 := tr11.up S12
            replace T11 := T11.same S12
            replace B11 := B11.trans (But.of S12)
            clear S12
            have hw0 : Wst n ws st p o R0 := ⟨high, mH, hR0, hR0least⟩
            have hc0len : (corner ws R0).length ≤ 1000 := by rw [corner_len]; omega
            have hR0len : R0.length ≤ 1000 := by
              have := rf_short _ _ _ _ (roadsM_mem.mp hroad0)
              omega
            -- what is asked of the four doors
            refine ss_setLc 9 (ms := ms) (es := [.int high, .tuple [.int low, .int high], tupN R0, intsT (corner ws R0)]) hX (lc_map (own := [("_law_door", 10)]) (bf := fun i => [(10, natD i)]) scLawCaseRight.nd (by show blkC nLawCaseRight (defScope sLawCaseRight) _ _ = true; decide +kernel) (pdi_rangeN (n := 4) pd_int (by decide) T.range) (by rw [intsD_len]; rfl) (by rw [intsD_len]; decide) (fun i d ms' hi => ?_) (fun i pp hpp => ?_) fun i d e vs ms' H13 hi he S Sc hvs => ?_) tr11 fun pg xg H13 S13 hn13 hp13 hx13 => ?_
            · obtain ⟨_, rfl⟩ := intsD_get hi
              rw [Int.zero_add]
              exact gd_name scLawCaseRight.nd
            · rw [List.mem_singleton.mp hpp]
              exact List.mem_singleton.mpr rfl
            · obtain ⟨hi4, rfl⟩ := intsD_get hi
              obtain ⟨b10, rfl, g10⟩ := dpall1 hvs
              have dp' := dp_mono Sc dp
              have d6' := dp_mono Sc d6
              refine pd_call F.asked hr (ds := [natD i, if i % 2 = 0 then landD n ws else softD n ws, natD st, natD p, natD o]) ⟨i, _, hi4, rfl, .inl ⟨n, ws, st, p, o, ask _ ?_, ?_⟩⟩ (pad_cons (pd_name (i := 10) rfl g10) (pad_cons (pd_ixT (ds := [landD n ws, softD n ws]) (j := (i : Int) % 2) (pd_tup (pad_cons (pd_name (i := 1) rfl dp') (pad_cons (pd_name (i := 6) rfl d6') pad_nil)) (by show 2 ≤ sizeLine; decide)) (pd_mod (by decide) (pd_name (i := 10) rfl g10) pd_int) ?_) (pad_cons (pd_name (i := 2) rfl (.int _)) (pad_cons (pd_name (i := 7) rfl (.int _)) (pad_cons (pd_name (i := 8) rfl (.int _)) pad_nil)))))
              · split
                · exact landD_in hw1000
                · exact softD_in hw1000
              · match i, hi4, he with
                | 0, _, he => exact .inr ⟨high, mH, (Option.some.inj he).symm⟩
                | 1, _, he => exact .inr ⟨high, -low, mH, mL, by rw [Int.neg_neg]; exact (Option.some.inj he).symm⟩
                | 2, _, he => exact .inl ⟨R0, hw0, (Option.some.inj he).symm⟩
                | 3, _, he => exact .inl ⟨R0, hw0, (Option.some.inj he).symm⟩
              · match i, hi4 with
                | 0, _ => rfl
                | 1, _ => rfl
                | 2, _ => rfl
                | 3, _ => rfl
            · have dg := dp_fresh tr11 hn13 hp13 hx13
              clear hx13 hp13
              replace dp := dp_mono (cut_same S13) dp
              replace dl := dp_mono (cut_same S13) dl
              replace d6 := dp_mono (cut_same S13) d6
              replace dlat := dp_mono (cut_same S13) dlat
              replace dW := dp_mono (cut_same S13) dW
              replace tr11 := tr11.up S13
              replace T11 := T11.same S13
              replace B11 := B11.trans (But.of S13)
              clear S13 hn13 H12
              have way0 : ∀ {σ2 : L2.St} {H' : Hp} {q1 q2 q3 j}, σ2[15]? = some (some (.ref pw)) → Same (cut ms H13) (cut ms H') → PD (ctOf P w K mg base nLawCaseRight sLawCaseRight A) ms σ2 H' (.Subscript (.Name "_law_ways_so" q1) (.Constant (.int 0) j q2) q3) (.tuple [tupN R0, intsT (corner ws R0)]) := fun s15 C => pd_ixL (pd_name (i := 15) s15 (dp_mono C dW)) pd_int (atI_nat (j := 0) rfl)
              refine ss_if (ms := ms) (k := !true) hX (pb_not (pb_val (pd_call F.same hr (d := .bool true) (ds := [.list [.int high, .tuple [.int low, .int high], tupN R0, intsT (corner ws R0)], .list [.int high, .tuple [.int low, .int high], tupN R0, intsT (corner ws R0)]]) ⟨_, rfl, ?_, ?_, rfl⟩ (pad_cons (pd_name (i := 9) rfl dg) (pad_cons (pd_lst (pad_cons (pd_name (i := 14) rfl (.int _)) (pad_cons (pd_tup (pad_cons (pd_name (i := 13) rfl (.int _)) (pad_cons (pd_name (i := 14) rfl (.int _)) pad_nil)) (by show 2 ≤ sizeLine; decide)) (pad_cons (pd_ixT (way0 rfl (Same.refl _)) pd_int rfl) (pad_cons (pd_ixT (way0 rfl (Same.refl _)) pd_int rfl) pad_nil)))) (by show 4 ≤ sizeLine; decide)) pad_nil))))) tr11 (fun z => nomatch z) fun _ H14 S14 => ?_
              · refine okS_list (by show 4 ≤ 200000; decide) ?_
                rw [List.all_cons, List.all_cons, List.all_cons, List.all_cons, okS_tupN 1 (by omega), okS_intsT 1 (by omega)]
                rfl
              · show ([PyData.int high, .tuple [.int low, .int high], tupN R0, intsT (corner ws R0)]).all (lv 2) = true
                rw [List.all_cons, List.all_cons, List.all_cons, List.all_cons, lv_tupN, lv_intsT]
                rfl
              · refine ss_nil ?_
                clear dg
                replace dp := dp_mono (cut_same S14) dp
                replace dl := dp_mono (cut_same S14) dl
                replace d6 := dp_mono (cut_same S14) d6
                replace dlat := dp_mono (cut_same S14) dlat
                replace way0 : ∀ {σ2 : L2.St} {H' : Hp} {q1 q2 q3 j}, σ2[15]? = some (some (.ref pw)) → Same (cut ms H14) (cut ms H') → PD (ctOf P w K mg base nLawCaseRight sLawCaseRight A) ms σ2 H' (.Subscript (.Name "_law_ways_so" q1) (.Constant (.int 0) j q2) q3) (.tuple [tupN R0, intsT (corner ws R0)]) := fun s15 C => way0 s15 ((cut_same S14).trans C)
                replace tr11 := tr11.up S14
                replace T11 := T11.same S14
                replace B11 := B11.trans (But.of S14)
                clear S14 dW
                -- the things
                refine ss_set 19 hX (es_catM (es_call F.pick hr (ea3 (es_name (i := 0) rfl (es_name (i := 3) rfl (es_int ⟨ms, t, vl, (allL ws).map intsT, 4, m + 1 + 1, rfl, tr11, htm, dl, by rw [List.length_map]; omega, by omega, by omega, T11, fun pk xk ek H15 B15 hn15 hp15 hx15 hmem15 hl15 T15 => ?_⟩))))))
                have C15 : Same (cut ms H14) (cut ms H15) := B15.cut htm
                have tr15 := B15.trk tr11 T15
                have len0 : ∀ {σ2 : L2.St} {q1 q2 q3 j}, σ2[3]? = some (some vl) → PD (ctOf P w K mg base nLawCaseRight sLawCaseRight A) ms σ2 H15 (.Subscript (.Name "_law_lengths" q1) (.Constant (.int 0) j q2) q3) (intsT s0) := fun s3 => pd_ixL (pd_name (i := 3) s3 (dp_mono C15 dl)) pd_int (by rw [es0]; exact atI_nat (j := 0) rfl)
                have hs0 : s0.length ≤ 7 := by rw [hin0.len]; omega
                obtain ⟨s1, hs1⟩ : ∃ s1, s1 = (s0.drop (HT.sIx (s0.map PyData.int).length 0 (some 1))).take (HT.sIx (s0.map PyData.int).length (s0.map PyData.int).length none - HT.sIx (s0.map PyData.int).length 0 (some 1)) := ⟨_, rfl⟩
                have hs1l : s1.length ≤ 1000 := by rw [hs1, List.length_take, List.length_drop]; omega
                refine PL.go (ms := ms) (es := [intsT (corner ws R0), .list ((corner ws R0).map .int), intsT s1, .none, intsT (s0 ++ [1])]) (pl_lst (pad_cons (pd_ixT (way0 rfl C15) pd_int rfl) (pad_cons (pd_listT (pd_ixT (way0 rfl C15) pd_int rfl) T.list) (pad_cons (PD.cast (pd_slT (lo := some 1) (hi := none) (len0 rfl) (fun H1 Q S q => eo_some tr15 pd_int S q) (fun H1 Q S q => eo_none q)) (by rw [take_int, ← hs1]; rfl)) (pad_cons pd_none (pad_cons (PD.cast (pd_catT (ds := s0.map .int) (es := [.int 1]) (by rw [List.length_map]; exact Nat.le_trans (show s0.length + 1 ≤ 1000 by omega) (by decide)) (len0 rfl) (pd_tup (pad_cons pd_int pad_nil) (by show 1 ≤ sizeLine; decide))) (by unfold intsT; rw [List.map_append]; rfl)) pad_nil))))) (by show 5 ≤ sizeLine; decide)) tr15 fun pm xm H16 S16 hn16 hp16 hx16 => ?_
                have hk16 : H16 pk = some (.lst xk) := S16 _ _ hp15
                have lk : xk.length ≤ 4 := by rw [dpall_len hx15]; exact hl15
                have lm : xm.length = 5 := dpall_len hx16
                refine ⟨pk, pm, xk, xm, rfl, rfl, hk16, hp16, by omega, fun pt hpt => ?_⟩
                have S17 : Same H16 (upd H16 pt (.lst (xk ++ xm))) := same_new hpt
                have hp17 : (upd H16 pt (.lst (xk ++ xm))) pt = some (.lst (xk ++ xm)) := upd_same
                have tr16 := tr15.up S16
                have T17 := (T15.same S16).same S17
                have hx17 : DpAll K (cut (pt :: ms) (upd H16 pt (.lst (xk ++ xm)))) (xk ++ xm) (ek ++ [intsT (corner ws R0), .list ((corner ws R0).map .int), intsT s1, .none, intsT (s0 ++ [1])]) := by
                  refine dpall_mono (same_more S17 hpt) (dpall_app ?_ ?_)
                  · exact dpall_mono (cut_same S16) (dpall_mono (cut_sub (ms := pk :: ms) fun x hx => List.mem_cons_of_mem _ hx) hx15)
                  · exact dpall_mono (cut_sub (ms := pm :: ms) fun x hx => List.mem_cons_of_mem _ hx) hx16
                have tr17 : Trk (pt :: ms) (upd H16 pt (.lst (xk ++ xm))) := (tr16.up S17).more hp17
                have nett : t ≠ pt := (T15.same S16).ne hpt
                have hmt : pt ∉ ms := tr16.new hpt
                have B17 : But t H (upd H16 pt (.lst (xk ++ xm))) := B11.trans (B15.trans (But.of (S16.trans S17)))
                have hHt : H pt = none := by
                  cases e2 : H pt with
                  | none => rfl
                  | some o2 => exact absurd ((B11.trans (B15.trans (But.of S16))) pt o2 (Ne.symm nett) e2) (by rw [hpt]; exact fun z => by cases z)
                have C17 : Same (cut ms H14) (cut (pt :: ms) (upd H16 pt (.lst (xk ++ xm)))) := (C15.trans (cut_same S16)).trans (same_more S17 hpt)
                replace dp := dp_mono C17 dp
                replace dl := dp_mono C17 dl
                replace d6 := dp_mono C17 d6
                replace dlat := dp_mono C17 dlat
                clear C17 C15 way0 len0 tr11 T11 B11 hx15 hx16 hp15 hk16 hp16 hn16 hn15 B15 tr15 T15 tr16
                generalize upd H16 pt (.lst (xk ++ xm)) = H17 at *
                clear S16 S17 hpt H14 H15 H16
                have mpt : pt ∈ pt :: ms := List.mem_cons_self
                generalize hts : ek ++ [intsT (corner ws R0), .list ((corner ws R0).map .int), intsT s1, .none, intsT (s0 ++ [1])] = ts at hx17
                have hth : ∀ x ∈ ts, (∃ s, x = intsT s ∧ s.length ≤ 1000) ∨ isTuple x = false := fun x hx => by
                  rw [← hts] at hx
                  rcases List.mem_append.mp hx with hx | hx
                  · obtain ⟨s, hs, rfl⟩ := List.mem_map.mp (hmem15 x hx)
                    refine .inl ⟨s, rfl, ?_⟩
                    rw [(mem_allL.mp hs).len]
                    exact hw1000
                  · simp only [List.mem_cons, List.not_mem_nil, or_false] at hx
                    rcases hx with rfl | rfl | rfl | rfl | rfl
                    · exact .inl ⟨_, rfl, hc0len⟩
                    · exact .inr rfl
                    · exact .inl ⟨_, rfl, hs1l⟩
                    · exact .inr rfl
                    · exact .inl ⟨_, rfl, by rw [List.length_append]; show s0.length + 1 ≤ 1000; omega⟩
                have htl : ts.length ≤ 9 := by
                  rw [← hts, List.length_append]
                  show ek.length + 5 ≤ 9
                  omega
                clear hts hmem15 hl15 lk lm
                refine ss_expr hX (es_app1 (ms := pt :: ms) (i := 19) (p := pt) (xs := xk ++ xm) (d := intsT (ws.map fun w => w.hi + 1)) tr17 rfl hp17 (by rw [dpall_len hx17]; omega) (PD.cast (pd_tupleL (pd_of (lc_map (own := [("_law_own", 12)]) (bf := fun i => [(12, (ws.map wayD).getD i .none)]) (es := ws.map fun w => .int (w.hi + 1)) scLawCaseRight.nd (by show blkC nLawCaseRight (defScope sLawCaseRight) _ _ = true; decide +kernel) (pdi_tup (pd_ixT (pd_name (i := 1) rfl dp) pd_int rfl)) ?_ ?_ ?_ ?_ ?_)) T.tuple) ?_) fun v18 H18 S18 hv18 => ?_)
                · rw [List.length_map, List.length_map]
                · rw [List.length_map]; omega
                · intro i d ms' hi
                  rw [getD_of hi]
                  exact gd_name scLawCaseRight.nd
                · intro i pp hpp
                  rw [List.mem_singleton.mp hpp]
                  exact List.mem_singleton.mpr rfl
                · intro i d e vs ms' H6 hi he S Sc hvs
                  rw [List.map_singleton, getD_of hi] at hvs
                  obtain ⟨b12, rfl, g12⟩ := dpall1 hvs
                  rw [List.getElem?_map] at hi he
                  obtain ⟨w1, hw1, rfl⟩ := Option.map_eq_some_iff.mp hi
                  rw [hw1] at he
                  rw [← (show PyData.int (w1.hi + 1) = e from Option.some.inj he)]
                  exact pd_add (pd_ixT (pd_name (i := 12) rfl g12) pd_int rfl) pd_int
                · unfold intsT
                  rw [List.map_map]
                  rfl
                · have C18 : Same (cut (pt :: ms) H17) (cut (pt :: ms) (upd H18 pt (.lst ((xk ++ xm) ++ [v18])))) := cut_chg (cut_same S18) mpt
                  have toM : Same (cut (pt :: ms) (upd H18 pt (.lst ((xk ++ xm) ++ [v18])))) (cut ms (upd H18 pt (.lst ((xk ++ xm) ++ [v18])))) := cut_sub fun x hx => List.mem_cons_of_mem _ hx
                  have hxT : DpAll K (cut (pt :: ms) (upd H18 pt (.lst ((xk ++ xm) ++ [v18])))) ((xk ++ xm) ++ [v18]) (ts ++ [intsT (ws.map fun w => w.hi + 1)]) := by
                    rw [cut_mut mpt]
                    exact dpall_app (dpall_mono (cut_same S18) hx17) (.cons hv18 .nil)
                  have dth : Dp K (cut ms (upd H18 pt (.lst ((xk ++ xm) ++ [v18])))) (.ref pt) (.list (ts ++ [intsT (ws.map fun w => w.hi + 1)])) := .lst (.inl (.inl (cut_of hmt upd_same))) (dpall_mono toM hxT)
                  have T18 : Tin (upd H18 pt (.lst ((xk ++ xm) ++ [v18]))) t (m + 1 + 1 + 4) := (T17.same S18).chg nett
                  have tr18 : Trk ms (upd H18 pt (.lst ((xk ++ xm) ++ [v18]))) := fun x hx => ((tr17.up S18).upd) x (List.mem_cons_of_mem _ hx)
                  have B18 : But t H (upd H18 pt (.lst ((xk ++ xm) ++ [v18]))) := fun b o2 hb e => by
                    rw [upd_ne (ne_of_none e hHt)]
                    exact S18 _ _ (B17 _ _ hb e)
                  replace dl := dp_mono (C18.trans toM) dl
                  replace d6 := dp_mono (C18.trans toM) d6
                  replace dlat := dp_mono (C18.trans toM) dlat
                  clear C18 toM hxT hx17 T17 tr17 B17 dp nett hmt hHt
                  generalize upd H18 pt (.lst ((xk ++ xm) ++ [v18])) = H19 at *
                  clear S18 hv18 hp17 mpt
                  have hTh : ∀ x ∈ ts ++ [intsT (ws.map fun w => w.hi + 1)], (∃ s, x = intsT s ∧ s.length ≤ 1000) ∨ isTuple x = false := fun x hx => by
                    rcases List.mem_append.mp hx with hx | hx
                    · exact hth x hx
                    · rw [List.mem_singleton.mp hx]
                      exact .inl ⟨_, rfl, by rw [List.length_map]; exact hw1000⟩
                  have hTl : (ts ++ [intsT (ws.map fun w => w.hi + 1)]).length ≤ 10 := by
                    rw [List.length_append]
                    show ts.length + 1 ≤ 10
                    omega
                  generalize ts ++ [intsT (ws.map fun w => w.hi + 1)] = Ts at *
                  clear hth htl
                  have hsh : ∀ x ∈ Ts, shortT x = true := fun x hx => by
                    rcases hTh x hx with ⟨s, rfl, hl⟩ | h
                    · show decide ((s.map PyData.int).length ≤ 1000) = true
                      rw [List.length_map]
                      exact decide_eq_true hl
                    · cases x <;> first | rfl | cases h
                  -- what is due
                  refine ss_setLc 20 (ms := ms) (es := Ts.map fun x => .bool (thB n ws st p o high x)) hX (lc_map (own := [("_law_own", 12)]) (bf := fun i => [(12, Ts.getD i .none)]) scLawCaseRight.nd (by show blkC nLawCaseRight (defScope sLawCaseRight) _ _ = true; decide +kernel) (pdi_list (pd_name (i := 19) rfl dth)) (by rw [List.length_map]) (by omega) (fun i d ms' hi => ?_) (fun i pp hpp => ?_) fun i d e vs ms' H20 hi he S Sc hvs => ?_) tr18 fun pd xd H20 S20 hn20 hp20 hx20 => ?_
                  · rw [getD_of hi]
                    exact gd_name scLawCaseRight.nd
                  · rw [List.mem_singleton.mp hpp]
                    exact List.mem_singleton.mpr rfl
                  · rw [List.map_singleton, getD_of hi] at hvs
                    obtain ⟨b12, rfl, g12⟩ := dpall1 hvs
                    rw [List.getElem?_map, hi] at he
                    rw [← (show PyData.bool (thB n ws st p o high d) = e from Option.some.inj he)]
                    have hmem := List.mem_of_getElem? hi
                    have hd12 := dp_nodict g12
                    rcases hTh d hmem with ⟨s, rfl, hl⟩ | hnt
                    · have esp : isSp ws (intsT s) = decide (s ∈ allL ws) := by
                        rw [Bool.eq_iff_iff, isSp_iff, decide_eq_true_eq, mem_allL]
                        constructor
                        · rintro ⟨s', e1, e2⟩
                          have : s = s' := by
                            have h1 : intsOf (intsT s) = intsOf (intsT s') := by rw [e1]
                            rwa [intsOf_T, intsOf_T] at h1
                          rw [this]
                          exact e2
                        · exact fun h => ⟨s, rfl, h⟩
                      have eth : thB n ws st p o high (intsT s) = (true && (decide (s ∈ allL ws) && decide (lateV n ws st p o s = high))) := by
                        unfold thB
                        rw [esp, intsOf_T, Bool.true_and]
                      rw [eth]
                      refine pd_and (pd_isi (pd_name (i := 12) rfl g12) (kit_tuple _ hd12) T.isi T.tuple (by decide +kernel)) fun _ => pd_and (PD.cast (pd_inD (show A.units + 65 < cLine by have := hr.un; omega) (shaped_lv (lv_intsT 0 s)) (shaped_lv (lv_intsTs _)) (pd_name (i := 12) rfl g12) (pd_name (i := 3) rfl (dp_mono Sc dl))) (by rw [any_intsT])) fun hin => pd_one ?_
                      have hin := of_decide_eq_true hin
                      exact pd_eqI (pd_ixIndex (show A.units + 65 < cLine by have := hr.un; omega) (pd_name (i := 11) rfl (dp_mono Sc dlat)) (pd_name (i := 3) rfl (dp_mono Sc dl)) (pd_name (i := 12) rfl g12) hin) (pd_name (i := 14) rfl (.int _))
                    · have eth : thB n ws st p o high d = (false && true) := by
                        unfold thB
                        have : isSp ws d = false := by cases d <;> first | rfl | cases hnt
                        rw [this]
                        rfl
                      rw [eth]
                      exact pd_and (PD.cast (pd_isi (pd_name (i := 12) rfl g12) (kit_tuple _ hd12) T.isi T.tuple (by decide +kernel)) (by rw [hnt])) fun z => nomatch z
                  · have ddue := dp_fresh tr18 hn20 hp20 hx20
                    replace d6 := dp_mono (cut_same S20) d6
                    replace dth := dp_mono (cut_same S20) dth
                    have okB : ∀ l : List PyData, l.length ≤ 10 → okS 3 (.list (l.map fun x => .bool (thB n ws st p o high x))) = true := fun l hl => okS_list (by rw [List.length_map]; omega) (okS_map _ _ fun _ _ => rfl)
                    have lvB : ∀ l : List PyData, lv 3 (.list (l.map fun x => .bool (thB n ws st p o high x))) = true := fun l => lv_map (n := 2) _ (fun _ => rfl) l
                    refine ss_ret hX (PD.go (ms := ms) (pd_call F.same hr (d := .bool true) (ds := [.list (Ts.map fun x => .bool (thB n ws st p o high x)), .list (Ts.map fun x => .bool (thB n ws st p o high x))]) ⟨_, rfl, okB Ts hTl, lvB Ts, rfl⟩ (pad_cons (pd_of (lc_map (own := [("_law_own", 12)]) (bf := fun i => [(12, Ts.getD i .none)]) scLawCaseRight.nd (by show blkC nLawCaseRight (defScope sLawCaseRight) _ _ = true; decide +kernel) (pdi_list (pd_name (i := 19) rfl dth)) (by rw [List.length_map]) (by omega) (fun i d ms' hi => ?_) (fun i pp hpp => ?_) fun i d e vs ms' H21 hi he S Sc hvs => ?_)) (pad_cons (pd_name (i := 20) rfl ddue) pad_nil))) (tr18.up S20) fun v22 H22 S22 hv22 => ?_)
                    · rw [getD_of hi]
                      exact gd_name scLawCaseRight.nd
                    · rw [List.mem_singleton.mp hpp]
                      exact List.mem_singleton.mpr rfl
                    · rw [List.map_singleton, getD_of hi] at hvs
                      obtain ⟨b12, rfl, g12⟩ := dpall1 hvs
                      rw [List.getElem?_map, hi] at he
                      rw [← (show PyData.bool (thB n ws st p o high d) = e from Option.some.inj he)]
                      exact pd_call F.worst hr (ds := [softD n ws, natD st, natD p, natD o, d]) ⟨_, n, ws, st, p, o, d, _, rfl, softD_in hw1000, Ln, hst, hp, ho, hsh d (List.mem_of_getElem? hi), .inr ⟨high, mH, rfl⟩, rfl⟩ (pad_cons (pd_name (i := 6) rfl (dp_mono Sc d6)) (pad_cons (pd_name (i := 2) rfl (.int _)) (pad_cons (pd_name (i := 7) rfl (.int _)) (pad_cons (pd_name (i := 8) rfl (.int _)) (pad_cons (pd_name (i := 12) rfl g12) pad_nil)))))
                    · obtain rfl := dp_bool hv22
                      exact q H22 (B18.trans (But.of (S20.trans S22))) ((T18.same (S20.trans S22)).up (by omega))
    · -- one of the two is not reached
      have h0 : lateL n ws st p o = [] := lateL_nil O hst hR
      refine ss_if (ms := ms) (k := true) hX ((pb_or2 (pb_isN (hrow (i := 7) hp rfl rfl (Same.refl _) rfl (Or.inr (Or.inl rfl)) (by decide) (by decide))) fun _ => pb_isN (hrow (i := 8) ho rfl rfl (Same.refl _) rfl (Or.inr (Or.inl rfl)) (by decide) (by decide))).cast ?_) tr3 (fun _ H5 S5 => ?_) fun z => nomatch z
      · rw [isN_fld, isN_fld]
        by_cases h1 : Rch n ws st p
        · have h2 : ¬ Rch n ws st o := fun h2 => hR ⟨h1, h2⟩
          rw [(arr_none O hst hin0).mpr h2, Bool.or_eq_true]
          exact .inr rfl
        · rw [(arr_none O hst hin0).mpr h1]
          rfl
      · replace dp := dp_mono (cut_same S5) dp
        replace dl := dp_mono (cut_same S5) dl
        replace tr3 := tr3.up S5
        have dueL : List PyData := [.none, .none, cannotD, cannotD]
        refine ss_setLc 9 (ms := ms) (es := [.none, .none, cannotD, cannotD]) hX (lc_map (own := [("_law_door", 10)]) (bf := fun i => [(10, natD i)]) scLawCaseRight.nd (by show blkC nLawCaseRight (defScope sLawCaseRight) _ _ = true; decide +kernel) (pdi_rangeN (n := 4) pd_int (by decide) T.range) (by rw [intsD_len]; rfl) (by rw [intsD_len]; decide) (fun i d ms' hi => ?_) (fun i pp hpp => ?_) fun i d e vs ms' H6 hi he S Sc hvs => ?_) tr3 fun pg xg H6 S6 hn6 hp6 hx6 => ?_
        · obtain ⟨_, rfl⟩ := intsD_get hi
          rw [Int.zero_add]
          exact gd_name scLawCaseRight.nd
        · rw [List.mem_singleton.mp hpp]
          exact List.mem_singleton.mpr rfl
        · obtain ⟨hi4, rfl⟩ := intsD_get hi
          obtain ⟨b10, rfl, g10⟩ := dpall1 hvs
          refine pd_call F.asked hr (ds := [natD i, landD n ws, natD st, natD p, natD o]) ⟨i, _, hi4, rfl, .inl ⟨n, ws, st, p, o, ask _ (landD_in hw1000), ?_⟩⟩ (pad_cons (pd_name (i := 10) rfl g10) (pad_cons (pd_name (i := 1) rfl (dp_mono Sc dp)) (pad_cons (pd_name (i := 2) rfl (.int _)) (pad_cons (pd_name (i := 7) rfl (.int _)) (pad_cons (pd_name (i := 8) rfl (.int _)) pad_nil)))))
          match i, hi4, he with
          | 0, _, he => exact .inl ⟨h0, (Option.some.inj he).symm⟩
          | 1, _, he => exact .inl ⟨h0, (Option.some.inj he).symm⟩
          | 2, _, he => exact .inr ⟨h0, (Option.some.inj he).symm⟩
          | 3, _, he => exact .inr ⟨h0, (Option.some.inj he).symm⟩
        · have t6 : Trk (pg :: ms) H6 := (tr3.up S6).more hp6
          have c6 := same_more (ms := ms) S6 hn6
          have mg6 : pg ∈ pg :: ms := List.mem_cons_self
          have hl6 : xg.length = 4 := dpall_len hx6
          refine ss_expr hX (es_app1 (ms := pg :: ms) (i := 9) (p := pg) (xs := xg) (d := .bool false) t6 rfl hp6 (by rw [hl6]; decide) (pd_call F.worst hr (ds := [landD n ws, natD st, natD p, natD o, intsT s0]) ⟨_, n, ws, st, p, o, _, false, rfl, landD_in hw1000, Ln, hst, hp, ho, ?_, .inl ⟨h0, rfl⟩, rfl⟩ (pad_cons (pd_name (i := 1) rfl (dp_mono c6 dp)) (pad_cons (pd_name (i := 2) rfl (.int _)) (pad_cons (pd_name (i := 7) rfl (.int _)) (pad_cons (pd_name (i := 8) rfl (.int _)) (pad_cons (pd_ixL (pd_name (i := 3) rfl (dp_mono c6 dl)) pd_int (by rw [es0]; exact atI_nat (j := 0) rfl)) pad_nil)))))) fun v7 H7 S7 hv7 => ?_)
          · show decide ((s0.map PyData.int).length ≤ 1000) = true
            rw [List.length_map, hin0.len]
            exact decide_eq_true hw1000
          · have hm7 : pg ∉ ms := tr3.new hn6
            have tm7 : Trk ms H7 := tr3.up (S6.trans S7)
            have tmu : Trk ms (upd H7 pg (.lst (xg ++ [v7]))) := tm7.upd
            have hx7 : DpAll K (cut ms (upd H7 pg (.lst (xg ++ [v7])))) (xg ++ [v7]) [.none, .none, cannotD, cannotD, .bool false] := by
              have e : DpAll K (cut (pg :: ms) (upd H7 pg (.lst (xg ++ [v7])))) (xg ++ [v7]) ([.none, .none, cannotD, cannotD] ++ [.bool false]) := by
                rw [cut_mut mg6]
                exact dpall_app (dpall_mono (cut_same S7) hx6) (.cons hv7 .nil)
              exact dpall_mono (cut_sub (ms := pg :: ms) fun x hx => List.mem_cons_of_mem _ hx) e
            have hD : Dp K (cut ms (upd H7 pg (.lst (xg ++ [v7])))) (.ref pg) (.list [.none, .none, cannotD, cannotD, .bool false]) := .lst (.inl (.inl (cut_of hm7 upd_same))) hx7
            have netg : t ≠ pg := (T4.same S5).ne hn6
            have B7 : But t H (upd H7 pg (.lst (xg ++ [v7]))) := fun b o hb e => by
              have e4 := (S6.trans S7) _ _ (S5 _ _ (B04 _ _ hb e))
              have e5 : b ≠ pg := ne_of_none (S5 _ _ (B04 _ _ hb e)) hn6
              rw [upd_ne e5]
              exact e4
            have T7 : Tin (upd H7 pg (.lst (xg ++ [v7]))) t (m + 1 + 1) := (T4.same (S5.trans (S6.trans S7))).chg netg
            refine ss_ret hX (PD.go (ms := ms) (pd_call F.same hr (d := .bool true) (ds := [.list [.none, .none, cannotD, cannotD, .bool false], .list [.none, .none, cannotD, cannotD, .bool false]]) ⟨_, rfl, by decide +kernel, by decide +kernel, rfl⟩ (pad_cons (pd_name (i := 9) rfl hD) (pad_cons (pd_lst (pad_cons pd_none (pad_cons pd_none (pad_cons (pd_lst (pad_cons pd_str (pad_cons pd_bool pad_nil)) (by show 2 ≤ sizeLine; decide)) (pad_cons (pd_lst (pad_cons pd_str (pad_cons pd_bool pad_nil)) (by show 2 ≤ sizeLine; decide)) (pad_cons pd_bool pad_nil))))) (by show 5 ≤ sizeLine; decide)) pad_nil))) tmu fun v8 H8 S8 hv8 => ?_)
            obtain rfl := dp_bool hv8
            exact q H8 (B7.trans (But.of S8)) ((T7.same S8).up (by omega))
end
end SK
set_option maxHeartbeats 4000000
namespace SK
open PySem PySem.Spec PyProof.Rows L2 SKM
theorem ss_forT {X : Cx} {c : Ct} {rest body : List Stmt} {D : Ends} {σ : L2.St} {H : Hp} {tg iter : Expr} {pos : Pos} (hX : Own c X)
    (q : ES c iter σ H fun v H1 => ∃ (ms : List Addr) (ds : List PyData), Trk ms H1 ∧ Dp c.K (cut ms H1) v (.tuple ds) ∧ ∃ Pv : Nat → L2.St → Hp → Prop, Pv 0 σ H1 ∧ (∀ i σ' H', Pv i σ' H' → Same (cut ms H1) (cut ms H') ∧ Trk ms H') ∧
      (∀ i d x σ' H' H'', ds[i]? = some d → Pv i σ' H' → Same H' H'' → Dp c.K (cut ms H'') x d → EG c tg x σ' H'' fun σ2 H2 => SS X body { D with nx := Pv (i + 1), ct := Pv (i + 1), bk := fun σ' H' => SS X rest D σ' H' } σ2 H2) ∧
      ∀ σ' H', Pv ds.length σ' H' → SS X rest D σ' H')
    (hs : ∀ (X : Cx) (x : Value), foldedSetIterable iter X.env x = pure x := by intro _ _; rfl) : SS X (.For tg iter body [] pos :: rest) D σ H :=
  ss_cons (ps_for hX.hp hX.i.calm (EI.any hX.i tg iter) (EG.any hX.i tg) (SS.any X body) (hs X)) ⟨iTup c.K (ES c iter), fun X hX => hX.K ▸ pi_tup (ES.any hX _), q.mono fun v H1 ⟨ms, ds, tr, hv, Pv, p0, pg, ps, pd⟩ => by
    obtain ⟨a, xs, ev, hq, ha⟩ := dp_tup hv
    refine ⟨a, ev, ⟨xs, sqt_mono cut_le hq⟩, ?_⟩
    exact for_it (wd_tup hq ha ms) Pv p0 (fun i σ' H' _ p => pg i σ' H' p) (fun i x σ' H' H'' hi p y => ps i _ x σ' H' H'' (List.getElem?_eq_getElem hi) p y.1 (y.2 _ (List.getElem?_eq_getElem hi))) fun σ' H' p => pd σ' H' p⟩
section
variable {c : Ct} {σ : L2.St} {H : Hp} {a b e : Expr} {pos : Pos}
theorem eb_notB {f : Expr} {args : List Expr} {kw : List Keyword} {p : Pos} {Q : Bool → Hp → Prop} (q : ES c (.Call f args kw p) σ H fun v H' => ∃ k, v = .bl k ∧ Q (!k) H') : EB c (.UnaryOp .Not (.Call f args kw p) pos) σ H Q :=
  ⟨tNot (tB (ES c (.Call f args kw p))), fun X hX => pt_not (pt_val (ES.any hX _) (by intro _; rfl)), q⟩
theorem ea5 {e3 e4 e5 : Expr} {Q : List V → Hp → Prop} (q : ES c a σ H fun v H1 => ES c b σ H1 fun w H2 => ES c e3 σ H2 fun u H3 => ES c e4 σ H3 fun x H4 => ES c e5 σ H4 fun y H5 => Q [v, w, u, x, y] H5) (ns : NSt a := by intro _ _; rfl) (ns2 : NSt b := by intro _ _; rfl) (ns3 : NSt e3 := by intro _ _; rfl) (ns4 : NSt e4 := by intro _ _; rfl) (ns5 : NSt e5 := by intro _ _; rfl) : EA c [a, b, e3, e4, e5] σ H Q :=
  ⟨tCons (ES c a) (tCons (ES c b) (tCons (ES c e3) (tCons (ES c e4) (tCons (ES c e5) tNil)))), fun X hX => pa_cons (ES.any hX _) (pa_cons (ES.any hX _) (pa_cons (ES.any hX _) (pa_cons (ES.any hX _) (pa_cons (ES.any hX _) pa_nil (ns5 X [])) (ns4 X [e5])) (ns3 X [e4, e5])) (ns2 X [e3, e4, e5])) (ns X [b, e3, e4, e5]), q⟩
end
section
variable {P : Program} {w : World} {K : PySem.W.Frag} {mg : Str → Option Value} {base : Heap}
def spRight : Sp := fun vs H Q _ => ∃ (t : Addr) (a b : Int), vs = [.ref t] ∧ H t = some (.lst [.int a, .int b, .int 0]) ∧ 0 ≤ a ∧ ∀ H', Q (.bl true) H'
theorem fn_law_right {f : Addr} {fd : FuncData} {k : Nat} (a : At K mg "_law_right" sLawRight f fd ["_law_tin"]) (T : Mg mg) (FP : Fn1 P w K mg base CX0 k "_law_plan" ["_law_tin", "_law_most_so"] (spPlan K)) (FA : Fn1 P w K mg base CX0 k "_law_all_lengths" ["_law_plan_so"] (spP K RAll)) (FT : Fn1 P w K mg base CX0 k "_law_take" ["_law_tin", "_law_below_so"] spTake)
    (FB : Fn1 P w K mg base CX0 k "_law_ticks_by" ["_law_plan_so", "_law_start_so", "_law_lengths_so"] (spP K RTicks)) (FC : Fn1 P w K mg base CX0 k "_law_case_right" ["_law_tin", "_law_plan_here", "_law_start_so", "_law_lengths", "_law_rows"] (spCase K)) : Fn1 P w K mg base CX0 (k + 1) "_law_right" ["_law_tin"] spRight :=
  a.fn scLawRight (fun vs H Q E h => by obtain ⟨_, _, _, rfl, _⟩ := h; rfl) fun A X H vs Q E hX hr h => by
    obtain ⟨t, a0, b0, rfl, hp, ha, q⟩ := h
    have tr : Trk [t] H := fun x hx => by rw [List.mem_singleton.mp hx, hp]; exact fun z => by cases z
    have tm : t ∈ [t] := List.mem_singleton.mpr rfl
    refine ss_set 1 hX (es_call FP hr (ea2 (es_name (i := 0) rfl (es_int ⟨[t], t, 0, rfl, tr, tm, by decide, ⟨a0, b0, 0, hp, ha, by decide, by decide⟩, fun n ws vp H1 B1 T1 dp ok => ?_⟩))))
    have O := ok.ok
    have tr1 := B1.trk tr T1
    have ls : (allL ws).length ≤ 60 := by rw [len_allL]; exact ok.m60
    refine ss_set 2 hX (PD.go (ms := [t]) (pd_call FA hr (d := .list ((allL ws).map intsT)) ⟨n, ws, rfl, O, ok.w7, Nat.le_trans ok.m60 (by decide), ok.hi, rfl⟩ (pad_cons (pd_name (i := 1) rfl dp) pad_nil)) tr1 fun vl H2 S2 dl => ?_)
    replace dp := dp_mono (cut_same S2) dp
    have tr2 := tr1.up S2
    have T2 := T1.same S2
    refine ss_forT hX (es_tupM (es_int (es_call FT hr (ea2 (es_name (i := 0) rfl ?_)))))
    refine (PD.go (ms := [t]) (d := natD n) (pd_ixT (pd_name (i := 1) rfl dp) pd_int rfl) tr2 fun vn H3 S3 hvn => ?_)
    obtain rfl := dp_int hvn
    refine ⟨t, (n : Int), 100, rfl, by have := ok.n3; omega, by have := ok.n5; omega, by omega, (T2.same S3).up (by omega), fun r H4 r0 r1 B4 T4 p hp4 => ?_⟩
    obtain ⟨st, rfl, hst⟩ : ∃ st : Nat, r = (st : Int) ∧ st < n := ⟨r.toNat, by omega, by omega⟩
    have tr4 := B4.trk (tr2.up S3) T4
    have C24 : Same (cut [t] H2) (cut [t] H4) := (cut_same S3).trans (B4.cut tm)
    have Sn : Same H4 (upd H4 p (.tup [V.int 0, V.int (st : Int)])) := same_new hp4
    replace dp := dp_mono (C24.trans (cut_same Sn)) dp
    replace dl := dp_mono (C24.trans (cut_same Sn)) dl
    have T5 := T4.same Sn
    refine ⟨[t], [.int 0, .int (st : Int)], tr4.up Sn, dp_newT tr4 hp4 (.cons (.int _) (.cons (.int _) .nil)), fun i σ' H' => ∃ u3 u4 u5, σ' = [some (.ref t), some vp, some vl, u3, u4, u5] ∧ But t (upd H4 p (.tup [V.int 0, V.int (st : Int)])) H' ∧ Tin H' t (101 + 20 * i), ⟨none, none, none, rfl, But.of (Same.refl _), T5⟩, fun i σ' H' ⟨_, _, _, _, B, Ti⟩ => ⟨B.cut tm, B.trk (tr4.up Sn) Ti⟩, fun i d x σ' H6 H7 hi hP S7 hx => ?_, fun σ' H6 ⟨u3, u4, u5, e, B6, T6⟩ => ?_⟩
    · obtain ⟨u3, u4, u5, rfl, B6, T6⟩ := hP
      obtain ⟨s, rfl, hs, hi2⟩ : ∃ s : Nat, d = natD s ∧ s < n ∧ i < 2 := by
        match i, hi with
        | 0, hi => exact ⟨0, (Option.some.inj hi).symm, by have := ok.n3; omega, by omega⟩
        | 1, hi => exact ⟨st, (Option.some.inj hi).symm, hst, by omega⟩
      refine (gd_name (i := 3) scLawRight.nd : GD _ [t] _ (natD s) _) x _ H7 _ hx fun us hus => ?_
      obtain ⟨b3, rfl, e3⟩ := dpall1 hus
      have C7 : Same (cut [t] (upd H4 p (.tup [V.int 0, V.int (st : Int)]))) (cut [t] H7) := (B6.cut tm).trans (cut_same S7)
      have dp7 := dp_mono C7 dp
      have dl7 := dp_mono C7 dl
      have tr7 := (B6.trk (tr4.up Sn) T6).up S7
      have T7 := T6.same S7
      refine ss_setLc 4 (ms := [t]) (es := (allL ws).map fun s' => .list ((arr n ws s s').map fldD)) hX (lc_map (own := [("_law_own", 5)]) (bf := fun i => [(5, ((allL ws).map intsT).getD i .none)]) scLawRight.nd (by show blkC nLawRight (defScope sLawRight) _ _ = true; decide +kernel) (pdi_list (pd_name (i := 2) rfl dl7)) (by rw [List.length_map, List.length_map]) (by rw [List.length_map]; exact Nat.le_trans ls (by decide)) (fun i d ms' hi => ?_) (fun i pp hpp => ?_) fun i d e vs ms' H8 hi he S Sc hvs => ?_) tr7 fun pr xr H8 S8 hn8 hp8 hx8 => ?_
      · rw [getD_of hi]
        exact gd_name scLawRight.nd
      · rw [List.mem_singleton.mp hpp]
        exact List.mem_singleton.mpr rfl
      · rw [List.map_singleton, getD_of hi] at hvs
        obtain ⟨b5, rfl, g5⟩ := dpall1 hvs
        rw [List.getElem?_map] at hi he
        obtain ⟨s', hs1, rfl⟩ := Option.map_eq_some_iff.mp hi
        rw [hs1] at he
        rw [← (show PyData.list ((arr n ws s s').map fldD) = e from Option.some.inj he)]
        exact pd_call FB hr (ds := [landD n ws, natD s, intsT s']) ⟨n, ws, s, s', rfl, hs, by have := ok.n5; omega, O, mem_allL.mp (List.mem_of_getElem? hs1), rfl⟩ (pad_cons (pd_name (i := 1) rfl (dp_mono Sc dp7)) (pad_cons (pd_name (i := 3) rfl (dp_mono Sc e3)) (pad_cons (pd_name (i := 5) rfl g5) pad_nil)))
      · have drow := dp_fresh tr7 hn8 hp8 hx8
        have tr8 := tr7.up S8
        have T8 := T7.same S8
        have dp8 := dp_mono (cut_same S8) dp7
        have dl8 := dp_mono (cut_same S8) dl7
        obtain rfl := dp_int e3
        refine ss_ifE hX ?_
        refine eb_notB (es_call FC hr (ea5 (es_name (i := 0) rfl (es_name (i := 1) rfl (es_name (i := 3) rfl (es_name (i := 2) rfl (es_name (i := 4) rfl ⟨[t], t, 101 + 20 * i, n, ws, s, vp, vl, .ref pr, rfl, tr8, tm, T8, by omega, ok, hs, dp8, dl8, drow, fun H9 B9 T9 => ⟨true, rfl, ?_⟩⟩)))))))
        refine iteF ?_
        refine ss_nil (ss_nil ?_)
        refine ⟨_, _, _, rfl, (B6.trans (But.of (S7.trans S8))).trans B9, T9.up (by omega)⟩
    · rw [e]
      exact ss_ret hX (PD.go (ms := [t]) pd_bool (B6.trk (tr4.up Sn) T6) fun v H9 S9 hv => by
        obtain rfl := dp_bool hv
        exact q H9)
end
end SK
set_option maxHeartbeats 4000000
namespace SK
open PySem PySem.Spec PyProof.Rows L2 SKM
section
variable {P : Program} {w : World} {K : PySem.W.Frag} {mg : Str → Option Value} {base : Heap}
def RHand : List PyData → PyData → Prop := fun ds d => ds = [] ∧ d = .bool true
def spLaw (K : PySem.W.Frag) : Sp := fun vs H Q _ => ∃ (a : Addr) (ns : List Int), vs = [.ref a] ∧ SqL K H a (ns.map V.int) ∧ ns.length ≤ 63 ∧ ∀ H', Q (.bl true) H'
theorem fn_law {f : Addr} {fd : FuncData} {k : Nat} (a : At K mg "law" sLaw f fd ["_law_script"]) (T : Mg mg) (FH : Fn1 P w K mg base CX0 k "_law_by_hand_right" [] (spP K RHand)) (FR : Fn1 P w K mg base CX0 k "_law_right" ["_law_tin"] spRight) (FB : Fn1 P w K mg base CX0 k "_law_box" ["_law_script", "_law_k"] (spBox K)) (FC : Fn1 P w K mg base CX0 k "_law_cells" ["_law_script", "_law_most_so"] (spCells K)) :
    Fn1 P w K mg base CX0 (k + 1) "law" ["_law_script"] (spLaw K) :=
  a.fn scLaw (fun vs H Q E h => by obtain ⟨_, _, rfl, _⟩ := h; rfl) fun A X H vs Q E hX hr h => by
    obtain ⟨l, ns, rfl, hs, h63, q⟩ := h
    have d0 : Dp K (cut [] H) (.ref l) (.list (ns.map .int)) := by rw [cut_nil]; exact .lst hs of_ints
    refine ss_ret hX ?_
    refine ⟨tAndV (ES _ _) (ES _ _), fun X hX => pe_and (ES.any hX _) (ES.any hX _), ?_⟩
    refine (PD.go (ms := []) (pd_call0 FH hr (d := .bool true) ⟨rfl, rfl⟩) Trk.nil fun v H1 S1 hv => ?_)
    obtain rfl := dp_bool hv
    refine ⟨true, rfl, iteT ?_⟩
    refine ⟨ES _ _, fun X hX => pe_one (ES.any hX _), ?_⟩
    refine es_call FR hr (ea1 (es_call FB hr (ea2 (es_call FC hr (PAd.go (ms := []) (pad_cons (pd_name (i := 0) rfl (dp_mono (cut_same S1) d0)) (pad_cons pd_int pad_nil)) Trk.nil fun us H2 S2 hus => ⟨[], ns, Trk.nil, hus, h63, fun c v H3 S3 hv3 => es_int ⟨[], c, Trk.nil, .cons hv3 (.cons (.int _) .nil), fun p a b H4 ha S4 hn4 hp4 => ⟨p, a, b, rfl, hp4, ha, q⟩⟩⟩)))))
end
end SK
set_option maxHeartbeats 2000000
namespace SK
open PySem PySem.Spec PyProof.Rows L2 PySem.W PySem.Calls PySem.HandSPX
/-! ### NoPlace(number): its __init__ calls super().__init__, then stores -/
abbrev leTail : List Value := [.type "LookupError", .type "Exception", .type "BaseException", .type "object"]
def clsBody : Stmt → List Stmt
  | .ClassDef _ _ _ b _ _ _ _ _ _ _ => b
  | _ => []
def sNp : Stmt := (clsBody (topS 1)).getD 0 (.Pass ⟨0, 0, 0, 0⟩)
def npA : Arguments := defArgs sNp
def npB : List Stmt := defBody sNp
def npS : Scope := defScope sNp
def npSelf : Arg := npA.args.getD 0 { arg := "self", annotation := none, pos := ⟨0, 0, 0, 0⟩ }
/-- what the written part says of NoPlace, at C, and of its __init__, at fI -/
structure NpTxt (P : Program) (K : Frag) (mg : Str → Option Value) (C fI : Addr) : Prop where
  gC : mg "NoPlace" = some (.ref C)
  cls : ∃ nm q N bs sn sub ab col dd k0 k1 k2 k3 k5, K.lookup C = some (excClassObj nm q C N bs leTail true sn sub ab col dd k0 k1 k2 k3 k5 "LookupError.__new__")
  sa : findIn K (.ref C) "__setattr__" = some (some (.builtin "object.__setattr__"))
  ga : findIn K (.ref C) "__getattribute__" = some (some (.builtin "BaseException.__getattribute__"))
  gg : findIn K (.ref C) "__getattr__" = some none
  noN : findIn K (.ref C) "number" = some none
  iC : findIn K (.ref C) "__init__" = some (some (.ref fI))
  tC : typeIn K (.ref fI) = some (.type "function")
  kC : keepIn K (.ref C) = true
  exC : subIn K (.ref C) (.type "BaseException") = some true
  leC : subIn K (.ref C) (.type "LookupError") = some true
  slf : mroIn K C (.ref C) = some true
  tyC : typeIn K (.ref C) = some (.type "type")
  hdC : hasDictIn K C = true
  te : exmOne K (.ref C) (.ref C) = some true
  sup : ks_superIn K C C "__init__" = some (some (.builtin "LookupError.__init__"))
  opq : nsIn K cStatics "thirdparty.any" = some none
  fn : ∃ (oc : Value) (od : Option Addr) (doc pm : Value) (an : Option Addr) (cda cc : Addr) (ct : Value) (osl : Array (Option Value)),
    K.lookup fI = some ⟨oc, od, .func (ksFn "__init__" "NoPlace.__init__" npA npB npS .none .none doc pm an (.ref cda) ct cc), osl⟩ ∧ codeIn K (.ref cda) "NoPlace.__init__" = true ∧
    (∃ (ccl : Value) (cdd : Option Addr) (vs : Array Value) (ccs : Array (Option Value)) (file : Str) (tf : Tok), K.lookup cda = some ⟨ccl, cdd, .fields vs, ccs⟩ ∧ vs[2]? = some (.str file tf) ∧ ((P.main.file : Str) == file) = true) ∧
    (∃ (cl : Value) (cld : Option Addr) (csl : Array (Option Value)), K.lookup cc = some ⟨cl, cld, .cell (some (.ref C)), csl⟩)
  gS : mg "super" = none
  top : (P.main.scope.names.lookup ("super" : Str)).isSome = false
  boot : bootBuiltins "super" = some (.type "super")
theorem np_callWith {M : Model} {A : Around} {E : Value → Shared → Prop} {s : Shared} {i : String} {u x : Addr} {pos : Pos} {env : Env} {e : Expr} {rest : List Expr} {Q : Value → Shared → Prop}
    (h : wpAny M A (spliced (backTo pos (starEach (e :: rest) env))) (fun vs s₁ => KxsAt i u x s₁.heap ∧ wpAny M A (call (.ref u) vs) Q E s₁) E s)
    (he : starEach (e :: rest) env = (false, eval e env) :: starEach rest env := by rfl) (hplain : (backTo pos (starEach rest env)).any (·.1) = false := by rfl) :
    wpAny M A (callWith pos (.ref u) [] (backTo pos (starEach (e :: rest) env)) []) Q E s := by
  rw [he] at h ⊢
  refine kxs_callWith (i := i) (x := x) (by show (false || (backTo pos (starEach rest env)).any (·.1)) = false; rw [hplain]; rfl) ?_
  exact evalArgs_plain h
theorem np_args1 {M : Model} {A : Around} {E : Value → Shared → Prop} {s : Shared} {pos : Pos} {env : Env} {e : Expr} {Q : List Value → Shared → Prop}
    (h : wpAny M A (eval e env) (fun v s₁ => Q [v] s₁) E s) (he : starEach [e] env = (false, eval e env) :: starEach [] env := by rfl) : wpAny M A (spliced (backTo pos (starEach [e] env))) Q E s := by
  refine spliced_more (wpAny_mono h (fun v s₁ q => spliced_none q) fun _ _ z => z) he
theorem ldX {M : Model} {s : Shared} {name : Str} {scope : Scope} {L a cc : Addr} {cd : Value} {m : Str → Option Value} {x : Str} {pos : Pos} {v : Value} {Q : Value → Shared → Prop} {A : Around} {E : Value → Shared → Prop} (hn : s.heap.Ns L m) (hv : m x = some v) (h : Q v s)
    (hk : scope.kind = .function := by rfl) (hl : (ksEnv name scope L a cd cc).kindOf x = some .local := by rfl) (hd : (x == ("__debug__" : Str)) = false := by decide) :
    wpAny M A (eval (.Name x pos) (ksEnv name scope L a cd cc)) Q E s := wpAny_Name (wpAny_loadName_local hk hl hn hv h) hd
section
variable {prog : Program} {w : World} {A : Around} {E : Value → Shared → Prop} {h : Heap} {g : Array GenState} {d : Drawn} {t : Nat} {os : OsState}
variable {nm q : Str} {C N : Addr} {bs bm bmB : List Value} {hdct : Bool} {sn : List Str} {sub : List Value} {ab : Bool} {col : Option Bool} {dd : Option Addr} {k0 k1 k2 k3 k5 : Option Value} {B newId initId : String}
/-- the bound built-in __init__, called -/
theorem call_mw {u e t0 : Addr} {rest : List Value} {Q : Value → Shared → Prop} (FB : ExcBaseFacts B newId initId bmB)
    (hC : h.get? C = some (excClassObj nm q C N bs bm hdct sn sub ab col dd k0 k1 k2 k3 k5 newId)) (he : h.get? e = some (excO C t0)) (hu : h.get? u = some (kxs_mw initId e)) (hz : rest.length ≤ sizeLine)
    (hq : ∀ h' t1, (∀ b o, b ≠ e → h.get? b = some o → h'.get? b = some o) → h'.get? e = some (excO C t1) → Q .none ⟨h', g, d, t, os⟩) :
    wpAny (model prog w) A (call (.ref u) rest) Q E ⟨h, g, d, t, os⟩ := by
  refine wpAny_call (codeAny_of_tree ?_)
  show wpAny _ A.in1 (callAny (.ref u) ⟨rest, []⟩) _ _ _
  simp only [callAny]
  refine wpAny_bind (wpAny_load hu ?_)
  simp only [kxs_mw, show (Value.type "method-wrapper" == Value.type "method" || Value.type "method-wrapper" == Value.type "builtin_function_or_method" || Value.type "method-wrapper" == Value.type "method-wrapper") = true by decide, if_true]
  refine KFB.if_so (by decide) ?_
  refine wpAny_bind (ESX.check_bound FB hC he rfl ?_)
  refine wpAny_bind (wpAny_pure (wpAny_pure ?_))
  refine ⟨plainId_quiet FB.init.plain _, codeAny_builtin FB.initEntry ?_⟩
  exact exc_init_tree (cls := .ref C) (t0 := t0) (dv := none) (c2 := .none) (c3 := .none) (b4 := .bool false) he hz fun h' k e1 _ => hq h' _ k e1
end
section
variable {prog : Program} {w : World} {A : Around} {R : Result → Shared → Prop} {hp : Heap} {g : Array GenState} {d : Drawn} {t : Nat} {os : OsState} {B : String} {bmB : List Value}
/-- the first store into an exception's own dict -/
theorem exc_osaX {K : Frag} {name : Str} {tk : Tok} {v : Value} {x C : Addr} {fv : Array Value} {cd : ClassData} (SF : StoreFacts B bmB "object.__setattr__" "object")
    (X : K.In hp) (hx : hp.get? x = some { cls := .ref C, data := .fields fv }) (hcd : clsIn K C = some cd) (ho : excOver K C bmB = true) (hh : cd.hasDict = true) (ha : findIn K (.ref C) name = some none)
    (hq : ∀ h' tk' dx, (∀ b o, b ≠ x → hp.get? b = some o → h'.get? b = some o) → hp.objs.size ≤ dx → dx ≠ x → h'.get? x = some { cls := .ref C, dict := some dx, data := .fields fv } →
      h'.Ns1 dx (fun y => if y = name then some v else none) → R (.ok (.ret .none)) ⟨h', g, d, tk', os⟩) :
    codeAny (model prog w) A (.call (.builtin "object.__setattr__") ⟨[.ref x, .str name tk, v], []⟩) R ⟨hp, g, d, t, os⟩ := by
  have I : InstAt hp x { cls := .ref C, data := .fields fv } C none := ⟨hx, rfl, rfl, trivial⟩
  have hxs : x ≠ hp.objs.size := Nat.ne_of_lt (Heap.lt_size hx)
  refine osa_openX (s := ⟨hp, g, d, t, os⟩) SF X I ho (r := none) (by unfold takerIn; rw [ha]; rfl) fun b => ?_
  have hcls : Looks (model prog w) hp (classData C) cd := looks_clsIn X hcd
  show wpAny _ _ (Builtin.ObjectAttr.storeInOwnDict (.ref x) (.ref C) (.str name tk) name v b) _ _ _
  obtain ⟨nm, bs, mro, ns, qn, hd, sn, sb, ab, col, del⟩ := cd
  dsimp only at hh
  subst hh
  unfold Builtin.ObjectAttr.storeInOwnDict Builtin.ObjectAttr.ownDictForStores
  repeat (first | with_reducible refine store_in_new ?_ ?_ | with_reducible refine wpAny_loadPart_at hx ?_ | with_reducible refine hcls.at ?_ | wp_step)
  · exact ⟨_, #[], _, (Heap.get?_update_ne _ _ _ _ hxs.symm).trans (Heap.get?_push_at rfl rfl), rfl, fun e he => absurd he (by simp), fun _ => rfl⟩
  · intro h' tk' hn' hs
    have hx₁ : (hp.push { cls := .type "dict", data := .dict #[] }).get? x = some { cls := .ref C, data := .fields fv } := Heap.get?_push_of_some _ hx
    refine hq h' tk' hp.objs.size (fun b o hb ho => ?_) (Nat.le_refl _) hxs.symm ?_ hn'
    · exact (hs.2 b (Nat.ne_of_lt (Heap.lt_size ho))).trans ((Heap.get?_update_ne _ _ _ _ hb).trans (Heap.get?_push_of_some _ ho))
    · exact (hs.2 x hxs).trans (Heap.get?_update_self _ hx₁ rfl)
end
/-- what __init__ leaves of a fresh exception at x -/
structure NpEnd (h h' : Heap) (x C dx t1 : Addr) (v : Value) : Prop where
  keep : ∀ b o, b ≠ x → h.get? b = some o → h'.get? b = some o
  obj : h'.get? x = some { cls := .ref C, dict := some dx, data := .fields #[.ref t1, .none, .none, .none, .bool false, .none] }
  dbig : h.objs.size ≤ dx
  dne : dx ≠ x
  ns : h'.Ns1 dx (fun y => if y = "number" then some v else none)
/-- a made NoPlace -/
structure NpMade (h h' : Heap) (e C d : Addr) (v : Value) : Prop where
  keep : ∀ b o, h.get? b = some o → h'.get? b = some o
  new : h.objs.size ≤ e
  obj : ∃ oe vs, h'.get? e = some oe ∧ oe.cls = .ref C ∧ oe.dict = some d ∧ oe.data = .fields vs ∧ vs[1]? = some .none
  dbig : h.objs.size ≤ d
  dne : d ≠ e
  ns : h'.Ns1 d (fun y => if y = "number" then some v else none)
theorem np_one (v : Value) : [v].length ≤ sizeLine := by
  rw [sizeLine_eq]
  exact (by decide : 1 ≤ 16777216)
section
variable {prog : Program} {w : World} {A : Around} {E : Value → Shared → Prop} {R : Result → Shared → Prop} {s : Shared} {K : Frag} {mg mb : Str → Option Value} {C fI : Addr}
theorem np_init (T : NpTxt prog K mg C fI) {x t0 : Addr} {v : Value} (X : K.In s.heap) (hlim : s.heap.NoLimit) (hG : s.heap.Ns mainGlobals mg) (hB : s.heap.Ns builtinsNs mb) (hb : mb "super" = bootBuiltins "super") (hx : s.heap.get? x = some (excO C t0)) (hnx : K.lookup x = none) (hroom : A.depth < recursionLimit)
    (hq : ∀ h' tk dx t1, NpEnd s.heap h' x C dx t1 v → R (.ok (.ret .none)) { s with heap := h', toks := tk }) :
    codeAny (model prog w) A (.call (.ref fI) ⟨[.ref x, v], []⟩) R s := by
  obtain ⟨oc, od, doc, pm, an, cda, cc, ct, osl, ho, hcd, ⟨ccl, cdd, fvs, ccs, file, tf, hcode, hvs, hfile⟩, ⟨cl, cld, csl, hcell⟩⟩ := T.fn
  obtain ⟨nm, q, N, bs, sn, sub, ab, col, dd, k0, k1, k2, k3, k5, hC⟩ := T.cls
  have hcl : clsIn K C = some { name := nm, bases := bs, mro := .ref C :: leTail, ns := N, qualname := q, hasDict := true, slotNames := sn, subclasses := sub, abstract := ab, collection := col, hasDel := false } := by unfold clsIn; rw [hC] <;> rfl
  have hov : excOver K C leTail = true := by
    unfold excOver
    rw [hcl, Option.any_some]
    show (C == C && excTail leTail leTail) = true
    rw [beq_self_eq_true, Bool.true_and]
    decide +kernel
  have hxC : x ≠ C := fun z => by rw [z, hC] at hnx; cases hnx
  refine ks_codeAny_call_defAt (fd := ksFn "__init__" "NoPlace.__init__" npA npB npS .none .none doc pm an (.ref cda) ct cc) (binds := [("self", .ref x), ("number", v)]) hroom (X _ _ ho) rfl hlim (codeRec_of X hcd) rfl
    (BindsTo.of_eq (by first | rfl | with_unfolding_all rfl)) (by show ∀ x ∈ npS.names, x.2 ≠ .cell; decide) (by first | decide | (intro y hy; simp at hy; rcases hy with rfl | rfl <;> rfl)) (fun h₁ hn k => ?_) rfl rfl rfl
  obtain ⟨hh, gn, dr, tk, os⟩ := s
  have X₁ : K.In h₁ := X.keeps k
  have hx₁ := k _ _ hx
  have hfo₁ := k _ _ (X _ _ ho)
  show _root_.PySem.wpAt (model prog w) (A.deeper (ksEnv "NoPlace.__init__" npS hh.objs.size fI (.ref cda) cc)) (.func npB (ksEnv "NoPlace.__init__" npS hh.objs.size fI (.ref cda) cc)) (execs npB (ksEnv "NoPlace.__init__" npS hh.objs.size fI (.ref cda) cc)) _ _ _
  refine ks_wpAt_execs_cons (ks_wpAt_Expr_any (ks_wpAt_MethodCall ?_))
  refine ks_wpAt_super_base (by rfl) (by rfl) (by decide) rfl hfo₁ rfl (ar := npSelf) rfl rfl (X₁ _ _ hcode) rfl hvs hfile T.top ?_
  refine ks_loadName_global (by rfl) (by rfl) (loadGlobal_builtin (env := ksEnv "NoPlace.__init__" npS hh.objs.size fI (.ref cda) cc) (hG.keeps k) T.gS (hB.keeps k) (hb.trans T.boot) ⟨rfl, ?_⟩)
  refine wpAny_loadName_free (by rfl) (by rfl) rfl ⟨_, X₁ _ _ hcell, rfl⟩ ?_
  refine wpAny_loadName_local (v := .ref x) (by rfl) (by rfl) hn (by first | rfl | with_unfolding_all rfl | kernel_rfl) ?_
  refine ks_wpAny_isType_cls (X₁ _ _ hC) rfl ⟨rfl, ?_⟩
  refine ks_wpAny_call_super (X₁ _ _ hC) rfl hx₁ rfl (fun c e => by cases e) (looks_mroIn X₁ T.slf) (fun h₂ hso k₂ => ?_)
  have X₂ : K.In h₂ := X₁.keeps k₂
  have hx₂ := k₂ _ _ hx₁
  have hI : InstAt h₂ x (excO C t0) C none := ⟨hx₂, rfl, rfl, trivial⟩
  have hal : alongIn K "__init__" leTail = some (some (.builtin "LookupError.__init__")) := by
    have z := T.sup
    unfold ks_superIn at z
    rw [hcl] at z
    have dz : ((Value.ref C :: leTail).dropWhile (· != .ref C)).drop 1 = leTail := ESX.drop_own C leTail
    have z' : alongIn K "__init__" (((Value.ref C :: leTail).dropWhile (· != .ref C)).drop 1) = some (some (.builtin "LookupError.__init__")) := z
    rw [dz] at z'
    exact z'
  have hmr : Looks (model prog w) h₂ (mroOf (.ref C)) (.ref C :: leTail) := fun A Q E s k q => wpAny_bind ((looks_clsIn X₂ hcl) A _ E s k (wpAny_pure q))
  refine kxs_getMethod kxs_LookupError hso (looks_opaque X₂ T.opq) hmr (ESX.drop_own C leTail) X₂ hal (hI.type.andThen (looks_subIn X₂ T.leC)) hxC (by decide) ?_
  have k₃ : ∀ b o, h₂.get? b = some o → (h₂.push (kxs_mw "LookupError.__init__" x)).get? b = some o := fun b o e => Heap.get?_push_of_some _ e
  have hu₃ : (h₂.push (kxs_mw "LookupError.__init__" x)).get? h₂.objs.size = some (kxs_mw "LookupError.__init__" x) := Heap.get?_push_at rfl rfl
  have hn₃ : (h₂.push (kxs_mw "LookupError.__init__" x)).Ns hh.objs.size (fun y => [(("self" : Str), Value.ref x), (("number" : Str), v)].reverse.lookup y) := (hn.keeps k₂).keeps k₃
  refine np_callWith (i := "LookupError.__init__") (x := x) ?_
  refine np_args1 (ldX (v := v) hn₃ (by first | rfl | with_unfolding_all rfl | kernel_rfl) ⟨hu₃, ?_⟩)
  have X₃ := X₂.keeps k₃
  refine call_mw F.excBase_LookupError (X₃ _ _ hC) (k₃ _ _ hx₂) hu₃ (np_one v) fun h₄ t1 k₄ hx₄ => ?_
  have xL : hh.objs.size ≠ x := Nat.ne_of_gt (Heap.lt_size hx)
  have hn₄ : h₄.Ns hh.objs.size (fun y => [(("self" : Str), Value.ref x), (("number" : Str), v)].reverse.lookup y) := by
    obtain ⟨oL, es, ep, hL, r⟩ := hn₃
    exact ⟨oL, es, ep, k₄ _ _ xL hL, r⟩
  have X₄ : K.In h₄ := fun a o e => k₄ a o (fun z => by rw [z, hnx] at e; cases e) (X₃ a o e)
  refine wpAt_of_wpAny ?_
  show wpAny _ _ (execs _ _) _ _ _
  refine wpAny_execs_cons (plainObj_wpAny_Assign_Attribute ?_)
  refine ldX (v := v) hn₄ (by first | rfl | with_unfolding_all rfl | kernel_rfl) (ldX (v := .ref x) hn₄ (by first | rfl | with_unfolding_all rfl | kernel_rfl) ?_)
  refine set_plain X₄ (ox := excO C t1) (od := none) ⟨hx₄, rfl, rfl, trivial⟩ T.sa ?_
  refine exc_osaX F.store_LookupError X₄ hx₄ hcl hov rfl T.noN (fun h₅ tk₅ dx k₅ dn dne hx₅ hn₅ => ?_)
  show wpAny _ _ (execs _ _) _ _ _
  have z : hh.objs.size < h₄.objs.size := hn₄.lt
  exact wpAny_execs_nil (hq h₅ tk₅ dx t1 ⟨fun b o hb e => k₅ b o hb (k₄ b o hb (k₃ b o (k₂ b o (k b o e)))), Nat.le_of_lt (Nat.lt_of_lt_of_le z dn) |> fun _ => hx₅, Nat.le_of_lt (Nat.lt_of_lt_of_le z dn), dne, hn₅⟩)
theorem np_made (T : NpTxt prog K mg C fI) {v : Value} (X : K.In s.heap) (hlim : s.heap.NoLimit) (hG : s.heap.Ns mainGlobals mg) (hB : s.heap.Ns builtinsNs mb) (hb : mb "super" = bootBuiltins "super") (hroom : A.depth + 1 < recursionLimit)
    (hq : ∀ h' tk e d, NpMade s.heap h' e C d v → R (.ok (.ret (.ref e))) { s with heap := h', toks := tk }) :
    codeAny (model prog w) A (.call (.ref C) ⟨[v], []⟩) R s := by
  obtain ⟨nm, q, N, bs, sn, sub, ab, col, dd, k0, k1, k2, k3, k5, hC⟩ := T.cls
  obtain ⟨hp, g, dr, tk, os⟩ := s
  have k : ∀ b o, hp.get? b = some o → ((hp.push (kdv_tup [v])).push (excO C hp.objs.size)).get? b = some o := fun b o e => Heap.get?_push_of_some _ (Heap.get?_push_of_some _ e)
  have hget : ((hp.push (kdv_tup [v])).push (excO C hp.objs.size)).get? (hp.objs.size + 1) = some (excO C hp.objs.size) := by heap_get
  have hnx : K.lookup (hp.objs.size + 1) = none := by
    cases e : K.lookup (hp.objs.size + 1) with
    | none => rfl
    | some o =>
      have z : hp.get? (hp.objs.size + 1) = some o := X _ _ e
      exact absurd (Nat.lt_of_succ_lt (Heap.lt_size z)) (Nat.lt_irrefl _)
  refine PySem.HandSPX.call_own F.excBase_LookupError (fun _ => rfl) (X _ _ hC) (looks_findIn X T.iC) (fun self => bind_fn X self T.tC) (np_one v) ?_
  refine np_init (s := ⟨(hp.push (kdv_tup [v])).push (excO C hp.objs.size), g, dr, tk, os⟩) T (X.keeps k) (hlim.keeps k) (hG.keeps k) (hB.keeps k) hb hget hnx ?_ fun h' tk' dx t1 ⟨k', hx, dn, dne, hns⟩ => ?_
  · show A.depth + 1 < recursionLimit
    exact hroom
  · have old : ∀ b o, hp.get? b = some o → h'.get? b = some o := fun b o e => k' b o (Nat.ne_of_lt (Nat.lt_succ_of_lt (Heap.lt_size e))) (k b o e)
    have z : hp.objs.size + 1 + 1 ≤ dx := by
      first
        | (simpa only [Heap.size_push] using dn)
        | exact dn
        | (have q := dn; rw [Heap.size_push, Heap.size_push] at q; exact q)
    exact ⟨rfl, hq h' tk' (hp.objs.size + 1) dx ⟨old, Nat.le_succ _, ⟨_, _, hx, rfl, rfl, rfl, rfl⟩, Nat.le_trans (Nat.le_trans (Nat.le_succ _) (Nat.le_succ _)) z, dne, hns⟩⟩
end
theorem relO_np {v : V} {v' : Value} (r : RelV v v') (f : Str) : RelO (List.lookup f [(("number" : Str), v)]) (if f = "number" then some v' else none) := by
  by_cases hw : f = "number"
  · subst hw
    rw [if_pos rfl]
    have q : List.lookup ("number" : Str) [(("number" : Str), v)] = some v := by simp [List.lookup]
    rw [q]
    exact r
  · rw [if_neg hw]
    have qw : (f == ("number" : Str)) = false := by simpa using hw
    have q2 : List.lookup f [(("number" : Str), v)] = none := by simp [List.lookup, qw]
    rw [q2]
    trivial
/-- NoPlace(e) is made -/
theorem np_ok {P : Program} {w : World} {K : Frag} {mg : Str → Option Value} {base : Heap} {C fI : Addr} (T : NpTxt P K mg C fI) : NPok P w K mg base C := by
  intro X hP hw hK hm hb hr hg a ta p pos ha he
  subst hP hw hK hm hb
  intro pins s σ H Q I h
  refine wpAny_Call_Name_kw (ld_glob I hg T.gC ?_)
  refine callWith_K (h₀ := X.base) I.ok.mod.kin T.kC (thn (ha.run pos pins s σ H _ I h) fun us s1 hh => ?_) he rfl
  obtain ⟨vs, H1, I1, r1, v, ev, q1⟩ := hh
  subst ev
  refine ⟨I1.kIn, ?_⟩
  cases r1 with
  | cons rv rn =>
    rename_i v' us'
    cases rn
    show wpAny _ _ (call (.ref C) [v']) _ _ _
    have hlim := I1.nolimit
    obtain ⟨mb, hmb, hbb⟩ := I1.mod.blt
    have hG := I1.mod.glob.keeps I1.bk
    have hB := hmb.keeps I1.bk
    obtain ⟨hp, g, dr, tk, os⟩ := s1
    refine wpAny_call (np_made T I1.kIn hlim hG hB (hbb _ (by decide)) (by have := hr.dp; omega) fun h' tk' e d M => ?_)
    show MkP X pins σ Q (.ref e) ⟨h', g, dr, tk', os⟩
    obtain ⟨oe, fv, hoe, hc, hd, hdat, h1⟩ := M.obj
    have hns := M.ns
    obtain ⟨G', g1, g2⟩ := restrict h' fun b => decide (b ≠ e)
    have gk : ∀ b, b ≠ e → G'.get? b = h'.get? b := fun b hb => g1 b (decide_eq_true hb)
    have ge : G'.get? e = none := g2 e (by simp)
    have old : ∀ b o, hp.get? b = some o → G'.get? b = some o := fun b o q => (gk b (Nat.ne_of_lt (Nat.lt_of_lt_of_le (Heap.lt_size q) M.new))).trans (M.keep b o q)
    have ob : ObjOk X.prog X.w (upd H1 d (.xd [(("number" : Str), v)])) G' d (.xd [(("number" : Str), v)]) :=
      ⟨_, hns.at (fun o q => (gk d M.dne).trans q), fun f => relO_np rv f⟩
    have J : Inv X pins σ (upd H1 d (.xd [(("number" : Str), v)])) ⟨G', g, dr, tk', os⟩ := I1.laid (t' := tk') old M.dbig ob
    refine ⟨e, oe, fv, ⟨G', g, dr, tk', os⟩, _, .ref C, some d, rfl, J, fun b o q => ?_, ge, hoe, ⟨hc, hd⟩, hdat, h1, ?_, rfl, I1.bare, raises_own T.exC T.tyC, q1 d (I1.hok.fresh M.dbig)⟩
    · by_cases hb : b = e
      · have q' : G'.get? b = some o := q
        rw [hb, ge] at q'; cases q'
      · exact (gk b hb).symm.trans q
    · rw [upd_ne (Ne.symm M.dne)]
      exact I1.hok.fresh M.new
end SK
set_option maxHeartbeats 2000000
namespace SK
open PySem PySem.Spec PyProof.Rows L2 PySem.W PySem.Calls
abbrev veTailX : List Value := [.type "ValueError", .type "Exception", .type "BaseException", .type "object"]
/-- what the written part says of CanNot, at C -/
structure CnTxt (K : Frag) (mg : Str → Option Value) (C : Addr) : Prop where
  gC : mg "CanNot" = some (.ref C)
  q : excIn K C veTailX "ValueError.__new__" = true
  kC : keepIn K (.ref C) = true
  exC : subIn K (.ref C) (.type "BaseException") = some true
  tyC : typeIn K (.ref C) = some (.type "type")
  te : exmOne K (.ref C) (.ref C) = some true
theorem cn_ok {P : Program} {w : World} {K : Frag} {mg : Str → Option Value} {base : Heap} {C : Addr} (T : CnTxt K mg C) : CNok P w K mg base C := by
  intro X hP hw hK hm hb hr hg p pos
  subst hP hw hK hm hb
  intro pins s σ H Q I h
  refine wpAny_Call_Name_kw (ld_glob I hg T.gC ?_)
  refine callWith_K0 I.kIn T.kC ?_
  show wpAny _ _ (call (.ref C) []) _ _ _
  obtain ⟨bm, N, nm, qn, bs, hdct, sn, sub, ab, col, dd, k0, k1, k2, k3, k5, mN, hC, hN, hni, TT⟩ := exc_obj I.kIn T.q
  refine wpAny_call_exc_subT F.excBase_ValueError TT hC hN hni (fun h' e hm => ?_) (by rw [sizeLine_eq]; exact (by decide : 0 ≤ 16777216))
  exact mk_of I hm (raises_own T.exC T.tyC) h (I.hok.gone hm.new)
end SK
set_option maxHeartbeats 4000000
namespace SK
open PySem PySem.Spec PyProof.Rows L2 SKM
/-! ### try with several clauses that name the exception -/
def wManyAs (K : PySem.W.Frag) (i : Nat) (Wout : WX) (D : Ends) : List (Value × (Addr → Value → Option Addr → TS)) → WX
  | [] => Wout
  | (c, ts) :: r => fun cls d σ H => ∃ b, PySem.W.exmOne K cls c = some b ∧
    (b = true → ∀ a, H a = none → ts a cls d { nx := fun σ' H' => D.nx (σ'.set i none) H', rt := D.rt, bk := fun σ' H' => D.bk (σ'.set i none) H', ct := fun σ' H' => D.ct (σ'.set i none) H' } (σ.set i (some (.ref a))) H) ∧ (b = false → wManyAs K i Wout D r cls d σ H)
inductive HdsAs (X : Cx) (n : Str) : List ExceptHandler → List (Value × (Addr → Value → Option Addr → TS)) → Prop
  | nil : HdsAs X n [] []
  | cons {x : Str} {c : Value} {ts : Addr → Value → Option Addr → TS} {b₀ : Stmt} {suite : List Stmt} {np pos' : Pos} {hds : List ExceptHandler} {l : List (Value × (Addr → Value → Option Addr → TS))} (hc : Names X x c)
      (hsu : ∀ (a : Addr) (oe : Obj) (cls : Value) (d : Option Addr) (pn : List (Addr × Obj)), Zc cls d oe → (∃ vs, oe.data = .fields vs) → PSs (X.suite a ((a, oe) :: pn)) (b₀ :: suite) (ts a cls d)) (r : HdsAs X n hds l) :
      HdsAs X n (.ExceptHandler (some (.Name x np)) (some n) (b₀ :: suite) pos' :: hds) ((c, ts) :: l)
section
variable {X : Cx} {body : List Stmt} {h₀ : ExceptHandler} {hds : List ExceptHandler} {l : List (Value × (Addr → Value → Option Addr → TS))} {pos : Pos} {tb : WX → TS} {Wout : WX} {i : Nat} {n : Str}
theorem ps_try_many_as (hs : X.stack = X.env :: X.outer) (hf : X.env.frame = some X.env.locals) (hN : X.N.Nodup) (hi : X.N[i]? = some n) (hln : X.env.kindOf n = some .local) (tk : Takes X Wout)
    (hb : ∀ (W : WX) (pn : List (Addr × Obj)) (xe : Value → Shared → Prop), Takes (X.tr pn xe) W → PassesOwn (model X.prog X.w) X.A X.env xe → PSs (X.tr pn xe) body (tb W))
    (hh : HdsAs X n (h₀ :: hds) l) : PS X (.Try body (h₀ :: hds) [] [] pos) (fun D σ H => tb (wManyAs X.K i Wout D l) D σ H) := by
  refine ⟨fun pins s σ H D I h => ?_⟩
  have ok := I.ok
  have hfr : X.A.frames = some (X.env :: X.outer) := by rw [ok.frames, hs]
  have hloc : Loc X.env.scope n := .inl hln
  refine wpAny_Try_except ?_
  refine wpAny_mono ((hb (wManyAs X.K i Wout D l) (X.pn ++ pins) (fun e s₁ => wpAny (model X.prog X.w) X.A (noteFrame e X.env) (fun _ s₂ => wpAny (model X.prog X.w) X.A (setFlight e none) (fun _ s₃ =>
    wpAny (model X.prog X.w) X.A (handleBy e X.env (h₀ :: hds)) (SP X pins D) X.xe s₃) X.xe s₂) X.xe s₁) (fun u s' xx => ?_) PassesOwn.looking).run [] s σ H D (I.toTry _) h) (fun f s1 hsp => ?_) (fun e s1 he => he)
  · -- the catch
    obtain ⟨a, B, sI, pins', σ', H', cls, d, rfl, J', nb, up, sky, na, os, ag, w⟩ := xx
    have J : Inv X pins σ' H' sI := J'.ofTry ok
    have sky' : Sky B (X.env :: X.outer) a (Zc cls d) X.env.locals s'.heap := by rw [← hs]; exact sky
    show wpAny (model X.prog X.w) X.A (noteFrame (.ref a) X.env) _ _ _
    refine Sky.land Zc.steady hfr hf sky' fun h3 fl3 up3 => ?_
    have J3 : Inv X pins σ' H' { s' with heap := h3 } := J.landed nb fl3.1 (up.trans up3) os ag
    obtain ⟨oe3, vs3, he3, hz3, hd3⟩ := fl3.there
    have notFr : ∀ {h : Heap} {o : Obj} {vs : Array Value}, h.FunFrames B (X.env :: X.outer) → h.get? a = some o → o.data = .fields vs → a ∉ frs (X.env :: X.outer) := fun {h o vs} ff e dd hm => by
      obtain ⟨_, o', e', hnf⟩ := ff.mem hm
      rw [e] at e'; cases e'
      exact hnf _ dd
    have nfr := notFr fl3.2.2.1 he3 hd3
    have nL : a ≠ X.env.locals := fun z => nfr (List.mem_filterMap.mpr ⟨X.env, List.mem_cons_self, by rw [hf, z]⟩)
    have nF : a ∉ X.fs := fun hm => by
      obtain ⟨e, he, q⟩ := List.mem_filterMap.mp hm
      exact nfr (List.mem_filterMap.mpr ⟨e, List.mem_cons_of_mem _ he, q⟩)
    have S3 := J3.suite he3 hd3 na nL nF
    have go : ∀ {hds' : List ExceptHandler} {l' : List (Value × (Addr → Value → Option Addr → TS))}, HdsAs X n hds' l' → wManyAs X.K i Wout D l' cls d σ' H' →
        wpAny (model X.prog X.w) X.A (handleBy (.ref a) X.env hds') (SP X pins D) X.xe { s' with heap := h3 } := by
      intro hds' l' hk
      induction hk with
      | nil =>
        intro w
        refine wpAny_handleBy_nil ?_
        obtain ⟨k1, k2, k3, oe, vs, T, oT, ts', he, hz, hd, h1, hr⟩ := id fl3
        unfold PySem.passOn
        refine wpAny_bind (wpAny_field he hd h1 ?_)
        rw [if_neg (show ¬ ((Value.ref T == Value.none) = true) from by simp)]
        have fin : wpAny (model X.prog X.w) X.A (setFlight (.ref a) X.env.frame) (fun _ s4 => wpAny (model X.prog X.w) X.A (throw (.ref a) : Sem Flow) (SP X pins D) X.xe s4) X.xe { s' with heap := h3 } := by
          rw [hf]
          refine HandSPX.setFlight_upZ fl3 fun h4 hh4 up4 => wpAny_throw (tk _ _ ?_)
          exact ⟨a, B, sI, pins, σ', H', cls, d, rfl, J, nb, (up.trans up3).trans up4, .inr (.inr (by rw [hs]; exact hh4)), na, os, ag, w⟩
        first
          | exact wpAny_bind (wpAny_pure (wpAny_bind fin))
          | exact wpAny_bind fin
      | @cons x c ts b₀ suite np pos' hds2 l2 hc hsu r ih =>
        intro w
        obtain ⟨b, hb1, hyes, hno⟩ := w
        refine wpAny_handleBy_cons (codeAny_handlers_test ?_) (by intro q; cases q)
        have LT : PySem.W.Looks (model X.prog X.w) h3 (typeOf (.ref a)) cls := fun A Q E s k q => wpAny_typeOf_ref (k _ _ he3) (by rw [hz3.1]; exact q)
        have LM := PySem.W.exm_one (M := model X.prog X.w) (J3.kIn) LT hb1
        have test : ∀ {Q : Value → Shared → Prop} {E : Value → Shared → Prop}, Q c { s' with heap := h3 } → wpAny (model X.prog X.w) (X.A.mark (some (.ref a))) (eval (.Name x np) X.env) Q E { s' with heap := h3 } := fun {Q E} q => by
          obtain ⟨hg, hdbg, hm | ⟨hm, hv, hnn⟩⟩ := hc
          · exact ld_glob (X := X.suite a ((a, oe3) :: (X.pn ++ pins))) S3 hg hm q hdbg
          · exact ld_blt (X := X.suite a ((a, oe3) :: (X.pn ++ pins))) S3 hg hm hv q hnn hdbg
        refine test (LM.here ?_)
        cases b with
        | true =>
          refine codeAny_handlers_suite_as ?_
          refine HandSPX.lands_againZ fl3 fun h4 fl4 up4 => ?_
          have J4 : Inv X pins σ' H' { s' with heap := h4 } := J.landed nb fl4.1 ((up.trans up3).trans up4) os ag
          obtain ⟨oe4, vs4, he4, hz4, hd4⟩ := fl4.there
          have S4 := J4.suite he4 hd4 na nL nF
          refine store_ok (X := X.suite a ((a, oe4) :: (X.pn ++ pins))) (v := .ref a) S4 hN hi hloc rfl (fun s5 S5 => ?_) (.inr hln)
          refine wpAny_mono ((hsu a oe4 cls d (X.pn ++ pins) hz4 ⟨_, hd4⟩).run [] s5 _ H' _ S5 (hyes rfl a na)) (fun f s6 hsp => ?_) (fun _ _ z => False.elim z)
          have end_ : ∀ {σ6 : L2.St} {H6 : Hp} {Q : Shared → Prop}, Inv (X.suite a ((a, oe4) :: (X.pn ++ pins))) [] σ6 H6 s6 → (∀ s7, Inv X pins (σ6.set i none) H6 s7 → Q s7) →
              wpAny (model X.prog X.w) X.A (do bindName X.env n .none; unbindBehindTheSuite X.env n pos') (fun _ s7 => Q s7) X.xe s6 := fun {σ6 H6 Q} S6 hq => gone_ok (S6.unsuite ok) hN hi hln hq
          cases f with
          | next =>
            obtain ⟨σ6, H6, S6, q6⟩ := hsp
            exact end_ S6 fun s7 J7 => ⟨_, _, J7, q6⟩
          | brk =>
            obtain ⟨σ6, H6, S6, q6⟩ := hsp
            exact end_ S6 fun s7 J7 => ⟨_, _, J7, q6⟩
          | cont =>
            obtain ⟨σ6, H6, S6, q6⟩ := hsp
            exact end_ S6 fun s7 J7 => ⟨_, _, J7, q6⟩
          | ret u =>
            obtain ⟨v6, σ6, H6, S6, r6, q6⟩ := hsp
            exact end_ S6 fun s7 J7 => ⟨_, _, _, J7, r6, q6⟩
        | false =>
          show wpAny _ X.A (handleBy (.ref a) X.env hds2) _ _ _
          exact ih (hno rfl)
    exact go hh w
  · cases f with
    | next =>
      obtain ⟨σ', H', J', q⟩ := hsp
      exact wpAny_execs_nil ⟨σ', H', J'.ofTry ok, q⟩
    | brk =>
      obtain ⟨σ', H', J', q⟩ := hsp
      exact ⟨σ', H', J'.ofTry ok, q⟩
    | cont =>
      obtain ⟨σ', H', J', q⟩ := hsp
      exact ⟨σ', H', J'.ofTry ok, q⟩
    | ret u =>
      obtain ⟨v, σ', H', J', r, q⟩ := hsp
      exact ⟨v, σ', H', J'.ofTry ok, r, q⟩
end
/-! ### the caught error read -/
def tByNum (C : Addr) (a : Addr) (cls : Value) (d : Option Addr) (te : TE) : TE := fun σ H Q => te σ H fun x H1 => x = .ref a ∧ cls = .ref C ∧ ∃ (dd : Addr) (v : V), d = some dd ∧ H1 dd = some (.xd [(("number" : Str), v)]) ∧ Q v H1
section
variable {X : Cx} {C fI : Addr}
theorem pe_byNum {P : Program} {a : Addr} {oe : Obj} {cls : Value} {d : Option Addr} {pn : List (Addr × Obj)} {e : Expr} {te : TE} {pos : Pos} (T : NpTxt P X.K X.mg C fI) (hz : Zc cls d oe) (hf : ∃ vs, oe.data = .fields vs) (he : PE (X.suite a ((a, oe) :: pn)) e te)
    (hb : attributeBase e "number" X.env (eval e X.env) = eval e X.env := by rfl) :
    PE (X.suite a ((a, oe) :: pn)) (.Attribute e "number" pos) (tByNum C a cls d te) := by
  refine ⟨fun pins s σ H Q I h => ?_⟩
  refine attr_of hb (thn (he.run pins s σ H _ I h) fun u s1 hh => ?_)
  obtain ⟨x, H1, I1, rx, ex, ec, dd, v, ed, ea, q⟩ := hh
  subst ex
  obtain rfl : u = Value.ref a := rx
  subst ec
  subst ed
  obtain ⟨ha, _⟩ := I1.pin (a, oe) (List.mem_append_left _ List.mem_cons_self)
  obtain ⟨vs, hd⟩ := hf
  have hx : ObjOk X.prog X.w H1 s1.heap dd (.xd [(("number" : Str), v)]) := I1.hok dd _ ea
  obtain ⟨mA, hns, hr⟩ := hx
  obtain ⟨od, ho, hl⟩ := lookIn_ns hns
  have l : List.lookup ("number" : Str) [(("number" : Str), v)] = some v := by simp [List.lookup]
  obtain ⟨u, hu, ru⟩ := RelO.some_of (v := v) (o := mA "number") (by rw [← l]; exact hr "number")
  have J : PySem.W.InstAt s1.heap a oe C (some od) := ⟨ha, hz.1, by unfold PySem.W.notCls; rw [hd] <;> rfl, by rw [hz.2]; exact ho⟩
  exact HandSPX.exc_get I1.kIn J T.ga T.gg T.exC (PySem.W.findObj_own T.hdC T.noN rfl (by rw [hl, hu])) (handed_of ru) ⟨v, H1, I1.tok _, ru, q⟩
/-- isinstance(e, c), e the exception that the suite holds, whatever its dict -/
theorem call_isE2 {a D : Addr} {oe : Obj} {d : Option Addr} {pn : List (Addr × Obj)} (C : ExcC X.K D) (hz : Zc (.ref D) d oe) (hf : ∃ vs, oe.data = .fields vs) :
    CallR (X.suite a ((a, oe) :: pn)) (.builtin "isinstance") (fun xs H Q => (∀ dd, d = some dd → ∃ fs, H dd = some (.xd fs)) ∧ rIsE X.K D a xs H Q) := by
  intro pins s σ H xs us Q I r h
  obtain ⟨hdd, c, cv, b, rfl, hcv, e, q⟩ := h
  cases r with
  | cons rx rr =>
    cases rr with
    | cons rt rr =>
      cases rr
      cases rx
      have ec := hcv _ rt
      subst ec
      obtain ⟨hget, _⟩ := I.pin (a, oe) (List.mem_append.mpr (.inl List.mem_cons_self))
      obtain ⟨vs, hv⟩ := hf
      have J : ∃ od, PySem.W.InstAt s.heap a oe D od := by
        obtain ⟨oc, od, oda, osl⟩ := oe
        obtain ⟨h1, h2⟩ := hz
        dsimp only at h1 h2 hv
        subst h1 h2 hv
        cases od with
        | none => exact ⟨none, hget, rfl, rfl, trivial⟩
        | some dd =>
          obtain ⟨fs, hfs⟩ := hdd dd rfl
          obtain ⟨mA, hns, hr⟩ : ObjOk X.prog X.w H s.heap dd (.xd fs) := I.hok dd _ hfs
          obtain ⟨od, ho, hl⟩ := lookIn_ns hns
          exact ⟨some od, hget, rfl, rfl, ho⟩
      obtain ⟨od, J⟩ := J
      have hcl : (PySem.W.clsIn X.K D).isSome = true := by obtain ⟨cd, hc, _⟩ := PySem.W.any_some C.hd; rw [hc]; rfl
      exact PySem.W.kia_one (PySem.W.kitx_exc hcl C.hg C.hk C.hs C.ha C.hn C.ht C.hm) I.kIn J e (fun z => nomatch z) fun tk => ⟨.bl b, H, I.kept (t' := tk) fun _ _ z => z, rfl, q⟩
end
section
variable {P : Program} {w : World} {K : PySem.W.Frag} {mg : Str → Option Value} {base : Heap}
/-- .. for a def that lets nothing out, with a try -/
theorem At.fnT {x : Str} {st : Stmt} {f : Addr} {fd : FuncData} {ps N : List Str} {k : Nat} {sp : Sp} (a : At K mg x st f fd ps) (S : FnScope N ps (defScope st)) (len : ∀ vs H Q E, sp vs H Q E → vs.length = ps.length)
    (body : ∀ (A : Around) (X : Cx) (H : Hp) (vs : List V) (Q : VK) (E : XK), Own (ctOf P w K mg base N st A) X → X.stack = X.env :: X.outer → X.env.frame = some X.env.locals → Room k A → sp vs H Q E →
      SS X (defBody st) { nx := fun _ H' => Q .non H', rt := Q } (start N vs) H) : Fn1 P w K mg base CX0 (k + 1) x ps sp :=
  fn1_of (a.F.ok S len fun cdv A outer s H vs Q E hr h =>
    body (A.deeper (envOfC x (defScope st) s.heap.objs.size f cdv)) _ H vs Q E ⟨⟨rfl, rfl, rfl, rfl, rfl, rfl, rfl, rfl, rfl, fun _ _ => rfl⟩, rfl, S.nd, PassesOwn.never⟩ rfl rfl hr h) a.m a.F.kp a.bl
end
section
variable {X : Cx} {c : Ct} {σ : L2.St} {H : Hp} {e : Expr} {es : List Expr} {pos : Pos}
/-- f(e, ..), f any expression that gives a def -/
theorem ex_callF {W : WX} {func : Expr} {Q : VK} (hX : c.In X) (tk : Takes X W)
    (h : ES c func σ H fun v H1 => ∃ (fa : Addr) (fd : FuncData) (k : Nat) (ps : List Str) (sp : Sp), v = .ref fa ∧ FnOk c.P c.w c.K c.mg c.base (L2.CX c.P c.w) k fa fd ps sp ∧ PySem.W.keepIn c.K (.ref fa) = true ∧ Binds c.K fd ps [] ∧ Room k c.A ∧ AX X (e :: es) σ H1 fun vs H2 => sp vs H2 Q (WE W σ))
    (hc : eval (.Call func (e :: es) [] pos) X.env = (do callWith pos (← eval func X.env) [] (backTo pos (starEach (e :: es) X.env)) (backToKw pos (keywordEach [] X.env))) := by rfl)
    (he : starEach (e :: es) X.env = (false, eval e X.env) :: starEach es X.env := by rfl) (hpl : (backTo pos (starEach es X.env)).any (·.1) = false := by rfl) : EX X (.Call func (e :: es) [] pos) σ H Q := by
  refine ⟨fun σ H Q => ES c func σ H fun v H1 => ∃ (fa : Addr) (fd : FuncData) (k : Nat) (ps : List Str) (sp : Sp), v = .ref fa ∧ FnOk c.P c.w c.K c.mg c.base (L2.CX c.P c.w) k fa fd ps sp ∧ PySem.W.keepIn c.K (.ref fa) = true ∧ Binds c.K fd ps [] ∧ Room k c.A ∧ AX X (e :: es) σ H1 fun vs H2 => sp vs H2 Q (WE W σ),
    ⟨fun pins s σ H Q I h => ?_⟩, h⟩
  refine Call_ (thn ((ES.any hX func).run pins s σ H _ I h) fun u s1 ⟨v, H1, I1, rv, fa, fd, k, ps, sp, ev, F, hk, hb, hr, q⟩ => ?_) hc
  subst ev
  cases rv
  rw [← hX.P, ← hX.w, ← hX.K, ← hX.mg, ← hX.base] at F
  rw [← hX.K] at hk hb
  refine PySem.W.callWith_K (h₀ := X.base) I1.ok.mod.kin hk (thn ((AX.any X (e :: es)).run pos pins s1 σ H1 _ I1 q) fun us s2 ⟨vs, H2, I2, r2, q2⟩ => ⟨I2.kIn, ?_⟩) he hpl
  exact run_fnS (E := WE W) F (by rw [hX.A]; exact hr) hb (passAt tk σ) I2 r2 q2
end
end SK
set_option maxHeartbeats 4000000
namespace SK
open PySem PySem.Spec PyProof.Rows L2 SKM
def sSuite (X : Cx) (suite : List Stmt) : Addr → Value → Option Addr → TS := fun a cls d D σ H => ∀ oe pn, Zc cls d oe → (∃ vs, oe.data = .fields vs) → SS (X.suite a ((a, oe) :: pn)) suite D σ H
theorem ss_tryAs2 {X : Cx} {c : Ct} {rest body s1 s2 : List Stmt} {b1 b2 : Stmt} {D : Ends} {σ : L2.St} {H : Hp} {n x1 x2 : Str} {c1 c2 : Value} {np1 np2 p1 p2 pos : Pos} (i : Nat) (hX : Own c X) (hs : X.stack = X.env :: X.outer) (hf : X.env.frame = some X.env.locals)
    (h1 : Names X x1 c1) (h2 : Names X x2 c2)
    (q : ∀ pn xe, Takes (X.tr pn xe) (wManyAs X.K i (fun _ _ _ _ => False) { D with nx := fun σ' H' => SS X rest D σ' H' } [(c1, sSuite X (b1 :: s1)), (c2, sSuite X (b2 :: s2))]) → PassesOwn (model X.prog X.w) X.A X.env xe → SS (X.tr pn xe) body { D with nx := fun σ' H' => SS X rest D σ' H' } σ H)
    (hi : c.N[i]? = some n := by rfl) (hx : c.sc.names.lookup n = some .local := by rfl) :
    SS X (.Try body [.ExceptHandler (some (.Name x1 np1)) (some n) (b1 :: s1) p1, .ExceptHandler (some (.Name x2 np2)) (some n) (b2 :: s2) p2] [] [] pos :: rest) D σ H :=
  ss_cons (ps_try_many_as (i := i) (l := [(c1, sSuite X (b1 :: s1)), (c2, sSuite X (b2 :: s2))]) (Wout := fun _ _ _ _ => False) (tb := fun W D σ H => ∀ pn xe, Takes (X.tr pn xe) W → PassesOwn (model X.prog X.w) X.A X.env xe → SS (X.tr pn xe) body D σ H)
    hs hf (by rw [hX.i.N]; exact hX.nd) (by rw [hX.i.N]; exact hi) (by show X.env.scope.names.lookup n = some .local; rw [hX.i.sc]; exact hx) takes_none5 (fun W pn xe tk po => ⟨fun pins s σ H D I q => (SS.any _ _).run pins s σ H D I (q pn xe tk po)⟩)
    (.cons h1 (fun a oe cls d pn hz hf => ⟨fun pins s σ H D I q => (SS.any _ _).run pins s σ H D I (q oe pn hz hf)⟩) (.cons h2 (fun a oe cls d pn hz hf => ⟨fun pins s σ H D I q => (SS.any _ _).run pins s σ H D I (q oe pn hz hf)⟩) .nil))) q
/-- the two error classes, as _law_asked reads them -/
structure AskT (P : Program) (K : PySem.W.Frag) (mg : Str → Option Value) (CP CC fI : Addr) : Prop where
  np : NpTxt P K mg CP fI
  cn : CnTxt K mg CC
  ecP : ExcC K CP
  ecC : ExcC K CC
  ve : mg "ValueError" = none
  le : mg "LookupError" = none
  kv : PySem.W.kitOne K (.ref CC) (.type "ValueError") = some true
  kl : PySem.W.kitOne K (.ref CP) (.type "LookupError") = some true
  pc : PySem.W.exmOne K (.ref CP) (.ref CC) = some false
abbrev NoC : GC := fun _ _ _ _ _ => False
abbrev ps4 : List Str := ["land", "start", "place", "other"]
section
variable {P : Program} {w : World} {K : PySem.W.Frag} {mg : Str → Option Value} {base : Heap}
theorem fn_law_asked {f : Addr} {fd : FuncData} {k : Nat} {CP CC fI : Addr} (a : At K mg "_law_asked" sLawAsked f fd ["_law_door", "_law_plan_here", "_law_start_so", "_law_place_so", "_law_other_so"]) (T : Mg mg) (AT : AskT P K mg CP CC fI)
    (F0 : Fn1 P w K mg base (L2.CX P w) k "most_late" ps4 (spA K CP CC Gr NoC)) (F1 : Fn1 P w K mg base (L2.CX P w) k "lateness" ps4 (spA K CP CC Lt2 NoC)) (F2 : Fn1 P w K mg base (L2.CX P w) k "worst_road" ps4 (spA K CP CC WRd NoL)) (F3 : Fn1 P w K mg base (L2.CX P w) k "worst_spreads" ps4 (spA K CP CC WSp NoL)) :
    Fn1 P w K mg base CX0 (k + 1) "_law_asked" ["_law_door", "_law_plan_here", "_law_start_so", "_law_place_so", "_law_other_so"] (spP K RAsk) :=
  a.fnT scLawAsked (fun vs H Q E ⟨ms, ds, d, _, hv, ⟨door, rest, _, e, h⟩, _⟩ => by
    rw [dpall_len hv]
    subst e
    rcases h with ⟨n, ws, st, p, o, h, _⟩ | ⟨x, h, _⟩
    · rw [List.length_cons, ask_len h]; rfl
    · rw [List.length_cons, bad3_len h]; rfl) fun A X H vs Q E hX hs hf hr h => by
    obtain ⟨ms, ds, d, t, hvs, ⟨door, rest, hlt, rfl, hR⟩, q⟩ := h
    obtain ⟨L, x, y, z, rfl⟩ : ∃ L x y z, rest = [L, x, y, z] := by
      rcases hR with ⟨n, ws, st, p, o, ⟨L, e, _⟩, _⟩ | ⟨x, ⟨L, n, ws, a, b, c, e, _⟩, _⟩
      · exact ⟨_, _, _, _, e⟩
      · exact ⟨_, _, _, _, e⟩
    obtain ⟨v0, v1, v2, v3, v4, rfl, d0, d1, d2, d3, d4⟩ := dpall5 hvs
    obtain ⟨⟨f0, fd0, G0, m0, k0, b0⟩, _⟩ := F0
    obtain ⟨⟨f1, fd1, G1, m1, k1, b1⟩, _⟩ := F1
    obtain ⟨⟨f2, fd2, G2, m2, k2, b2⟩, _⟩ := F2
    obtain ⟨⟨f3, fd3, G3, m3, k3, b3⟩, _⟩ := F3
    have key : ∃ (fa : Addr) (fd : FuncData) (G : GT) (C : GC), atI [V.ref f0, .ref f1, .ref f2, .ref f3] (door : Int) = some (.ref fa) ∧ FnOk P w K mg base (L2.CX P w) k fa fd ps4 (spA K CP CC G C) ∧ PySem.W.keepIn K (.ref fa) = true ∧ Binds K fd ps4 [] ∧
        ∀ n ws st p o, AskD door n ws st p o d → G n ws st p o d ∨ (C n ws st p o ∧ d = cannotD) := by
      match door, hlt with
      | 0, _ => exact ⟨f0, fd0, Gr, NoC, rfl, G0, k0, b0.b, fun _ _ _ _ _ h => .inl h⟩
      | 1, _ => exact ⟨f1, fd1, Lt2, NoC, rfl, G1, k1, b1.b, fun _ _ _ _ _ h => .inl h⟩
      | 2, _ => exact ⟨f2, fd2, WRd, NoL, rfl, G2, k2, b2.b, fun _ _ _ _ _ h => h⟩
      | 3, _ => exact ⟨f3, fd3, WSp, NoL, rfl, G3, k3, b3.b, fun _ _ _ _ _ h => h⟩
    obtain ⟨fa, fdd, G, C, hat, GF, Gk, Gb, hG⟩ := key
    have nd : nLawAsked.Nodup := hX.nd
    refine ss_asg hX (PD.go (ms := ms) (pd_tup (ds := [.none, .none]) (pad_cons pd_none (pad_cons pd_none pad_nil)) (by show 2 ≤ sizeLine; decide)) t fun v5 H1 S1 hv5 => ?_)
    refine eg_tup2 hv5 fun u5 u6 d5 d6 => eg_name (i := 5) nd ⟨_, _, rfl, eg_name (i := 6) nd ⟨rfl, ?_⟩⟩
    refine ss_tryAs2 (c1 := .ref CC) (c2 := .ref CP) 7 hX hs hf ⟨GlC.of hX.i rfl, by decide, .inl (by rw [hX.i.mg]; exact AT.cn.gC)⟩ ⟨GlC.of hX.i rfl, by decide, .inl (by rw [hX.i.mg]; exact AT.np.gC)⟩ (fun pn xe tk po => ?_)
    have own : Own (ctOf P w K mg base nLawAsked sLawAsked A) (X.tr pn xe) := ⟨⟨hX.i.P, hX.i.w, hX.i.K, hX.i.mg, hX.i.base, hX.i.A, hX.i.N, hX.i.sc, hX.i.calm, hX.i.fn⟩, hX.all, hX.nd, po⟩
    have t1 := t.up S1
    -- what is told behind the try
    have told : ∀ (σ' : L2.St) (H' : Hp) (v : V), Same H H' → σ'[6]? = some (some v) → Dp K (cut ms H') v d → isN d = false → SS X [(defBody sLawAsked).getD 2 (.Pass ⟨0, 0, 0, 0⟩)] { nx := fun _ H' => Q .non H', rt := Q } σ' H' := fun σ' H' v S hσ hv hn => by
      refine ss_ret hX (PD.go (ms := ms) (pd_if (pb_isN (pd_name (i := 6) hσ hv)) (fun z => absurd (z.symm.trans hn) (by decide)) fun _ => pd_name (i := 6) hσ hv) (t.up S) fun v H6 S6 hv => q _ _ (S.trans S6) hv)
    refine ss_setX 5 own (ex_callF own.i tk ?_)
    refine ⟨tOp (rIxL K) (tLst (tCons (tC (.ref f0)) (tCons (tC (.ref f1)) (tCons (tC (.ref f2)) (tCons (tC (.ref f3)) tNil))))) (tVar 0), fun X hX => pe_ix (by have := hX.K; subst this; exact ix_list) (pe_lst (pa_cons (pe_glob (GlC.of hX rfl) (by rw [hX.mg]; exact m0) rfl) (pa_cons (pe_glob (GlC.of hX rfl) (by rw [hX.mg]; exact m1) rfl) (pa_cons (pe_glob (GlC.of hX rfl) (by rw [hX.mg]; exact m2) rfl) (pa_cons (pe_glob (GlC.of hX rfl) (by rw [hX.mg]; exact m3) rfl) pa_nil)))))
      (pe_var (i := 0) (by rw [hX.N]; rfl) (by rw [hX.sc]; exact .inl rfl)) (fun _ _ => rfl), ⟨by show 4 ≤ sizeLine; decide, fun p hp => ⟨v0, rfl, p, _, (door : Int), _, rfl, dp_int d0, .of upd_same, hat, fa, fdd, k, ps4, spA K CP CC G C, rfl, GF, Gk, Gb, hr, ?_⟩⟩⟩
    have S2 : Same H (upd H1 p (.lst [.ref f0, .ref f1, .ref f2, .ref f3])) := S1.trans (same_new hp)
    have e1 := dp_mono (cut_same (ms := ms) S2) d1
    have e2 := dp_mono (cut_same (ms := ms) S2) d2
    have e3 := dp_mono (cut_same (ms := ms) S2) d3
    have e4 := dp_mono (cut_same (ms := ms) S2) d4
    refine ax_of own.i (PAd.go (ms := ms) (pad_cons (pd_name (i := 1) rfl e1) (pad_cons (pd_name (i := 2) rfl e2) (pad_cons (pd_name (i := 3) rfl e3) (pad_cons (pd_name (i := 4) rfl e4) pad_nil)))) (t.up S2) fun vs H3 S3 hvs => ?_)
    have S23 := S2.trans S3
    have hrel : (∃ n ws st p o, Ask [L, x, y, z] n ws st p o ∧ G n ws st p o d) ∨ (∃ b, Bad3 [L, x, y, z] b ∧ d = placeD b) ∨ ((∃ n ws st p o, Ask [L, x, y, z] n ws st p o ∧ C n ws st p o) ∧ d = cannotD) := by
      rcases hR with ⟨n, ws, st, p, o, hA, hD⟩ | h
      · rcases hG _ _ _ _ _ hD with h | ⟨h, e⟩
        · exact .inl ⟨n, ws, st, p, o, hA, h⟩
        · exact .inr (.inr ⟨⟨n, ws, st, p, o, hA, h⟩, e⟩)
      · exact .inr (.inl h)
    refine ⟨ms, [L, x, y, z], t.up S23, hvs, ?_⟩
    rcases hrel with hg | ⟨b, hb, rfl⟩ | ⟨hc, rfl⟩
    · -- a value
      refine .inl ⟨d, hg, fun v H4 S4 hv => ss_nil ?_⟩
      exact ss_ret hX (PD.go (ms := ms) (pd_if (k := true) (pb_isN (pd_name (i := 6) rfl (dp_mono (cut_same ((same_new hp).trans (S3.trans S4))) d6))) (fun _ => pd_name (i := 5) rfl hv) fun z => nomatch z) (t.up (S23.trans S4)) fun v H6 S6 hv => q _ _ (S23.trans (S4.trans S6)) hv)
    · -- NoPlace
      refine .inr (.inl ⟨b, hb, fun dd H4 S4 hn hd => ?_⟩)
      refine ⟨false, by rw [hX.i.K]; exact AT.pc, (fun z => nomatch z), fun _ => ⟨true, by rw [hX.i.K]; exact AT.np.te, (fun _ a ha oe pn hz hf => ?_), (fun z => nomatch z)⟩⟩
      have hKX : ExcC X.K CP := by rw [hX.i.K]; exact AT.ecP
      have hNP : NpTxt P X.K X.mg CP fI := by rw [hX.i.K, hX.i.mg]; exact AT.np
      refine ss_cons (ps_set (i := 6) (X := X.suite a ((a, oe) :: pn)) (by show X.N.Nodup; rw [hX.i.N]; exact nd) (by show X.N[6]? = _; rw [hX.i.N]; rfl) (by show Loc X.env.scope _; rw [hX.i.sc]; exact .inl rfl)
        (pe_lst (pa_cons pe_str (pa_cons (pe_byNum hNP hz hf (pe_var (i := 7) (by show X.N[7]? = _; rw [hX.i.N]; rfl) (by show Vis X.env.scope _; rw [hX.i.sc]; exact .inl rfl))) (pa_cons (pe_callB (id := "isinstance") (call_isE2 hKX hz hf) (GlC.of hX.i rfl) (by show X.mg _ = none; rw [hX.i.mg]; exact T.isi) (by decide +kernel)
          (pa_cons (pe_var (i := 7) (by show X.N[7]? = _; rw [hX.i.N]; rfl) (by show Vis X.env.scope _; rw [hX.i.sc]; exact .inl rfl)) (pa_cons (pe_bltn (v := .ty "LookupError") (GlC.of hX.i rfl) (by show X.mg _ = none; rw [hX.i.mg]; exact AT.le) (by decide +kernel) rfl) pa_nil))) pa_nil))))
        (by show swapsWith _ _ _ X.env = _; rw [sw_congr _ _ _ hX.i.e0]; rfl) (.inl (hX.fn _))) ?_
      refine ⟨.ref a, rfl, rfl, rfl, dd, .int b, rfl, hd, .ref a, rfl, fun d' e => ⟨_, Option.some.inj e ▸ hd⟩, .ty "LookupError", .type "LookupError", true, rfl, fun u hu => hu, by rw [hX.i.K]; exact AT.kl, by show 3 ≤ sizeLine; decide, fun p5 hp5 => ss_nil ?_⟩
      have S5 : Same H (upd H4 p5 (.lst [.str (PySem.Str.ofString "place"), .int b, .bl true])) := S23.trans (S4.trans (same_new hp5))
      exact told _ _ (.ref p5) S5 rfl (dp_newL (t.up (S23.trans S4)) hp5 (.cons (.str _) (.cons (.int _) (.cons (.bl _) .nil)))) rfl
    · -- CanNot
      refine .inr (.inr ⟨hc, fun H4 S4 => ?_⟩)
      refine ⟨true, by rw [hX.i.K]; exact AT.cn.te, (fun _ a ha oe pn hz hf => ?_), (fun z => nomatch z)⟩
      have hKX : ExcC X.K CC := by rw [hX.i.K]; exact AT.ecC
      refine ss_cons (ps_set (i := 6) (X := X.suite a ((a, oe) :: pn)) (by show X.N.Nodup; rw [hX.i.N]; exact nd) (by show X.N[6]? = _; rw [hX.i.N]; rfl) (by show Loc X.env.scope _; rw [hX.i.sc]; exact .inl rfl)
        (pe_lst (pa_cons pe_str (pa_cons (pe_callB (id := "isinstance") (call_isE2 hKX hz hf) (GlC.of hX.i rfl) (by show X.mg _ = none; rw [hX.i.mg]; exact T.isi) (by decide +kernel)
          (pa_cons (pe_var (i := 7) (by show X.N[7]? = _; rw [hX.i.N]; rfl) (by show Vis X.env.scope _; rw [hX.i.sc]; exact .inl rfl)) (pa_cons (pe_bltn (v := .ty "ValueError") (GlC.of hX.i rfl) (by show X.mg _ = none; rw [hX.i.mg]; exact AT.ve) (by decide +kernel) rfl) pa_nil))) pa_nil)))
        (by show swapsWith _ _ _ X.env = _; rw [sw_congr _ _ _ hX.i.e0]; rfl) (.inl (hX.fn _))) ?_
      refine ⟨.ref a, rfl, fun d' e => (nomatch e), .ty "ValueError", .type "ValueError", true, rfl, fun u hu => hu, by rw [hX.i.K]; exact AT.kv, by show 2 ≤ sizeLine; decide, fun p5 hp5 => ss_nil ?_⟩
      have S5 : Same H (upd H4 p5 (.lst [.str (PySem.Str.ofString "cannot"), .bl true])) := S23.trans (S4.trans (same_new hp5))
      exact told _ _ (.ref p5) S5 rfl (dp_newL (t.up (S23.trans S4)) hp5 (.cons (.str _) (.cons (.bl _) .nil))) rfl
end
end SK
set_option maxHeartbeats 4000000
namespace SK
open PySem PySem.Spec PyProof.Rows L2 SKM
/-! ### written data -/
def optAll {α : Type} : List (Option α) → Option (List α)
  | [] => some []
  | x :: xs => match x, optAll xs with
    | some y, some ys => some (y :: ys)
    | _, _ => none
def litD : Nat → Expr → Option PyData
  | 0, _ => none
  | _ + 1, .Constant (.int i) _ _ => some (.int i)
  | _ + 1, .Constant (.bool b) _ _ => some (.bool b)
  | _ + 1, .Constant (.str s) _ _ => some (.str s)
  | _ + 1, .Constant .none _ _ => some .none
  | _ + 1, .UnaryOp .USub (.Constant (.int i) _ _) _ => some (.int (-i))
  | n + 1, .Tuple es _ _ => match optAll (es.map (litD n)) with
    | some ds => if ds.length ≤ 1000 then some (.tuple ds) else none
    | none => none
  | n + 1, .List es _ => match optAll (es.map (litD n)) with
    | some ds => if ds.length ≤ 1000 then some (.list ds) else none
    | none => none
  | _, _ => none
section
variable {c : Ct} {ms : List Addr} {σ : L2.St} {H : Hp}
theorem lit_ns {n : Nat} {e : Expr} {d : PyData} (h : litD n e = some d) : NSt e := by
  cases n with
  | zero => cases h
  | succ n =>
    cases e <;> first | (intro _ _; rfl) | (unfold litD at h; cases h)
theorem lits_pad {n : Nat} (ih : ∀ e d, litD n e = some d → PD c ms σ H e d) : ∀ (es : List Expr) (ds : List PyData), optAll (es.map (litD n)) = some ds → PAd c ms σ H es ds
  | [], ds, h => by
    cases h
    exact pad_nil
  | e :: es, ds, h => by
    rw [List.map_cons] at h
    unfold optAll at h
    split at h
    · rename_i y ys h1 h2
      cases h
      exact pad_cons (ih e y h1) (lits_pad ih es ys h2) (fun X => lit_ns h1 X es)
    · cases h
theorem lit_pd : ∀ (n : Nat) (e : Expr) (d : PyData), litD n e = some d → PD c ms σ H e d
  | 0, e, d, h => by cases h
  | n + 1, e, d, h => by
    unfold litD at h
    split at h
    · rename_i z; cases z
    · cases h; exact pd_int
    · cases h; exact pd_bool
    · cases h; exact pd_str
    · cases h; exact pd_none
    · cases h; exact pd_neg pd_int
    · rename_i e1
      split at h
      · rename_i ds h1
        split at h
        · rename_i hl
          cases h
          cases e1
          exact pd_tup (lits_pad (lit_pd n) _ _ h1) (Nat.le_trans hl (by decide))
        · cases h
      · cases h
    · rename_i e1
      split at h
      · rename_i ds h1
        split at h
        · rename_i hl
          cases h
          cases e1
          exact (pl_lst (lits_pad (lit_pd n) _ _ h1) (Nat.le_trans hl (by decide))).pd
        · cases h
      · cases h
    · cases h
theorem lit_pl {n : Nat} {es : List Expr} {pos : Pos} {ds : List PyData} (h : optAll (es.map (litD n)) = some ds) (hl : ds.length ≤ 1000) : PL c ms σ H (.List es pos) ds := pl_lst (lits_pad (lit_pd n) es ds h) (Nat.le_trans hl (by decide))
/-! ### a comprehension whose item a comprehension within it uses -/
theorem pl_mapC {i : Nat} {x : Str} {px pos : Pos} {scope : Scope} {own : List (Str × Nat)} {iter elt : Expr} {ds es : List PyData} (hN : c.N.Nodup) (hok : blkC c.N c.sc scope own = true) (hi : c.N[i]? = some x) (hx : (relS scope c.sc).names.lookup x = some .cell) (hf : (scope.names.lookup x == some .cell) = true)
    (hit : PDI c ms σ H (.Name x px) iter ds) (hl : es.length = ds.length) (hz : ds.length ≤ sizeLine) (hio : i ∈ own.map (·.2))
    (he : ∀ (k : Nat) (d e : PyData) v ms' H1, ds[k]? = some d → es[k]? = some e → Same H H1 → Same (cut ms H) (cut ms' H1) → Dp c.K (cut ms' H1) v d → PD (c.blk scope) ms' ((wipe σ (own.map (·.2))).set i (some v)) H1 elt e)
    (hs : ∀ (X : Cx) x, foldedSetIterable iter X.env x = pure x := by intro _ _; rfl) : PL c ms σ H (.ListComp elt [⟨.Name x px, iter, [], 0⟩] scope pos) es := fun t H1 Q S q => by
  refine ⟨tLc (EI c (.Name x px) iter) (gName i) tYes (ES (c.blk scope) elt) (own.map (·.2)), fun X hX => ?_, ?_⟩
  · exact pe_lc hX.calm (by rw [hX.N]; exact hN) (EI.any hX _ _) (blkOk_by (by rw [hX.N, hX.sc]; exact hok)) (fun s H C cl fp => pg_name (by show X.N.Nodup; rw [hX.N]; exact hN) (by show X.N[i]? = _; rw [hX.N]; exact hi) (by rw [(In.blk hX s H scope cl C fp).sc]; exact .inr hx) (.inl hf))
      (fun s H C cl fp => pts_nil) (fun s H C cl fp => ES.any (In.blk hX s H scope cl C fp) _) (hs X)
  · refine hit t H1 _ S fun J H2 S2 wd D hD => ?_
    have S12 := S.trans S2
    have t2 : Trk ms H2 := (t.up S).up S2
    refine lc_it (wd (D :: ms)) (fun i H3 => Same H2 H3 ∧ Same (cut ms H2) (cut (D :: ms) H3) ∧ Trk (D :: ms) H3 ∧ ∃ acc, H3 D = some (.lst acc) ∧ DpAll c.K (cut (D :: ms) H3) acc (es.take i)) ?_ (fun i H3 _ p => ⟨p.2.1, p.2.2.1⟩) (fun j x H3 H4 hj p y => ?_) fun H3 p => ?_
    · refine ⟨same_new hD, cut_more hD, fun m hm => ?_, [], upd_same, .nil⟩
      rcases List.mem_cons.mp hm with rfl | hm
      · rw [upd_same]; exact fun z => by cases z
      · exact (t2.up (same_new hD)) m hm
    · obtain ⟨p1, p2, p3, acc, p4, p5⟩ := p
      obtain ⟨y1, y2⟩ := y
      have hd : ds[j]? = some ds[j] := List.getElem?_eq_getElem hj
      have hi2 : j < es.length := by omega
      have hee : es[j]? = some es[j] := List.getElem?_eq_getElem hi2
      have t4 := p3.up y1
      have S4 : Same (cut ms H2) (cut (D :: ms) H4) := p2.trans (cut_same y1)
      refine ⟨?_, ?_⟩
      · rw [wipe_set hio, wipe_wipe]
      · unfold tYes
        dsimp only
        rw [if_pos rfl]
        refine he j _ _ x (D :: ms) H4 hd hee (S12.trans (p1.trans y1)) ((cut_same S12).trans S4) (y2 _ hd) t4 H4 _ (Same.refl _) fun v H5 S5 dv => ?_
        have e5 : H5 D = some (.lst acc) := S5 _ _ (y1 _ _ p4)
        have hacc : acc.length = j := by rw [dpall_len p5, List.length_take]; omega
        refine ⟨acc, e5, by omega, ?_, ?_, ?_, acc ++ [v], upd_same, ?_⟩
        · intro b o hb
          have hbD : b ≠ D := ne_of_none hb hD
          rw [upd_ne hbD]
          exact S5 _ _ (y1 _ _ (p1 _ _ hb))
        · rw [cut_mut List.mem_cons_self]
          exact S4.trans (cut_same S5)
        · intro m hm e
          by_cases hmD : m = D
          · rw [hmD, upd_same] at e; cases e
          · rw [upd_ne hmD] at e
            exact (t4.up S5) m hm e
        · rw [cut_mut List.mem_cons_self, List.take_add_one, hee]
          exact dpall_app (dpall_mono (cut_same (y1.trans S5)) p5) (.cons dv .nil)
    · obtain ⟨p1, p2, p3, acc, p4, p5⟩ := p
      rw [← hl, List.take_length] at p5
      exact q _ _ _ (S2.trans p1) (S2.free hD) p4 p5
/-! ### f(k = v, ..), all by keywords, from the last parameter to the first -/
def kwE : List Keyword → List Expr
  | [] => []
  | ⟨_, e, _⟩ :: r => e :: kwE r
def tKw (c : Ct) : List Expr → TA
  | [] => tNil
  | e :: r => tCons (ES c e) (tKw c r)
theorem pk_kw {X : Cx} (hX : c.In X) : ∀ kws : List Keyword, PK X kws (tKw c (kwE kws))
  | [] => pk_nil
  | ⟨nm, e, kp⟩ :: r => pk_cons (ES.any hX e) (pk_kw hX r)
def PKd (c : Ct) (ms : List Addr) (σ : L2.St) (H : Hp) (es : List Expr) (ds : List PyData) : Prop :=
  Trk ms H → ∀ H1 Q, Same H H1 → (∀ vs H', Same H1 H' → DpAll c.K (cut ms H') vs ds → Q vs H') → tKw c es σ H1 Q
theorem pkd_nil : PKd c ms σ H [] [] := fun _ H1 Q S q => q [] H1 (Same.refl _) .nil
theorem pkd_cons {e : Expr} {es : List Expr} {d : PyData} {ds : List PyData} (he : PD c ms σ H e d) (hr : PKd c ms σ H es ds) : PKd c ms σ H (e :: es) (d :: ds) := fun t H1 Q S q =>
  he t H1 _ S fun v H2 S2 dv => hr t H2 _ (S.trans S2) fun vs H3 S3 dvs => q _ _ (S2.trans S3) (.cons (dp_mono (cut_same S3) dv) dvs)
theorem dpall_rev {K : PySem.W.Frag} {H : Hp} : ∀ {vs : List V} {ds : List PyData}, DpAll K H vs ds → DpAll K H vs.reverse ds.reverse
  | _, _, .nil => .nil
  | _, _, .cons h r => by
    rw [List.reverse_cons, List.reverse_cons]
    exact dpall_app (dpall_rev r) (.cons h .nil)
theorem vals_rev : ∀ {vs : List V} {us : List Value}, Vals vs us → Vals vs.reverse us.reverse
  | _, _, .nil => .nil
  | _, _, .cons h r => by
    rw [List.reverse_cons, List.reverse_cons]
    exact (vals_rev r).append (.cons h .nil)
/-- how a def binds keywords that are written from the last parameter to the first -/
def KRev (K : PySem.W.Frag) (mg : Str → Option Value) (x : Str) (ps : List Str) : Prop := ∀ (f : Addr) (fd : FuncData), mg x = some (.ref f) → (∃ (oc : Value) (od : Option Addr) (osl : Array (Option Value)), K.lookup f = some ⟨oc, od, .func fd, osl⟩) →
  ∀ (s : Shared) (ws : List Value), ws.length = ps.length → BindsTo s fd ⟨[], ps.reverse.zip ws⟩ (ps.zip ws.reverse)
theorem At.krev {K : PySem.W.Frag} {mg : Str → Option Value} {x : Str} {st : Stmt} {f : Addr} {fd : FuncData} {ps : List Str} (a : At K mg x st f fd ps)
    (h : ∀ (kV doc pm : Value) (an : Option Addr) (cdv ct : Value) (ws : List Value), ws.length = ps.length → bindArgs (PySem.W.fnOf x x (defArgs st) (defBody st) (defScope st) .none kV doc pm an cdv ct) ⟨[], ps.reverse.zip ws⟩ = pure (ps.zip ws.reverse)) : KRev K mg x ps := by
  obtain ⟨oc, od, kV, doc, pm, an, cdv, ct, osl, e, lk, _⟩ := a.F.ex
  intro f' fd' hm ⟨oc', od', osl', lk'⟩ s ws hl
  have e1 := a.m.symm.trans hm
  cases e1
  have e2 := lk.symm.trans lk'
  cases e2
  subst e
  exact .of_eq (h kV doc pm an cdv ct ws hl)
theorem pd_callKw {CX : CXT} {k : Nat} {x : Str} {ps : List Str} {R : List PyData → PyData → Prop} {p pos : Pos} {kws : List Keyword} {ds : List PyData} {d : PyData} (F : c.Fn CX k x ps (spP c.K R)) (B : KRev c.K c.mg x ps) (hr : Room k c.A) (hR : R ds.reverse d) (ha : PKd c ms σ H (kwE kws) ds) (hg : GlC c x := by rfl)
    (hl : ds.length = ps.length := by rfl) (hdb : (x == ("__debug__" : Str)) = false := by decide) (hall : ∀ X : Cx, (backToKw pos (keywordEach kws X.env)).all (·.1.isSome) = true := by intro _; rfl) (hks : ∀ X : Cx, (backToKw pos (keywordEach kws X.env)).filterMap (·.1) = ps.reverse := by intro _; rfl)
    (hpl : ∀ X : Cx, ((backTo pos (starEach [] X.env)).any (·.1) || (backToKw pos (keywordEach kws X.env)).any (·.1.isNone)) = false := by intro _; rfl) : PD c ms σ H (.Call (.Name x p) [] kws pos) d := fun t H1 Q S q => by
  obtain ⟨⟨f, fd, F, hm, hk, hb⟩, pass⟩ := F
  refine ⟨fun σ H Q => tKw c (kwE kws) σ H fun zs H2 => zs.length = ps.reverse.length ∧ spP c.K R zs.reverse H2 Q E0, fun X hX => ⟨fun pins s σ H Q I h => ?_⟩, ha t H1 _ S fun vs H2 S2 dvs => ⟨?_, ms, ds.reverse, d, (t.up S).up S2, dpall_rev dvs, hR, fun v H3 S3 dv => q _ _ (S2.trans S3) dv⟩⟩
  · refine wpAny_Call_Name_kw (ld_glob I (hg.of hX) (by rw [hX.mg]; exact hm) ?_ hdb)
    refine PySem.W.callWith_KW0 (h₀ := X.base) I.ok.mod.kin (by rw [hX.K]; exact hk) (hall X) ?_ (hpl X)
    refine thn ((pk_kw hX kws).run pos pins s σ H _ I h) fun ws s2 ⟨zs, H2, I2, rz, l2, q2⟩ => ⟨I2.kIn, ?_⟩
    rw [hks X]
    have hB : KBn X.K fd ps 0 ps.reverse (fun us ws => ws.reverse) (fun vs zs => zs.reverse) := ⟨fun s us ws _ l1 l2 => by
      have e : us = [] := List.length_eq_zero_iff.mp l1
      subst e
      exact B f fd hm hb.l s ws (by rw [l2, List.length_reverse]), fun _ rz => vals_rev rz⟩
    have F' : FnOk X.prog X.w X.K X.mg X.base CX k f fd ps (spP c.K R) := by
      rw [hX.P, hX.w, hX.K, hX.mg, hX.base]
      exact F
    exact run_fnN (us := []) (vs := []) F' (by rw [hX.A]; exact hr) hB (pass X hX.P hX.w) I2 .nil rz rfl l2 q2
  · rw [dpall_len dvs, hl, List.length_reverse]
end
end SK
set_option maxHeartbeats 4000000
namespace SK
open PySem PySem.Spec PyProof.Rows L2 SKM
/-! ### the lands written by hand -/
def wardW : List Way := [⟨0, 1, 2, 4⟩, ⟨0, 2, 4, 9⟩, ⟨1, 2, 1, 3⟩]
def vaultW : List Way := [⟨0, 2, 4, 4⟩, ⟨0, 3, 6, 6⟩, ⟨0, 4, 1, 10⟩, ⟨4, 1, 1, 1⟩, ⟨4, 3, 1, 1⟩]
def triW : List Way := [⟨0, 2, 1, 2⟩, ⟨1, 0, 1, 2⟩]
def backW : List Way := [⟨0, 1, 1, 1⟩, ⟨1, 2, 1, 1⟩, ⟨2, 0, 1, 1⟩]
def chainW : List Way := [⟨0, 1, 1, 20⟩, ⟨1, 2, 1, 20⟩, ⟨2, 3, 1, 20⟩, ⟨3, 4, 1, 20⟩, ⟨4, 5, 1, 20⟩]
theorem lnd_ward : Lnd 3 wardW := ⟨⟨by decide, by decide, by decide, by decide⟩, by decide, by decide⟩
theorem lnd_vault : Lnd 5 vaultW := ⟨⟨by decide, by decide, by decide, by decide⟩, by decide, by decide⟩
theorem lnd_tri : Lnd 3 triW := ⟨⟨by decide, by decide, by decide, by decide⟩, by decide, by decide⟩
theorem lnd_back : Lnd 3 backW := ⟨⟨by decide, by decide, by decide, by decide⟩, by decide, by decide⟩
theorem lnd_chain : Lnd 6 chainW := ⟨⟨by decide, by decide, by decide, by decide⟩, by decide, by decide⟩
def maxB (m : Int) (l : List Int) : Bool := l.any (· == m) && l.all (decide <| · ≤ m)
theorem max_of {m : Int} {l : List Int} (h : maxB m l = true) : IsMax m l := by
  unfold maxB at h
  rw [Bool.and_eq_true, List.any_eq_true, List.all_eq_true] at h
  obtain ⟨⟨x, hx, e⟩, h2⟩ := h
  rw [beq_iff_eq] at e
  subst e
  exact ⟨hx, fun y hy => of_decide_eq_true (h2 y hy)⟩
def lateM (n : Nat) (ws : List Way) (st p o : Nat) : List Int := (lateL n ws st p o).map (·.1)
theorem ask_of {n : Nat} {ws : List Way} {st p o : Nat} {L : PyData} (hL : LandIn L n ws) (O : Lnd n ws) (h : st < n ∧ p < n ∧ o < n) : Ask [L, natD st, natD p, natD o] n ws st p o := ⟨L, rfl, hL, O, h.1, h.2.1, h.2.2⟩
section
variable {n : Nat} {ws : List Way} {st p o : Nat} {L : PyData}
theorem rx_most {m : Int} (hL : LandIn L n ws) (O : Lnd n ws) (h : st < n ∧ p < n ∧ o < n) (hm : maxB m (lateM n ws st p o) = true) : RX Gr [L, natD st, natD p, natD o] (.int m) := ⟨n, ws, st, p, o, ask_of hL O h, .inr ⟨m, max_of hm, rfl⟩⟩
theorem rx_late {m m' k : Int} (hL : LandIn L n ws) (O : Lnd n ws) (h : st < n ∧ p < n ∧ o < n) (hm : maxB m (lateM n ws st p o) = true) (hm' : maxB m' (lateM n ws st o p) = true) (hk : k = -m') : RX Lt2 [L, natD st, natD p, natD o] (.tuple [.int k, .int m]) := ⟨n, ws, st, p, o, ask_of hL O h, .inr ⟨m, m', max_of hm, max_of hm', by rw [hk]⟩⟩
def wstB (n : Nat) (ws : List Way) (st p o : Nat) (m : Int) (R : List Nat) : Bool := maxB m (lateM n ws st p o) && (lateL n ws st p o).any (fun x => x.1 == m && x.2 == R) && (lateL n ws st p o).all fun x => !(x.1 == m && lexN x.2 R)
theorem wst_of {m : Int} {R : List Nat} (h : wstB n ws st p o m R = true) : Wst n ws st p o R := by
  unfold wstB at h
  rw [Bool.and_eq_true, Bool.and_eq_true, List.any_eq_true, List.all_eq_true] at h
  obtain ⟨⟨h1, ⟨⟨a, b⟩, hx, e⟩⟩, h3⟩ := h
  rw [Bool.and_eq_true, beq_iff_eq, beq_iff_eq] at e
  obtain ⟨rfl, rfl⟩ := e
  refine ⟨a, max_of h1, hx, fun R' hR => ?_⟩
  have := h3 _ hR
  dsimp only at this
  rw [beq_self_eq_true, Bool.true_and] at this
  cases hh : lexN R' b with
  | false => rfl
  | true => rw [hh] at this; cases this
theorem rx_road {R : List Nat} (m : Int) (hL : LandIn L n ws) (O : Lnd n ws) (h : st < n ∧ p < n ∧ o < n) (hm : wstB n ws st p o m R = true) : RX WRd [L, natD st, natD p, natD o] (tupN R) := ⟨n, ws, st, p, o, ask_of hL O h, R, wst_of hm, rfl⟩
theorem rx_spr {R : List Nat} {s : List Int} (m : Int) (hL : LandIn L n ws) (O : Lnd n ws) (h : st < n ∧ p < n ∧ o < n) (hm : wstB n ws st p o m R = true) (hs : corner ws R = s) : RX WSp [L, natD st, natD p, natD o] (intsT s) := ⟨n, ws, st, p, o, ask_of hL O h, R, wst_of hm, by rw [hs]⟩
theorem rr_of {l : List (List Nat)} (hL : LandIn L n ws) (O : Lnd n ws) (h : st < n ∧ o < n) (hl : roadsM n ws st o = l) : RRoads [L, natD st, natD o] (.list (l.map tupN)) := ⟨L, n, ws, st, o, rfl, hL, O, h.1, h.2, by rw [hl]⟩
theorem riw_of {x : PyData} {m : Int} (hL : LandIn L n ws) (O : Lnd n ws) (h : st < n ∧ p < n ∧ o < n) (hm : maxB m (lateM n ws st p o) = true) (hx : shortT x = true) : RIsW [L, natD st, natD p, natD o, x] (.bool (isSp ws x && decide (lateV n ws st p o (intsOf x) = m))) :=
  ⟨L, n, ws, st, p, o, x, _, rfl, hL, O, h.1, h.2.1, h.2.2, hx, .inr ⟨m, max_of hm, rfl⟩, rfl⟩
end
/-! what is asked of each door -/
def askR : List (List Int) := [[3, 1, 2], [0, -1, 2], [0, 1, 3], [1, 0, 2], [1, 2, 0]]
def askA (door j : Nat) : PyData := match j with
  | 0 => placeD 3
  | 1 => placeD (-1)
  | 2 => placeD 3
  | _ => if door < 2 then .none else cannotD
theorem fb_of {n : Nat} {qs : List Int} {x : Int} (i : Nat) (h1 : qs[i]? = some x) (h2 : (qs.take i).all (fun y => decide (0 ≤ y ∧ y < n)) = true) (h3 : ¬ (0 ≤ x ∧ x < n)) : FirstBad n qs x := by
  refine ⟨i, h1, fun j y hj hy => ?_, fun h => h3 ⟨h.1, h.2⟩⟩
  have hm : y ∈ qs.take i := by
    rw [List.mem_take_iff_getElem]
    obtain ⟨hl, e⟩ := List.getElem?_eq_some_iff.mp hy
    exact ⟨j, by omega, e⟩
  have := of_decide_eq_true (List.all_eq_true.mp h2 y hm)
  exact ⟨this.1, this.2⟩
theorem ward_in : LandIn (landD 3 wardW) 3 wardW := landD_in (by decide)
theorem none_D {door st p o : Nat} (h : lateL 3 wardW st p o = []) : AskD door 3 wardW st p o (if door < 2 then .none else cannotD) := by
  match door with
  | 0 => exact .inl ⟨h, rfl⟩
  | 1 => exact .inl ⟨h, rfl⟩
  | 2 => exact .inr ⟨h, rfl⟩
  | k + 3 => exact .inr ⟨h, by rw [if_neg (by omega)]⟩
theorem ask_all (door : Nat) (hd : door < 4) (j : Nat) (r : List Int) (hr : askR[j]? = some r) : ∃ a b c, r = [a, b, c] ∧ RAsk [.int (door : Int), landD 3 wardW, .int a, .int b, .int c] (askA door j) := by
  match j, hr with
  | 0, hr => cases hr; exact ⟨3, 1, 2, rfl, door, _, hd, rfl, .inr ⟨3, ⟨_, 3, wardW, 3, 1, 2, rfl, ward_in, fb_of 0 rfl rfl (by decide)⟩, rfl⟩⟩
  | 1, hr => cases hr; exact ⟨0, -1, 2, rfl, door, _, hd, rfl, .inr ⟨-1, ⟨_, 3, wardW, 0, -1, 2, rfl, ward_in, fb_of 1 rfl (by decide) (by decide)⟩, rfl⟩⟩
  | 2, hr => cases hr; exact ⟨0, 1, 3, rfl, door, _, hd, rfl, .inr ⟨3, ⟨_, 3, wardW, 0, 1, 3, rfl, ward_in, fb_of 2 rfl (by decide) (by decide)⟩, rfl⟩⟩
  | 3, hr => cases hr; exact ⟨1, 0, 2, rfl, door, _, hd, rfl, .inl ⟨3, wardW, 1, 0, 2, ask_of ward_in lnd_ward (by decide), none_D (by decide +kernel)⟩⟩
  | 4, hr => cases hr; exact ⟨1, 2, 0, rfl, door, _, hd, rfl, .inl ⟨3, wardW, 1, 2, 0, ask_of ward_in lnd_ward (by decide), none_D (by decide +kernel)⟩⟩
  | k + 5, hr => cases hr
/-! the two defs that give a land -/
def RWard : List PyData → PyData → Prop := fun ds d => ds = [] ∧ d = landD 3 wardW
def RVault : List PyData → PyData → Prop := fun ds d => ds = [] ∧ d = landD 5 vaultW
section
variable {P : Program} {w : World} {K : PySem.W.Frag} {mg : Str → Option Value} {base : Heap}
theorem fn_law_ward {f : Addr} {fd : FuncData} {k : Nat} (a : At K mg "_law_ward" sLawWard f fd []) : Fn1 P w K mg base CX0 (k + 1) "_law_ward" [] (spP K RWard) :=
  a.fnP scLawWard (fun ds d h => by rw [h.1]; rfl) fun A X H vs Q ms ds d hX hr t hvs hR q => by
    obtain ⟨rfl, rfl⟩ := hR
    exact ss_ret hX (PD.go (ms := ms) (lit_pd 5 _ _ rfl) t q)
theorem fn_law_vault {f : Addr} {fd : FuncData} {k : Nat} (a : At K mg "_law_vault" sLawVault f fd []) : Fn1 P w K mg base CX0 (k + 1) "_law_vault" [] (spP K RVault) :=
  a.fnP scLawVault (fun ds d h => by rw [h.1]; rfl) fun A X H vs Q ms ds d hX hr t hvs hR q => by
    obtain ⟨rfl, rfl⟩ := hR
    exact ss_ret hX (PD.go (ms := ms) (lit_pd 5 _ _ rfl) t q)
end
end SK
set_option maxHeartbeats 8000000
namespace SK
open PySem PySem.Spec PyProof.Rows L2 SKM
def gA : List PyData := [.int 0, .tuple [.int 1], .tuple [.int 4, .int 4, .int 3], .tuple [.int 0, .int 3], .list [.tuple [.int 0, .int 2], .tuple [.int 1]]]
def gB : List PyData := [.tuple [.int 0], .tuple [.int 2, .int 9, .int 3], .tuple [.int 0, .int 0], .list [.tuple []], .list []]
def gC : List PyData := [.tuple [.int (-5), .int 0], .tuple [.int (-2), .int 2], .int 2, .tuple [.int 4, .int 6, .int 1, .int 1, .int 1], .list [.tuple [.int 1], .tuple [.int 2, .int 4]]]
def gD : List PyData := [.list [.tuple [.int 1, .int 0]], .int 2, .tuple [.int 1, .int 2], .list [.tuple [.int 1, .int 2]], .tuple [.int 2, .int 1]]
def gE : List PyData := [.tuple [.int 4, .int 80], .int (-4), .tuple [.int 1, .int 20, .int 20, .int 20, .int 20]]
def chF (k : Nat) : PyData := .tuple [.int (0 + (k : Int)), .int (0 + (k : Int) + 1), .int 1, .int 20]
def gG : List PyData := [.tuple [.int 4, .int 4, .int 3], .tuple [.int 4, .int 4, .int 1], .tuple [.int 3, .int 4, .int 2], .tuple [.int 4, .int 5, .int 1], .tuple [.int 2, .int 4, .int 3], .tuple [.int 4, .int 4, .int 4], .tuple [.int 4, .int 4], .list [.int 4, .int 4, .int 3], .tuple [.int 4, .int 4, .bool true], .none]
def gdF (x : PyData) : PyData := .bool (isSp wardW x && decide (lateV 3 wardW 0 1 2 (intsOf x) = 0))
def rowF (k : Nat) : PyData := .list ((List.range 5).map (askA k))
theorem vault_in : LandIn (landD 5 vaultW) 5 vaultW := landD_in (by decide)
theorem tri_in : LandIn (landD 3 triW) 3 triW := landD_in (by decide)
theorem back_in : LandIn (landD 3 backW) 3 backW := landD_in (by decide)
theorem chain_in : LandIn (landD 6 chainW) 6 chainW := landD_in (by decide)
def gBl : List PyData := [.bool true, .bool true, .bool false, .bool false, .bool false, .bool false, .bool false, .bool false, .bool false, .bool false]
theorem gdE : gG.map gdF = gBl := by kernel_rfl
theorem gSh : gG.all shortT = true := by kernel_rfl
theorem riw_gd {x : PyData} (hx : shortT x = true) : RIsW [landD 3 wardW, natD 0, natD 1, natD 2, x] (gdF x) := riw_of (st := 0) (p := 1) (o := 2) (m := 0) ward_in lnd_ward (by decide) (by decide +kernel) hx
def refD : List PyData := [placeD 3, placeD (-1), placeD 3]
def gotX : List PyData := ((((((((gA ++ gB) ++ gC) ++ gD) ++ gE) ++ [.list gBl]) ++ (List.range 4).map rowF) ++ [.int 0, .tuple [.int 0, .int 3]]) ++ [.tuple [.int 1], .bool true])
theorem soft_in : LandIn (softD 3 wardW) 3 wardW := softD_in (by decide)
theorem riw_true : RIsW [softD 3 wardW, natD 0, natD 1, natD 2, .tuple [.int 4, .int 4, .int 3]] (.bool true) := by
  have z := riw_of (st := 0) (p := 1) (o := 2) (x := .tuple [.int 4, .int 4, .int 3]) (m := 0) soft_in lnd_ward (by decide) (by decide +kernel) (by decide +kernel)
  rw [show (isSp wardW (.tuple [.int 4, .int 4, .int 3]) && decide (lateV 3 wardW 0 1 2 (intsOf (.tuple [.int 4, .int 4, .int 3])) = 0)) = true from by decide +kernel] at z
  exact z
theorem tn (H : Hp) : Trk [] H := fun m hm => nomatch hm
section
variable {P : Program} {w : World} {K : PySem.W.Frag} {mg : Str → Option Value} {base : Heap}
structure HandF (P : Program) (w : World) (K : PySem.W.Frag) (mg : Str → Option Value) (base : Heap) (k : Nat) : Prop where
  F0 : Fn1 P w K mg base (L2.CX P w) k "most_late" ps4 (spP K (RX Gr))
  F1 : Fn1 P w K mg base (L2.CX P w) k "lateness" ps4 (spP K (RX Lt2))
  F2 : Fn1 P w K mg base (L2.CX P w) k "worst_road" ps4 (spP K (RX WRd))
  F3 : Fn1 P w K mg base (L2.CX P w) k "worst_spreads" ps4 (spP K (RX WSp))
  FR : Fn1 P w K mg base CX0 k "roads" ["land", "start", "place"] (spP K RRoads)
  FW : Fn1 P w K mg base CX0 k "is_worst" ["land", "start", "place", "other", "thing"] (spP K RIsW)
  FA : Fn1 P w K mg base CX0 k "_law_asked" ["_law_door", "_law_plan_here", "_law_start_so", "_law_place_so", "_law_other_so"] (spP K RAsk)
  FL : Fn1 P w K mg base CX0 k "_law_lists" ["_law_matter"] (spP K (RLst 3))
  FS : Fn1 P w K mg base CX0 k "_law_same" ["_law_got", "_law_due"] (spP K (RSame 5))
  FWd : Fn1 P w K mg base CX0 k "_law_ward" [] (spP K RWard)
  FVt : Fn1 P w K mg base CX0 k "_law_vault" [] (spP K RVault)
  k0 : KRev K mg "most_late" ps4
  k1 : KRev K mg "lateness" ps4
  k2 : KRev K mg "worst_road" ps4
  kw : KRev K mg "is_worst" ["land", "start", "place", "other", "thing"]
theorem hand_tail {k : Nat} {A : Around} {X : Cx} {D : Ends} {HG : Hp} {pG pD : Addr} {xsG xsD : List V} {v00 : V} {s1 s4 s5 s6 s7 s8 s9 s10 s11 : Option V} (T : Mg mg) (F : HandF P w K mg base k) (hX : Own (ctOf P w K mg base nLawByHandRight sLawByHandRight A) X) (hr : Room k A)
    (dW : Dp K (cut [] HG) v00 (landD 3 wardW)) (dxD : DpAll K (cut [] HG) xsD (((((gA ++ gB) ++ gC) ++ gD) ++ gE) ++ [.list gBl])) (dxG : DpAll K (cut [] HG) xsG (((((gA ++ gB) ++ gC) ++ gD) ++ gE) ++ [.list gBl])) (hpD : HG pD = some (.lst xsD)) (hpG : HG pG = some (.lst xsG))
    (q : ∀ v H', Dp K (cut [] H') v (.bool true) → Same HG H' → D.rt v H') : SS X ((defBody sLawByHandRight).drop 16) D [some v00, s1, some (.ref pG), some (.ref pD), s4, s5, s6, s7, s8, s9, s10, s11] HG := by
    have nd : nLawByHandRight.Nodup := hX.nd
    have F0 := F.F0
    have F1 := F.F1
    have F2 := F.F2
    refine ss_set 9 hX (PD.go (ms := []) (lit_pd 4 _ (.tuple (askR.map intsT)) rfl) (tn _) fun v9 H1 S1 d9 => ?_)
    replace dW := dp_mono (cut_same (ms := []) S1) dW
    replace hpG := S1 _ _ hpG
    replace hpD := S1 _ _ hpD
    replace dxG := dpall_mono (K := K) (cut_same (ms := []) S1) dxG
    replace dxD := dpall_mono (K := K) (cut_same (ms := []) S1) dxD
    refine ss_set 2 hX (PL.go (ms := []) (pl_cat (es' := (List.range 4).map rowF) (by decide +kernel) (pt_name (i := 2) rfl hpG dxG) (PL.pt (pl_mapC (i := 10) (own := [("_law_door", 10)]) (ds := intsD 0 4) nd (by show blkC nLawByHandRight (defScope sLawByHandRight) _ _ = true; decide +kernel) rfl rfl rfl (pdi_range1 pd_int (by decide) (by decide) T.range) (by decide +kernel) (by decide +kernel) (List.mem_singleton.mpr rfl)
      (fun i d e v ms' H2 hd he _ Sc hv => by
        obtain ⟨hi, rfl⟩ := intsD_get hd
        rw [List.getElem?_map, List.getElem?_range hi] at he
        cases he
        rw [Int.zero_add] at hv
        exact pd_of (lc_map (own := [("_law_own", 7)]) (bf := fun j => [(7, (askR.map intsT).getD j .none)]) (ds := askR.map intsT) (es := (List.range 5).map (askA i)) nd (by show blkC nLawByHandRight (relS _ (defScope sLawByHandRight)) _ _ = true; decide +kernel) (pdi_tup (pd_name (i := 9) rfl (dp_mono Sc d9))) (by rw [List.length_map]; rfl) (by decide +kernel)
          (fun j d ms' hd => by
            rw [show (askR.map intsT).getD j .none = d from getD_of hd]
            exact gd_name nd) (fun j p hp => by rw [List.mem_singleton.mp hp]; exact List.mem_singleton.mpr rfl) (fun j d e vs ms2 H3 hd he _ Sc2 hvs => by
            obtain ⟨u, rfl, hu⟩ := dpall1 hvs
            rw [show (askR.map intsT).getD j .none = d from getD_of hd] at hu
            rw [List.getElem?_map] at hd
            obtain ⟨r, hr1, rfl⟩ := Option.map_eq_some_iff.mp hd
            have hj : j < 5 := (List.getElem?_eq_some_iff.mp hr1).1
            rw [List.getElem?_map, List.getElem?_range hj] at he
            cases he
            obtain ⟨a, b, c, rfl, hA⟩ := ask_all i hi j r hr1
            exact pd_call F.FA hr hA (pad_cons (pd_name (i := 10) rfl (dp_mono Sc2 hv)) (pad_cons (pd_name (i := 0) rfl (dp_mono Sc2 (dp_mono Sc dW))) (pad_cons (pd_ixT (pd_name (i := 7) rfl hu) pd_int rfl) (pad_cons (pd_ixT (pd_name (i := 7) rfl hu) pd_int rfl) (pad_cons (pd_ixT (pd_name (i := 7) rfl hu) pd_int rfl) pad_nil))))))))))) (tn _) fun pK xsK H2 S2 hnK hpK dxK => ?_)
    replace dW := dp_mono (cut_same (ms := []) S2) dW
    replace hpD := S2 _ _ hpD
    replace dxD := dpall_mono (K := K) (cut_same (ms := []) S2) dxD
    replace dxK := dpall_mono (K := K) (cut_sub (ms := [pK]) (ms' := []) fun _ h => nomatch h) dxK
    refine ss_set 11 hX (PL.go (ms := []) (lit_pl (n := 4) (ds := refD) rfl (by decide +kernel)) (tn _) fun pR xsR H3 S3 hnR hpR dxR => ?_)
    replace dW := dp_mono (cut_same (ms := []) S3) dW
    replace hpD := S3 _ _ hpD
    replace dxD := dpall_mono (K := K) (cut_same (ms := []) S3) dxD
    replace hpK := S3 _ _ hpK
    replace dxK := dpall_mono (K := K) (cut_same (ms := []) S3) dxK
    replace dxR := dpall_mono (K := K) (cut_sub (ms := [pR]) (ms' := []) fun _ h => nomatch h) dxR
    refine ss_set 3 hX (PL.go (ms := []) (pl_cat (by decide +kernel) (PL.pt (pl_cat (by decide +kernel) (pt_name (i := 3) rfl hpD dxD)
      (PL.pt (pl_rep (k := 2) (by decide) (by decide) (by decide +kernel) (PL.pt (pl_lst (ds := [.list (refD ++ [.none, .none])]) (pad_cons (PL.pd (pl_cat (by decide +kernel) (pt_name (i := 11) rfl hpR dxR) (PL.pt (lit_pl (n := 2) (ds := [.none, .none]) rfl (by decide +kernel))))) pad_nil) (by decide +kernel))) pd_int))))
      (PL.pt (pl_rep (k := 2) (by decide) (by decide) (by decide +kernel) (PL.pt (pl_lst (ds := [.list (refD ++ (List.replicate (2 : Int).toNat [cannotD]).flatten)]) (pad_cons (PL.pd (pl_cat (by decide +kernel) (pt_name (i := 11) rfl hpR dxR) (PL.pt (pl_rep (k := 2) (by decide) (by decide) (by decide +kernel) (PL.pt (lit_pl (n := 3) (ds := [cannotD]) rfl (by decide +kernel))) pd_int)))) pad_nil) (by decide +kernel))) pd_int))) (tn _) fun pE xsE H4 S4 hnE hpE dxE => ?_)
    replace dW := dp_mono (cut_same (ms := []) S4) dW
    replace hpK := S4 _ _ hpK
    replace dxK := dpall_mono (K := K) (cut_same (ms := []) S4) dxK
    replace dxE := dpall_mono (K := K) (cut_sub (ms := [pE]) (ms' := []) fun _ h => nomatch h) dxE
    refine ss_set 2 hX (PL.go (ms := []) (pl_cat (by decide +kernel) (pt_name (i := 2) rfl hpK dxK) (PL.pt (pl_lst (ds := [.int 0, .tuple [.int 0, .int 3]])
      (pad_cons (pd_callKw F0 F.k0 hr (ds := [natD 2, natD 1, natD 0, softD 3 wardW]) (rx_most (st := 0) (p := 1) (o := 2) (m := 0) soft_in lnd_ward (by decide) (by decide +kernel)) (pkd_cons pd_int (pkd_cons pd_int (pkd_cons pd_int (pkd_cons (pd_call F.FL hr ⟨landD 3 wardW, rfl, ward_in.1, rfl⟩ (pad_cons (pd_name (i := 0) rfl dW) pad_nil)) pkd_nil)))))
      (pad_cons (pd_callKw F1 F.k1 hr (ds := [natD 1, natD 2, natD 0, landD 3 wardW]) (rx_late (st := 0) (p := 2) (o := 1) (m := 3) (m' := 0) (k := 0) ward_in lnd_ward (by decide) (by decide +kernel) (by decide +kernel) (by decide)) (pkd_cons pd_int (pkd_cons pd_int (pkd_cons pd_int (pkd_cons (pd_name (i := 0) rfl dW) pkd_nil))))) pad_nil)) (by decide +kernel)))) (tn _) fun pL xsL H5 S5 hnL hpL dxL => ?_)
    replace dW := dp_mono (cut_same (ms := []) S5) dW
    replace hpE := S5 _ _ hpE
    replace dxE := dpall_mono (K := K) (cut_same (ms := []) S5) dxE
    replace dxL := dpall_mono (K := K) (cut_sub (ms := [pL]) (ms' := []) fun _ h => nomatch h) dxL
    refine ss_set 2 hX (PL.go (ms := []) (pl_cat (by decide +kernel) (pt_name (i := 2) rfl hpL dxL) (PL.pt (pl_lst (ds := [.tuple [.int 1], .bool true])
      (pad_cons (pd_callKw F2 F.k2 hr (ds := [natD 2, natD 1, natD 0, landD 3 wardW]) (rx_road (st := 0) (p := 1) (o := 2) (R := [1]) 0 ward_in lnd_ward (by decide) (by decide +kernel)) (pkd_cons pd_int (pkd_cons pd_int (pkd_cons pd_int (pkd_cons (pd_name (i := 0) rfl dW) pkd_nil)))))
      (pad_cons (pd_callKw F.FW F.kw hr (ds := [.tuple [.int 4, .int 4, .int 3], natD 2, natD 1, natD 0, softD 3 wardW]) riw_true (pkd_cons (lit_pd 3 _ _ rfl) (pkd_cons pd_int (pkd_cons pd_int (pkd_cons pd_int (pkd_cons (pd_call F.FL hr ⟨landD 3 wardW, rfl, ward_in.1, rfl⟩ (pad_cons (pd_name (i := 0) rfl dW) pad_nil)) pkd_nil)))))) pad_nil)) (by decide +kernel)))) (tn _) fun pM xsM H6 S6 hnM hpM dxM => ?_)
    replace hpE := S6 _ _ hpE
    replace dxE := dpall_mono (K := K) (cut_same (ms := []) S6) dxE
    replace dxM := dpall_mono (K := K) (cut_sub (ms := [pM]) (ms' := []) fun _ h => nomatch h) dxM
    refine ss_ret hX (PD.go (ms := []) (pd_call F.FS hr (ds := [.list gotX, .list gotX]) ⟨.list gotX, rfl, by decide +kernel, by decide +kernel, rfl⟩ (pad_cons (pd_name (i := 2) rfl (.lst (.inl (.inl (cut_of (fun z => nomatch z) hpM))) dxM)) (pad_cons (PD.cast (PL.pd (pl_cat (by decide +kernel) (pt_name (i := 3) rfl hpE dxE) (PL.pt (lit_pl (n := 3) (ds := [.int 0, .tuple [.int 0, .int 3], .tuple [.int 1], .bool true]) rfl (by decide +kernel))))) (by kernel_rfl)) pad_nil))) (tn _) fun v H7 S7 hv => q v H7 hv (S1.trans (S2.trans (S3.trans (S4.trans (S5.trans (S6.trans S7)))))))
end
end SK
set_option maxHeartbeats 8000000
namespace SK
open PySem PySem.Spec PyProof.Rows L2 SKM
section
variable {P : Program} {w : World} {K : PySem.W.Frag} {mg : Str → Option Value} {base : Heap}
theorem fn_law_by_hand_right {f : Addr} {fd : FuncData} {k : Nat} (a : At K mg "_law_by_hand_right" sLawByHandRight f fd []) (T : Mg mg) (F : HandF P w K mg base k) : Fn1 P w K mg base CX0 (k + 1) "_law_by_hand_right" [] (spP K RHand) :=
  a.fnP scLawByHandRight (fun ds d h => by rw [h.1]; rfl) fun A X H vs Q ms ds d hX hr t hvs hR q => by
    obtain ⟨rfl, rfl⟩ := hR
    have nd : nLawByHandRight.Nodup := hX.nd
    cases hvs
    have F0 := F.F0
    have F1 := F.F1
    have F2 := F.F2
    have F3 := F.F3
    have FR := F.FR
    refine ss_asg hX (PD.go (ms := []) (pd_tup (ds := [landD 3 wardW, landD 5 vaultW]) (pad_cons (pd_call0 F.FWd hr ⟨rfl, rfl⟩) (pad_cons (pd_call0 F.FVt hr ⟨rfl, rfl⟩) pad_nil)) (by decide +kernel)) (tn _) fun v1 H1 S1 hv1 => ?_)
    have SX : Same H H1 := S1
    refine eg_tup2 (ms := []) hv1 fun v00 v01 dW dV => eg_cell (i := 0) nd ⟨_, _, rfl, eg_name (i := 1) nd ⟨rfl, ?_⟩⟩
    refine ss_set 2 hX (PL.go (ms := []) (pl_lst (ds := gA) (pad_cons (pd_call F0 hr (rx_most (st := 0) (p := 1) (o := 2) (m := 0) ward_in lnd_ward (by decide) (by decide +kernel)) (pad_cons (pd_name (i := 0) rfl dW) (pad_cons pd_int (pad_cons pd_int (pad_cons pd_int pad_nil)))))
        (pad_cons (pd_call F2 hr (rx_road (st := 0) (p := 1) (o := 2) (R := [1]) (0) ward_in lnd_ward (by decide) (by decide +kernel)) (pad_cons (pd_name (i := 0) rfl dW) (pad_cons pd_int (pad_cons pd_int (pad_cons pd_int pad_nil)))))
        (pad_cons (pd_call F3 hr (rx_spr (st := 0) (p := 1) (o := 2) (R := [1]) (s := [4, 4, 3]) (0) ward_in lnd_ward (by decide) (by decide +kernel) (by decide +kernel)) (pad_cons (pd_name (i := 0) rfl dW) (pad_cons pd_int (pad_cons pd_int (pad_cons pd_int pad_nil)))))
        (pad_cons (pd_call F1 hr (rx_late (st := 0) (p := 2) (o := 1) (m := 3) (m' := 0) (k := (0)) ward_in lnd_ward (by decide) (by decide +kernel) (by decide +kernel) (by decide)) (pad_cons (pd_name (i := 0) rfl dW) (pad_cons pd_int (pad_cons pd_int (pad_cons pd_int pad_nil)))))
        (pad_cons (pd_call FR hr (rr_of (st := 0) (o := 2) (l := [[0, 2], [1]]) ward_in lnd_ward (by decide) (by decide +kernel)) (pad_cons (pd_name (i := 0) rfl dW) (pad_cons pd_int (pad_cons pd_int pad_nil))))
        pad_nil))))) (by decide +kernel)) (tn _) fun p2 xs2 H2 S2 hn2 hp2 hx2 => ?_)
    replace SX := SX.trans S2
    replace dW := dp_mono (cut_same (ms := []) S2) dW
    replace dV := dp_mono (cut_same (ms := []) S2) dV
    have hG2 := hp2
    have dG2 := dpall_mono (K := K) (cut_sub (ms := [p2]) (ms' := []) fun _ h => nomatch h) hx2
    refine ss_set 3 hX (PL.go (ms := []) (lit_pl (n := 5) (ds := gA) rfl (by decide +kernel)) (tn _) fun p3 xs3 H3 S3 hn3 hp3 hx3 => ?_)
    replace SX := SX.trans S3
    replace dW := dp_mono (cut_same (ms := []) S3) dW
    replace dV := dp_mono (cut_same (ms := []) S3) dV
    replace hG2 := S3 _ _ hG2
    replace dG2 := dpall_mono (cut_same (ms := []) S3) dG2
    have hD3 := hp3
    have dD3 := dpall_mono (K := K) (cut_sub (ms := [p3]) (ms' := []) fun _ h => nomatch h) hx3
    refine ss_set 2 hX (PL.go (ms := []) (pl_cat (by decide +kernel) (pt_name (i := 2) rfl hG2 dG2) (PL.pt (pl_lst (ds := gB) (pad_cons (pd_call F2 hr (rx_road (st := 0) (p := 2) (o := 1) (R := [0]) (3) ward_in lnd_ward (by decide) (by decide +kernel)) (pad_cons (pd_name (i := 0) rfl dW) (pad_cons pd_int (pad_cons pd_int (pad_cons pd_int pad_nil)))))
        (pad_cons (pd_call F3 hr (rx_spr (st := 0) (p := 2) (o := 1) (R := [0]) (s := [2, 9, 3]) (3) ward_in lnd_ward (by decide) (by decide +kernel) (by decide +kernel)) (pad_cons (pd_name (i := 0) rfl dW) (pad_cons pd_int (pad_cons pd_int (pad_cons pd_int pad_nil)))))
        (pad_cons (pd_call F1 hr (rx_late (st := 0) (p := 1) (o := 1) (m := 0) (m' := 0) (k := (0)) ward_in lnd_ward (by decide) (by decide +kernel) (by decide +kernel) (by decide)) (pad_cons (pd_name (i := 0) rfl dW) (pad_cons pd_int (pad_cons pd_int (pad_cons pd_int pad_nil)))))
        (pad_cons (pd_call FR hr (rr_of (st := 0) (o := 0) (l := [[]]) ward_in lnd_ward (by decide) (by decide +kernel)) (pad_cons (pd_name (i := 0) rfl dW) (pad_cons pd_int (pad_cons pd_int pad_nil))))
        (pad_cons (pd_call FR hr (rr_of (st := 1) (o := 0) (l := []) ward_in lnd_ward (by decide) (by decide +kernel)) (pad_cons (pd_name (i := 0) rfl dW) (pad_cons pd_int (pad_cons pd_int pad_nil))))
        pad_nil))))) (by decide +kernel)))) (tn _) fun p4 xs4 H4 S4 hn4 hp4 hx4 => ?_)
    replace SX := SX.trans S4
    replace dW := dp_mono (cut_same (ms := []) S4) dW
    replace dV := dp_mono (cut_same (ms := []) S4) dV
    replace hD3 := S4 _ _ hD3
    replace dD3 := dpall_mono (cut_same (ms := []) S4) dD3
    have hG4 := hp4
    have dG4 := dpall_mono (K := K) (cut_sub (ms := [p4]) (ms' := []) fun _ h => nomatch h) hx4
    refine ss_set 3 hX (PL.go (ms := []) (pl_cat (by decide +kernel) (pt_name (i := 3) rfl hD3 dD3) (PL.pt (lit_pl (n := 5) (ds := gB) rfl (by decide +kernel)))) (tn _) fun p5 xs5 H5 S5 hn5 hp5 hx5 => ?_)
    replace SX := SX.trans S5
    replace dW := dp_mono (cut_same (ms := []) S5) dW
    replace dV := dp_mono (cut_same (ms := []) S5) dV
    replace hG4 := S5 _ _ hG4
    replace dG4 := dpall_mono (cut_same (ms := []) S5) dG4
    have hD5 := hp5
    have dD5 := dpall_mono (K := K) (cut_sub (ms := [p5]) (ms' := []) fun _ h => nomatch h) hx5
    refine ss_set 2 hX (PL.go (ms := []) (pl_cat (by decide +kernel) (pt_name (i := 2) rfl hG4 dG4) (PL.pt (pl_lst (ds := gC) (pad_cons (pd_call F1 hr (rx_late (st := 0) (p := 3) (o := 1) (m := 0) (m' := 5) (k := (-5)) vault_in lnd_vault (by decide) (by decide +kernel) (by decide +kernel) (by decide)) (pad_cons (pd_name (i := 1) rfl dV) (pad_cons pd_int (pad_cons pd_int (pad_cons pd_int pad_nil)))))
        (pad_cons (pd_call F1 hr (rx_late (st := 0) (p := 3) (o := 2) (m := 2) (m' := 2) (k := (-2)) vault_in lnd_vault (by decide) (by decide +kernel) (by decide +kernel) (by decide)) (pad_cons (pd_name (i := 1) rfl dV) (pad_cons pd_int (pad_cons pd_int (pad_cons pd_int pad_nil)))))
        (pad_cons (pd_call F0 hr (rx_most (st := 0) (p := 2) (o := 3) (m := 2) vault_in lnd_vault (by decide) (by decide +kernel)) (pad_cons (pd_name (i := 1) rfl dV) (pad_cons pd_int (pad_cons pd_int (pad_cons pd_int pad_nil)))))
        (pad_cons (pd_call F3 hr (rx_spr (st := 0) (p := 2) (o := 3) (R := [2, 4]) (s := [4, 6, 1, 1, 1]) (2) vault_in lnd_vault (by decide) (by decide +kernel) (by decide +kernel)) (pad_cons (pd_name (i := 1) rfl dV) (pad_cons pd_int (pad_cons pd_int (pad_cons pd_int pad_nil)))))
        (pad_cons (pd_call FR hr (rr_of (st := 0) (o := 3) (l := [[1], [2, 4]]) vault_in lnd_vault (by decide) (by decide +kernel)) (pad_cons (pd_name (i := 1) rfl dV) (pad_cons pd_int (pad_cons pd_int pad_nil))))
        pad_nil))))) (by decide +kernel)))) (tn _) fun p6 xs6 H6 S6 hn6 hp6 hx6 => ?_)
    replace SX := SX.trans S6
    replace dW := dp_mono (cut_same (ms := []) S6) dW
    replace dV := dp_mono (cut_same (ms := []) S6) dV
    replace hD5 := S6 _ _ hD5
    replace dD5 := dpall_mono (cut_same (ms := []) S6) dD5
    have hG6 := hp6
    have dG6 := dpall_mono (K := K) (cut_sub (ms := [p6]) (ms' := []) fun _ h => nomatch h) hx6
    refine ss_set 3 hX (PL.go (ms := []) (pl_cat (by decide +kernel) (pt_name (i := 3) rfl hD5 dD5) (PL.pt (lit_pl (n := 5) (ds := gC) rfl (by decide +kernel)))) (tn _) fun p7 xs7 H7 S7 hn7 hp7 hx7 => ?_)
    replace SX := SX.trans S7
    replace dW := dp_mono (cut_same (ms := []) S7) dW
    replace dV := dp_mono (cut_same (ms := []) S7) dV
    replace hG6 := S7 _ _ hG6
    replace dG6 := dpall_mono (cut_same (ms := []) S7) dG6
    have hD7 := hp7
    have dD7 := dpall_mono (K := K) (cut_sub (ms := [p7]) (ms' := []) fun _ h => nomatch h) hx7
    refine ss_asg hX (PD.go (ms := []) (lit_pd 6 _ (.tuple [landD 3 triW, landD 3 backW]) rfl) (tn _) fun v8 H8 S8 hv8 => ?_)
    replace SX := SX.trans S8
    refine eg_tup2 (ms := []) hv8 fun v4 v5 dT dB => eg_name (i := 4) nd ⟨_, _, rfl, eg_name (i := 5) nd ⟨rfl, ?_⟩⟩
    replace dW := dp_mono (cut_same (ms := []) S8) dW
    replace dV := dp_mono (cut_same (ms := []) S8) dV
    replace hG6 := S8 _ _ hG6
    replace dG6 := dpall_mono (cut_same (ms := []) S8) dG6
    replace hD7 := S8 _ _ hD7
    replace dD7 := dpall_mono (cut_same (ms := []) S8) dD7
    refine ss_set 6 hX (PD.go (ms := []) (pd_tup (ds := [natD 6, .tuple ((List.range 5).map chF)]) (pad_cons pd_int (pad_cons (pd_tupleL (pd_of (lc_map (own := [("_law_own", 7)]) (bf := fun i => [(7, .int (0 + (i : Int)))]) (es := (List.range 5).map chF) nd (by show blkC nLawByHandRight (defScope sLawByHandRight) _ _ = true; decide +kernel)
      (pdi_range1 pd_int (by decide) (by decide) T.range) (by decide) (by decide +kernel) (fun i d ms' hd => by
        obtain ⟨_, rfl⟩ := intsD_get hd
        exact gd_name nd) (fun i p hp => by rw [List.mem_singleton.mp hp]; exact List.mem_singleton.mpr rfl) (fun i d e vs ms' H1 hd he _ _ hvs => by
        obtain ⟨hi, rfl⟩ := intsD_get hd
        obtain ⟨v, rfl, hv⟩ := dpall1 hvs
        rw [List.getElem?_map, List.getElem?_range (show i < 5 from hi)] at he
        cases he
        exact pd_tup (pad_cons (pd_name (i := 7) rfl hv) (pad_cons (pd_add (pd_name (i := 7) rfl hv) pd_int) (pad_cons pd_int (pad_cons pd_int pad_nil)))) (by show 4 ≤ sizeLine; decide)))) T.tuple) pad_nil)) (by decide +kernel)) (tn _) fun v6 H9 S9 dC => ?_)
    replace SX := SX.trans S9
    replace dW := dp_mono (cut_same (ms := []) S9) dW
    replace dV := dp_mono (cut_same (ms := []) S9) dV
    replace dT := dp_mono (cut_same (ms := []) S9) dT
    replace dB := dp_mono (cut_same (ms := []) S9) dB
    replace hG6 := S9 _ _ hG6
    replace dG6 := dpall_mono (cut_same (ms := []) S9) dG6
    replace hD7 := S9 _ _ hD7
    replace dD7 := dpall_mono (cut_same (ms := []) S9) dD7
    refine ss_set 2 hX (PL.go (ms := []) (pl_cat (by decide +kernel) (pt_name (i := 2) rfl hG6 dG6) (PL.pt (pl_lst (ds := gD) (pad_cons (pd_call FR hr (rr_of (st := 1) (o := 2) (l := [[1, 0]]) tri_in lnd_tri (by decide) (by decide +kernel)) (pad_cons (pd_name (i := 4) rfl dT) (pad_cons pd_int (pad_cons pd_int pad_nil))))
        (pad_cons (pd_call F0 hr (rx_most (st := 1) (p := 2) (o := 0) (m := 2) tri_in lnd_tri (by decide) (by decide +kernel)) (pad_cons (pd_name (i := 4) rfl dT) (pad_cons pd_int (pad_cons pd_int (pad_cons pd_int pad_nil)))))
        (pad_cons (pd_call F1 hr (rx_late (st := 1) (p := 2) (o := 0) (m := 2) (m' := (-1)) (k := (1)) tri_in lnd_tri (by decide) (by decide +kernel) (by decide +kernel) (by decide)) (pad_cons (pd_name (i := 4) rfl dT) (pad_cons pd_int (pad_cons pd_int (pad_cons pd_int pad_nil)))))
        (pad_cons (pd_call FR hr (rr_of (st := 1) (o := 0) (l := [[1, 2]]) back_in lnd_back (by decide) (by decide +kernel)) (pad_cons (pd_name (i := 5) rfl dB) (pad_cons pd_int (pad_cons pd_int pad_nil))))
        (pad_cons (pd_call F3 hr (rx_spr (st := 1) (p := 2) (o := 0) (R := [1]) (s := [2, 1]) (2) tri_in lnd_tri (by decide) (by decide +kernel) (by decide +kernel)) (pad_cons (pd_name (i := 4) rfl dT) (pad_cons pd_int (pad_cons pd_int (pad_cons pd_int pad_nil)))))
        pad_nil))))) (by decide +kernel)))) (tn _) fun p10 xs10 H10 S10 hn10 hp10 hx10 => ?_)
    replace SX := SX.trans S10
    replace dW := dp_mono (cut_same (ms := []) S10) dW
    replace dV := dp_mono (cut_same (ms := []) S10) dV
    replace dT := dp_mono (cut_same (ms := []) S10) dT
    replace dB := dp_mono (cut_same (ms := []) S10) dB
    replace dC := dp_mono (cut_same (ms := []) S10) dC
    replace hD7 := S10 _ _ hD7
    replace dD7 := dpall_mono (cut_same (ms := []) S10) dD7
    have hG10 := hp10
    have dG10 := dpall_mono (K := K) (cut_sub (ms := [p10]) (ms' := []) fun _ h => nomatch h) hx10
    refine ss_set 3 hX (PL.go (ms := []) (pl_cat (by decide +kernel) (pt_name (i := 3) rfl hD7 dD7) (PL.pt (lit_pl (n := 5) (ds := gD) rfl (by decide +kernel)))) (tn _) fun p11 xs11 H11 S11 hn11 hp11 hx11 => ?_)
    replace SX := SX.trans S11
    replace dW := dp_mono (cut_same (ms := []) S11) dW
    replace dV := dp_mono (cut_same (ms := []) S11) dV
    replace dT := dp_mono (cut_same (ms := []) S11) dT
    replace dB := dp_mono (cut_same (ms := []) S11) dB
    replace dC := dp_mono (cut_same (ms := []) S11) dC
    replace hG10 := S11 _ _ hG10
    replace dG10 := dpall_mono (cut_same (ms := []) S11) dG10
    have hD11 := hp11
    have dD11 := dpall_mono (K := K) (cut_sub (ms := [p11]) (ms' := []) fun _ h => nomatch h) hx11
    refine ss_set 2 hX (PL.go (ms := []) (pl_cat (by decide +kernel) (pt_name (i := 2) rfl hG10 dG10) (PL.pt (pl_lst (ds := gE) (pad_cons (pd_call F1 hr (rx_late (st := 0) (p := 5) (o := 1) (m := 80) (m' := (-4)) (k := (4)) chain_in lnd_chain (by decide) (by decide +kernel) (by decide +kernel) (by decide)) (pad_cons (pd_name (i := 6) rfl dC) (pad_cons pd_int (pad_cons pd_int (pad_cons pd_int pad_nil)))))
        (pad_cons (pd_call F0 hr (rx_most (st := 0) (p := 1) (o := 5) (m := (-4)) chain_in lnd_chain (by decide) (by decide +kernel)) (pad_cons (pd_name (i := 6) rfl dC) (pad_cons pd_int (pad_cons pd_int (pad_cons pd_int pad_nil)))))
        (pad_cons (pd_call F3 hr (rx_spr (st := 0) (p := 5) (o := 1) (R := [0]) (s := [1, 20, 20, 20, 20]) (80) chain_in lnd_chain (by decide) (by decide +kernel) (by decide +kernel)) (pad_cons (pd_name (i := 6) rfl dC) (pad_cons pd_int (pad_cons pd_int (pad_cons pd_int pad_nil)))))
        pad_nil))) (by decide +kernel)))) (tn _) fun pG xsG HA SA hnG hpG dxG => ?_)
    have nG : ∀ b o, H b = some o → b ≠ pG := fun b o e => ne_of_none (SX _ _ e) hnG
    replace SX := SX.trans SA
    have tG : Trk [pG] HA := fun m hm => by rw [List.mem_singleton.mp hm, hpG]; exact fun z => by cases z
    replace dW := dp_mono (same_more (ms := []) SA hnG) dW
    have hD := SA _ _ hD11
    have dD := dpall_mono (K := K) (same_more (ms := []) SA hnG) dD11
    refine ss_set 3 hX (PL.go (ms := [pG]) (pl_cat (by decide +kernel) (pt_name (i := 3) rfl hD dD) (PL.pt (lit_pl (n := 5) (ds := gE) rfl (by decide +kernel)))) tG fun pD xsD HB SB hnD hpD dxD => ?_)
    have nD : ∀ b o, H b = some o → b ≠ pD := fun b o e => ne_of_none (SX _ _ e) hnD
    replace SX := SX.trans SB
    have hne : pD ≠ pG := fun z => by rw [z, hpG] at hnD; cases hnD
    have tD : Trk [pD, pG] HB := fun m hm => by
      rcases List.mem_cons.mp hm with rfl | hm
      · rw [hpD]; exact fun z => by cases z
      · exact tG.up SB m hm
    replace dW := dp_mono (same_more (ms := [pG]) SB hnD) dW
    replace hpG := SB _ _ hpG
    replace dxG := dpall_mono (K := K) (same_more (ms := [pG]) SB hnD) dxG
    refine ss_set 8 hX (PD.go (ms := [pD, pG]) (lit_pd 4 _ (.list gG) rfl) tD fun v8 HC SC d8 => ?_)
    replace SX := SX.trans SC
    replace dW := dp_mono (cut_same (ms := [pD, pG]) SC) dW
    replace hpG := SC _ _ hpG
    replace hpD := SC _ _ hpD
    replace dxG := dpall_mono (K := K) (cut_same (ms := [pD, pG]) SC) dxG
    replace dxD := dpall_mono (K := K) (cut_same (ms := [pD, pG]) SC) dxD
    replace tD := tD.up SC
    refine ss_expr hX (es_app1 (ms := [pD, pG]) (i := 2) (d := .list (gG.map gdF)) tD rfl hpG (by rw [dpall_len dxG]; decide +kernel)
      (pd_of (lc_map (own := [("_law_own", 7)]) (bf := fun i => [(7, gG.getD i .none)]) (es := gG.map gdF) nd (by show blkC nLawByHandRight (defScope sLawByHandRight) _ _ = true; decide +kernel) (pdi_list (pd_name (i := 8) rfl d8)) (by decide +kernel) (by decide +kernel)
        (fun i d ms' hd => by
          rw [show gG.getD i .none = d from getD_of hd]
          exact gd_name nd) (fun i p hp => by rw [List.mem_singleton.mp hp]; exact List.mem_singleton.mpr rfl) (fun i d e vs ms' H1 hd he _ Sc hvs => by
          obtain ⟨v, rfl, hv⟩ := dpall1 hvs
          rw [show gG.getD i .none = d from getD_of hd] at hv
          rw [List.getElem?_map, hd] at he
          cases he
          exact pd_call F.FW hr (riw_gd (List.all_eq_true.mp gSh d (List.mem_of_getElem? hd))) (pad_cons (pd_name (i := 0) rfl (dp_mono Sc dW)) (pad_cons pd_int (pad_cons pd_int (pad_cons pd_int (pad_cons (pd_name (i := 7) rfl hv) pad_nil)))))))) fun v14 HD SD hv14 => ?_)
    have cm : cut [pD, pG] (upd HD pG (.lst (xsG ++ [v14]))) = cut [pD, pG] HD := cut_mut (by simp)
    replace dW : Dp K (cut [pD, pG] (upd HD pG (.lst (xsG ++ [v14])))) v00 (landD 3 wardW) := by rw [cm]; exact dp_mono (cut_same SD) dW
    replace dxG : DpAll K (cut [pD, pG] (upd HD pG (.lst (xsG ++ [v14])))) (xsG ++ [v14]) (((((gA ++ gB) ++ gC) ++ gD) ++ gE) ++ [.list gBl]) := by
      rw [cm, ← gdE]
      exact dpall_app (dpall_mono (cut_same SD) dxG) (.cons hv14 .nil)
    replace dxD : DpAll K (cut [pD, pG] (upd HD pG (.lst (xsG ++ [v14])))) xsD ((((gA ++ gB) ++ gC) ++ gD) ++ gE) := by
      rw [cm]
      exact dpall_mono (cut_same SD) dxD
    replace hpG : (upd HD pG (.lst (xsG ++ [v14]))) pG = some (.lst (xsG ++ [v14])) := upd_same
    replace hpD : (upd HD pG (.lst (xsG ++ [v14]))) pD = some (.lst xsD) := by rw [upd_ne hne]; exact SD _ _ hpD
    replace tD : Trk [pD, pG] (upd HD pG (.lst (xsG ++ [v14]))) := (tD.up SD).upd
    replace SX : Same H (upd HD pG (.lst (xsG ++ [v14]))) := fun b o e => by rw [upd_ne (nG b o e)]; exact SD _ _ (SX _ _ e)
    revert dW dxG dxD hpG hpD tD SX
    generalize xsG ++ [v14] = xsG
    generalize upd HD pG (.lst xsG) = HE
    intro dW dxG dxD hpG hpD tD SX
    refine ss_expr hX (es_app1 (ms := [pD, pG]) (i := 3) (d := .list gBl) tD rfl hpD (by rw [dpall_len dxD]; decide +kernel) (lit_pd 4 _ _ rfl) fun v15 HF SF hv15 => ?_)
    have cm : cut [pD, pG] (upd HF pD (.lst (xsD ++ [v15]))) = cut [pD, pG] HF := cut_mut (by simp)
    replace dW : Dp K (cut [] (upd HF pD (.lst (xsD ++ [v15])))) v00 (landD 3 wardW) := dp_mono (cut_sub (ms := [pD, pG]) (ms' := []) fun _ h => nomatch h) (by rw [cm]; exact dp_mono (cut_same SF) dW)
    replace dxD : DpAll K (cut [] (upd HF pD (.lst (xsD ++ [v15])))) (xsD ++ [v15]) (((((gA ++ gB) ++ gC) ++ gD) ++ gE) ++ [.list gBl]) := dpall_mono (cut_sub (ms := [pD, pG]) (ms' := []) fun _ h => nomatch h) (by
      rw [cm]
      exact dpall_app (dpall_mono (cut_same SF) dxD) (.cons hv15 .nil))
    replace dxG : DpAll K (cut [] (upd HF pD (.lst (xsD ++ [v15])))) xsG (((((gA ++ gB) ++ gC) ++ gD) ++ gE) ++ [.list gBl]) := dpall_mono (cut_sub (ms := [pD, pG]) (ms' := []) fun _ h => nomatch h) (by
      rw [cm]
      exact dpall_mono (cut_same SF) dxG)
    replace hpD : (upd HF pD (.lst (xsD ++ [v15]))) pD = some (.lst (xsD ++ [v15])) := upd_same
    replace hpG : (upd HF pD (.lst (xsD ++ [v15]))) pG = some (.lst xsG) := by rw [upd_ne (Ne.symm hne)]; exact SF _ _ hpG
    clear tD cm hv15
    replace SX : Same H (upd HF pD (.lst (xsD ++ [v15]))) := fun b o e => by rw [upd_ne (nD b o e)]; exact SF _ _ (SX _ _ e)
    revert dW dxG dxD hpG hpD SX
    generalize xsD ++ [v15] = xsD
    generalize upd HF pD (.lst xsD) = HG
    intro dW dxD dxG hpD hpG SX
    exact hand_tail T F hX hr dW dxD dxG hpD hpG fun v H' dv S => q v H' (SX.trans S) (by cases dv; exact .bl true)
end
end SK
set_option maxHeartbeats 4000000
namespace SK
open PySem PySem.Spec PyProof.Rows L2 SKM
/-! ### what the top has written -/
theorem all_mk {P : Program} {w : World} {K : PySem.W.Frag} {h : Heap} {mg : Str → Option Value} {fa CP CC fI : Addr} {f0 f1 f2 f3 f4 f5 f6 f7 f8 f9 f10 f11 f12 f13 f14 f15 f16 f17 f18 f19 f20 f21 f22 f23 f24 f25 f26 f27 f28 f29 f30 f31 : Addr} {od0 an0 od1 an1 od2 an2 od3 an3 od4 an4 od5 an5 od6 an6 od7 an7 od8 an8 od9 an9 od10 an10 od11 an11 od12 an12 od13 an13 od14 an14 od15 an15 od16 an16 od17 an17 od18 an18 od19 an19 od20 an20 od21 an21 od22 an22 od23 an23 od24 an24 od25 an25 od26 an26 od27 an27 od28 an28 od29 an29 od30 an30 od31 an31 : Option Addr} {sl0 sl1 sl2 sl3 sl4 sl5 sl6 sl7 sl8 sl9 sl10 sl11 sl12 sl13 sl14 sl15 sl16 sl17 sl18 sl19 sl20 sl21 sl22 sl23 sl24 sl25 sl26 sl27 sl28 sl29 sl30 sl31 : Array (Option Value)} {oc0 kV0 dc0 pm0 cd0 ct0 oc1 kV1 dc1 pm1 cd1 ct1 oc2 kV2 dc2 pm2 cd2 ct2 oc3 kV3 dc3 pm3 cd3 ct3 oc4 kV4 dc4 pm4 cd4 ct4 oc5 kV5 dc5 pm5 cd5 ct5 oc6 kV6 dc6 pm6 cd6 ct6 oc7 kV7 dc7 pm7 cd7 ct7 oc8 kV8 dc8 pm8 cd8 ct8 oc9 kV9 dc9 pm9 cd9 ct9 oc10 kV10 dc10 pm10 cd10 ct10 oc11 kV11 dc11 pm11 cd11 ct11 oc12 kV12 dc12 pm12 cd12 ct12 oc13 kV13 dc13 pm13 cd13 ct13 oc14 kV14 dc14 pm14 cd14 ct14 oc15 kV15 dc15 pm15 cd15 ct15 oc16 kV16 dc16 pm16 cd16 ct16 oc17 kV17 dc17 pm17 cd17 ct17 oc18 kV18 dc18 pm18 cd18 ct18 oc19 kV19 dc19 pm19 cd19 ct19 oc20 kV20 dc20 pm20 cd20 ct20 oc21 kV21 dc21 pm21 cd21 ct21 oc22 kV22 dc22 pm22 cd22 ct22 oc23 kV23 dc23 pm23 cd23 ct23 oc24 kV24 dc24 pm24 cd24 ct24 oc25 kV25 dc25 pm25 cd25 ct25 oc26 kV26 dc26 pm26 cd26 ct26 oc27 kV27 dc27 pm27 cd27 ct27 oc28 kV28 dc28 pm28 cd28 ct28 oc29 kV29 dc29 pm29 cd29 ct29 oc30 kV30 dc30 pm30 cd30 ct30 oc31 kV31 dc31 pm31 cd31 ct31 : Value} {nm1 q1 : Str} {N1 : Addr} {bs1 : List Value} {sn1 : List Str} {sub1 : List Value} {ab1 : Bool} {col1 : Option Bool} {dd1 : Option Addr} {m10 m11 m12 m13 m15 : Option Value} {oce dce pme cte ccl ccl2 : Value} {ode ane cdd ccd2 : Option Addr} {sle ccs ccs2 : Array (Option Value)} {cda cce : Addr} {cvs : Array Value} {cfile : Str} {ctf : Tok} (X : K.In h) (G : h.Ns mainGlobals mg) (hfa : mg "law" = some (.ref fa))
    (a0 : PySem.W.nsIn K mainGlobals "is_number" = some (some (.ref f0))) (l0 : K.lookup f0 = some ⟨oc0, od0, .func (PySem.W.fnOf "is_number" "is_number" (defArgs sIsNumber) (defBody sIsNumber) (defScope sIsNumber) .none kV0 dc0 pm0 an0 cd0 ct0), sl0⟩) (c0 : PySem.W.codeIn K cd0 "is_number" = true) (k0 : PySem.W.keepIn K (.ref f0) = true)
    (a1 : PySem.W.nsIn K mainGlobals "tupled" = some (some (.ref f1))) (l1 : K.lookup f1 = some ⟨oc1, od1, .func (PySem.W.fnOf "tupled" "tupled" (defArgs sTupled) (defBody sTupled) (defScope sTupled) .none kV1 dc1 pm1 an1 cd1 ct1), sl1⟩) (c1 : PySem.W.codeIn K cd1 "tupled" = true) (k1 : PySem.W.keepIn K (.ref f1) = true)
    (a2 : PySem.W.nsIn K mainGlobals "sure_places" = some (some (.ref f2))) (l2 : K.lookup f2 = some ⟨oc2, od2, .func (PySem.W.fnOf "sure_places" "sure_places" (defArgs sSurePlaces) (defBody sSurePlaces) (defScope sSurePlaces) .none kV2 dc2 pm2 an2 cd2 ct2), sl2⟩) (c2 : PySem.W.codeIn K cd2 "sure_places" = true) (k2 : PySem.W.keepIn K (.ref f2) = true)
    (a3 : PySem.W.nsIn K mainGlobals "arrive" = some (some (.ref f3))) (l3 : K.lookup f3 = some ⟨oc3, od3, .func (PySem.W.fnOf "arrive" "arrive" (defArgs sArrive) (defBody sArrive) (defScope sArrive) .none kV3 dc3 pm3 an3 cd3 ct3), sl3⟩) (c3 : PySem.W.codeIn K cd3 "arrive" = true) (k3 : PySem.W.keepIn K (.ref f3) = true)
    (a4 : PySem.W.nsIn K mainGlobals "roads_from" = some (some (.ref f4))) (l4 : K.lookup f4 = some ⟨oc4, od4, .func (PySem.W.fnOf "roads_from" "roads_from" (defArgs sRoadsFrom) (defBody sRoadsFrom) (defScope sRoadsFrom) .none kV4 dc4 pm4 an4 cd4 ct4), sl4⟩) (c4 : PySem.W.codeIn K cd4 "roads_from" = true) (k4 : PySem.W.keepIn K (.ref f4) = true)
    (a5 : PySem.W.nsIn K mainGlobals "roads" = some (some (.ref f5))) (l5 : K.lookup f5 = some ⟨oc5, od5, .func (PySem.W.fnOf "roads" "roads" (defArgs sRoads) (defBody sRoads) (defScope sRoads) .none kV5 dc5 pm5 an5 cd5 ct5), sl5⟩) (c5 : PySem.W.codeIn K cd5 "roads" = true) (k5 : PySem.W.keepIn K (.ref f5) = true)
    (a6 : PySem.W.nsIn K mainGlobals "low_along" = some (some (.ref f6))) (l6 : K.lookup f6 = some ⟨oc6, od6, .func (PySem.W.fnOf "low_along" "low_along" (defArgs sLowAlong) (defBody sLowAlong) (defScope sLowAlong) .none kV6 dc6 pm6 an6 cd6 ct6), sl6⟩) (c6 : PySem.W.codeIn K cd6 "low_along" = true) (k6 : PySem.W.keepIn K (.ref f6) = true)
    (a7 : PySem.W.nsIn K mainGlobals "late_roads" = some (some (.ref f7))) (l7 : K.lookup f7 = some ⟨oc7, od7, .func (PySem.W.fnOf "late_roads" "late_roads" (defArgs sLateRoads) (defBody sLateRoads) (defScope sLateRoads) .none kV7 dc7 pm7 an7 cd7 ct7), sl7⟩) (c7 : PySem.W.codeIn K cd7 "late_roads" = true) (k7 : PySem.W.keepIn K (.ref f7) = true)
    (a8 : PySem.W.nsIn K mainGlobals "greatest_late" = some (some (.ref f8))) (l8 : K.lookup f8 = some ⟨oc8, od8, .func (PySem.W.fnOf "greatest_late" "greatest_late" (defArgs sGreatestLate) (defBody sGreatestLate) (defScope sGreatestLate) .none kV8 dc8 pm8 an8 cd8 ct8), sl8⟩) (c8 : PySem.W.codeIn K cd8 "greatest_late" = true) (k8 : PySem.W.keepIn K (.ref f8) = true)
    (a9 : PySem.W.nsIn K mainGlobals "most_late" = some (some (.ref f9))) (l9 : K.lookup f9 = some ⟨oc9, od9, .func (PySem.W.fnOf "most_late" "most_late" (defArgs sMostLate) (defBody sMostLate) (defScope sMostLate) .none kV9 dc9 pm9 an9 cd9 ct9), sl9⟩) (c9 : PySem.W.codeIn K cd9 "most_late" = true) (k9 : PySem.W.keepIn K (.ref f9) = true)
    (a10 : PySem.W.nsIn K mainGlobals "lateness" = some (some (.ref f10))) (l10 : K.lookup f10 = some ⟨oc10, od10, .func (PySem.W.fnOf "lateness" "lateness" (defArgs sLateness) (defBody sLateness) (defScope sLateness) .none kV10 dc10 pm10 an10 cd10 ct10), sl10⟩) (c10 : PySem.W.codeIn K cd10 "lateness" = true) (k10 : PySem.W.keepIn K (.ref f10) = true)
    (a11 : PySem.W.nsIn K mainGlobals "worst_road" = some (some (.ref f11))) (l11 : K.lookup f11 = some ⟨oc11, od11, .func (PySem.W.fnOf "worst_road" "worst_road" (defArgs sWorstRoad) (defBody sWorstRoad) (defScope sWorstRoad) .none kV11 dc11 pm11 an11 cd11 ct11), sl11⟩) (c11 : PySem.W.codeIn K cd11 "worst_road" = true) (k11 : PySem.W.keepIn K (.ref f11) = true)
    (a12 : PySem.W.nsIn K mainGlobals "worst_spreads" = some (some (.ref f12))) (l12 : K.lookup f12 = some ⟨oc12, od12, .func (PySem.W.fnOf "worst_spreads" "worst_spreads" (defArgs sWorstSpreads) (defBody sWorstSpreads) (defScope sWorstSpreads) .none kV12 dc12 pm12 an12 cd12 ct12), sl12⟩) (c12 : PySem.W.codeIn K cd12 "worst_spreads" = true) (k12 : PySem.W.keepIn K (.ref f12) = true)
    (a13 : PySem.W.nsIn K mainGlobals "is_spreads" = some (some (.ref f13))) (l13 : K.lookup f13 = some ⟨oc13, od13, .func (PySem.W.fnOf "is_spreads" "is_spreads" (defArgs sIsSpreads) (defBody sIsSpreads) (defScope sIsSpreads) .none kV13 dc13 pm13 an13 cd13 ct13), sl13⟩) (c13 : PySem.W.codeIn K cd13 "is_spreads" = true) (k13 : PySem.W.keepIn K (.ref f13) = true)
    (a14 : PySem.W.nsIn K mainGlobals "is_worst" = some (some (.ref f14))) (l14 : K.lookup f14 = some ⟨oc14, od14, .func (PySem.W.fnOf "is_worst" "is_worst" (defArgs sIsWorst) (defBody sIsWorst) (defScope sIsWorst) .none kV14 dc14 pm14 an14 cd14 ct14), sl14⟩) (c14 : PySem.W.codeIn K cd14 "is_worst" = true) (k14 : PySem.W.keepIn K (.ref f14) = true)
    (a15 : PySem.W.nsIn K mainGlobals "_law_box" = some (some (.ref f15))) (l15 : K.lookup f15 = some ⟨oc15, od15, .func (PySem.W.fnOf "_law_box" "_law_box" (defArgs sLawBox) (defBody sLawBox) (defScope sLawBox) .none kV15 dc15 pm15 an15 cd15 ct15), sl15⟩) (c15 : PySem.W.codeIn K cd15 "_law_box" = true) (k15 : PySem.W.keepIn K (.ref f15) = true)
    (a16 : PySem.W.nsIn K mainGlobals "_law_take" = some (some (.ref f16))) (l16 : K.lookup f16 = some ⟨oc16, od16, .func (PySem.W.fnOf "_law_take" "_law_take" (defArgs sLawTake) (defBody sLawTake) (defScope sLawTake) .none kV16 dc16 pm16 an16 cd16 ct16), sl16⟩) (c16 : PySem.W.codeIn K cd16 "_law_take" = true) (k16 : PySem.W.keepIn K (.ref f16) = true)
    (a17 : PySem.W.nsIn K mainGlobals "_law_cells" = some (some (.ref f17))) (l17 : K.lookup f17 = some ⟨oc17, od17, .func (PySem.W.fnOf "_law_cells" "_law_cells" (defArgs sLawCells) (defBody sLawCells) (defScope sLawCells) .none kV17 dc17 pm17 an17 cd17 ct17), sl17⟩) (c17 : PySem.W.codeIn K cd17 "_law_cells" = true) (k17 : PySem.W.keepIn K (.ref f17) = true)
    (a18 : PySem.W.nsIn K mainGlobals "_law_pick" = some (some (.ref f18))) (l18 : K.lookup f18 = some ⟨oc18, od18, .func (PySem.W.fnOf "_law_pick" "_law_pick" (defArgs sLawPick) (defBody sLawPick) (defScope sLawPick) .none kV18 dc18 pm18 an18 cd18 ct18), sl18⟩) (c18 : PySem.W.codeIn K cd18 "_law_pick" = true) (k18 : PySem.W.keepIn K (.ref f18) = true)
    (a19 : PySem.W.nsIn K mainGlobals "_law_lists" = some (some (.ref f19))) (l19 : K.lookup f19 = some ⟨oc19, od19, .func (PySem.W.fnOf "_law_lists" "_law_lists" (defArgs sLawLists) (defBody sLawLists) (defScope sLawLists) .none kV19 dc19 pm19 an19 cd19 ct19), sl19⟩) (c19 : PySem.W.codeIn K cd19 "_law_lists" = true) (k19 : PySem.W.keepIn K (.ref f19) = true)
    (a20 : PySem.W.nsIn K mainGlobals "_law_same" = some (some (.ref f20))) (l20 : K.lookup f20 = some ⟨oc20, od20, .func (PySem.W.fnOf "_law_same" "_law_same" (defArgs sLawSame) (defBody sLawSame) (defScope sLawSame) .none kV20 dc20 pm20 an20 cd20 ct20), sl20⟩) (c20 : PySem.W.codeIn K cd20 "_law_same" = true) (k20 : PySem.W.keepIn K (.ref f20) = true)
    (a21 : PySem.W.nsIn K mainGlobals "_law_ticks_by" = some (some (.ref f21))) (l21 : K.lookup f21 = some ⟨oc21, od21, .func (PySem.W.fnOf "_law_ticks_by" "_law_ticks_by" (defArgs sLawTicksBy) (defBody sLawTicksBy) (defScope sLawTicksBy) .none kV21 dc21 pm21 an21 cd21 ct21), sl21⟩) (c21 : PySem.W.codeIn K cd21 "_law_ticks_by" = true) (k21 : PySem.W.keepIn K (.ref f21) = true)
    (a22 : PySem.W.nsIn K mainGlobals "_law_all_lengths" = some (some (.ref f22))) (l22 : K.lookup f22 = some ⟨oc22, od22, .func (PySem.W.fnOf "_law_all_lengths" "_law_all_lengths" (defArgs sLawAllLengths) (defBody sLawAllLengths) (defScope sLawAllLengths) .none kV22 dc22 pm22 an22 cd22 ct22), sl22⟩) (c22 : PySem.W.codeIn K cd22 "_law_all_lengths" = true) (k22 : PySem.W.keepIn K (.ref f22) = true)
    (a23 : PySem.W.nsIn K mainGlobals "_law_plan" = some (some (.ref f23))) (l23 : K.lookup f23 = some ⟨oc23, od23, .func (PySem.W.fnOf "_law_plan" "_law_plan" (defArgs sLawPlan) (defBody sLawPlan) (defScope sLawPlan) .none kV23 dc23 pm23 an23 cd23 ct23), sl23⟩) (c23 : PySem.W.codeIn K cd23 "_law_plan" = true) (k23 : PySem.W.keepIn K (.ref f23) = true)
    (a24 : PySem.W.nsIn K mainGlobals "_law_ward" = some (some (.ref f24))) (l24 : K.lookup f24 = some ⟨oc24, od24, .func (PySem.W.fnOf "_law_ward" "_law_ward" (defArgs sLawWard) (defBody sLawWard) (defScope sLawWard) .none kV24 dc24 pm24 an24 cd24 ct24), sl24⟩) (c24 : PySem.W.codeIn K cd24 "_law_ward" = true) (k24 : PySem.W.keepIn K (.ref f24) = true)
    (a25 : PySem.W.nsIn K mainGlobals "_law_vault" = some (some (.ref f25))) (l25 : K.lookup f25 = some ⟨oc25, od25, .func (PySem.W.fnOf "_law_vault" "_law_vault" (defArgs sLawVault) (defBody sLawVault) (defScope sLawVault) .none kV25 dc25 pm25 an25 cd25 ct25), sl25⟩) (c25 : PySem.W.codeIn K cd25 "_law_vault" = true) (k25 : PySem.W.keepIn K (.ref f25) = true)
    (a26 : PySem.W.nsIn K mainGlobals "_law_asked" = some (some (.ref f26))) (l26 : K.lookup f26 = some ⟨oc26, od26, .func (PySem.W.fnOf "_law_asked" "_law_asked" (defArgs sLawAsked) (defBody sLawAsked) (defScope sLawAsked) .none kV26 dc26 pm26 an26 cd26 ct26), sl26⟩) (c26 : PySem.W.codeIn K cd26 "_law_asked" = true) (k26 : PySem.W.keepIn K (.ref f26) = true)
    (a27 : PySem.W.nsIn K mainGlobals "_law_roads" = some (some (.ref f27))) (l27 : K.lookup f27 = some ⟨oc27, od27, .func (PySem.W.fnOf "_law_roads" "_law_roads" (defArgs sLawRoads) (defBody sLawRoads) (defScope sLawRoads) .none kV27 dc27 pm27 an27 cd27 ct27), sl27⟩) (c27 : PySem.W.codeIn K cd27 "_law_roads" = true) (k27 : PySem.W.keepIn K (.ref f27) = true)
    (a28 : PySem.W.nsIn K mainGlobals "_law_case_right" = some (some (.ref f28))) (l28 : K.lookup f28 = some ⟨oc28, od28, .func (PySem.W.fnOf "_law_case_right" "_law_case_right" (defArgs sLawCaseRight) (defBody sLawCaseRight) (defScope sLawCaseRight) .none kV28 dc28 pm28 an28 cd28 ct28), sl28⟩) (c28 : PySem.W.codeIn K cd28 "_law_case_right" = true) (k28 : PySem.W.keepIn K (.ref f28) = true)
    (a29 : PySem.W.nsIn K mainGlobals "_law_right" = some (some (.ref f29))) (l29 : K.lookup f29 = some ⟨oc29, od29, .func (PySem.W.fnOf "_law_right" "_law_right" (defArgs sLawRight) (defBody sLawRight) (defScope sLawRight) .none kV29 dc29 pm29 an29 cd29 ct29), sl29⟩) (c29 : PySem.W.codeIn K cd29 "_law_right" = true) (k29 : PySem.W.keepIn K (.ref f29) = true)
    (a30 : PySem.W.nsIn K mainGlobals "_law_by_hand_right" = some (some (.ref f30))) (l30 : K.lookup f30 = some ⟨oc30, od30, .func (PySem.W.fnOf "_law_by_hand_right" "_law_by_hand_right" (defArgs sLawByHandRight) (defBody sLawByHandRight) (defScope sLawByHandRight) .none kV30 dc30 pm30 an30 cd30 ct30), sl30⟩) (c30 : PySem.W.codeIn K cd30 "_law_by_hand_right" = true) (k30 : PySem.W.keepIn K (.ref f30) = true)
    (a31 : PySem.W.nsIn K mainGlobals "law" = some (some (.ref f31))) (l31 : K.lookup f31 = some ⟨oc31, od31, .func (PySem.W.fnOf "law" "law" (defArgs sLaw) (defBody sLaw) (defScope sLaw) .none kV31 dc31 pm31 an31 cd31 ct31), sl31⟩) (c31 : PySem.W.codeIn K cd31 "law" = true) (k31 : PySem.W.keepIn K (.ref f31) = true)
    (z_isi : PySem.W.nsIn K mainGlobals "isinstance" = some none)
    (z_int : PySem.W.nsIn K mainGlobals "int" = some none)
    (z_bool : PySem.W.nsIn K mainGlobals "bool" = some none)
    (z_str : PySem.W.nsIn K mainGlobals "str" = some none)
    (z_list : PySem.W.nsIn K mainGlobals "list" = some none)
    (z_tuple : PySem.W.nsIn K mainGlobals "tuple" = some none)
    (z_len : PySem.W.nsIn K mainGlobals "len" = some none)
    (z_zip : PySem.W.nsIn K mainGlobals "zip" = some none)
    (z_enum : PySem.W.nsIn K mainGlobals "enumerate" = some none)
    (z_range : PySem.W.nsIn K mainGlobals "range" = some none)
    (z_sorted : PySem.W.nsIn K mainGlobals "sorted" = some none)
    (z_set : PySem.W.nsIn K mainGlobals "set" = some none)
    (z_min : PySem.W.nsIn K mainGlobals "min" = some none)
    (z_max : PySem.W.nsIn K mainGlobals "max" = some none)
    (z_all : PySem.W.nsIn K mainGlobals "all" = some none)
    (z_abs : PySem.W.nsIn K mainGlobals "abs" = some none)
    (z_ve : PySem.W.nsIn K mainGlobals "ValueError" = some none)
    (z_le : PySem.W.nsIn K mainGlobals "LookupError" = some none)
    (z_su : PySem.W.nsIn K mainGlobals "super" = some none)
    (e_C : PySem.W.nsIn K mainGlobals "NoPlace" = some (some (.ref CP)))
    (e_cls : K.lookup CP = some (excClassObj nm1 q1 CP N1 bs1 leTail true sn1 sub1 ab1 col1 dd1 m10 m11 m12 m13 m15 "LookupError.__new__"))
    (e_sa : PySem.W.findIn K (.ref CP) "__setattr__" = some (some (.builtin "object.__setattr__")))
    (e_ga : PySem.W.findIn K (.ref CP) "__getattribute__" = some (some (.builtin "BaseException.__getattribute__")))
    (e_gg : PySem.W.findIn K (.ref CP) "__getattr__" = some none)
    (e_no : PySem.W.findIn K (.ref CP) "number" = some none)
    (e_ic : PySem.W.findIn K (.ref CP) "__init__" = some (some (.ref fI)))
    (e_tc : PySem.W.typeIn K (.ref fI) = some (.type "function"))
    (e_kc : PySem.W.keepIn K (.ref CP) = true)
    (e_ec : PySem.W.subIn K (.ref CP) (.type "BaseException") = some true)
    (e_lc : PySem.W.subIn K (.ref CP) (.type "LookupError") = some true)
    (e_sl : PySem.W.mroIn K CP (.ref CP) = some true)
    (e_ty : PySem.W.typeIn K (.ref CP) = some (.type "type"))
    (e_hd : PySem.W.hasDictIn K CP = true)
    (e_ss : PySem.W.subIn K (.ref CP) (.ref CP) = some true)
    (e_su : PySem.W.ks_superIn K CP CP "__init__" = some (some (.builtin "LookupError.__init__")))
    (e_op : PySem.W.nsIn K cStatics "thirdparty.any" = some none)
    (e_fn : K.lookup fI = some ⟨oce, ode, .func (PySem.W.ksFn "__init__" "NoPlace.__init__" npA npB npS .none .none dce pme ane (.ref cda) cte cce), sle⟩)
    (e_cd : PySem.W.codeIn K (.ref cda) "NoPlace.__init__" = true)
    (e_cf : K.lookup cda = some ⟨ccl, cdd, .fields cvs, ccs⟩)
    (e_v2 : cvs[2]? = some (.str cfile ctf))
    (e_fi : ((P.main.file : Str) == cfile) = true)
    (e_ce : K.lookup cce = some ⟨ccl2, ccd2, .cell (some (.ref CP)), ccs2⟩)
    (e_to : (P.main.scope.names.lookup ("super" : Str)).isSome = false)
    (e_cl : PySem.W.findIn K (.ref CP) "__class__" = some (some (.builtin "object.__class__")))
    (e_gs : PySem.W.specialIn K (.builtin "object.__class__") "__get__" = some (some (.builtin "getset_descriptor.__get__")))
    (e_tk : PySem.W.takesIn K (.builtin "object.__class__") = some true)
    (e_mo : PySem.W.mroIn K CP (.type "object") = some true)
    (e_kl : PySem.W.kitOne K (.ref CP) (.type "LookupError") = some true)
    (n_C : PySem.W.nsIn K mainGlobals "CanNot" = some (some (.ref CC)))
    (n_q : PySem.W.excIn K CC veTailX "ValueError.__new__" = true)
    (n_kc : PySem.W.keepIn K (.ref CC) = true)
    (n_ec : PySem.W.subIn K (.ref CC) (.type "BaseException") = some true)
    (n_ty : PySem.W.typeIn K (.ref CC) = some (.type "type"))
    (n_hd : PySem.W.hasDictIn K CC = true)
    (n_ss : PySem.W.subIn K (.ref CC) (.ref CC) = some true)
    (n_ga : PySem.W.findIn K (.ref CC) "__getattribute__" = some (some (.builtin "BaseException.__getattribute__")))
    (n_gg : PySem.W.findIn K (.ref CC) "__getattr__" = some none)
    (n_cl : PySem.W.findIn K (.ref CC) "__class__" = some (some (.builtin "object.__class__")))
    (n_mo : PySem.W.mroIn K CC (.type "object") = some true)
    (n_kv : PySem.W.kitOne K (.ref CC) (.type "ValueError") = some true)
    (n_pc : PySem.W.subIn K (.ref CP) (.ref CC) = some false) :
    ∃ fd : FuncData, (∀ (s : Shared) (v : Value), BindsTo s fd ⟨[v], []⟩ [("_law_script", v)]) ∧ ∀ base : Heap, K.In base → base.Ns mainGlobals mg → FnOk P w K mg base CX0 16 fa fd ["_law_script"] (spLaw K) := by
  have e := hfa.symm.trans (PySem.W.mg_of X G a31)
  cases e
  have T : Mg mg := ⟨PySem.W.mg_none_of X G z_isi, PySem.W.mg_none_of X G z_int, PySem.W.mg_none_of X G z_bool, PySem.W.mg_none_of X G z_str, PySem.W.mg_none_of X G z_list, PySem.W.mg_none_of X G z_tuple, PySem.W.mg_none_of X G z_len, PySem.W.mg_none_of X G z_zip, PySem.W.mg_none_of X G z_enum, PySem.W.mg_none_of X G z_range, PySem.W.mg_none_of X G z_sorted, PySem.W.mg_none_of X G z_set, PySem.W.mg_none_of X G z_min, PySem.W.mg_none_of X G z_max, PySem.W.mg_none_of X G z_all, PySem.W.mg_none_of X G z_abs⟩
  have U0 := fun_mk (st := sIsNumber) l0 c0 k0
  have A0 : At K mg "is_number" sIsNumber _ _ ["thing"] := ⟨U0, PySem.W.mg_of X G a0, U0.binds (ps := ["thing"]) fun _ _ _ _ _ _ us hl => match us, hl with | [_], _ => rfl⟩
  have U1 := fun_mk (st := sTupled) l1 c1 k1
  have A1 : At K mg "tupled" sTupled _ _ ["value"] := ⟨U1, PySem.W.mg_of X G a1, U1.binds (ps := ["value"]) fun _ _ _ _ _ _ us hl => match us, hl with | [_], _ => rfl⟩
  have U2 := fun_mk (st := sSurePlaces) l2 c2 k2
  have A2 : At K mg "sure_places" sSurePlaces _ _ ["land", "numbers"] := ⟨U2, PySem.W.mg_of X G a2, U2.binds (ps := ["land", "numbers"]) fun _ _ _ _ _ _ us hl => match us, hl with | [_, _], _ => rfl⟩
  have U3 := fun_mk (st := sArrive) l3 c3 k3
  have A3 : At K mg "arrive" sArrive _ _ ["land", "start", "spreads"] := ⟨U3, PySem.W.mg_of X G a3, U3.binds (ps := ["land", "start", "spreads"]) fun _ _ _ _ _ _ us hl => match us, hl with | [_, _, _], _ => rfl⟩
  have U4 := fun_mk (st := sRoadsFrom) l4 c4 k4
  have A4 : At K mg "roads_from" sRoadsFrom _ _ ["land", "here", "place", "gone"] := ⟨U4, PySem.W.mg_of X G a4, U4.binds (ps := ["land", "here", "place", "gone"]) fun _ _ _ _ _ _ us hl => match us, hl with | [_, _, _, _], _ => rfl⟩
  have U5 := fun_mk (st := sRoads) l5 c5 k5
  have A5 : At K mg "roads" sRoads _ _ ["land", "start", "place"] := ⟨U5, PySem.W.mg_of X G a5, U5.binds (ps := ["land", "start", "place"]) fun _ _ _ _ _ _ us hl => match us, hl with | [_, _, _], _ => rfl⟩
  have U6 := fun_mk (st := sLowAlong) l6 c6 k6
  have A6 : At K mg "low_along" sLowAlong _ _ ["land", "road"] := ⟨U6, PySem.W.mg_of X G a6, U6.binds (ps := ["land", "road"]) fun _ _ _ _ _ _ us hl => match us, hl with | [_, _], _ => rfl⟩
  have U7 := fun_mk (st := sLateRoads) l7 c7 k7
  have A7 : At K mg "late_roads" sLateRoads _ _ ["land", "start", "place", "other"] := ⟨U7, PySem.W.mg_of X G a7, U7.binds (ps := ["land", "start", "place", "other"]) fun _ _ _ _ _ _ us hl => match us, hl with | [_, _, _, _], _ => rfl⟩
  have U8 := fun_mk (st := sGreatestLate) l8 c8 k8
  have A8 : At K mg "greatest_late" sGreatestLate _ _ ["land", "start", "place", "other"] := ⟨U8, PySem.W.mg_of X G a8, U8.binds (ps := ["land", "start", "place", "other"]) fun _ _ _ _ _ _ us hl => match us, hl with | [_, _, _, _], _ => rfl⟩
  have U9 := fun_mk (st := sMostLate) l9 c9 k9
  have A9 : At K mg "most_late" sMostLate _ _ ["land", "start", "place", "other"] := ⟨U9, PySem.W.mg_of X G a9, U9.binds (ps := ["land", "start", "place", "other"]) fun _ _ _ _ _ _ us hl => match us, hl with | [_, _, _, _], _ => rfl⟩
  have U10 := fun_mk (st := sLateness) l10 c10 k10
  have A10 : At K mg "lateness" sLateness _ _ ["land", "start", "place", "other"] := ⟨U10, PySem.W.mg_of X G a10, U10.binds (ps := ["land", "start", "place", "other"]) fun _ _ _ _ _ _ us hl => match us, hl with | [_, _, _, _], _ => rfl⟩
  have U11 := fun_mk (st := sWorstRoad) l11 c11 k11
  have A11 : At K mg "worst_road" sWorstRoad _ _ ["land", "start", "place", "other"] := ⟨U11, PySem.W.mg_of X G a11, U11.binds (ps := ["land", "start", "place", "other"]) fun _ _ _ _ _ _ us hl => match us, hl with | [_, _, _, _], _ => rfl⟩
  have U12 := fun_mk (st := sWorstSpreads) l12 c12 k12
  have A12 : At K mg "worst_spreads" sWorstSpreads _ _ ["land", "start", "place", "other"] := ⟨U12, PySem.W.mg_of X G a12, U12.binds (ps := ["land", "start", "place", "other"]) fun _ _ _ _ _ _ us hl => match us, hl with | [_, _, _, _], _ => rfl⟩
  have U13 := fun_mk (st := sIsSpreads) l13 c13 k13
  have A13 : At K mg "is_spreads" sIsSpreads _ _ ["land", "thing"] := ⟨U13, PySem.W.mg_of X G a13, U13.binds (ps := ["land", "thing"]) fun _ _ _ _ _ _ us hl => match us, hl with | [_, _], _ => rfl⟩
  have U14 := fun_mk (st := sIsWorst) l14 c14 k14
  have A14 : At K mg "is_worst" sIsWorst _ _ ["land", "start", "place", "other", "thing"] := ⟨U14, PySem.W.mg_of X G a14, U14.binds (ps := ["land", "start", "place", "other", "thing"]) fun _ _ _ _ _ _ us hl => match us, hl with | [_, _, _, _, _], _ => rfl⟩
  have U15 := fun_mk (st := sLawBox) l15 c15 k15
  have A15 : At K mg "_law_box" sLawBox _ _ ["_law_script", "_law_k"] := ⟨U15, PySem.W.mg_of X G a15, U15.binds (ps := ["_law_script", "_law_k"]) fun _ _ _ _ _ _ us hl => match us, hl with | [_, _], _ => rfl⟩
  have U16 := fun_mk (st := sLawTake) l16 c16 k16
  have A16 : At K mg "_law_take" sLawTake _ _ ["_law_tin", "_law_below_so"] := ⟨U16, PySem.W.mg_of X G a16, U16.binds (ps := ["_law_tin", "_law_below_so"]) fun _ _ _ _ _ _ us hl => match us, hl with | [_, _], _ => rfl⟩
  have U17 := fun_mk (st := sLawCells) l17 c17 k17
  have A17 : At K mg "_law_cells" sLawCells _ _ ["_law_script", "_law_most_so"] := ⟨U17, PySem.W.mg_of X G a17, U17.binds (ps := ["_law_script", "_law_most_so"]) fun _ _ _ _ _ _ us hl => match us, hl with | [_, _], _ => rfl⟩
  have U18 := fun_mk (st := sLawPick) l18 c18 k18
  have A18 : At K mg "_law_pick" sLawPick _ _ ["_law_tin", "_law_goods_so", "_law_count_so"] := ⟨U18, PySem.W.mg_of X G a18, U18.binds (ps := ["_law_tin", "_law_goods_so", "_law_count_so"]) fun _ _ _ _ _ _ us hl => match us, hl with | [_, _, _], _ => rfl⟩
  have U19 := fun_mk (st := sLawLists) l19 c19 k19
  have A19 : At K mg "_law_lists" sLawLists _ _ ["_law_matter"] := ⟨U19, PySem.W.mg_of X G a19, U19.binds (ps := ["_law_matter"]) fun _ _ _ _ _ _ us hl => match us, hl with | [_], _ => rfl⟩
  have U20 := fun_mk (st := sLawSame) l20 c20 k20
  have A20 : At K mg "_law_same" sLawSame _ _ ["_law_got", "_law_due"] := ⟨U20, PySem.W.mg_of X G a20, U20.binds (ps := ["_law_got", "_law_due"]) fun _ _ _ _ _ _ us hl => match us, hl with | [_, _], _ => rfl⟩
  have U21 := fun_mk (st := sLawTicksBy) l21 c21 k21
  have A21 : At K mg "_law_ticks_by" sLawTicksBy _ _ ["_law_plan_so", "_law_start_so", "_law_lengths_so"] := ⟨U21, PySem.W.mg_of X G a21, U21.binds (ps := ["_law_plan_so", "_law_start_so", "_law_lengths_so"]) fun _ _ _ _ _ _ us hl => match us, hl with | [_, _, _], _ => rfl⟩
  have U22 := fun_mk (st := sLawAllLengths) l22 c22 k22
  have A22 : At K mg "_law_all_lengths" sLawAllLengths _ _ ["_law_plan_so"] := ⟨U22, PySem.W.mg_of X G a22, U22.binds (ps := ["_law_plan_so"]) fun _ _ _ _ _ _ us hl => match us, hl with | [_], _ => rfl⟩
  have U23 := fun_mk (st := sLawPlan) l23 c23 k23
  have A23 : At K mg "_law_plan" sLawPlan _ _ ["_law_tin", "_law_most_so"] := ⟨U23, PySem.W.mg_of X G a23, U23.binds (ps := ["_law_tin", "_law_most_so"]) fun _ _ _ _ _ _ us hl => match us, hl with | [_, _], _ => rfl⟩
  have U24 := fun_mk (st := sLawWard) l24 c24 k24
  have A24 : At K mg "_law_ward" sLawWard _ _ [] := ⟨U24, PySem.W.mg_of X G a24, U24.binds (ps := []) fun _ _ _ _ _ _ us hl => match us, hl with | [], _ => rfl⟩
  have U25 := fun_mk (st := sLawVault) l25 c25 k25
  have A25 : At K mg "_law_vault" sLawVault _ _ [] := ⟨U25, PySem.W.mg_of X G a25, U25.binds (ps := []) fun _ _ _ _ _ _ us hl => match us, hl with | [], _ => rfl⟩
  have U26 := fun_mk (st := sLawAsked) l26 c26 k26
  have A26 : At K mg "_law_asked" sLawAsked _ _ ["_law_door", "_law_plan_here", "_law_start_so", "_law_place_so", "_law_other_so"] := ⟨U26, PySem.W.mg_of X G a26, U26.binds (ps := ["_law_door", "_law_plan_here", "_law_start_so", "_law_place_so", "_law_other_so"]) fun _ _ _ _ _ _ us hl => match us, hl with | [_, _, _, _, _], _ => rfl⟩
  have U27 := fun_mk (st := sLawRoads) l27 c27 k27
  have A27 : At K mg "_law_roads" sLawRoads _ _ ["_law_plan_here", "_law_start_so", "_law_place_so"] := ⟨U27, PySem.W.mg_of X G a27, U27.binds (ps := ["_law_plan_here", "_law_start_so", "_law_place_so"]) fun _ _ _ _ _ _ us hl => match us, hl with | [_, _, _], _ => rfl⟩
  have U28 := fun_mk (st := sLawCaseRight) l28 c28 k28
  have A28 : At K mg "_law_case_right" sLawCaseRight _ _ ["_law_tin", "_law_plan_here", "_law_start_so", "_law_lengths", "_law_rows"] := ⟨U28, PySem.W.mg_of X G a28, U28.binds (ps := ["_law_tin", "_law_plan_here", "_law_start_so", "_law_lengths", "_law_rows"]) fun _ _ _ _ _ _ us hl => match us, hl with | [_, _, _, _, _], _ => rfl⟩
  have U29 := fun_mk (st := sLawRight) l29 c29 k29
  have A29 : At K mg "_law_right" sLawRight _ _ ["_law_tin"] := ⟨U29, PySem.W.mg_of X G a29, U29.binds (ps := ["_law_tin"]) fun _ _ _ _ _ _ us hl => match us, hl with | [_], _ => rfl⟩
  have U30 := fun_mk (st := sLawByHandRight) l30 c30 k30
  have A30 : At K mg "_law_by_hand_right" sLawByHandRight _ _ [] := ⟨U30, PySem.W.mg_of X G a30, U30.binds (ps := []) fun _ _ _ _ _ _ us hl => match us, hl with | [], _ => rfl⟩
  have U31 := fun_mk (st := sLaw) l31 c31 k31
  have A31 : At K mg "law" sLaw _ _ ["_law_script"] := ⟨U31, PySem.W.mg_of X G a31, U31.binds (ps := ["_law_script"]) fun _ _ _ _ _ _ us hl => match us, hl with | [_], _ => rfl⟩
  have np : NpTxt P K mg CP fI := ⟨PySem.W.mg_of X G e_C, ⟨_, _, _, _, _, _, _, _, _, _, _, _, _, _, e_cls⟩, e_sa, e_ga, e_gg, e_no, e_ic, e_tc, e_kc, e_ec, e_lc, e_sl, e_ty, e_hd, PySem.W.exm_ref e_ec e_hd e_ty e_ss, e_su, e_op,
    ⟨_, _, _, _, _, _, _, _, _, e_fn, e_cd, ⟨_, _, _, _, _, _, e_cf, e_v2, e_fi⟩, ⟨_, _, _, e_ce⟩⟩, PySem.W.mg_none_of X G z_su, e_to, by decide +kernel⟩
  have cn : CnTxt K mg CC := ⟨PySem.W.mg_of X G n_C, n_q, n_kc, n_ec, n_ty, PySem.W.exm_ref n_ec n_hd n_ty n_ss⟩
  have AT : AskT P K mg CP CC fI := ⟨np, cn, ⟨e_ga, e_gg, e_ec, e_hd, e_cl, e_gs, e_tk, e_mo⟩, ⟨n_ga, n_gg, n_ec, n_hd, n_cl, e_gs, e_tk, n_mo⟩, PySem.W.mg_none_of X G z_ve, PySem.W.mg_none_of X G z_le, n_kv, e_kl, PySem.W.exm_ref n_ec n_hd n_ty n_pc⟩
  refine ⟨_, fun s v => .of_eq (show bindArgs (PySem.W.fnOf "law" "law" (defArgs sLaw) (defBody sLaw) (defScope sLaw) .none kV31 dc31 pm31 an31 cd31 ct31) _ = _ from rfl), fun base _ _ => ?_⟩
  have NP : NPok P w K mg base CP := np_ok np
  have CN : CNok P w K mg base CC := cn_ok cn
  have g_num := fn_is_number (P := P) (w := w) (base := base) A0 T 7
  have g_tup := (fn_tupled (P := P) (w := w) (base := base) A1 T 3).mono (show 3 + 1 ≤ 8 by decide)
  have g_arr := fn_arrive (P := P) (w := w) (base := base) A3 T 7
  have g_rf := (fn_roads_from (P := P) (w := w) (base := base) A4 T 6).mono (show 6 + 1 ≤ 8 by decide)
  have g_low := fn_low_along (P := P) (w := w) (base := base) A6 T 7
  have g_lst := (fn_law_lists (P := P) (w := w) (base := base) A19 T 3).mono (show 3 + 1 ≤ 13 by decide)
  have g_s3 := (fn_law_same (P := P) (w := w) (base := base) A20 T 3).mono (show 3 + 1 ≤ 13 by decide)
  have g_s5 := (fn_law_same (P := P) (w := w) (base := base) A20 T 5).mono (show 5 + 1 ≤ 13 by decide)
  have g_tick := fn_law_ticks_by (P := P) (w := w) (base := base) A21 T 13
  have g_all := fn_law_all_lengths (P := P) (w := w) (base := base) A22 T 13
  have g_lr := fn_law_roads (P := P) (w := w) (base := base) A27 T 12
  have g_take := fn_law_take (P := P) (w := w) (base := base) A16 T 7
  have g_box := fn_law_box (P := P) (w := w) (base := base) A15 T 14
  have g_cells := fn_law_cells (P := P) (w := w) (base := base) A17 T 14
  have g_ward := fn_law_ward (P := P) (w := w) (base := base) (k := 12) A24
  have g_vault := fn_law_vault (P := P) (w := w) (base := base) (k := 12) A25
  have g_sure := fn_sure_places (k := 8) A2 T (by decide) g_tup NP
  have g_late := fn_late_roads (k := 8) A7 T g_rf g_arr g_low
  have g_isp := fn_is_spreads (k := 8) A13 T g_num
  have g_pick := fn_law_pick (k := 8) A18 T g_take
  have g_roads := fn_roads (k := 9) A5 T (sure_plain g_sure) (g_rf.mono (show 8 ≤ 9 by decide))
  have g_gl := fn_greatest_late (k := 9) A8 T g_late
  have g_plan := fn_law_plan (k := 9) A23 T (g_take.mono (show 8 ≤ 9 by decide)) g_pick
  have s10 := g_sure.mono (show 9 ≤ 10 by decide)
  have g_most := fn_most_late (CC := CC) (k := 10) A9 T s10 g_gl
  have g_lt := fn_lateness (CC := CC) (k := 10) A10 T s10 g_gl
  have g_wr := fn_worst_road (k := 10) A11 T (by decide) s10 (g_late.mono (show 9 ≤ 10 by decide)) CN
  have g_isw := fn_is_worst (k := 10) A14 T (sure_plain s10) g_gl (g_isp.mono (show 9 ≤ 10 by decide)) (g_arr.mono (show 8 ≤ 10 by decide))
  have g_ws := fn_worst_spreads (k := 11) A12 T (g_tup.mono (show 8 ≤ 11 by decide)) (g_low.mono (show 8 ≤ 11 by decide)) g_wr
  have m0 : Fn1 P w K mg base (L2.CX P w) 12 "most_late" ps4 (spA K CP CC Gr NoC) := (g_most.mono (show 11 ≤ 12 by decide)).imp fun vs H Q E ⟨ms, ds, t, hv, q⟩ => ⟨ms, ds, t, hv, q.imp id fun q => q.imp id fun q => ⟨q.1.elim fun _ z => z.elim fun _ z => z.elim fun _ z => z.elim fun _ z => z.elim fun _ z => z.2, q.2⟩⟩
  have m1 := g_lt.mono (show 11 ≤ 12 by decide)
  have m2 := g_wr.mono (show 11 ≤ 12 by decide)
  have g_asked := fn_law_asked (k := 12) A26 T AT m0 m1 m2 g_ws
  have n0 := m0.mono (show 12 ≤ 13 by decide)
  have n1 := m1.mono (show 12 ≤ 13 by decide)
  have n2 := m2.mono (show 12 ≤ 13 by decide)
  have n3 := g_ws.mono (show 12 ≤ 13 by decide)
  have r13 := g_roads.mono (show 10 ≤ 13 by decide)
  have w13 := g_isw.mono (show 11 ≤ 13 by decide)
  have g_case := fn_law_case_right (k := 13) A28 T ⟨g_lst, g_take.mono (show 8 ≤ 13 by decide), g_s3, r13, g_lr, g_asked, w13, g_pick.mono (show 9 ≤ 13 by decide)⟩
  have g_hand := fn_law_by_hand_right (k := 13) A30 T ⟨n0.plain, n1.plain, n2.plain, n3.plain, r13, w13, g_asked, g_lst, g_s5, g_ward, g_vault,
    A9.krev (fun _ _ _ _ _ _ ws hl => match ws, hl with | [_, _, _, _], _ => rfl), A10.krev (fun _ _ _ _ _ _ ws hl => match ws, hl with | [_, _, _, _], _ => rfl), A11.krev (fun _ _ _ _ _ _ ws hl => match ws, hl with | [_, _, _, _], _ => rfl), A14.krev (fun _ _ _ _ _ _ ws hl => match ws, hl with | [_, _, _, _, _], _ => rfl)⟩
  have g_right := fn_law_right (k := 14) A29 T (g_plan.mono (show 10 ≤ 14 by decide)) g_all (g_take.mono (show 8 ≤ 14 by decide)) g_tick g_case
  have g_law := fn_law (k := 15) A31 T (g_hand.mono (show 14 ≤ 15 by decide)) g_right g_box g_cells
  obtain ⟨⟨f', fd', FF, hm, hk, hb⟩, _⟩ := g_law
  have e1 := hfa.symm.trans hm
  cases e1
  obtain ⟨oc', od', sl', hl'⟩ := hb.l
  have e2 := l31.symm.trans hl'
  cases e2
  exact FF
end SK
set_option maxHeartbeats 4000000
open PySem PySem.W PyProof.Rows
set_option maxHeartbeats 0 in
theorem PySem.Challenge.cw_secondknock_k17_whole_one_way_low_all_el_holds : PySem.Challenge.rw_secondknock_k17_whole_one_way_low_all_el.Holds := by
  w_on; o_law; k_head; (case hw => w_witness2)
  k_fill
  refine L2.walk_ofB (l := PySem.Challenge.rw_secondknock_k17_whole_one_way_low_all_el) (n := 63) (k := 16) (x := "_law_script") (CX := fun _ => L2.CX0) (sp := fun w => SK.spLaw _) rfl (by decide) rfl ⟨rfl, by decide, by decide⟩ (fun w h Y => PySem.W.kIn_of Y) ?F (fun _ _ a ns hl _ _ hS => ⟨a, ns, rfl, hS, hl, fun _ => rfl⟩) (fun _ _ _ _ _ h => h)
  case F =>
    intro w mg fa h KX G hmg
    refine' SK.all_mk KX G hmg ?a0 ?l0 ?c0 ?k0 ?a1 ?l1 ?c1 ?k1 ?a2 ?l2 ?c2 ?k2 ?a3 ?l3 ?c3 ?k3 ?a4 ?l4 ?c4 ?k4 ?a5 ?l5 ?c5 ?k5 ?a6 ?l6 ?c6 ?k6 ?a7 ?l7 ?c7 ?k7 ?a8 ?l8 ?c8 ?k8 ?a9 ?l9 ?c9 ?k9 ?a10 ?l10 ?c10 ?k10 ?a11 ?l11 ?c11 ?k11 ?a12 ?l12 ?c12 ?k12 ?a13 ?l13 ?c13 ?k13 ?a14 ?l14 ?c14 ?k14 ?a15 ?l15 ?c15 ?k15 ?a16 ?l16 ?c16 ?k16 ?a17 ?l17 ?c17 ?k17 ?a18 ?l18 ?c18 ?k18 ?a19 ?l19 ?c19 ?k19 ?a20 ?l20 ?c20 ?k20 ?a21 ?l21 ?c21 ?k21 ?a22 ?l22 ?c22 ?k22 ?a23 ?l23 ?c23 ?k23 ?a24 ?l24 ?c24 ?k24 ?a25 ?l25 ?c25 ?k25 ?a26 ?l26 ?c26 ?k26 ?a27 ?l27 ?c27 ?k27 ?a28 ?l28 ?c28 ?k28 ?a29 ?l29 ?c29 ?k29 ?a30 ?l30 ?c30 ?k30 ?a31 ?l31 ?c31 ?k31 ?z_isi ?z_int ?z_bool ?z_str ?z_list ?z_tuple ?z_len ?z_zip ?z_enum ?z_range ?z_sorted ?z_set ?z_min ?z_max ?z_all ?z_abs ?z_ve ?z_le ?z_su ?e_C ?e_cls ?e_sa ?e_ga ?e_gg ?e_no ?e_ic ?e_tc ?e_kc ?e_ec ?e_lc ?e_sl ?e_ty ?e_hd ?e_ss ?e_su ?e_op ?e_fn ?e_cd ?e_cf ?e_v2 ?e_fi ?e_ce ?e_to ?e_cl ?e_gs ?e_tk ?e_mo ?e_kl ?n_C ?n_q ?n_kc ?n_ec ?n_ty ?n_hd ?n_ss ?n_ga ?n_gg ?n_cl ?n_mo ?n_kv ?n_pc
    (case a0 => k_is)
    (case l0 => k_is)
    (case c0 => k_is)
    (case k0 => k_is)
    (case a1 => k_is)
    (case l1 => k_is)
    (case c1 => k_is)
    (case k1 => k_is)
    (case a2 => k_is)
    (case l2 => k_is)
    (case c2 => k_is)
    (case k2 => k_is)
    (case a3 => k_is)
    (case l3 => k_is)
    (case c3 => k_is)
    (case k3 => k_is)
    (case a4 => k_is)
    (case l4 => k_is)
    (case c4 => k_is)
    (case k4 => k_is)
    (case a5 => k_is)
    (case l5 => k_is)
    (case c5 => k_is)
    (case k5 => k_is)
    (case a6 => k_is)
    (case l6 => k_is)
    (case c6 => k_is)
    (case k6 => k_is)
    (case a7 => k_is)
    (case l7 => k_is)
    (case c7 => k_is)
    (case k7 => k_is)
    (case a8 => k_is)
    (case l8 => k_is)
    (case c8 => k_is)
    (case k8 => k_is)
    (case a9 => k_is)
    (case l9 => k_is)
    (case c9 => k_is)
    (case k9 => k_is)
    (case a10 => k_is)
    (case l10 => k_is)
    (case c10 => k_is)
    (case k10 => k_is)
    (case a11 => k_is)
    (case l11 => k_is)
    (case c11 => k_is)
    (case k11 => k_is)
    (case a12 => k_is)
    (case l12 => k_is)
    (case c12 => k_is)
    (case k12 => k_is)
    (case a13 => k_is)
    (case l13 => k_is)
    (case c13 => k_is)
    (case k13 => k_is)
    (case a14 => k_is)
    (case l14 => k_is)
    (case c14 => k_is)
    (case k14 => k_is)
    (case a15 => k_is)
    (case l15 => k_is)
    (case c15 => k_is)
    (case k15 => k_is)
    (case a16 => k_is)
    (case l16 => k_is)
    (case c16 => k_is)
    (case k16 => k_is)
    (case a17 => k_is)
    (case l17 => k_is)
    (case c17 => k_is)
    (case k17 => k_is)
    (case a18 => k_is)
    (case l18 => k_is)
    (case c18 => k_is)
    (case k18 => k_is)
    (case a19 => k_is)
    (case l19 => k_is)
    (case c19 => k_is)
    (case k19 => k_is)
    (case a20 => k_is)
    (case l20 => k_is)
    (case c20 => k_is)
    (case k20 => k_is)
    (case a21 => k_is)
    (case l21 => k_is)
    (case c21 => k_is)
    (case k21 => k_is)
    (case a22 => k_is)
    (case l22 => k_is)
    (case c22 => k_is)
    (case k22 => k_is)
    (case a23 => k_is)
    (case l23 => k_is)
    (case c23 => k_is)
    (case k23 => k_is)
    (case a24 => k_is)
    (case l24 => k_is)
    (case c24 => k_is)
    (case k24 => k_is)
    (case a25 => k_is)
    (case l25 => k_is)
    (case c25 => k_is)
    (case k25 => k_is)
    (case a26 => k_is)
    (case l26 => k_is)
    (case c26 => k_is)
    (case k26 => k_is)
    (case a27 => k_is)
    (case l27 => k_is)
    (case c27 => k_is)
    (case k27 => k_is)
    (case a28 => k_is)
    (case l28 => k_is)
    (case c28 => k_is)
    (case k28 => k_is)
    (case a29 => k_is)
    (case l29 => k_is)
    (case c29 => k_is)
    (case k29 => k_is)
    (case a30 => k_is)
    (case l30 => k_is)
    (case c30 => k_is)
    (case k30 => k_is)
    (case a31 => k_is)
    (case l31 => k_is)
    (case c31 => k_is)
    (case k31 => k_is)
    (case z_isi => k_is)
    (case z_int => k_is)
    (case z_bool => k_is)
    (case z_str => k_is)
    (case z_list => k_is)
    (case z_tuple => k_is)
    (case z_len => k_is)
    (case z_zip => k_is)
    (case z_enum => k_is)
    (case z_range => k_is)
    (case z_sorted => k_is)
    (case z_set => k_is)
    (case z_min => k_is)
    (case z_max => k_is)
    (case z_all => k_is)
    (case z_abs => k_is)
    (case z_ve => k_is)
    (case z_le => k_is)
    (case z_su => k_is)
    (case e_C => k_is)
    (case e_cls => k_is)
    (case e_sa => k_is)
    (case e_ga => k_is)
    (case e_gg => k_is)
    (case e_no => k_is)
    (case e_ic => k_is)
    (case e_tc => k_is)
    (case e_kc => k_is)
    (case e_ec => k_is)
    (case e_lc => k_is)
    (case e_sl => first | k_is | rfl)
    (case e_ty => k_is)
    (case e_hd => k_is)
    (case e_ss => first | rfl | k_is)
    (case e_su => first | ks_is | kernel_rfl)
    (case e_op => k_is)
    (case e_fn => k_is)
    (case e_cd => k_is)
    (case e_cf => k_is)
    (case e_v2 => rfl)
    (case e_fi => decide +kernel)
    (case e_ce => k_is)
    (case e_to => decide +kernel)
    (case e_cl => k_is)
    (case e_gs => k_is)
    (case e_tk => k_is)
    (case e_mo => first | k_is | rfl)
    (case e_kl => first | k_is | kit_is)
    (case n_C => k_is)
    (case n_q => first | kernel_rfl | decide +kernel | rfl)
    (case n_kc => k_is)
    (case n_ec => k_is)
    (case n_ty => k_is)
    (case n_hd => k_is)
    (case n_ss => first | rfl | k_is)
    (case n_ga => k_is)
    (case n_gg => k_is)
    (case n_cl => k_is)
    (case n_mo => first | k_is | rfl)
    (case n_kv => first | k_is | kit_is)
    (case n_pc => first | k_is | rfl)

import PyProof.Rows.All
import Wide.All
import OpenK.AllK
import Wide.FinOn
import HandS.ForMost
import HandS.Codes
import HandS.Star
import HandS.IsInst
import HandS.SortInts
import HandS.DictComp
import HandS.Style
import HandS.Conv
import HandS.Zip
import HandS.Walk
import HandS.Flow
import HandS.Wide
import KE.GoesMore
import KE.GoesEnum
import HandS.TupAny
import HandS.NoneIn
import HandS.Property
import HandS.WideMore
import KE.SortData
import PySem.Challenge.RW_heldbehind_k69_whole_turned_pairs_by_siz
set_option Elab.async false
set_option linter.all false
set_option maxRecDepth 100000
set_option maxHeartbeats 4000000
namespace Hb
open PySem PySem.Spec PyProof.Rows L2
open AutoSeq1 (wpAny_loadPart')

/-! ### enumerate over a tuple -/
theorem meets_enum_tup {v : Value} {o : Obj} {H : Heap → Prop} (B : Begins v o H) :
    Meets (Builtin.«enumerate.__new__» ⟨[.type "enumerate", v], []⟩) (fun _ R s => H s.heap ∧
      R (.ok (.ret (.ref (s.heap.push o).objs.size))) { s with heap := (s.heap.push o).push { cls := .type "enumerate", data := .fields #[.none, .bool false, .ref s.heap.objs.size, rawInt 0, .none, .none] } }) :=
  .of_wp fun prog w A R s h => by
    obtain ⟨hp, g, d, tk, os⟩ := s; obtain ⟨h1, h⟩ := h
    have hsub := sub_enumerate
    have q1 : ∀ {A' : Around} {E : Value → Shared → Prop} {Q : Value → Shared → Prop}, Q (.ref hp.objs.size) ⟨hp.push o, g, d, tk, os⟩ → wpAny (model prog w) A' (pyIter v) Q E ⟨hp, g, d, tk, os⟩ :=
      fun q => B.iter prog w _ _ ⟨hp, g, d, tk, os⟩ _ h1 q
    wp_walk using q1
    refine wpAny_stack_any fun st => wpAny_pure ?_
    split
    · rename_i c _ _ _ _ _
      cases (c == Value.type "enumerate")
      · wp_walk using q1
        exact ⟨_, rfl, h⟩
      · wp_walk using q1
        exact ⟨_, rfl, h⟩
    · wp_walk using q1
      exact ⟨_, rfl, h⟩
theorem call_enum_any {prog : Program} {w : World} {A : Around} {E : Value → Shared → Prop} {s : Shared} {v : Value} {o : Obj} {H : Heap → Prop} {Q : Value → Shared → Prop} (B : Begins v o H) (h1 : H s.heap)
    (h : ∀ h', IsEnum h' (s.heap.objs.size + 1) s.heap.objs.size 0 .none → h'.get? s.heap.objs.size = some o → h'.objs.size = s.heap.objs.size + 2 →
      (∀ b o, s.heap.get? b = some o → h'.get? b = some o) → Q (.ref (s.heap.objs.size + 1)) { s with heap := h' }) :
    wpAny (model prog w) A (call (.type "enumerate") [v]) Q E s := by
  refine callType_new F.called_enumerate (by decide) (F.typeCall_enumerate_1 _) (F.newCall_enumerate_1 _) (fun obj => F.args_object_init_2 obj _) F.entry_enumerate_new
    (meets_enum_tup B) ⟨h1, ?_⟩
  have hz : (s.heap.push o).objs.size = s.heap.objs.size + 1 := Heap.size_push ..
  show _ ∧ _
  rw [hz]
  have he : IsEnum ((s.heap.push o).push { cls := .type "enumerate", data := .fields #[.none, .bool false, .ref s.heap.objs.size, rawInt 0, .none, .none] }) (s.heap.objs.size + 1) s.heap.objs.size 0 .none := by
    have := Heap.get?_push_size (s.heap.push o) (o := { cls := .type "enumerate", data := .fields #[.none, .bool false, .ref s.heap.objs.size, rawInt 0, .none, .none] }) rfl
    rw [hz] at this; exact this
  refine ⟨⟨_, he, rfl⟩, h _ he (Heap.get?_push_of_some _ (Heap.get?_push_size _ B.free)) (by rw [Heap.size_push, hz]) fun b o x => Heap.get?_push_of_some _ (Heap.get?_push_of_some _ x)⟩

/-- the tuple at a, each item in a new pair -/
def Iet (K : PySem.W.Frag) (a : Addr) : It :=
  ⟨fun i H => ∃ (xs : List V) (x : V), SqT K H a xs ∧ xs[i]? = some x, fun i H v H' => ∃ T x, v = .ref T ∧ H T = none ∧ H' = upd H T (.tup [.int (i : Nat), x]) ∧ ∀ xs, SqT K H a xs → xs[i]? = some x, fun i H => ∃ xs : List V, SqT K H a xs ∧ xs.length ≤ i⟩
theorem turn_enumT {P : Program} {w : World} {K : PySem.W.Frag} {elts : List Expr} {kk : Nat} {tpos : Pos} (a e it : Addr) :
    Turn P w K (.Tuple elts kk tpos) (Iet K a) [e, it] e (fun i h => (∃ old, IsEnum h e it ((i : Nat) : Int) old) ∧ h.IsTupleIter it a i ∧ e ≠ it) where
  mem := by simp
  obj := fun i h st b hb => by
    obtain ⟨⟨old, he⟩, ⟨o, ho, hc, hd⟩, _⟩ := st
    have e' : b = e ∨ b = it := by simpa using hb
    rcases e' with z | z
    · rw [z]; exact ⟨_, he, fun v q => nomatch q⟩
    · rw [z]; exact ⟨o, ho, fun v q => by rw [hd] at q; cases q⟩
  keep := fun i h h' st k => let ⟨⟨old, he⟩, hi, hne⟩ := st; ⟨⟨old, k e (by simp) _ he⟩, hi.at fun o q => k it (by simp) o q, hne⟩
  item := by
    intro X hP hw hK hc i pins s σ H E I hf st hg
    subst hP hw hK
    obtain ⟨⟨old, he⟩, hit, hne⟩ := st
    obtain ⟨xs, x, hq, hx⟩ := hg
    obtain ⟨its, rv, p, hz⟩ := I.tuple hq
    obtain ⟨u, hu, ru⟩ := rv.get hx
    have hel : e < s.heap.objs.size := Heap.lt_size he
    have hil : it < s.heap.objs.size := by obtain ⟨_, q, _⟩ := hit; exact Heap.lt_size q
    have hait : a ≠ it := by
      rintro rfl
      obtain ⟨o1, h1, c1, _⟩ := hit
      obtain ⟨o2, h2, c2, _⟩ := p
      rw [h1] at h2; cases h2; rw [c1] at c2; exact absurd (Value.type.inj c2) (by decide)
    have hae : e ≠ a := by
      rintro rfl
      obtain ⟨o2, h2, c2, _⟩ := p
      rw [he] at h2; cases h2; exact absurd (Value.type.inj c2) (by decide)
    have hsz : its.toArray.size = its.length := by simp
    refine wpAny_pyNext_enum_itemD (Draws.tuple (A := X.A.in1) (I.ok.hd hc) it a hait its.toArray) he ⟨hit, show s.heap.IsTuple a its.toArray from p⟩ (by rw [hsz]; exact (List.getElem?_eq_some_iff.mp hu).1) hne (by simp [hne, hae]) fun u' h' tk hP ho hit' hT hsz hk => ?_
    have hu2 : u' = u := by
      have : its.toArray[i]? = some u := by simpa using hu
      rw [this] at hP; exact (Option.some.inj hP).symm
    subst hu2
    refine ⟨_, rfl, wpAny_letOwnedTupleGo_enum (s := { s with heap := h', toks := tk + 1 }) ho fun h'' he' sb => ?_⟩
    have hT2 : h''.get? s.heap.objs.size = some { cls := .type "tuple", data := .seq #[.int i tk, u'] } := (sb.2 _ (Nat.ne_of_gt hel)).trans hT
    have new : ObjOk X.prog X.w (upd H s.heap.objs.size (.tup [.int (i : Nat), x])) h'' s.heap.objs.size (.tup [.int (i : Nat), x]) :=
      ⟨by show 2 ≤ sizeLine; decide, [.int i tk, u'], .cons ⟨_, rfl⟩ (.cons ru .nil), ⟨_, hT2, rfl, _, rfl⟩⟩
    have I1 : Inv X pins σ (upd H s.heap.objs.size (.tup [.int (i : Nat), x])) { s with heap := h'', toks := tk + 1 } :=
      I.turnedNew (ch := [e, it]) (fun b ob hb q => (sb.2 b (fun z => hb (by simp [z]))).trans (hk b ob (fun z => hb (by simp [z])) (fun z => hb (by simp [z])) q)) hf (Nat.le_refl _) new
    refine ⟨.ref s.heap.objs.size, _, I1, rfl, ⟨_, x, rfl, I.hok.fresh (Nat.le_refl _), rfl, fun ys hy => by rw [I.tuple_inj hy hq]; exact hx⟩, ⟨⟨u', ?_⟩, hit'.1.at fun o q => (sb.2 it (Ne.symm hne)).trans q, hne⟩, fun b hb => ?_⟩
    · have e1 : ((i + 1 : Nat) : Int) = (i : Int) + 1 := by omega
      rw [e1]; exact he'
    · have hb' : b < s.heap.objs.size := by
        have e' : b = e ∨ b = it := by simpa using hb
        rcases e' with z | z
        · rw [z]; exact hel
        · rw [z]; exact hil
      rw [upd_ne (Nat.ne_of_lt hb')]
      exact (hf b hb).1
  done := by
    intro X hP hw hK hc i pins s σ H E I hf st hg
    subst hP hw hK
    obtain ⟨⟨old, he⟩, hit, hne⟩ := st
    obtain ⟨xs, hq, hx⟩ := hg
    obtain ⟨its, rv, p, hz⟩ := I.tuple hq
    obtain ⟨f0, f1, f2, f3, f4, f5⟩ := hf it (by simp)
    have hl := rv.length
    have hait : a ≠ it := by
      rintro rfl
      obtain ⟨o1, h1, c1, _⟩ := hit
      obtain ⟨o2, h2, c2, _⟩ := p
      rw [h1] at h2; cases h2; rw [c1] at c2; exact absurd (Value.type.inj c2) (by decide)
    have hx2 : its.toArray[i]? = none := by simp; omega
    have hT : s.TypeIs (.ref e) "enumerate" := ⟨_, he, rfl⟩
    unfold pyNext
    refine wpAny_bind (wpAny_attempt (wpAny_callSpecial?_slot (name := Str.ofString "__next__") hT F.slot_enumerate_next
      (wpAny_call_entry F.slot_enumerate_next hT F.entry_enumerate_next ?_ (F.args_enumerate_next_1 _))))
    show wpAny _ _ (field (.ref e) 2 >>= _) _ _ _
    refine wpAny_bind (wpAny_field he rfl (x := .ref it) rfl ?_)
    refine wpAny_bind (wpAny_nextOf_tuple_end (A := X.A.in1) (I.ok.hd hc) hit (show s.heap.IsTuple a its.toArray from p) hx2 fun h' x he' hx' => ?_)
    obtain ⟨o, ho, hc'⟩ := hx'
    refine wpAny_bind (wpAny_isInstance (T := "StopIteration") (b := true) ⟨o, ho, hc'⟩ isSubtype_stop ?_)
    exact wpAny_pure ⟨rfl, I.turned (t' := s.toks) (fun b o hb q => he' b o hb q) f0 f1 f3 f4 f5⟩
  self := fun _ _ _ _ _ st h => let ⟨⟨old, he⟩, _⟩ := st; wpAny_pyIter_enum he h
def iEnumT (K : PySem.W.Frag) (ta : TA) : TI := fun σ H R => ta σ H fun vs H1 => ∃ a xs, vs = [.ref a] ∧ SqT K H1 a xs ∧ R (Iet K a) H1
theorem pi_enumT {X : Cx} {e : Expr} {ta : TA} {p pos tpos : Pos} {elts : List Expr} {kk : Nat} (hg : Gl X "enumerate") (hm : X.mg "enumerate" = none) (ha : PA X [e] ta) (hs : starEach [e] X.env = [(false, eval e X.env)] := by rfl) :
    PI X (.Tuple elts kk tpos) (.Call (.Name "enumerate" p) [e] [] pos) (iEnumT X.K ta) := by
  refine ⟨fun pins s σ H R I h => ?_⟩
  refine Call_ (ld_blt I hg hm boot_enumerate (PyProof.Rows.callWith_type1 (thn (ha.run pos pins s σ H _ I h) fun us s1 ⟨vs, H1, I1, r1, q1⟩ => ?_) hs rfl))
  obtain ⟨a, xs, ex, hq, q⟩ := q1
  subst ex
  cases r1 with
  | cons r rr =>
    cases rr
    cases r
    obtain ⟨its, rv, p', hz⟩ := I1.tuple hq
    refine call_enum_any (begins_tuple a its.toArray) (show s1.heap.IsTuple a its.toArray from p') fun h' he hit hsz hk => wpAny_pyIter_enum he ?_
    have I2 : Inv X pins σ H1 { s1 with heap := h' } := I1.kept (t' := s1.toks) hk
    refine ⟨s1.heap.objs.size + 1, [s1.heap.objs.size + 1, s1.heap.objs.size], _, _, H1, rfl, I2, turn_enumT a (s1.heap.objs.size + 1) s1.heap.objs.size, ⟨⟨.none, he⟩, ⟨_, hit, rfl, rfl⟩, Nat.succ_ne_self _⟩, fun b hb => ?_, q⟩
    have e' : b = s1.heap.objs.size + 1 ∨ b = s1.heap.objs.size := by simpa using hb
    have hle : s1.heap.objs.size ≤ b := by
      rcases e' with z | z
      · rw [z]; exact Nat.le_add_right _ _
      · rw [z]; exact Nat.le_refl _
    exact I1.fpOk hle (I1.hok.fresh hle)
theorem walk_enumT {K : PySem.W.Frag} {a : Addr} {xs : List V} : Walk (Iet K a) xs.length (fun H => SqT K H a xs) (YPair (fun i => some (.int (i : Nat))) (fun i => xs[i]?)) := by
  refine ⟨fun i _ hi q => ⟨xs, xs[i], q, by simp [hi]⟩, fun _ q => ⟨xs, q, Nat.le_refl _⟩, fun i H v H' _ q y => ?_⟩
  obtain ⟨T, x, h1, h2, h3, h4⟩ := y
  exact ⟨T, .int (i : Nat), x, h1, h2, h3, rfl, h4 xs q⟩
end Hb
/-! forests: plain lists of holders; no program in sight -/
namespace Hb
abbrev Fo := List (Option Nat)
/-- the holder -/
def hd (f : Fo) (t : Nat) : Option Nat := f.getD t none
theorem hd_get {f : Fo} {t : Nat} (h : t < f.length) : f[t]? = some (hd f t) := by
  unfold hd; rw [List.getD_eq_getElem?_getD, List.getElem?_eq_getElem h]; rfl
theorem hd_lt {f : Fo} {t k : Nat} (h : hd f t = some k) : t < f.length := by
  by_cases q : t < f.length
  · exact q
  · unfold hd at h; rw [List.getD_eq_getElem?_getD, List.getElem?_eq_none (by omega)] at h; cases h
structure Ok (f : Fo) : Prop where
  ne : 0 < f.length
  lt : ∀ t k, hd f t = some k → k < f.length
  rk : ∃ d : Nat → Nat, ∀ t k, hd f t = some k → d k < d t
/-- the way up, at most so many steps -/
def up (f : Fo) : Nat → Option Nat → List Nat
  | 0, _ => []
  | _ + 1, none => []
  | n + 1, some k => k :: up f n (hd f k)
/-- the place after so many steps -/
def itr (f : Fo) : Nat → Option Nat → Option Nat
  | 0, h => h
  | n + 1, h => (itr f n h).bind (hd f)
def abv (f : Fo) (t : Nat) : List Nat := up f f.length (hd f t)
/-- a bound for different numbers below n -/
theorem nodup_le : ∀ (n : Nat) (l : List Nat), l.Nodup → (∀ x ∈ l, x < n) → l.length ≤ n
  | 0, l, _, h => by
    cases l with
    | nil => simp
    | cons a r => exact absurd (h a (List.mem_cons_self)) (by omega)
  | n + 1, l, hn, h => by
    have ih := nodup_le n (l.erase n) (hn.erase n) (fun x hx => by
      have h1 := (List.Nodup.mem_erase_iff hn).mp hx
      have := h x h1.2
      have := h1.1
      omega)
    have := List.length_erase (a := n) (l := l)
    split at this <;> omega
theorem up_mem {f : Fo} (o : Ok f) : ∀ (m : Nat) (h : Option Nat), (∀ k, h = some k → k < f.length) → ∀ x ∈ up f m h, x < f.length
  | 0, _, _, x, hx => by simp [up] at hx
  | m + 1, none, _, x, hx => by simp [up] at hx
  | m + 1, some k, hk, x, hx => by
    simp only [up, List.mem_cons] at hx
    rcases hx with rfl | hx
    · exact hk _ rfl
    · exact up_mem o m (hd f k) (fun j e => o.lt k j e) x hx
theorem up_rank {f : Fo} {d : Nat → Nat} (hd' : ∀ t k, hd f t = some k → d k < d t) : ∀ (m : Nat) (k x : Nat), x ∈ up f m (hd f k) → d x < d k
  | 0, _, x, hx => by simp [up] at hx
  | m + 1, k, x, hx => by
    cases e : hd f k with
    | none => rw [e] at hx; simp [up] at hx
    | some j =>
      rw [e] at hx
      simp only [up, List.mem_cons] at hx
      have h1 := hd' k j e
      rcases hx with rfl | hx
      · exact h1
      · have := up_rank hd' m j x hx; omega
theorem up_nodup {f : Fo} (o : Ok f) : ∀ (m : Nat) (h : Option Nat), (up f m h).Nodup
  | 0, _ => by simp [up]
  | m + 1, none => by simp [up]
  | m + 1, some k => by
    obtain ⟨d, hd'⟩ := o.rk
    simp only [up, List.nodup_cons]
    exact ⟨fun hx => by have := up_rank hd' m k k hx; omega, up_nodup o m _⟩
theorem up_len_lt {f : Fo} (o : Ok f) {m t : Nat} (ht : t < f.length) : (up f m (hd f t)).length < f.length := by
  obtain ⟨d, hd'⟩ := o.rk
  have h1 : (t :: up f m (hd f t)).Nodup := by
    rw [List.nodup_cons]
    exact ⟨fun hx => by have := up_rank hd' m t t hx; omega, up_nodup o m _⟩
  have h2 := nodup_le f.length _ h1 (fun x hx => by
    rcases List.mem_cons.mp hx with rfl | hx
    · exact ht
    · exact up_mem o m _ (fun j e => o.lt t j e) x hx)
  simp at h2; omega
theorem up_stable {f : Fo} : ∀ (m : Nat) (h : Option Nat), (up f m h).length < m → up f (m + 1) h = up f m h
  | 0, _, h => by simp at h
  | m + 1, none, _ => by simp [up]
  | m + 1, some k, h => by
    simp only [up, List.length_cons] at h
    have := up_stable (f := f) m (hd f k) (by omega)
    rw [up, this, ← up]
theorem up_len_le (f : Fo) : ∀ (m : Nat) (h : Option Nat), (up f m h).length ≤ m
  | 0, _ => by simp [up]
  | m + 1, none => by simp [up]
  | m + 1, some k => by simp only [up, List.length_cons]; have := up_len_le f m (hd f k); omega
theorem abv_none {f : Fo} {t : Nat} (h : hd f t = none) : abv f t = [] := by
  unfold abv; rw [h]; cases f.length <;> rfl
theorem abv_some {f : Fo} (o : Ok f) {t k : Nat} (h : hd f t = some k) : abv f t = k :: abv f k := by
  have ht := hd_lt h
  have h1 := up_len_lt (m := f.length) o ht
  have h2 := up_stable f.length (hd f t) h1
  unfold abv
  rw [← h2, h, up]
theorem abv_lt {f : Fo} (o : Ok f) {t x : Nat} (h : x ∈ abv f t) : x < f.length := up_mem o _ _ (fun j e => o.lt t j e) x h
theorem abv_nodup {f : Fo} (o : Ok f) (t : Nat) : (abv f t).Nodup := up_nodup o _ _
theorem abv_len {f : Fo} (o : Ok f) {t : Nat} (h : t < f.length) : (abv f t).length < f.length := up_len_lt o h
theorem not_abv {f : Fo} (o : Ok f) (t : Nat) : t ∉ abv f t := fun hx => by
  obtain ⟨d, hd'⟩ := o.rk
  have := up_rank hd' _ t t hx; omega
/-- where a way of so many steps stands -/
theorem itr_up {f : Fo} (o : Ok f) : ∀ (m : Nat) (t : Nat), m ≤ (abv f t).length → ∃ k, itr f m (some t) = some k ∧ (t :: abv f t).drop m = k :: abv f k
  | 0, t, _ => ⟨t, rfl, by simp⟩
  | m + 1, t, h => by
    obtain ⟨k, h1, h2⟩ := itr_up o m t (by omega)
    cases e : hd f k with
    | none =>
      rw [abv_none e] at h2
      have := congrArg List.length h2
      simp at this; omega
    | some j =>
      refine ⟨j, by simp [itr, h1, e], ?_⟩
      rw [abv_some o e] at h2
      have : (t :: abv f t).drop (m + 1) = ((t :: abv f t).drop m).drop 1 := by rw [List.drop_drop]
      rw [this, h2]; rfl
theorem itr_end {f : Fo} (o : Ok f) {m t : Nat} (h : (abv f t).length < m) : itr f m (some t) = none := by
  have key : itr f ((abv f t).length + 1) (some t) = none := by
    obtain ⟨k, h1, h2⟩ := itr_up o (abv f t).length t (Nat.le_refl _)
    have h3 : (abv f k).length = 0 := by
      have := congrArg List.length h2
      rw [List.length_drop, List.length_cons, List.length_cons] at this; omega
    cases e : hd f k with
    | none => simp [itr, h1, e]
    | some j => rw [abv_some o e] at h3; simp at h3
  obtain ⟨c, rfl⟩ : ∃ c, m = (abv f t).length + 1 + c := ⟨m - ((abv f t).length + 1), by omega⟩
  clear h
  induction c with
  | zero => exact key
  | succ c ih => show (itr f ((abv f t).length + 1 + c) (some t)).bind (hd f) = none; rw [ih]; rfl
/-- the size of a thing -/
def sz (f : Fo) (t : Nat) : Nat := ((List.range f.length).filter fun s => decide (s = t) || decide (t ∈ abv f s)).length
/-- what a thing, or nothing, holds -/
def hld (f : Fo) (h : Option Nat) : List Nat := (List.range f.length).filter fun i => decide (hd f i = h)
def dep (f : Fo) (t : Nat) : Nat := (abv f t).length
theorem hld_mem {f : Fo} {h : Option Nat} {i : Nat} : i ∈ hld f h ↔ i < f.length ∧ hd f i = h := by
  unfold hld; simp [List.mem_filter]
end Hb
namespace Hb
def fact : Nat → Nat
  | 0 => 1
  | n + 1 => fact n * (n + 1)
def rootB (f : Fo) : Bool := (List.range f.length).all fun t => (itr f f.length (hd f t)).isNone
theorem itr_none (f : Fo) : ∀ m, itr f m none = none
  | 0 => rfl
  | m + 1 => by simp [itr, itr_none f m]
theorem rootB_ok {f : Fo} (o : Ok f) : rootB f = true := by
  unfold rootB
  rw [List.all_eq_true]
  intro t ht
  have ht := List.mem_range.mp ht
  cases e : hd f t with
  | none => rw [itr_none]; rfl
  | some k => rw [itr_end o (abv_len o (o.lt t k e))]; rfl
theorem itr_lt {f : Fo} (hlt : ∀ t k, hd f t = some k → k < f.length) : ∀ (m : Nat) (h : Option Nat), (∀ k, h = some k → k < f.length) → ∀ k, itr f m h = some k → k < f.length
  | 0, _, hh, k, e => hh k e
  | m + 1, h, hh, k, e => by
    cases q : itr f m h with
    | none => simp [itr, q] at e
    | some j => simp [itr, q] at e; exact hlt j k e
end Hb
namespace Hb
/-- a holder's entry is none, or a thing -/
def inR (n : Nat) : Option Nat → Bool
  | none => true
  | some k => decide (k < n)
def forB (f : Fo) : Bool := decide (f ≠ []) && (f.all (inR f.length) && rootB f)
theorem hd_mem {f : Fo} {t k : Nat} (h : hd f t = some k) : some k ∈ f := by
  have := hd_get (hd_lt h)
  rw [h] at this
  exact List.mem_of_getElem? this
theorem inR_all {f : Fo} (h : f.all (inR f.length) = true) : ∀ t k, hd f t = some k → k < f.length := fun t k e => by
  have := List.all_eq_true.mp h _ (hd_mem e)
  exact of_decide_eq_true this
theorem forB_ok {f : Fo} (o : Ok f) : forB f = true := by
  unfold forB
  have h1 : f ≠ [] := fun e => by have := o.ne; rw [e] at this; exact absurd this (by decide)
  have h2 : f.all (inR f.length) = true := by
    rw [List.all_eq_true]
    intro x hx
    cases x with
    | none => rfl
    | some k =>
      obtain ⟨t, ht⟩ := List.getElem?_of_mem hx
      have : hd f t = some k := by unfold hd; rw [List.getD_eq_getElem?_getD, ht]; rfl
      exact decide_eq_true (o.lt t k this)
  rw [decide_eq_true h1, h2, rootB_ok o]; rfl
def rem (f : Fo) : Option Nat → List Nat
  | none => []
  | some k => k :: abv f k
theorem rem_abv {f : Fo} (o : Ok f) (t : Nat) : rem f (hd f t) = abv f t := by
  cases e : hd f t with
  | none => rw [abv_none e]; rfl
  | some k => rw [abv_some o e]; rfl
end Hb
namespace Hb
/-! ### counting -/
def cnt (f : Fo) (i o : Nat) : Nat := ((List.range i).filter fun s => decide (s = o) || decide (o ∈ abv f s)).length
theorem cnt_succ (f : Fo) (i o : Nat) : cnt f (i + 1) o = cnt f i o + (if o = i ∨ o ∈ abv f i then 1 else 0) := by
  unfold cnt
  rw [List.range_succ, List.filter_append, List.length_append]
  congr 1
  by_cases h : o = i ∨ o ∈ abv f i
  · rw [if_pos h, List.filter_cons, if_pos (by
      rw [Bool.or_eq_true, decide_eq_true_eq, decide_eq_true_eq]
      exact h.imp Eq.symm id)]
    rfl
  · rw [if_neg h, List.filter_cons, if_neg (by
      rw [Bool.or_eq_true, decide_eq_true_eq, decide_eq_true_eq]
      exact fun q => h (q.imp Eq.symm id))]
    rfl
theorem sz_cnt (f : Fo) (t : Nat) : sz f t = cnt f f.length t := rfl
theorem cnt_le (f : Fo) (i o : Nat) : cnt f i o ≤ i := by
  unfold cnt
  have := List.length_filter_le (fun s => decide (s = o) || decide (o ∈ abv f s)) (List.range i)
  rw [List.length_range] at this
  exact this
theorem sz_pos {f : Fo} {t : Nat} (h : t < f.length) : 0 < sz f t := by
  unfold sz
  apply List.length_pos_of_mem (a := t)
  rw [List.mem_filter]
  exact ⟨List.mem_range.mpr h, by simp⟩
theorem sz_le (f : Fo) (t : Nat) : sz f t ≤ f.length := by rw [sz_cnt]; exact cnt_le _ _ _
/-! ### what lies below; the walk -/
theorem dep_some {f : Fo} (o : Ok f) {t k : Nat} (h : hd f t = some k) : dep f t = dep f k + 1 := by
  unfold dep; rw [abv_some o h]; rfl
def preF (f : Fo) : Nat → Nat → List Nat
  | 0, _ => []
  | m + 1, t => t :: (hld f (some t)).flatMap (preF f m)
theorem flatMap_congr' {α β : Type} {g h : α → List β} : ∀ (l : List α), (∀ x ∈ l, g x = h x) → l.flatMap g = l.flatMap h
  | [], _ => rfl
  | a :: r, q => by
    rw [List.flatMap_cons, List.flatMap_cons, q a (List.mem_cons_self), flatMap_congr' r fun x hx => q x (List.mem_cons_of_mem _ hx)]
theorem preF_stable {f : Fo} (o : Ok f) : ∀ (m t : Nat), t < f.length → f.length ≤ m + dep f t → preF f (m + 1) t = preF f m t
  | 0, t, ht, h => by
    have := abv_len o ht
    unfold dep at h; omega
  | m + 1, t, ht, h => by
    rw [preF, preF]
    congr 1
    refine flatMap_congr' _ fun c hc => ?_
    obtain ⟨h1, h2⟩ := hld_mem.mp hc
    exact preF_stable o m c h1 (by have := dep_some o h2; omega)
def pre (f : Fo) (t : Nat) : List Nat := preF f f.length t
theorem pre_eq {f : Fo} (o : Ok f) {t : Nat} (h : t < f.length) : pre f t = t :: (hld f (some t)).flatMap (pre f) := by
  have h1 := preF_stable o f.length t h (by omega)
  unfold pre
  rw [← h1, preF]
def walk (f : Fo) : List Nat := (hld f none).flatMap (pre f)
/-- induction from the deepest -/
theorem deep_ind {f : Fo} (o : Ok f) {P : Nat → Prop} (h : ∀ t, t < f.length → (∀ c, hd f c = some t → P c) → P t) : ∀ t, t < f.length → P t := by
  have key : ∀ m t, t < f.length → f.length ≤ m + dep f t → P t := by
    intro m
    induction m with
    | zero => intro t ht h'; have := abv_len o ht; unfold dep at h'; omega
    | succ m ih =>
      intro t ht h'
      exact h t ht fun c hc => ih c (hd_lt hc) (by have := dep_some o hc; omega)
  exact fun t ht => key f.length t ht (by omega)
/-- induction from the highest -/
theorem high_ind {f : Fo} (o : Ok f) {P : Nat → Prop} (h : ∀ t, (∀ k, hd f t = some k → P k) → P t) : ∀ t, P t := by
  obtain ⟨d, hd'⟩ := o.rk
  have key : ∀ m t, d t < m → P t := by
    intro m
    induction m with
    | zero => intro t ht; omega
    | succ m ih => intro t ht; exact h t fun k hk => ih k (by have := hd' t k hk; omega)
  exact fun t => key _ t (Nat.lt_succ_self _)
theorem abv_trans {f : Fo} (o : Ok f) : ∀ x, ∀ {t u : Nat}, t ∈ abv f x → u ∈ abv f t → u ∈ abv f x := by
  refine high_ind o (P := fun x => ∀ {t u : Nat}, t ∈ abv f x → u ∈ abv f t → u ∈ abv f x) fun x ih => ?_
  intro t u h1 h2
  cases e : hd f x with
  | none => rw [abv_none e] at h1; cases h1
  | some k =>
    rw [abv_some o e] at h1 ⊢
    rcases List.mem_cons.mp h1 with rfl | h1
    · exact List.mem_cons_of_mem _ h2
    · exact List.mem_cons_of_mem _ (ih k e h1 h2)
/-- two things above one thing stand in line -/
theorem abv_line {f : Fo} (o : Ok f) : ∀ x, ∀ {t u : Nat}, t ∈ abv f x → u ∈ abv f x → t = u ∨ t ∈ abv f u ∨ u ∈ abv f t := by
  refine high_ind o (P := fun x => ∀ {t u : Nat}, t ∈ abv f x → u ∈ abv f x → t = u ∨ t ∈ abv f u ∨ u ∈ abv f t) fun x ih => ?_
  intro t u h1 h2
  cases e : hd f x with
  | none => rw [abv_none e] at h1; cases h1
  | some k =>
    rw [abv_some o e] at h1 h2
    rcases List.mem_cons.mp h1 with rfl | h1
    · rcases List.mem_cons.mp h2 with rfl | h2
      · exact .inl rfl
      · exact .inr (.inr h2)
    · rcases List.mem_cons.mp h2 with rfl | h2
      · exact .inr (.inl h1)
      · exact ih k e h1 h2
theorem pre_mem {f : Fo} (o : Ok f) : ∀ t, t < f.length → ∀ x, x ∈ pre f t ↔ x < f.length ∧ (x = t ∨ t ∈ abv f x) := by
  refine deep_ind o fun t ht ih x => ?_
  rw [pre_eq o ht, List.mem_cons, List.mem_flatMap]
  constructor
  · rintro (rfl | ⟨c, hc, hx⟩)
    · exact ⟨ht, .inl rfl⟩
    · obtain ⟨h1, h2⟩ := hld_mem.mp hc
      obtain ⟨h3, h4⟩ := (ih c h2 x).mp hx
      refine ⟨h3, .inr ?_⟩
      have hc' : t ∈ abv f c := by rw [abv_some o h2]; exact List.mem_cons_self
      rcases h4 with rfl | h4
      · exact hc'
      · exact abv_trans o x h4 hc'
  · rintro ⟨hx, rfl | h⟩
    · exact .inl rfl
    · refine .inr ?_
      -- the thing just below t on the way
      have step : ∀ x, t ∈ abv f x → ∃ c, hd f c = some t ∧ (x = c ∨ c ∈ abv f x) := by
        refine high_ind o (P := fun x => t ∈ abv f x → ∃ c, hd f c = some t ∧ (x = c ∨ c ∈ abv f x)) fun x ih => ?_
        intro h
        cases e : hd f x with
        | none => rw [abv_none e] at h; cases h
        | some k =>
          rw [abv_some o e] at h
          rcases List.mem_cons.mp h with rfl | h
          · exact ⟨x, e, .inl rfl⟩
          · obtain ⟨c, h1, h2⟩ := ih k e h
            refine ⟨c, h1, .inr ?_⟩
            rw [abv_some o e]
            rcases h2 with rfl | h2
            · exact List.mem_cons_self
            · exact List.mem_cons_of_mem _ h2
      obtain ⟨c, h1, h2⟩ := step x h
      exact ⟨c, hld_mem.mpr ⟨hd_lt h1, h1⟩, (ih c h1 x).mpr ⟨hx, h2⟩⟩
theorem hld_nodup (f : Fo) (h : Option Nat) : (hld f h).Nodup := List.Pairwise.filter _ List.nodup_range
theorem nodup_flatMap {α β : Type} {g : α → List β} : ∀ {l : List α}, l.Nodup → (∀ x ∈ l, (g x).Nodup) → (∀ x ∈ l, ∀ y ∈ l, x ≠ y → ∀ z, z ∈ g x → z ∉ g y) → (l.flatMap g).Nodup
  | [], _, _, _ => by simp
  | a :: r, h1, h2, h3 => by
    rw [List.flatMap_cons, List.nodup_append]
    have hn := List.nodup_cons.mp h1
    refine ⟨h2 a List.mem_cons_self, nodup_flatMap hn.2 (fun x hx => h2 x (List.mem_cons_of_mem _ hx)) (fun x hx y hy => h3 x (List.mem_cons_of_mem _ hx) y (List.mem_cons_of_mem _ hy)), ?_⟩
    intro z hz w hw e
    subst e
    obtain ⟨y, hy, hw⟩ := List.mem_flatMap.mp hw
    exact h3 a List.mem_cons_self y (List.mem_cons_of_mem _ hy) (fun q => hn.1 (q ▸ hy)) z hz hw
/-- things held by one thing have nothing in common below -/
theorem sib_apart {f : Fo} (o : Ok f) {c d : Nat} (h : hd f c = hd f d) (ne : c ≠ d) : c ∉ abv f d := fun hm => by
  cases e : hd f d with
  | none => rw [abv_none e] at hm; cases hm
  | some k =>
    rw [abv_some o e] at hm
    rw [e] at h
    rcases List.mem_cons.mp hm with rfl | hm
    · exact not_abv o c (by have := abv_some o h; rw [this]; exact List.mem_cons_self)
    · have h1 : k ∈ abv f c := by rw [abv_some o h]; exact List.mem_cons_self
      exact not_abv o k (abv_trans o k hm h1)
theorem pre_apart {f : Fo} (o : Ok f) {c d : Nat} (hc : c < f.length) (hd' : d < f.length) (h : hd f c = hd f d) (ne : c ≠ d) : ∀ z, z ∈ pre f c → z ∉ pre f d := fun z h1 h2 => by
  obtain ⟨_, h1⟩ := (pre_mem o c hc z).mp h1
  obtain ⟨_, h2⟩ := (pre_mem o d hd' z).mp h2
  rcases h1 with rfl | h1
  · rcases h2 with rfl | h2
    · exact ne rfl
    · exact sib_apart o h.symm (Ne.symm ne) h2
  · rcases h2 with rfl | h2
    · exact sib_apart o h ne h1
    · rcases abv_line o z h1 h2 with e | e | e
      · exact ne e
      · exact sib_apart o h ne e
      · exact sib_apart o h.symm (Ne.symm ne) e
theorem pre_nodup {f : Fo} (o : Ok f) : ∀ t, t < f.length → (pre f t).Nodup := by
  refine deep_ind o fun t ht ih => ?_
  rw [pre_eq o ht, List.nodup_cons]
  refine ⟨fun hm => ?_, nodup_flatMap (hld_nodup f _) (fun c hc => ih c (hld_mem.mp hc).2) fun c hc d hd' ne => pre_apart o (hld_mem.mp hc).1 (hld_mem.mp hd').1 ((hld_mem.mp hc).2.trans (hld_mem.mp hd').2.symm) ne⟩
  obtain ⟨c, hc, hx⟩ := List.mem_flatMap.mp hm
  obtain ⟨h1, h2⟩ := hld_mem.mp hc
  have hct : t ∈ abv f c := by rw [abv_some o h2]; exact List.mem_cons_self
  rcases ((pre_mem o c h1 t).mp hx).2 with e | e
  · subst e; exact not_abv o _ hct
  · exact not_abv o t (abv_trans o t e hct)
theorem walk_nodup {f : Fo} (o : Ok f) : (walk f).Nodup :=
  nodup_flatMap (hld_nodup f _) (fun c hc => pre_nodup o c (hld_mem.mp hc).1) fun c hc d hd' ne => pre_apart o (hld_mem.mp hc).1 (hld_mem.mp hd').1 ((hld_mem.mp hc).2.trans (hld_mem.mp hd').2.symm) ne
theorem root_of {f : Fo} (o : Ok f) : ∀ x, hd f x = none ∨ ∃ r ∈ abv f x, hd f r = none := by
  refine high_ind o (P := fun x => hd f x = none ∨ ∃ r ∈ abv f x, hd f r = none) fun x ih => ?_
  cases e : hd f x with
  | none => exact .inl rfl
  | some k =>
    refine .inr ?_
    rw [abv_some o e]
    rcases ih k e with h | ⟨r, h1, h2⟩
    · exact ⟨k, List.mem_cons_self, h⟩
    · exact ⟨r, List.mem_cons_of_mem _ h1, h2⟩
theorem walk_mem {f : Fo} (o : Ok f) (x : Nat) : x ∈ walk f ↔ x < f.length := by
  unfold walk
  rw [List.mem_flatMap]
  constructor
  · rintro ⟨c, hc, hx⟩
    exact ((pre_mem o c (hld_mem.mp hc).1 x).mp hx).1
  · intro hx
    rcases root_of o x with h | ⟨r, h1, h2⟩
    · exact ⟨x, hld_mem.mpr ⟨hx, h⟩, (pre_mem o x hx x).mpr ⟨hx, .inl rfl⟩⟩
    · exact ⟨r, hld_mem.mpr ⟨abv_lt o h1, h2⟩, (pre_mem o r (abv_lt o h1) x).mpr ⟨hx, .inr h1⟩⟩
theorem walk_len {f : Fo} (o : Ok f) : (walk f).length ≤ f.length := nodup_le _ _ (walk_nodup o) fun x hx => (walk_mem o x).mp hx
end Hb
/-! forests put together, cut -/
namespace Hb
def mvd (f : Fo) (m : Nat) : Fo := f.map fun h => h.map (· + m)
def bes (f g : Fo) : Fo := f ++ mvd g f.length
def grf (f : Fo) (t : Nat) (g : Fo) : Fo := f ++ (mvd g f.length).map fun h => match h with | none => some t | some k => some k
def posOf (ts : List Nat) (k : Nat) : Option Nat := ts.findIdx? (fun x => decide (x = k))
def ren (f : Fo) (ts : List Nat) : Fo := ts.map fun t => (hd f t).bind (posOf ts)
def belS (f : Fo) (t : Nat) : List Nat := (List.range f.length).filter fun x => decide (x = t) || decide (t ∈ abv f x)
def prt (f : Fo) (t : Nat) : Fo := ren f (belS f t)
def lft (f : Fo) (t : Nat) : Fo := f.map fun h => if h = some t then hd f t else h
def oth (f : Fo) (t : Nat) : List Nat := (List.range f.length).filter fun x => decide (x ≠ t)
def wou (f : Fo) (t : Nat) : Fo := ren (lft f t) (oth f t)
theorem mvd_len (f : Fo) (m : Nat) : (mvd f m).length = f.length := List.length_map _
theorem hd_map (f : Fo) (g : Option Nat → Option Nat) (t : Nat) (h : t < f.length) : hd (f.map g) t = g (hd f t) := by
  unfold hd
  rw [List.getD_eq_getElem?_getD, List.getD_eq_getElem?_getD, List.getElem?_map, List.getElem?_eq_getElem h]; rfl
theorem hd_out {f : Fo} {t : Nat} (h : f.length ≤ t) : hd f t = none := by
  unfold hd; rw [List.getD_eq_getElem?_getD, List.getElem?_eq_none h]; rfl
theorem hd_app1 {f g : Fo} {t : Nat} (h : t < f.length) : hd (f ++ g) t = hd f t := by
  unfold hd; rw [List.getD_eq_getElem?_getD, List.getD_eq_getElem?_getD, List.getElem?_append_left h]
theorem hd_app2 {f g : Fo} (t : Nat) : hd (f ++ g) (f.length + t) = hd g t := by
  unfold hd; rw [List.getD_eq_getElem?_getD, List.getD_eq_getElem?_getD, List.getElem?_append_right (by omega)]; simp
theorem hd_mvd (f : Fo) (m t : Nat) : hd (mvd f m) t = (hd f t).map (· + m) := by
  by_cases h : t < f.length
  · exact hd_map f _ t h
  · rw [hd_out (by rw [mvd_len]; omega), hd_out (by omega)]; rfl
theorem bes_len (f g : Fo) : (bes f g).length = f.length + g.length := by unfold bes; rw [List.length_append, mvd_len]
theorem bes_hd1 {f g : Fo} {t : Nat} (h : t < f.length) : hd (bes f g) t = hd f t := hd_app1 h
theorem bes_hd2 (f g : Fo) (t : Nat) : hd (bes f g) (f.length + t) = (hd g t).map (· + f.length) := by unfold bes; rw [hd_app2, hd_mvd]
theorem bes_ok {f g : Fo} (o : Ok f) (p : Ok g) : Ok (bes f g) := by
  obtain ⟨d1, r1⟩ := o.rk
  obtain ⟨d2, r2⟩ := p.rk
  have cs : ∀ t k, hd (bes f g) t = some k → (t < f.length ∧ hd f t = some k) ∨ (∃ u j, t = f.length + u ∧ k = j + f.length ∧ hd g u = some j) := fun t k e => by
    by_cases h : t < f.length
    · rw [bes_hd1 h] at e; exact .inl ⟨h, e⟩
    · obtain ⟨u, rfl⟩ : ∃ u, t = f.length + u := ⟨t - f.length, by omega⟩
      rw [bes_hd2] at e
      cases q : hd g u with
      | none => rw [q] at e; cases e
      | some j => rw [q] at e; exact .inr ⟨u, j, rfl, (Option.some.inj e).symm, q⟩
  refine ⟨by rw [bes_len]; have := o.ne; omega, fun t k e => ?_, fun x => if x < f.length then d1 x else d2 (x - f.length), fun t k e => ?_⟩
  · rw [bes_len]
    rcases cs t k e with ⟨h, q⟩ | ⟨u, j, rfl, rfl, q⟩
    · have := o.lt t k q; omega
    · have := p.lt u j q; omega
  · rcases cs t k e with ⟨h, q⟩ | ⟨u, j, rfl, rfl, q⟩
    · have := o.lt t k q
      dsimp only
      rw [if_pos h, if_pos this]; exact r1 t k q
    · dsimp only
      rw [if_neg (by omega), if_neg (by omega)]
      have := r2 u j q
      rw [show f.length + u - f.length = u by omega, show j + f.length - f.length = j by omega]; exact this
theorem grf_len (f : Fo) (t : Nat) (g : Fo) : (grf f t g).length = f.length + g.length := by unfold grf; rw [List.length_append, List.length_map, mvd_len]
theorem grf_hd1 {f g : Fo} {t x : Nat} (h : x < f.length) : hd (grf f t g) x = hd f x := hd_app1 h
theorem grf_hd2 (f g : Fo) (t : Nat) {x : Nat} (h : x < g.length) : hd (grf f t g) (f.length + x) = some (match hd g x with | none => t | some k => k + f.length) := by
  unfold grf
  rw [hd_app2, hd_map _ _ _ (by rw [mvd_len]; exact h), hd_mvd]
  cases hd g x <;> rfl
theorem grf_ok {f g : Fo} {t : Nat} (o : Ok f) (p : Ok g) (ht : t < f.length) : Ok (grf f t g) := by
  obtain ⟨d1, r1⟩ := o.rk
  obtain ⟨d2, r2⟩ := p.rk
  have cs : ∀ x k, hd (grf f t g) x = some k → (x < f.length ∧ hd f x = some k) ∨ (∃ u, x = f.length + u ∧ u < g.length ∧ ((k = t ∧ hd g u = none) ∨ ∃ j, k = j + f.length ∧ hd g u = some j)) := fun x k e => by
    by_cases h : x < f.length
    · rw [grf_hd1 h] at e; exact .inl ⟨h, e⟩
    · obtain ⟨u, rfl⟩ : ∃ u, x = f.length + u := ⟨x - f.length, by omega⟩
      have hu : u < g.length := by have := hd_lt e; rw [grf_len] at this; omega
      rw [grf_hd2 f g t hu] at e
      refine .inr ⟨u, rfl, hu, ?_⟩
      cases q : hd g u with
      | none => rw [q] at e; exact .inl ⟨(Option.some.inj e).symm, rfl⟩
      | some j => rw [q] at e; exact .inr ⟨j, (Option.some.inj e).symm, rfl⟩
  refine ⟨by rw [grf_len]; have := o.ne; omega, fun x k e => ?_, fun x => if x < f.length then d1 x else d1 t + 1 + d2 (x - f.length), fun x k e => ?_⟩
  · rw [grf_len]
    rcases cs x k e with ⟨h, q⟩ | ⟨u, rfl, hu, ⟨rfl, q⟩ | ⟨j, rfl, q⟩⟩
    · have := o.lt x k q; omega
    · omega
    · have := p.lt u j q; omega
  · rcases cs x k e with ⟨h, q⟩ | ⟨u, rfl, hu, ⟨rfl, q⟩ | ⟨j, rfl, q⟩⟩
    · have := o.lt x k q
      dsimp only
      rw [if_pos h, if_pos this]; exact r1 x k q
    · dsimp only
      rw [if_pos ht, if_neg (by omega)]; omega
    · dsimp only
      rw [if_neg (by omega), if_neg (by omega)]
      have := r2 u j q
      rw [show f.length + u - f.length = u by omega, show j + f.length - f.length = j by omega]; omega
/-! ### renamed -/
theorem posOf_some {ts : List Nat} {k i : Nat} (h : posOf ts k = some i) : ts[i]? = some k := by
  unfold posOf at h
  obtain ⟨hi, h2, _⟩ := List.findIdx?_eq_some_iff_getElem.mp h
  rw [List.getElem?_eq_getElem hi]
  exact congrArg some (of_decide_eq_true h2)
theorem posOf_lt {ts : List Nat} {k i : Nat} (h : posOf ts k = some i) : i < ts.length := (List.getElem?_eq_some_iff.mp (posOf_some h)).1
theorem posOf_at {ts : List Nat} (nd : ts.Nodup) {k i : Nat} (h : ts[i]? = some k) : posOf ts k = some i := by
  unfold posOf
  obtain ⟨hi, e⟩ := List.getElem?_eq_some_iff.mp h
  refine List.findIdx?_eq_some_iff_getElem.mpr ⟨hi, decide_eq_true e, fun j hj => ?_⟩
  intro q
  replace q := of_decide_eq_true q
  have hj' : j < ts.length := by omega
  have := (List.getElem_inj nd (i := j) (j := i)).mp (q.trans e.symm)
  omega
theorem posOf_none {ts : List Nat} {k : Nat} (h : k ∉ ts) : posOf ts k = none := by
  unfold posOf
  rw [List.findIdx?_eq_none_iff]
  intro x hx
  exact decide_eq_false fun e => h (e ▸ hx)
theorem posOf_mem {ts : List Nat} {k : Nat} (h : k ∈ ts) : ∃ i, posOf ts k = some i := by
  cases e : posOf ts k with
  | some i => exact ⟨i, rfl⟩
  | none =>
    unfold posOf at e
    rw [List.findIdx?_eq_none_iff] at e
    exact absurd (e k h) (by simp)
theorem ren_len (f : Fo) (ts : List Nat) : (ren f ts).length = ts.length := List.length_map _
theorem ren_hd {f : Fo} {ts : List Nat} {i t : Nat} (h : ts[i]? = some t) : hd (ren f ts) i = (hd f t).bind (posOf ts) := by
  unfold hd ren
  rw [List.getD_eq_getElem?_getD, List.getElem?_map, h]; rfl
theorem ren_ok {f : Fo} {ts : List Nat} (nd : ts.Nodup) (ne : 0 < ts.length) (rk : ∃ d : Nat → Nat, ∀ t k, hd f t = some k → d k < d t) : Ok (ren f ts) := by
  obtain ⟨d, r⟩ := rk
  have cs : ∀ i j, hd (ren f ts) i = some j → ∃ t k, ts[i]? = some t ∧ ts[j]? = some k ∧ hd f t = some k := fun i j e => by
    have hi : i < ts.length := by have := hd_lt e; rw [ren_len] at this; exact this
    rw [ren_hd (List.getElem?_eq_getElem hi)] at e
    cases q : hd f ts[i] with
    | none => rw [q] at e; cases e
    | some k =>
      rw [q] at e
      exact ⟨_, k, List.getElem?_eq_getElem hi, posOf_some e, q⟩
  refine ⟨by rw [ren_len]; exact ne, fun i j e => ?_, fun i => d (ts.getD i 0), fun i j e => ?_⟩
  · rw [ren_len]
    obtain ⟨t, k, _, h2, _⟩ := cs i j e
    exact (List.getElem?_eq_some_iff.mp h2).1
  · obtain ⟨t, k, h1, h2, h3⟩ := cs i j e
    simp only [List.getD_eq_getElem?_getD]
    rw [h1, h2]
    exact r t k h3
theorem belS_nodup (f : Fo) (t : Nat) : (belS f t).Nodup := List.Pairwise.filter _ List.nodup_range
theorem belS_mem {f : Fo} {t x : Nat} : x ∈ belS f t ↔ x < f.length ∧ (x = t ∨ t ∈ abv f x) := by
  unfold belS; simp [List.mem_filter]
theorem belS_len (f : Fo) (t : Nat) : (belS f t).length = sz f t := by
  unfold belS sz; rfl
theorem prt_len (f : Fo) (t : Nat) : (prt f t).length = sz f t := by unfold prt; rw [ren_len, belS_len]
theorem prt_ok {f : Fo} (o : Ok f) {t : Nat} (h : t < f.length) : Ok (prt f t) := ren_ok (belS_nodup f t) (by rw [belS_len]; exact sz_pos h) o.rk
theorem oth_nodup (f : Fo) (t : Nat) : (oth f t).Nodup := List.Pairwise.filter _ List.nodup_range
theorem oth_mem {f : Fo} {t x : Nat} : x ∈ oth f t ↔ x < f.length ∧ x ≠ t := by unfold oth; simp [List.mem_filter]
theorem lft_len (f : Fo) (t : Nat) : (lft f t).length = f.length := List.length_map _
theorem lft_hd (f : Fo) (t x : Nat) : hd (lft f t) x = if hd f x = some t then hd f t else hd f x := by
  by_cases h : x < f.length
  · exact hd_map f _ x h
  · rw [hd_out (by rw [lft_len]; omega), hd_out (by omega), if_neg (by simp)]
theorem lft_rk {f : Fo} (o : Ok f) (t : Nat) : ∃ d : Nat → Nat, ∀ x k, hd (lft f t) x = some k → d k < d x := by
  obtain ⟨d, r⟩ := o.rk
  refine ⟨d, fun x k e => ?_⟩
  rw [lft_hd] at e
  split at e
  · rename_i h; have := r x t h; have := r t k e; omega
  · exact r x k e
theorem filter_ne_len : ∀ (n t : Nat), ((List.range n).filter fun x => decide (x ≠ t)).length + (if t < n then 1 else 0) = n
  | 0, t => by simp
  | n + 1, t => by
    rw [List.range_succ, List.filter_append, List.length_append]
    have ih := filter_ne_len n t
    by_cases h : n = t
    · subst h
      rw [if_neg (by omega)] at ih
      rw [List.filter_cons, if_neg (by simp), if_pos (by omega)]
      simp at ih ⊢; omega
    · rw [List.filter_cons, if_pos (by simp [h])]
      by_cases q : t < n
      · rw [if_pos q] at ih; rw [if_pos (by omega)]; simp at ih ⊢; omega
      · rw [if_neg q] at ih; rw [if_neg (by omega)]; simp at ih ⊢; omega
theorem oth_len {f : Fo} {t : Nat} (h : t < f.length) : (oth f t).length + 1 = f.length := by
  have := filter_ne_len f.length t
  rw [if_pos h] at this
  exact this
theorem wou_len {f : Fo} {t : Nat} (h : t < f.length) : (wou f t).length + 1 = f.length := by unfold wou; rw [ren_len]; exact oth_len h
theorem wou_ok {f : Fo} (o : Ok f) {t : Nat} (h : t < f.length) (h2 : f.length ≠ 1) : Ok (wou f t) := ren_ok (oth_nodup f t) (by have := oth_len h; omega) (lft_rk o t)
end Hb
/-! sequences of a forest -/
namespace Hb
/-! ### sorted lists of numbers -/
def srt (l : List Nat) : List Nat := l.mergeSort (fun a b => decide (a ≤ b))
theorem srt_perm (l : List Nat) : (srt l).Perm l := List.mergeSort_perm l _
theorem srt_sorted (l : List Nat) : (srt l).Pairwise (· ≤ ·) := by
  have h := List.pairwise_mergeSort (le := fun a b : Nat => decide (a ≤ b)) (fun a b c h1 h2 => by simp at *; omega) (fun a b => by simp; omega) l
  exact h.imp fun h => by simpa using h
theorem sorted_unique : ∀ {l m : List Nat}, l.Perm m → l.Pairwise (· ≤ ·) → m.Pairwise (· ≤ ·) → l = m
  | [], m, p, _, _ => (p.symm.eq_nil).symm
  | a :: l, [], p, _, _ => absurd (p.eq_nil) (by simp)
  | a :: l, b :: m, p, h1, h2 => by
    obtain ⟨x1, x2⟩ := List.pairwise_cons.mp h1
    obtain ⟨y1, y2⟩ := List.pairwise_cons.mp h2
    have e : a = b := by
      have ha : a ∈ b :: m := p.mem_iff.mp List.mem_cons_self
      have hb : b ∈ a :: l := p.mem_iff.mpr List.mem_cons_self
      rcases List.mem_cons.mp ha with h | h
      · exact h
      · rcases List.mem_cons.mp hb with q | q
        · exact q.symm
        · have := x1 b q; have := y1 a h; omega
    subst e
    rw [sorted_unique (List.Perm.cons_inv p) x2 y2]
theorem srt_unique {l m : List Nat} (p : m.Perm l) (h : m.Pairwise (· ≤ ·)) : m = srt l := sorted_unique (p.trans (srt_perm l).symm) h (srt_sorted l)
theorem srt_mem {l : List Nat} {x : Nat} : x ∈ srt l ↔ x ∈ l := (srt_perm l).mem_iff
theorem srt_len (l : List Nat) : (srt l).length = l.length := (srt_perm l).length_eq
/-! ### beginnings -/
structure Beg (f : Fo) (l : List Nat) : Prop where
  nd : l.Nodup
  lt : ∀ x ∈ l, x < f.length
  up : ∀ (i t k : Nat), l[i]? = some t → hd f t = some k → k ∈ l.take i
theorem Beg.nil (f : Fo) : Beg f [] := ⟨List.nodup_nil, fun x h => by simp at h, fun i t k h _ => by simp at h⟩
theorem Beg.len {f : Fo} {l : List Nat} (b : Beg f l) : l.length ≤ f.length := nodup_le _ _ b.nd b.lt
theorem Beg.snoc {f : Fo} {l : List Nat} {t : Nat} (b : Beg f l) (ht : t < f.length) (hn : t ∉ l) (hu : ∀ k, hd f t = some k → k ∈ l) : Beg f (l ++ [t]) := by
  refine ⟨?_, fun x hx => ?_, fun i u k hi hk => ?_⟩
  · rw [List.nodup_append]
    refine ⟨b.nd, by simp, fun x hx y hy e => ?_⟩
    simp at hy; subst hy; subst e; exact hn hx
  · rcases List.mem_append.mp hx with h | h
    · exact b.lt x h
    · simp at h; omega
  · by_cases h : i < l.length
    · rw [List.getElem?_append_left h] at hi
      have := b.up i u k hi hk
      rw [List.take_append_of_le_length (by omega)]; exact this
    · have hi' := (List.getElem?_eq_some_iff.mp hi).1
      rw [List.length_append, List.length_singleton] at hi'
      have e : i = l.length := by omega
      subst e
      rw [List.getElem?_append_right (Nat.le_refl _), Nat.sub_self] at hi
      have e2 : u = t := (Option.some.inj hi).symm
      subst e2
      rw [List.take_append_of_le_length (Nat.le_refl _), List.take_length]
      exact hu k hk
/-- what can be next behind a beginning -/
structure Nxt (f : Fo) (l r : List Nat) : Prop where
  nd : r.Nodup
  mem : ∀ x, x ∈ r ↔ x < f.length ∧ x ∉ l ∧ ∀ k, hd f x = some k → k ∈ l
theorem Nxt.start (f : Fo) : Nxt f [] (hld f none) := ⟨hld_nodup f _, fun x => by
  rw [hld_mem]
  constructor
  · rintro ⟨h, e⟩; exact ⟨h, by simp, fun k q => by rw [e] at q; cases q⟩
  · rintro ⟨h, _, q⟩
    refine ⟨h, ?_⟩
    cases e : hd f x with
    | none => rfl
    | some k => exact absurd (q k e) (by simp)⟩
/-- the things that can be next behind one more thing -/
def rdy (f : Fo) (r : List Nat) (t : Nat) : List Nat := srt (r.filter (fun x => decide (x ≠ t)) ++ hld f (some t))
theorem Nxt.snoc {f : Fo} (o : Ok f) {l r : List Nat} {t : Nat} (b : Beg f l) (h : Nxt f l r) (ht : t ∈ r) : Nxt f (l ++ [t]) (rdy f r t) := by
  obtain ⟨h1, h2, h3⟩ := (h.mem t).mp ht
  have self : hd f t ≠ some t := fun e => not_abv o t (by rw [abv_some o e]; exact List.mem_cons_self)
  refine ⟨?_, fun x => ?_⟩
  · refine (srt_perm _).nodup_iff.mpr ?_
    rw [List.nodup_append]
    refine ⟨List.Pairwise.filter _ h.nd, hld_nodup f _, fun x hx y hy e => ?_⟩
    subst e
    obtain ⟨q, _⟩ := List.mem_filter.mp hx
    obtain ⟨_, _, q3⟩ := (h.mem x).mp q
    exact h2 (q3 t (hld_mem.mp hy).2)
  · unfold rdy
    rw [srt_mem, List.mem_append, List.mem_filter, h.mem, hld_mem]
    constructor
    · rintro (⟨⟨a1, a2, a3⟩, a4⟩ | ⟨a1, a2⟩)
      · simp at a4
        exact ⟨a1, by simp [a2, a4], fun k q => List.mem_append_left _ (a3 k q)⟩
      · refine ⟨a1, ?_, fun k q => ?_⟩
        · intro hm
          rcases List.mem_append.mp hm with q | q
          · obtain ⟨i, hi⟩ := List.getElem?_of_mem q
            have := List.mem_of_mem_take (b.up i x t hi a2)
            exact h2 this
          · simp at q; subst q; exact self a2
        · rw [a2] at q; have := Option.some.inj q; subst this; simp
    · rintro ⟨a1, a2, a3⟩
      simp at a2
      by_cases q : hd f x = some t
      · exact .inr ⟨a1, q⟩
      · refine .inl ⟨⟨a1, a2.1, fun k e => ?_⟩, by simp [a2.2]⟩
        have := a3 k e
        rcases List.mem_append.mp this with h | h
        · exact h
        · simp at h; subst h; exact absurd e q
/-- something can be next as long as something is left -/
theorem exists_not_mem {n : Nat} {l : List Nat} (h : l.length < n) : ∃ x, x < n ∧ x ∉ l := by
  apply Classical.byContradiction
  intro q
  have q' : ∀ x, x < n → x ∈ l := fun x hx => Classical.byContradiction fun h2 => q ⟨x, hx, h2⟩
  have := List.Nodup.length_le_of_subset (l₁ := List.range n) (l₂ := l) List.nodup_range (fun x hx => q' x (List.mem_range.mp hx))
  rw [List.length_range] at this
  omega
theorem Nxt.ne {f : Fo} (o : Ok f) {l r : List Nat} (h : Nxt f l r) (hl : l.length < f.length) : r ≠ [] := by
  obtain ⟨x, hx, hn⟩ := exists_not_mem hl
  have key : ∀ x, x < f.length → x ∉ l → ∃ y, y ∈ r := by
    refine high_ind o (P := fun x => x < f.length → x ∉ l → ∃ y, y ∈ r) fun x ih hx hn => ?_
    cases e : hd f x with
    | none => exact ⟨x, (h.mem x).mpr ⟨hx, hn, fun k q => by rw [e] at q; cases q⟩⟩
    | some k =>
      by_cases q : k ∈ l
      · exact ⟨x, (h.mem x).mpr ⟨hx, hn, fun j hj => by rw [e] at hj; cases hj; exact q⟩⟩
      · exact ih k e (o.lt x k e) q
  obtain ⟨y, hy⟩ := key x hx hn
  intro e; rw [e] at hy; cases hy
/-! ### the row with an index -/
def pickA (g : Nat → Nat) : Option (Nat × Nat) → List Nat → Nat → Option (Nat × Nat) × Nat
  | cur, [], l => (cur, l)
  | _, t :: r, l => if l < g t then (some (t, g t), l) else pickA g (some (t, g t)) r (l - g t)
theorem pickA_nil (g : Nat → Nat) (cur : Option (Nat × Nat)) (l : Nat) : pickA g cur [] l = (cur, l) := rfl
theorem pickA_cons (g : Nat → Nat) (cur : Option (Nat × Nat)) (t : Nat) (r : List Nat) (l : Nat) : pickA g cur (t :: r) l = if l < g t then (some (t, g t), l) else pickA g (some (t, g t)) r (l - g t) := rfl
theorem pickA_mem (g : Nat → Nat) : ∀ (r : List Nat) (cur : Option (Nat × Nat)) (l : Nat) (t p l' : Nat), pickA g cur r l = (some (t, p), l') → (t ∈ r ∨ cur = some (t, p))
  | [], cur, l, t, p, l', h => .inr (by unfold pickA at h; exact (Prod.mk.inj h).1)
  | u :: r, cur, l, t, p, l', h => by
    unfold pickA at h
    split at h
    · have := Option.some.inj (Prod.mk.inj h).1
      have := (Prod.mk.inj this).1
      subst this; exact .inl List.mem_cons_self
    · rcases pickA_mem g r _ _ t p l' h with q | q
      · exact .inl (List.mem_cons_of_mem _ q)
      · have := (Prod.mk.inj (Option.some.inj q)).1
        subst this; exact .inl List.mem_cons_self
theorem pickA_some (g : Nat → Nat) : ∀ (r : List Nat) (cur : Option (Nat × Nat)) (l : Nat), (r ≠ [] ∨ cur.isSome) → (pickA g cur r l).1.isSome
  | [], cur, l, h => by unfold pickA; rcases h with h | h; exact absurd rfl h; exact h
  | u :: r, cur, l, _ => by
    unfold pickA
    split
    · rfl
    · exact pickA_some g r _ _ (.inr rfl)
def rowF (f : Fo) : Nat → List Nat → Nat → Nat → List Nat
  | 0, _, _, _ => []
  | m + 1, r, c, l => match pickA (fun t => c * sz f t / (m + 1)) none r l with
    | (some (t, p), l') => t :: rowF f m (rdy f r t) p l'
    | (none, _) => []
theorem rowF_beg {f : Fo} (o : Ok f) : ∀ (m : Nat) (l r : List Nat) (c i : Nat), Beg f l → Nxt f l r → l.length + m = f.length → Beg f (l ++ rowF f m r c i) ∧ (rowF f m r c i).length = m
  | 0, l, r, c, i, b, _, _ => by simp [rowF]; exact b
  | m + 1, l, r, c, i, b, h, hl => by
    have hs := pickA_some (fun t => c * sz f t / (m + 1)) r none i (.inl (h.ne o (by omega)))
    unfold rowF
    split
    · rename_i t p l' e
      have ht : t ∈ r := by
        rcases pickA_mem _ r none i t p l' e with q | q
        · exact q
        · cases q
      obtain ⟨h1, h2, h3⟩ := (h.mem t).mp ht
      have b2 := b.snoc h1 h2 h3
      obtain ⟨r1, r2⟩ := rowF_beg o m (l ++ [t]) (rdy f r t) p l' b2 (h.snoc o b ht) (by simp; omega)
      rw [List.append_assoc] at r1
      exact ⟨r1, by simp [r2]⟩
    · rename_i e
      rw [e] at hs; cases hs
/-- the number of sequences by the sizes -/
def cby (l : List Nat) : Nat := l.foldl (· / ·) (fact l.length)
def szs (f : Fo) : List Nat := (List.range f.length).map (sz f)
def cof (f : Fo) : Nat := cby (szs f)
def rowAt (f : Fo) (i : Nat) : List Nat := rowF f f.length (hld f none) (cof f) i
structure Sq (f : Fo) (l : List Nat) : Prop where
  beg : Beg f l
  len : l.length = f.length
theorem rowAt_sq {f : Fo} (o : Ok f) (i : Nat) : Sq f (rowAt f i) := by
  obtain ⟨h1, h2⟩ := rowF_beg o f.length [] (hld f none) (cof f) i (Beg.nil f) (Nxt.start f) (by simp)
  exact ⟨h1, h2⟩
theorem Sq.mem {f : Fo} {l : List Nat} (s : Sq f l) (x : Nat) : x ∈ l ↔ x < f.length := by
  refine ⟨s.beg.lt x, fun hx => Classical.byContradiction fun hn => ?_⟩
  have h1 : (x :: l).Nodup := List.nodup_cons.mpr ⟨hn, s.beg.nd⟩
  have := nodup_le f.length _ h1 (fun y hy => by
    rcases List.mem_cons.mp hy with rfl | h
    · exact hx
    · exact s.beg.lt y h)
  have := s.len
  simp at *; omega
/-- whether each thing stands behind its holder -/
def keepsB (f : Fo) (l : List Nat) : Bool := (List.range f.length).all fun t => match hd f t with
  | none => true
  | some k => decide ((posOf l k).getD 0 < (posOf l t).getD 0)
theorem keepsB_sq {f : Fo} (o : Ok f) {l : List Nat} (s : Sq f l) : keepsB f l = true := by
  unfold keepsB
  rw [List.all_eq_true]
  intro t ht
  have ht := List.mem_range.mp ht
  cases e : hd f t with
  | none => rfl
  | some k =>
    obtain ⟨i, hi⟩ := posOf_mem ((s.mem t).mpr ht)
    have h1 := s.beg.up i t k (posOf_some hi) e
    obtain ⟨j, hj⟩ := List.getElem?_of_mem h1
    have hji : j < i := by
      have := (List.getElem?_eq_some_iff.mp hj).1
      rw [List.length_take] at this; omega
    rw [List.getElem?_take_of_lt hji] at hj
    have := posOf_at s.beg.nd hj
    simp only [hi, this]
    exact decide_eq_true hji
end Hb
/-! the mathematics of putting forests together -/
namespace Hb
theorem fact_pos : ∀ n, 0 < fact n
  | 0 => by decide
  | n + 1 => Nat.mul_pos (fact_pos n) (Nat.succ_pos n)
/-- the ways to mix a and b -/
def Pc : Nat → Nat → Nat
  | 0, _ => 1
  | _ + 1, 0 => 1
  | a + 1, b + 1 => Pc a (b + 1) + Pc (a + 1) b
termination_by a b => a + b
theorem Pc_left (b : Nat) : Pc 0 b = 1 := by unfold Pc; rfl
theorem Pc_right : ∀ a : Nat, Pc a 0 = 1
  | 0 => by unfold Pc; rfl
  | a + 1 => by unfold Pc; rfl
theorem Pc_succ (a b : Nat) : Pc (a + 1) (b + 1) = Pc a (b + 1) + Pc (a + 1) b := by rw [Pc]
theorem Pc_fact : ∀ (n a b : Nat), a + b = n → Pc a b * (fact a * fact b) = fact (a + b)
  | n, 0, b, _ => by rw [Pc_left, Nat.zero_add]; simp [fact]
  | n, a + 1, 0, _ => by rw [Pc_right]; simp [fact]
  | 0, a + 1, b + 1, h => by omega
  | n + 1, a + 1, b + 1, h => by
    have h1 := Pc_fact n a (b + 1) (by omega)
    have h2 := Pc_fact n (a + 1) b (by omega)
    have e1 : a + (b + 1) = a + b + 1 := by omega
    have e2 : a + 1 + b = a + b + 1 := by omega
    have e3 : a + 1 + (b + 1) = a + b + 1 + 1 := by omega
    rw [e1] at h1
    rw [e2] at h2
    have g1 : Pc a (b + 1) * (fact (a + 1) * fact (b + 1)) = fact (a + b + 1) * (a + 1) := by
      rw [← h1, fact]
      simp only [Nat.mul_assoc, Nat.mul_comm, Nat.mul_left_comm]
    have g2 : Pc (a + 1) b * (fact (a + 1) * fact (b + 1)) = fact (a + b + 1) * (b + 1) := by
      rw [← h2, show fact (b + 1) = fact b * (b + 1) from rfl]
      simp only [Nat.mul_assoc, Nat.mul_comm, Nat.mul_left_comm]
    rw [Pc_succ, e3, Nat.add_mul, g1, g2, ← Nat.mul_add]
    show _ = fact (a + b + 1) * (a + b + 1 + 1)
    congr 1
theorem Pc_step (a k : Nat) : Pc a k * (a + k + 1) = Pc a (k + 1) * (k + 1) := by
  have h1 := Pc_fact _ a k rfl
  have h2 := Pc_fact _ a (k + 1) rfl
  have e : fact (a + (k + 1)) = fact (a + k) * (a + k + 1) := rfl
  rw [e, ← h1, show fact (k + 1) = fact k * (k + 1) from rfl] at h2
  have hp : 0 < fact a * fact k := Nat.mul_pos (fact_pos a) (fact_pos k)
  refine Nat.eq_of_mul_eq_mul_right hp ?_
  have g1 : Pc a k * (a + k + 1) * (fact a * fact k) = Pc a k * (fact a * fact k) * (a + k + 1) := by simp only [Nat.mul_assoc, Nat.mul_comm, Nat.mul_left_comm]
  have g2 : Pc a (k + 1) * (k + 1) * (fact a * fact k) = Pc a (k + 1) * (fact a * (fact k * (k + 1))) := by simp only [Nat.mul_assoc, Nat.mul_comm, Nat.mul_left_comm]
  rw [g1, g2, h2]
theorem Pc_div (a k : Nat) : Pc a k * (a + k + 1) / (k + 1) = Pc a (k + 1) := by rw [Pc_step]; exact Nat.mul_div_cancel _ (Nat.succ_pos k)
/-! products -/
def prodl : List Nat → Nat
  | [] => 1
  | x :: l => x * prodl l
theorem prodl_app : ∀ l m : List Nat, prodl (l ++ m) = prodl l * prodl m
  | [], m => by simp [prodl]
  | x :: l, m => by simp [prodl, prodl_app l m, Nat.mul_assoc]
theorem prodl_perm {l m : List Nat} (p : l.Perm m) : prodl l = prodl m := by
  induction p with
  | nil => rfl
  | cons x _ ih => simp [prodl, ih]
  | swap x y l => simp [prodl, Nat.mul_left_comm]
  | trans _ _ h1 h2 => rw [h1, h2]
theorem prodl_pos : ∀ {l : List Nat}, (∀ x ∈ l, 0 < x) → 0 < prodl l
  | [], _ => by decide
  | x :: l, h => Nat.mul_pos (h x (by simp)) (prodl_pos fun y hy => h y (by simp [hy]))
theorem foldl_div : ∀ (l : List Nat) (n : Nat), l.foldl (· / ·) n = n / prodl l
  | [], n => by simp [prodl]
  | x :: l, n => by rw [List.foldl_cons, foldl_div l, prodl, Nat.div_div_eq_div_mul]
theorem cby_eq (l : List Nat) : cby l = fact l.length / prodl l := foldl_div l _
/-! the hooks divide -/
theorem hook_flat {g : Nat → List Nat} {s : Nat → Nat} : ∀ l : List Nat, (∀ x ∈ l, ∃ X, fact (g x).length = X * prodl ((g x).map s)) → ∃ X, fact (l.flatMap g).length = X * prodl ((l.flatMap g).map s)
  | [], _ => ⟨1, by simp [prodl, fact]⟩
  | x :: l, h => by
    obtain ⟨A, ha⟩ := h x (by simp)
    obtain ⟨B, hb⟩ := hook_flat l fun y hy => h y (by simp [hy])
    refine ⟨Pc (g x).length (l.flatMap g).length * (A * B), ?_⟩
    rw [List.flatMap_cons, List.length_append, List.map_append, prodl_app, ← Pc_fact _ _ _ rfl, ha, hb]
    simp only [Nat.mul_assoc, Nat.mul_comm, Nat.mul_left_comm]
theorem pre_perm {f : Fo} (o : Ok f) {t : Nat} (h : t < f.length) : (pre f t).Perm (belS f t) :=
  (List.perm_ext_iff_of_nodup (pre_nodup o t h) (belS_nodup f t)).mpr fun x => by rw [pre_mem o t h, belS_mem]
theorem pre_len {f : Fo} (o : Ok f) {t : Nat} (h : t < f.length) : (pre f t).length = sz f t := by rw [(pre_perm o h).length_eq, belS_len]
theorem hook_pre {f : Fo} (o : Ok f) : ∀ t, t < f.length → ∃ X, fact (pre f t).length = X * prodl ((pre f t).map (sz f)) := by
  refine deep_ind o fun t ht ih => ?_
  obtain ⟨X, hX⟩ := hook_flat (g := pre f) (s := sz f) (hld f (some t)) fun c hc => ih c (hld_mem.mp hc).2
  refine ⟨X, ?_⟩
  have hl := pre_len o ht
  rw [pre_eq o ht] at hl ⊢
  rw [List.length_cons] at hl ⊢
  rw [fact, hX, List.map_cons, prodl, ← hl]
  simp only [Nat.mul_assoc, Nat.mul_comm, Nat.mul_left_comm]
theorem walk_perm {f : Fo} (o : Ok f) : (walk f).Perm (List.range f.length) :=
  (List.perm_ext_iff_of_nodup (walk_nodup o) List.nodup_range).mpr fun x => by rw [walk_mem o, List.mem_range]
theorem hook {f : Fo} (o : Ok f) : ∃ X, fact f.length = X * prodl (szs f) := by
  obtain ⟨X, hX⟩ := hook_flat (g := pre f) (s := sz f) (hld f none) fun c hc => hook_pre o c (hld_mem.mp hc).1
  refine ⟨X, ?_⟩
  have hw := walk_perm o
  have e : (walk f).length = f.length := by rw [hw.length_eq, List.length_range]
  have e2 : prodl ((walk f).map (sz f)) = prodl (szs f) := prodl_perm (hw.map _)
  rw [← e2, ← e]
  exact hX
theorem szs_len (f : Fo) : (szs f).length = f.length := by unfold szs; rw [List.length_map, List.length_range]
theorem szs_prod_pos (f : Fo) : 0 < prodl (szs f) := prodl_pos fun x hx => by
  unfold szs at hx
  obtain ⟨t, ht, rfl⟩ := List.mem_map.mp hx
  exact sz_pos (List.mem_range.mp ht)
theorem cof_mul {f : Fo} (o : Ok f) : cof f * prodl (szs f) = fact f.length := by
  obtain ⟨X, hX⟩ := hook o
  unfold cof
  rw [cby_eq, szs_len, hX, Nat.mul_div_cancel _ (szs_prod_pos f)]
theorem cof_of {f : Fo} {c : Nat} (h : c * prodl (szs f) = fact f.length) : cof f = c := by
  unfold cof
  rw [cby_eq, szs_len, ← h, Nat.mul_div_cancel _ (szs_prod_pos f)]
/-! ranges in two parts -/
theorem range_app (n : Nat) : ∀ m, List.range (n + m) = List.range n ++ (List.range m).map (fun x => x + n)
  | 0 => by simp
  | m + 1 => by
    rw [← Nat.add_assoc, List.range_succ, range_app n m, List.range_succ, List.map_append, List.append_assoc]
    simp [Nat.add_comm]
theorem map_eta (f : Fo) : (List.range f.length).map (hd f) = f := by
  refine List.ext_getElem (by simp) fun i h1 h2 => ?_
  have := hd_get (f := f) (t := i) h2
  rw [List.getElem?_eq_getElem h2] at this
  simp only [List.getElem_map, List.getElem_range]
  exact (Option.some.inj this).symm
/-! beside -/
theorem bes_abv1 {f g : Fo} (o : Ok f) (p : Ok g) : ∀ t, t < f.length → abv (bes f g) t = abv f t := by
  refine high_ind o fun t ih h => ?_
  have e := bes_hd1 (g := g) h
  cases q : hd f t with
  | none => rw [abv_none q, abv_none (e.trans q)]
  | some k => rw [abv_some o q, abv_some (bes_ok o p) (e.trans q), ih k q (o.lt _ _ q)]
theorem bes_abv2 {f g : Fo} (o : Ok f) (p : Ok g) : ∀ t, abv (bes f g) (f.length + t) = (abv g t).map (· + f.length) := by
  refine high_ind p fun t ih => ?_
  have e := bes_hd2 f g t
  cases q : hd g t with
  | none => rw [abv_none q, abv_none (by rw [e, q]; rfl)]; rfl
  | some k =>
    rw [abv_some p q, abv_some (bes_ok o p) (show hd (bes f g) (f.length + t) = some (f.length + k) by rw [e, q, Nat.add_comm]; rfl), ih k q, List.map_cons, Nat.add_comm k]
theorem filter_none {α : Type} {l : List α} {q : α → Bool} (h : ∀ x ∈ l, q x = false) : l.filter q = [] := List.filter_eq_nil_iff.mpr fun x hx => by rw [h x hx]; decide
theorem bes_sz1 {f g : Fo} (o : Ok f) (p : Ok g) {t : Nat} (ht : t < f.length) : sz (bes f g) t = sz f t := by
  unfold sz
  rw [bes_len, range_app, List.filter_append, List.length_append]
  have e2 : (List.filter (fun s => decide (s = t) || decide (t ∈ abv (bes f g) s)) ((List.range g.length).map fun x => x + f.length)) = [] := by
    refine filter_none fun x hx => ?_
    obtain ⟨y, _, rfl⟩ := List.mem_map.mp hx
    have h2 := bes_abv2 o p y
    rw [Nat.add_comm] at h2
    rw [h2, Bool.or_eq_false_iff, decide_eq_false_iff_not, decide_eq_false_iff_not]
    refine ⟨by omega, fun hm => ?_⟩
    obtain ⟨z, _, e⟩ := List.mem_map.mp hm
    omega
  rw [e2, List.length_nil, Nat.add_zero]
  congr 1
  exact List.filter_congr fun x hx => by rw [bes_abv1 o p x (List.mem_range.mp hx)]
theorem bes_sz2 {f g : Fo} (o : Ok f) (p : Ok g) (t : Nat) : sz (bes f g) (t + f.length) = sz g t := by
  unfold sz
  rw [bes_len, range_app, List.filter_append, List.length_append]
  have e2 : (List.filter (fun s => decide (s = t + f.length) || decide (t + f.length ∈ abv (bes f g) s)) (List.range f.length)) = [] := by
    refine filter_none fun x hx => ?_
    have hx' := List.mem_range.mp hx
    rw [bes_abv1 o p x hx', Bool.or_eq_false_iff, decide_eq_false_iff_not, decide_eq_false_iff_not]
    refine ⟨by omega, fun hm => ?_⟩
    have := abv_lt o hm
    omega
  rw [e2, List.length_nil, Nat.zero_add, List.filter_map, List.length_map]
  congr 1
  refine List.filter_congr fun x hx => ?_
  have h2 := bes_abv2 o p x
  rw [Nat.add_comm] at h2
  show (decide (x + f.length = t + f.length) || decide (t + f.length ∈ abv (bes f g) (x + f.length))) = _
  rw [h2]
  have e3 : (x + f.length = t + f.length) = (x = t) := by simp
  have e4 : (t + f.length ∈ (abv g x).map (· + f.length)) = (t ∈ abv g x) := by
    simp [List.mem_map]
  simp only [e3, e4]
theorem map_shift {α : Type} (F : Nat → α) (n m : Nat) : (List.range (n + m)).map F = (List.range n).map F ++ (List.range m).map fun x => F (x + n) := by
  rw [range_app, List.map_append, List.map_map]; rfl
theorem szs_bes {f g : Fo} (o : Ok f) (p : Ok g) : szs (bes f g) = szs f ++ szs g := by
  unfold szs
  rw [bes_len, map_shift]
  congr 1
  · exact List.map_congr_left fun x hx => bes_sz1 o p (List.mem_range.mp hx)
  · exact List.map_congr_left fun x _ => bes_sz2 o p x
theorem cof_bes {f g : Fo} (o : Ok f) (p : Ok g) : cof (bes f g) = cof f * cof g * Pc f.length g.length := by
  refine cof_of ?_
  rw [szs_bes o p, prodl_app, bes_len, ← Pc_fact _ _ _ rfl, ← cof_mul o, ← cof_mul p]
  simp only [Nat.mul_assoc, Nat.mul_comm, Nat.mul_left_comm]
def deps (f : Fo) : List Nat := (List.range f.length).map (dep f)
theorem deps_bes {f g : Fo} (o : Ok f) (p : Ok g) : deps (bes f g) = deps f ++ deps g := by
  unfold deps
  rw [bes_len, map_shift]
  congr 1
  · exact List.map_congr_left fun x hx => by unfold dep; rw [bes_abv1 o p x (List.mem_range.mp hx)]
  · refine List.map_congr_left fun x _ => ?_
    have h2 := bes_abv2 o p x
    rw [Nat.add_comm] at h2
    unfold dep; rw [h2, List.length_map]
end Hb
namespace Hb
theorem congr_flat {α β : Type} {g h : α → List β} {l : List α} (e : ∀ x ∈ l, g x = h x) : l.flatMap g = l.flatMap h := flatMap_congr' l e
theorem flat_map' {α β γ : Type} (g : β → List γ) (m : α → β) : ∀ l : List α, (l.map m).flatMap g = l.flatMap fun x => g (m x)
  | [] => rfl
  | x :: l => by rw [List.map_cons, List.flatMap_cons, List.flatMap_cons, flat_map' g m l]
theorem map_flat' {α β γ : Type} (g : α → List β) (m : β → γ) : ∀ l : List α, (l.flatMap g).map m = l.flatMap fun x => (g x).map m
  | [] => rfl
  | x :: l => by rw [List.flatMap_cons, List.flatMap_cons, List.map_append, map_flat' g m l]
/-! the walk of two forests beside one another -/
theorem bes_hld {f g : Fo} (h : Option Nat) : hld (bes f g) h = hld f h ++ ((List.range g.length).filter fun x => decide ((hd g x).map (· + f.length) = h)).map (· + f.length) := by
  unfold hld
  rw [bes_len, range_app, List.filter_append, List.filter_map]
  congr 1
  · exact List.filter_congr fun x hx => by rw [bes_hd1 (List.mem_range.mp hx)]
  · congr 1
    refine List.filter_congr fun x _ => ?_
    have e := bes_hd2 f g x
    rw [Nat.add_comm] at e
    show decide (hd (bes f g) (x + f.length) = h) = _
    rw [e]
theorem bes_hld_none (f g : Fo) : hld (bes f g) none = hld f none ++ (hld g none).map (· + f.length) := by
  rw [bes_hld]
  congr 2
  exact List.filter_congr fun x _ => by cases hd g x <;> rfl
theorem bes_hld1 {f g : Fo} {t : Nat} (ht : t < f.length) : hld (bes f g) (some t) = hld f (some t) := by
  rw [bes_hld, filter_none (fun x _ => decide_eq_false fun e => ?_), List.map_nil, List.append_nil]
  cases q : hd g x with
  | none => rw [q] at e; cases e
  | some k => rw [q] at e; have e : k + f.length = t := by injection e
              omega
theorem bes_hld2 {f g : Fo} (o : Ok f) (t : Nat) : hld (bes f g) (some (t + f.length)) = (hld g (some t)).map (· + f.length) := by
  have e1 : hld f (some (t + f.length)) = [] := filter_none fun x _ => decide_eq_false fun e => by have := o.lt _ _ e; omega
  rw [bes_hld, e1, List.nil_append]
  congr 1
  refine List.filter_congr fun x _ => decide_eq_decide.mpr ?_
  cases hd g x with
  | none => simp
  | some k => simp
theorem bes_pre1 {f g : Fo} (o : Ok f) (p : Ok g) : ∀ t, t < f.length → pre (bes f g) t = pre f t := by
  refine deep_ind o fun t ht ih => ?_
  rw [pre_eq o ht, pre_eq (bes_ok o p) (by rw [bes_len]; omega), bes_hld1 ht]
  congr 1
  exact congr_flat fun c hc => ih c (hld_mem.mp hc).2
theorem bes_pre2 {f g : Fo} (o : Ok f) (p : Ok g) : ∀ t, t < g.length → pre (bes f g) (t + f.length) = (pre g t).map (· + f.length) := by
  refine deep_ind p fun t ht ih => ?_
  rw [pre_eq p ht, pre_eq (bes_ok o p) (by rw [bes_len]; omega), bes_hld2 o, List.map_cons, flat_map', map_flat']
  congr 1
  exact congr_flat fun c hc => ih c (hld_mem.mp hc).2
theorem walk_bes {f g : Fo} (o : Ok f) (p : Ok g) : walk (bes f g) = walk f ++ (walk g).map (· + f.length) := by
  unfold walk
  rw [bes_hld_none, List.flatMap_append, flat_map', map_flat']
  congr 1
  · exact congr_flat fun c hc => bes_pre1 o p c (hld_mem.mp hc).1
  · exact congr_flat fun c hc => bes_pre2 o p c (hld_mem.mp hc).1
/-! grafted -/
theorem grf_abv1 {f g : Fo} {u : Nat} (o : Ok f) (p : Ok g) (hu : u < f.length) : ∀ t, t < f.length → abv (grf f u g) t = abv f t := by
  refine high_ind o fun t ih h => ?_
  have e := grf_hd1 (g := g) (t := u) h
  cases q : hd f t with
  | none => rw [abv_none q, abv_none (e.trans q)]
  | some k => rw [abv_some o q, abv_some (grf_ok o p hu) (e.trans q), ih k q (o.lt _ _ q)]
theorem grf_abv2 {f g : Fo} {u : Nat} (o : Ok f) (p : Ok g) (hu : u < f.length) : ∀ t, t < g.length → abv (grf f u g) (t + f.length) = (abv g t).map (· + f.length) ++ u :: abv f u := by
  refine high_ind p fun t ih h => ?_
  have e := grf_hd2 f g u h
  rw [Nat.add_comm] at e
  cases q : hd g t with
  | none =>
    rw [q] at e
    rw [abv_none q, abv_some (grf_ok o p hu) e, grf_abv1 o p hu u hu]; rfl
  | some k =>
    rw [q] at e
    rw [abv_some p q, abv_some (grf_ok o p hu) e, ih k q (p.lt _ _ q)]; rfl
theorem grf_sz2 {f g : Fo} {u : Nat} (o : Ok f) (p : Ok g) (hu : u < f.length) (t : Nat) : sz (grf f u g) (t + f.length) = sz g t := by
  unfold sz
  rw [grf_len, range_app, List.filter_append, List.length_append]
  have e2 : (List.filter (fun s => decide (s = t + f.length) || decide (t + f.length ∈ abv (grf f u g) s)) (List.range f.length)) = [] := by
    refine filter_none fun x hx => ?_
    have hx' := List.mem_range.mp hx
    rw [grf_abv1 o p hu x hx', Bool.or_eq_false_iff, decide_eq_false_iff_not, decide_eq_false_iff_not]
    refine ⟨by omega, fun hm => ?_⟩
    have := abv_lt o hm
    omega
  rw [e2, List.length_nil, Nat.zero_add, List.filter_map, List.length_map]
  congr 1
  refine List.filter_congr fun x hx => ?_
  show (decide (x + f.length = t + f.length) || decide (t + f.length ∈ abv (grf f u g) (x + f.length))) = _
  rw [grf_abv2 o p hu x (List.mem_range.mp hx)]
  have e3 : (x + f.length = t + f.length) = (x = t) := by simp
  have e4 : (t + f.length ∈ (abv g x).map (· + f.length) ++ u :: abv f u) = (t ∈ abv g x) := by
    have n1 : ¬ t + f.length = u := by omega
    have n2 : t + f.length ∉ abv f u := fun hm => by have := abv_lt o hm; omega
    simp [List.mem_map, n1, n2]
  simp only [e3, e4]
theorem grf_szu {f g : Fo} {u : Nat} (o : Ok f) (p : Ok g) (hu : u < f.length) : sz (grf f u g) u = sz f u + g.length := by
  unfold sz
  rw [grf_len, range_app, List.filter_append, List.length_append]
  congr 1
  · congr 1
    exact List.filter_congr fun x hx => by rw [grf_abv1 o p hu x (List.mem_range.mp hx)]
  · rw [List.filter_eq_self.mpr, List.length_map, List.length_range]
    intro x hx
    obtain ⟨y, hy, rfl⟩ := List.mem_map.mp hx
    rw [grf_abv2 o p hu y (List.mem_range.mp hy)]
    simp
theorem grf_dep1 {f g : Fo} {u t : Nat} (o : Ok f) (p : Ok g) (hu : u < f.length) (ht : t < f.length) : dep (grf f u g) t = dep f t := by unfold dep; rw [grf_abv1 o p hu t ht]
theorem grf_deps {f g : Fo} {u : Nat} (o : Ok f) (p : Ok g) (hu : u < f.length) : deps (grf f u g) = deps f ++ (deps g).map (· + (dep f u + 1)) := by
  unfold deps
  rw [grf_len, map_shift]
  congr 1
  · exact List.map_congr_left fun x hx => grf_dep1 o p hu (List.mem_range.mp hx)
  · rw [List.map_map]
    refine List.map_congr_left fun x hx => ?_
    show dep _ _ = dep g x + (dep f u + 1)
    unfold dep
    rw [grf_abv2 o p hu x (List.mem_range.mp hx), List.length_append, List.length_map, List.length_cons]
/-! below one new thing -/
theorem one_no (t k : Nat) : hd [none] t ≠ some k := by cases t <;> (intro e; cases e)
theorem ok_one : Ok [none] := ⟨by decide, fun t k e => absurd e (one_no t k), fun _ => 0, fun t k e => absurd e (one_no t k)⟩
theorem abv_one (t : Nat) : abv [none] t = [] := abv_none (by cases t <;> rfl)
theorem sz_one : sz [none] 0 = 1 := by decide
theorem szs_under {g : Fo} (p : Ok g) : szs (grf [none] 0 g) = (g.length + 1) :: szs g := by
  unfold szs
  have hl : (grf [none] 0 g).length = 1 + g.length := grf_len _ _ _
  rw [hl, map_shift]
  have e0 := grf_szu ok_one p (show 0 < ([none] : Fo).length by decide)
  rw [sz_one] at e0
  show sz (grf [none] 0 g) 0 :: _ = _
  rw [e0, Nat.add_comm]
  congr 1
  exact List.map_congr_left fun x _ => grf_sz2 ok_one p (by decide) x
theorem cof_under {g : Fo} (p : Ok g) : cof (grf [none] 0 g) = cof g := by
  refine cof_of ?_
  have hl : (grf [none] 0 g).length = g.length + 1 := by rw [grf_len]; exact Nat.add_comm _ _
  rw [szs_under p, hl, prodl, fact, ← cof_mul p]
  simp only [Nat.mul_assoc, Nat.mul_comm, Nat.mul_left_comm]
theorem ren_all {f : Fo} (o : Ok f) : ren f (List.range f.length) = f := by
  unfold ren
  refine Eq.trans (List.map_congr_left fun t _ => ?_) (map_eta f)
  cases q : hd f t with
  | none => rfl
  | some k => exact posOf_at List.nodup_range (List.getElem?_range (o.lt _ _ q))
theorem prt_under {g : Fo} (p : Ok g) : prt (grf [none] 0 g) 0 = grf [none] 0 g := by
  have ok := grf_ok ok_one p (show 0 < ([none] : Fo).length by decide)
  have e : belS (grf [none] 0 g) 0 = List.range (grf [none] 0 g).length := by
    unfold belS
    refine List.filter_eq_self.mpr fun x hx => ?_
    have hx' := List.mem_range.mp hx
    rw [grf_len] at hx'
    cases x with
    | zero => rfl
    | succ y =>
      have := grf_abv2 ok_one p (show 0 < ([none] : Fo).length by decide) y (by simp at hx'; omega)
      show (decide (y + 1 = 0) || decide (0 ∈ abv (grf [none] 0 g) (y + 1))) = true
      rw [show abv (grf [none] 0 g) (y + 1) = _ from this]
      simp
  unfold prt
  rw [e, ren_all ok]
theorem wou_under {g : Fo} (p : Ok g) : wou (grf [none] 0 g) 0 = g := by
  have hl : (grf [none] 0 g).length = 1 + g.length := grf_len _ _ _
  have eo : oth (grf [none] 0 g) 0 = (List.range g.length).map (· + 1) := by
    unfold oth
    rw [hl, range_app, List.filter_append, filter_none (fun x hx => by have := List.mem_range.mp hx; simp at this ⊢; exact this), List.nil_append]
    refine List.filter_eq_self.mpr fun x hx => ?_
    obtain ⟨y, _, rfl⟩ := List.mem_map.mp hx
    simp
  have nd : ((List.range g.length).map (· + 1)).Nodup := by rw [← eo]; exact oth_nodup _ _
  unfold wou ren
  rw [eo, List.map_map]
  refine Eq.trans (List.map_congr_left fun t ht => ?_) (map_eta g)
  have ht' := List.mem_range.mp ht
  have e1 := grf_hd2 [none] g 0 ht'
  show (hd (lft (grf [none] 0 g) 0) (t + 1)).bind _ = hd g t
  rw [Nat.add_comm] at e1
  rw [lft_hd, show hd (grf [none] 0 g) (t + 1) = _ from e1]
  have e0 : hd (grf [none] 0 g) 0 = none := grf_hd1 (show 0 < ([none] : Fo).length by decide)
  cases q : hd g t with
  | none => rw [if_pos rfl, e0]; rfl
  | some k =>
    have e3 : ¬ (some (k + ([none] : Fo).length) = some 0) := fun e => by injection e with e; simp at e
    show (if some (k + ([none] : Fo).length) = some 0 then _ else some (k + ([none] : Fo).length)).bind _ = _
    rw [if_neg e3]
    refine posOf_at nd ?_
    rw [List.getElem?_map, List.getElem?_range (p.lt _ _ q)]; rfl
/-! a sequence of both has one of each within -/
theorem take_of_split {l a b : List Nat} {t i : Nat} (nd : l.Nodup) (e : l = a ++ t :: b) (h : l[i]? = some t) : l.take i = a := by
  have h2 : l[a.length]? = some t := by rw [e, List.getElem?_append_right (Nat.le_refl _)]; simp
  have p1 := posOf_at nd h
  have p2 := posOf_at nd h2
  rw [p1] at p2
  injection p2 with p2
  rw [p2, e, List.take_left]
theorem split_at {l : List Nat} {t i : Nat} (h : l[i]? = some t) : l = l.take i ++ t :: l.drop (i + 1) := by
  obtain ⟨hi, e⟩ := List.getElem?_eq_some_iff.mp h
  rw [← e, List.getElem_cons_drop, List.take_append_drop]
theorem all_len {l : List Nat} {n : Nat} (nd : l.Nodup) (h : ∀ x, x ∈ l ↔ x < n) : l.length = n := by
  have : l.Perm (List.range n) := (List.perm_ext_iff_of_nodup nd List.nodup_range).mpr fun x => by rw [h, List.mem_range]
  rw [this.length_eq, List.length_range]
theorem Sq.left {f g : Fo} {l : List Nat} (o : Ok f) (s : Sq (bes f g) l) : Sq f (l.filter fun x => decide (x < f.length)) := by
  have nd : (l.filter fun x => decide (x < f.length)).Nodup := s.beg.nd.filter _
  have hm : ∀ x, x ∈ (l.filter fun x => decide (x < f.length)) ↔ x < f.length := fun x => by
    rw [List.mem_filter, decide_eq_true_iff, s.mem, bes_len]
    constructor
    · exact fun h => h.2
    · exact fun h => ⟨by omega, h⟩
  refine ⟨⟨nd, fun x hx => (hm x).mp hx, fun i t k hi hk => ?_⟩, all_len nd hm⟩
  have ht : t < f.length := hd_lt hk
  have htl : t ∈ l := (s.mem t).mpr (by rw [bes_len]; omega)
  obtain ⟨j, hj⟩ := List.mem_iff_getElem?.mp htl
  have hkl := s.beg.up j t k hj ((bes_hd1 ht).trans hk)
  have e := split_at hj
  have e2 : (l.filter fun x => decide (x < f.length)) = (l.take j).filter (fun x => decide (x < f.length)) ++ t :: (l.drop (j + 1)).filter fun x => decide (x < f.length) := by
    conv => lhs; rw [e]
    rw [List.filter_append, List.filter_cons, if_pos (decide_eq_true ht)]
  rw [take_of_split nd e2 hi, List.mem_filter]
  exact ⟨hkl, decide_eq_true (o.lt _ _ hk)⟩
theorem Sq.right {f g : Fo} {l : List Nat} (p : Ok g) (s : Sq (bes f g) l) : Sq g ((l.filter fun x => decide (f.length ≤ x)).map (· - f.length)) := by
  have inj : ∀ x ∈ (l.filter fun x => decide (f.length ≤ x)), ∀ y ∈ (l.filter fun x => decide (f.length ≤ x)), x - f.length = y - f.length → x = y := fun x hx y hy e => by
    have h1 := of_decide_eq_true (List.mem_filter.mp hx).2
    have h2 := of_decide_eq_true (List.mem_filter.mp hy).2
    omega
  have nd0 : (l.filter fun x => decide (f.length ≤ x)).Nodup := s.beg.nd.filter _
  have nd : ((l.filter fun x => decide (f.length ≤ x)).map (· - f.length)).Nodup := by
    refine List.pairwise_map.mpr (List.Pairwise.imp_of_mem ?_ nd0)
    exact fun hx hy ne e => ne (inj _ hx _ hy e)
  have hm : ∀ x, x ∈ ((l.filter fun x => decide (f.length ≤ x)).map (· - f.length)) ↔ x < g.length := fun x => by
    rw [List.mem_map]
    constructor
    · rintro ⟨y, hy, rfl⟩
      have h1 := (s.mem y).mp (List.mem_filter.mp hy).1
      have h2 := of_decide_eq_true (List.mem_filter.mp hy).2
      rw [bes_len] at h1
      omega
    · exact fun h => ⟨x + f.length, List.mem_filter.mpr ⟨(s.mem _).mpr (by rw [bes_len]; omega), decide_eq_true (by omega)⟩, by omega⟩
  refine ⟨⟨nd, fun x hx => (hm x).mp hx, fun i t k hi hk => ?_⟩, all_len nd hm⟩
  have ht : t < g.length := hd_lt hk
  have htl : t + f.length ∈ l := (s.mem _).mpr (by rw [bes_len]; omega)
  obtain ⟨j, hj⟩ := List.mem_iff_getElem?.mp htl
  have hh : hd (bes f g) (t + f.length) = some (k + f.length) := by rw [Nat.add_comm, bes_hd2, hk]; rfl
  have hkl := s.beg.up j _ _ hj hh
  have e := split_at hj
  have e2 : ((l.filter fun x => decide (f.length ≤ x)).map (· - f.length)) = ((l.take j).filter (fun x => decide (f.length ≤ x))).map (· - f.length) ++ t :: ((l.drop (j + 1)).filter fun x => decide (f.length ≤ x)).map (· - f.length) := by
    conv => lhs; rw [e]
    rw [List.filter_append, List.filter_cons, if_pos (decide_eq_true (by omega)), List.map_append, List.map_cons, Nat.add_sub_cancel]
  rw [take_of_split nd e2 hi, List.mem_map]
  exact ⟨k + f.length, List.mem_filter.mpr ⟨hkl, decide_eq_true (by omega)⟩, by omega⟩
end Hb
/-! series of whole numbers: times (1 - x ^ m), by (1 - x ^ m), and convolution -/
namespace Hb
abbrev Se := Nat → Int
def one0 : Se := fun n => if n = 0 then 1 else 0
def mulG (m : Nat) (c : Se) : Se := fun n => c n - (if m ≤ n then c (n - m) else 0)
def divG (m : Nat) (c : Se) (n : Nat) : Int := c n + (if h : 0 < m ∧ m ≤ n then divG m c (n - m) else 0)
termination_by n
decreasing_by omega
theorem divG_eq (m : Nat) (hm : 0 < m) (c : Se) (n : Nat) : divG m c n = c n + (if m ≤ n then divG m c (n - m) else 0) := by
  rw [divG]
  by_cases h : m ≤ n
  · rw [dif_pos ⟨hm, h⟩, if_pos h]
  · rw [dif_neg (fun z => h z.2), if_neg h]
theorem mul_div (m : Nat) (hm : 0 < m) (c : Se) : mulG m (divG m c) = c := by
  funext n
  unfold mulG
  rw [divG_eq m hm c n]
  omega
theorem div_mul (m : Nat) (hm : 0 < m) (c : Se) : divG m (mulG m c) = c := by
  funext n
  induction n using Nat.strongRecOn with
  | ind n ih =>
    rw [divG_eq m hm]
    by_cases h : m ≤ n
    · rw [if_pos h, ih (n - m) (by omega)]
      unfold mulG
      rw [if_pos h]
      omega
    · rw [if_neg h]
      unfold mulG
      rw [if_neg h]
      omega
theorem mul_comm2 (a b : Nat) (c : Se) : mulG a (mulG b c) = mulG b (mulG a c) := by
  funext n
  unfold mulG
  by_cases h1 : a ≤ n <;> by_cases h2 : b ≤ n <;> simp only [h1, h2, if_true, if_false]
  · by_cases h3 : a + b ≤ n
    · rw [if_pos (by omega : b ≤ n - a), if_pos (by omega : a ≤ n - b), show n - a - b = n - b - a by omega]
      omega
    · rw [if_neg (by omega : ¬ b ≤ n - a), if_neg (by omega : ¬ a ≤ n - b)]
      omega
  · rw [if_neg (by omega : ¬ b ≤ n - a)]; omega
  · rw [if_neg (by omega : ¬ a ≤ n - b)]; omega
theorem mul_inj (m : Nat) (hm : 0 < m) {c d : Se} (h : mulG m c = mulG m d) : c = d := by rw [← div_mul m hm c, h, div_mul m hm d]
/-- many at once -/
def mulL : List Nat → Se → Se
  | [], c => c
  | m :: l, c => mulG m (mulL l c)
theorem mulL_app (l m : List Nat) (c : Se) : mulL (l ++ m) c = mulL l (mulL m c) := by
  induction l with
  | nil => rfl
  | cons x l ih => show mulG x (mulL (l ++ m) c) = mulG x _; rw [ih]
theorem mulL_G (m : Nat) : ∀ (l : List Nat) (c : Se), mulL l (mulG m c) = mulG m (mulL l c)
  | [], c => rfl
  | x :: l, c => by
    show mulG x (mulL l (mulG m c)) = mulG m (mulG x (mulL l c))
    rw [mulL_G m l c, mul_comm2]
theorem mulL_perm {l m : List Nat} (p : l.Perm m) (c : Se) : mulL l c = mulL m c := by
  induction p with
  | nil => rfl
  | cons x _ ih => show mulG x _ = mulG x _; rw [ih]
  | swap x y l => exact mul_comm2 _ _ _
  | trans _ _ h1 h2 => rw [h1, h2]
theorem mulL_inj : ∀ {l : List Nat} (hl : ∀ x ∈ l, 0 < x) {c d : Se}, mulL l c = mulL l d → c = d
  | [], _, c, d, h => h
  | x :: l, hl, c, d, h => mulL_inj (fun y hy => hl y (by simp [hy])) (mul_inj x (hl x (by simp)) h)
/-- x ^ w -/
def shf (w : Nat) (c : Se) : Se := fun n => if w ≤ n then c (n - w) else 0
def addS (c d : Se) : Se := fun n => c n + d n
def zeS : Se := fun _ => 0
theorem mulG_shf (m w : Nat) (c : Se) : mulG m (shf w c) = shf w (mulG m c) := by
  funext n
  unfold mulG shf
  by_cases h1 : w ≤ n <;> by_cases h2 : m ≤ n <;> simp only [h1, h2, if_true, if_false]
  · by_cases h3 : w + m ≤ n
    · rw [if_pos (by omega : w ≤ n - m), if_pos (by omega : m ≤ n - w), show n - m - w = n - w - m by omega]
    · rw [if_neg (by omega : ¬ w ≤ n - m), if_neg (by omega : ¬ m ≤ n - w)]
  · rw [if_neg (by omega : ¬ m ≤ n - w)]
  · rw [if_neg (by omega : ¬ w ≤ n - m)]; omega
  · omega
theorem mulL_shf (w : Nat) : ∀ (l : List Nat) (c : Se), mulL l (shf w c) = shf w (mulL l c)
  | [], c => rfl
  | x :: l, c => by show mulG x (mulL l (shf w c)) = shf w (mulG x (mulL l c)); rw [mulL_shf w l c, mulG_shf]
theorem mulG_add (m : Nat) (c d : Se) : mulG m (addS c d) = addS (mulG m c) (mulG m d) := by
  funext n
  unfold mulG addS
  by_cases h : m ≤ n
  · simp only [h, if_true]; omega
  · simp only [h, if_false]; omega
theorem mulL_add : ∀ (l : List Nat) (c d : Se), mulL l (addS c d) = addS (mulL l c) (mulL l d)
  | [], c, d => rfl
  | x :: l, c, d => by show mulG x (mulL l (addS c d)) = addS (mulG x (mulL l c)) (mulG x (mulL l d)); rw [mulL_add l c d, mulG_add]
theorem mulG_ze (m : Nat) : mulG m zeS = zeS := by funext n; unfold mulG zeS; by_cases h : m ≤ n <;> simp [h]
theorem mulL_ze : ∀ l : List Nat, mulL l zeS = zeS
  | [] => rfl
  | x :: l => by show mulG x (mulL l zeS) = zeS; rw [mulL_ze l, mulG_ze]
def sumS : List Se → Se
  | [] => zeS
  | c :: l => addS c (sumS l)
theorem mulL_sum (l : List Nat) : ∀ cs : List Se, mulL l (sumS cs) = sumS (cs.map (mulL l))
  | [] => mulL_ze l
  | c :: cs => by show mulL l (addS c (sumS cs)) = addS (mulL l c) (sumS (cs.map (mulL l))); rw [mulL_add, mulL_sum l cs]
theorem shf_shf (a b : Nat) (c : Se) : shf a (shf b c) = shf (a + b) c := by
  funext n
  unfold shf
  by_cases h : a ≤ n
  · rw [if_pos h]
    by_cases h2 : a + b ≤ n
    · rw [if_pos (by omega : b ≤ n - a), if_pos h2, show n - a - b = n - (a + b) by omega]
    · rw [if_neg (by omega : ¬ b ≤ n - a), if_neg h2]
  · rw [if_neg h, if_neg (by omega : ¬ a + b ≤ n)]
theorem shf_0 (c : Se) : shf 0 c = c := by funext n; unfold shf; simp
theorem mulG_as (m : Nat) (c : Se) : addS (mulG m c) (shf m c) = c := by funext n; unfold addS mulG shf; omega
/-- nothing above g -/
def Top0 (g : Nat) (c : Se) : Prop := ∀ n, g < n → c n = 0
theorem Top0.mono {g h : Nat} {c : Se} (t : Top0 g c) (e : g ≤ h) : Top0 h c := fun n hn => t n (by omega)
theorem Top0.shf {g w : Nat} {c : Se} (t : Top0 g c) : Top0 (g + w) (shf w c) := fun n hn => by
  unfold Hb.shf
  by_cases h : w ≤ n
  · rw [if_pos h]; exact t _ (by omega)
  · rw [if_neg h]
theorem Top0.add {g : Nat} {c d : Se} (t : Top0 g c) (u : Top0 g d) : Top0 g (addS c d) := fun n hn => by
  unfold addS; rw [t n hn, u n hn]; rfl
theorem Top0.mul {g m : Nat} {c : Se} (t : Top0 g c) : Top0 (g + m) (mulG m c) := fun n hn => by
  unfold mulG
  rw [t n (by omega)]
  by_cases h : m ≤ n
  · rw [if_pos h, t (n - m) (by omega)]; rfl
  · rw [if_neg h]; rfl
theorem Top0.mulL {g : Nat} : ∀ {l : List Nat} {c : Se}, Top0 g c → Top0 (g + l.sum) (Hb.mulL l c)
  | [], c, t => by simpa [Hb.mulL] using t
  | x :: l, c, t => by
    have := (Top0.mulL (l := l) t).mul (m := x)
    rw [List.sum_cons]
    exact this.mono (by omega)
theorem top_one : Top0 0 one0 := fun n hn => by unfold one0; rw [if_neg (by omega)]
/-- read from behind -/
def rvS (g : Nat) (c : Se) : Se := fun n => if n ≤ g then c (g - n) else 0
def negS (c : Se) : Se := fun n => - c n
theorem rv_mul {g m : Nat} {c : Se} (t : Top0 g c) : mulG m (rvS g c) = negS (rvS (g + m) (mulG m c)) := by
  funext n
  show (if n ≤ g then c (g - n) else 0) - (if m ≤ n then (if n - m ≤ g then c (g - (n - m)) else 0) else 0) = -(if n ≤ g + m then (c (g + m - n) - (if m ≤ g + m - n then c (g + m - n - m) else 0)) else 0)
  by_cases h0 : n ≤ g + m
  · rw [if_pos h0]
    by_cases h1 : m ≤ n
    · rw [if_pos h1, if_pos (by omega : n - m ≤ g)]
      by_cases h2 : n ≤ g
      · rw [if_pos h2]
        have e : g + m - n = g - n + m := by omega
        rw [if_pos (by omega : m ≤ g + m - n), show g + m - n - m = g - n by omega, show g - (n - m) = g + m - n by omega]
        omega
      · rw [if_neg h2, if_neg (by omega : ¬ m ≤ g + m - n), show g - (n - m) = g + m - n by omega]
        omega
    · rw [if_neg h1]
      by_cases h2 : n ≤ g
      · rw [if_pos h2, if_pos (by omega : m ≤ g + m - n), show g + m - n - m = g - n by omega, t (g + m - n) (by omega)]
        omega
      · rw [if_neg h2, if_neg (by omega : ¬ m ≤ g + m - n), t (g + m - n) (by omega)]; rfl
  · rw [if_neg h0, if_neg (by omega : ¬ n ≤ g)]
    by_cases h1 : m ≤ n
    · rw [if_pos h1, if_neg (by omega : ¬ n - m ≤ g)]; rfl
    · rw [if_neg h1]; rfl
theorem mulG_neg (m : Nat) (c : Se) : mulG m (negS c) = negS (mulG m c) := by
  funext n; unfold mulG negS; by_cases h : m ≤ n
  · simp only [h, if_true]; omega
  · simp only [h, if_false]; omega
theorem neg_neg (c : Se) : negS (negS c) = c := by funext n; unfold negS; omega
def sgn (k : Nat) (c : Se) : Se := if k % 2 = 0 then c else negS c
theorem sgn_succ (k : Nat) (c : Se) : negS (sgn k c) = sgn (k + 1) c := by
  unfold sgn
  by_cases h : k % 2 = 0
  · rw [if_pos h, if_neg (by omega)]
  · rw [if_neg h, if_pos (by omega), neg_neg]
theorem mulG_sgn (m k : Nat) (c : Se) : mulG m (sgn k c) = sgn k (mulG m c) := by
  unfold sgn
  by_cases h : k % 2 = 0
  · rw [if_pos h, if_pos h]
  · rw [if_neg h, if_neg h, mulG_neg]
theorem rv_mulL {g : Nat} : ∀ (l : List Nat) {c : Se}, Top0 g c → mulL l (rvS g c) = sgn l.length (rvS (g + l.sum) (mulL l c))
  | [], c, t => by simp [mulL, sgn]
  | x :: l, c, t => by
    show mulG x (mulL l (rvS g c)) = _
    rw [rv_mulL l t, mulG_sgn, rv_mul (t.mulL (l := l)), List.length_cons, ← sgn_succ, List.sum_cons, show g + (x + l.sum) = g + l.sum + x by omega]
    unfold sgn
    by_cases h : l.length % 2 = 0
    · rw [if_pos h, if_pos h]; rfl
    · rw [if_neg h, if_neg h]; rfl
theorem sgn_inj {k : Nat} {c d : Se} (h : sgn k c = sgn k d) : c = d := by
  unfold sgn at h
  by_cases e : k % 2 = 0
  · rw [if_pos e, if_pos e] at h; exact h
  · rw [if_neg e, if_neg e] at h
    rw [← neg_neg c, h, neg_neg]
theorem rv_one : rvS 0 one0 = one0 := by
  funext n
  unfold rvS one0
  by_cases h : n ≤ 0
  · rw [if_pos h, if_pos (by omega), if_pos (by omega)]
  · rw [if_neg h, if_neg (by omega)]
end Hb
/-! the numbers by turned pairs, as a series -/
namespace Hb
theorem getD_self (l : List Nat) : (List.range l.length).map (fun i => l.getD i 0) = l := by
  refine List.ext_getElem (by simp) fun i h1 h2 => ?_
  simp only [List.getElem_map, List.getElem_range]
  rw [List.getD_eq_getElem?_getD, List.getElem?_eq_getElem h2]; rfl
/-! ### a first thing is taken away -/
theorem wou_hd {f : Fo} {r i t : Nat} (hr : hd f r = none) (h : (oth f r)[i]? = some t) : hd (wou f r) i = if hd f t = some r then none else (hd f t).bind (posOf (oth f r)) := by
  have e := ren_hd (f := lft f r) h
  unfold wou
  rw [e, lft_hd, hr]
  by_cases q : hd f t = some r
  · rw [if_pos q, if_pos q]; rfl
  · rw [if_neg q, if_neg q]
theorem wou_abv {f : Fo} (o : Ok f) {r : Nat} (hr : hd f r = none) (hrl : r < f.length) (h1 : f.length ≠ 1) : ∀ t, ∀ i, (oth f r)[i]? = some t → ∀ j u, (oth f r)[j]? = some u → (j ∈ abv (wou f r) i ↔ u ∈ abv f t) := by
  have ok := wou_ok o hrl h1
  have nd := oth_nodup f r
  refine high_ind o fun t ih i hi j u hj => ?_
  have e := wou_hd hr hi
  have hu : u ≠ r := (oth_mem.mp (List.mem_iff_getElem?.mpr ⟨j, hj⟩)).2
  cases q : hd f t with
  | none =>
    rw [q] at e
    rw [abv_none q, abv_none (by rw [e]; rfl)]
    simp
  | some k =>
    rw [q] at e
    by_cases hk : k = r
    · subst hk
      rw [if_pos rfl] at e
      rw [abv_none e, abv_some o q, abv_none hr]
      simp [hu]
    · rw [if_neg (fun z => hk (Option.some.inj z))] at e
      obtain ⟨jk, hjk⟩ := posOf_mem (oth_mem.mpr ⟨o.lt _ _ q, hk⟩ : k ∈ oth f r)
      have e2 : hd (wou f r) i = some jk := by rw [e]; exact hjk
      have hg := posOf_some hjk
      rw [abv_some ok e2, abv_some o q, List.mem_cons, List.mem_cons, ih k q jk hg j u hj]
      have : j = jk ↔ u = k := by
        constructor
        · intro z; rw [z, hg] at hj; exact (Option.some.inj hj).symm
        · intro z; rw [z] at hj; have := posOf_at nd hj; rw [hjk] at this; exact (Option.some.inj this).symm
      rw [this]
theorem wou_sz {f : Fo} (o : Ok f) {r : Nat} (hr : hd f r = none) (hrl : r < f.length) (h1 : f.length ≠ 1) {i t : Nat} (hi : (oth f r)[i]? = some t) : sz (wou f r) i = sz f t := by
  have nd := oth_nodup f r
  have hlen : (wou f r).length = (oth f r).length := by unfold wou; rw [ren_len]
  have ht := oth_mem.mp (List.mem_iff_getElem?.mpr ⟨i, hi⟩)
  unfold sz
  rw [hlen]
  have e1 : ((List.range (oth f r).length).filter fun s => decide (s = i) || decide (i ∈ abv (wou f r) s)).length = ((oth f r).filter fun x => decide (x = t) || decide (t ∈ abv f x)).length := by
    conv => rhs; rw [← getD_self (oth f r)]
    rw [List.filter_map, List.length_map]
    congr 1
    refine List.filter_congr fun s hs => ?_
    have hs' := List.mem_range.mp hs
    have g : (oth f r)[s]? = some ((oth f r).getD s 0) := by rw [List.getD_eq_getElem?_getD, List.getElem?_eq_getElem hs']; rfl
    have q1 := wou_abv o hr hrl h1 _ s g i t hi
    have q2 : s = i ↔ (oth f r).getD s 0 = t := by
      constructor
      · intro z; subst z; rw [g] at hi; exact Option.some.inj hi
      · intro z; rw [z] at g; have a := posOf_at nd g; have b := posOf_at nd hi; rw [a] at b; exact Option.some.inj b
    show (decide (s = i) || decide (i ∈ abv (wou f r) s)) = (decide ((oth f r).getD s 0 = t) || decide (t ∈ abv f ((oth f r).getD s 0)))
    rw [decide_eq_decide.mpr q2, decide_eq_decide.mpr q1]
  rw [e1]
  unfold oth
  rw [List.filter_filter]
  congr 1
  refine List.filter_congr fun x hx => ?_
  by_cases hxr : x = r
  · subst hxr
    rw [abv_none hr, decide_eq_false (fun z => ht.2 z.symm)]
    simp
  · rw [decide_eq_true hxr, Bool.and_true]
theorem range_oth {f : Fo} {r : Nat} (hrl : r < f.length) : (List.range f.length).Perm (r :: oth f r) := by
  refine (List.perm_ext_iff_of_nodup List.nodup_range ?_).mpr fun x => ?_
  · exact List.nodup_cons.mpr ⟨fun h => (oth_mem.mp h).2 rfl, oth_nodup f r⟩
  · rw [List.mem_cons, oth_mem, List.mem_range]
    by_cases h : x = r
    · subst h; simp [hrl]
    · simp [h]
theorem szs_wou {f : Fo} (o : Ok f) {r : Nat} (hr : hd f r = none) (hrl : r < f.length) (h1 : f.length ≠ 1) : szs (wou f r) = (oth f r).map (sz f) := by
  have hlen : (wou f r).length = (oth f r).length := by unfold wou; rw [ren_len]
  unfold szs
  rw [hlen]
  conv => rhs; rw [← getD_self (oth f r)]
  rw [List.map_map]
  refine List.map_congr_left fun i hi => ?_
  have hi' := List.mem_range.mp hi
  exact wou_sz o hr hrl h1 (by show _ = some ((oth f r).getD i 0); rw [List.getD_eq_getElem?_getD, List.getElem?_eq_getElem hi']; rfl)
theorem szs_perm {f : Fo} (o : Ok f) {r : Nat} (hr : hd f r = none) (hrl : r < f.length) (h1 : f.length ≠ 1) : (szs f).Perm (sz f r :: szs (wou f r)) := by
  rw [szs_wou o hr hrl h1]
  unfold szs
  exact (range_oth hrl).map (sz f)
/-! ### the first things' places in the walk -/
def sts (f : Fo) : List Nat → Nat → List (Nat × Nat)
  | [], _ => []
  | r :: R, w => (r, w) :: sts f R (w + sz f r)
theorem sts_map (f : Fo) : ∀ (R : List Nat) (w : Nat), (sts f R w).map (·.1) = R
  | [], _ => rfl
  | r :: R, w => by show r :: (sts f R _).map (·.1) = _; rw [sts_map f R]
theorem sts_le (f : Fo) : ∀ (R : List Nat) (w : Nat), ∀ p ∈ sts f R w, p.2 + sz f p.1 ≤ w + (R.map (sz f)).sum
  | [], _, p, h => by cases h
  | r :: R, w, p, h => by
    rw [List.map_cons, List.sum_cons]
    rcases List.mem_cons.mp h with rfl | h
    · show w + sz f r ≤ _; omega
    · have := sts_le f R _ p h; omega
theorem roots_sum {f : Fo} (o : Ok f) : ((hld f none).map (sz f)).sum = f.length := by
  have h := (walk_perm o).length_eq
  rw [List.length_range] at h
  have key : ∀ R : List Nat, (∀ r ∈ R, r < f.length) → (R.flatMap (pre f)).length = (R.map (sz f)).sum := by
    intro R
    induction R with
    | nil => intro _; rfl
    | cons r R ih =>
      intro hR
      rw [List.flatMap_cons, List.length_append, List.map_cons, List.sum_cons, pre_len o (hR r (by simp)), ih fun x hx => hR x (by simp [hx])]
  rw [← key _ fun r hr => (hld_mem.mp hr).1, ← h]; rfl
theorem sts_pos {f : Fo} (o : Ok f) : ∀ (R : List Nat) (A : List Nat), (∀ r ∈ R, r < f.length) → ∀ p ∈ sts f R A.length, (A ++ R.flatMap (pre f))[p.2]? = some p.1
  | [], A, _, p, h => by cases h
  | r :: R, A, hR, p, h => by
    have hr := hR r (by simp)
    rcases List.mem_cons.mp h with rfl | h
    · show (A ++ (r :: R).flatMap (pre f))[A.length]? = some r
      rw [List.flatMap_cons, pre_eq o hr, List.getElem?_append_right (Nat.le_refl _), Nat.sub_self]; rfl
    · have e : A.length + sz f r = (A ++ pre f r).length := by rw [List.length_append, pre_len o hr]
      rw [e] at h
      have := sts_pos o R (A ++ pre f r) (fun x hx => hR x (by simp [hx])) p h
      rw [List.flatMap_cons, ← List.append_assoc]; exact this
/-! ### the series -/
def PN : Nat → Se
  | 0 => one0
  | n + 1 => mulG (n + 1) (PN n)
def tri : Nat → Nat
  | 0 => 0
  | n + 1 => tri n + (n + 1)
theorem tele (f : Fo) (Y : Se) : ∀ (R : List Nat) (w : Nat), addS (sumS ((sts f R w).map fun p => shf p.2 (mulG (sz f p.1) Y))) (shf (w + (R.map (sz f)).sum) Y) = shf w Y
  | [], w => by funext n; show addS zeS _ n = _; unfold addS zeS; simp
  | r :: R, w => by
    have ih := tele f Y R (w + sz f r)
    rw [List.map_cons, List.sum_cons, ← Nat.add_assoc]
    show addS (addS (shf w (mulG (sz f r) Y)) (sumS ((sts f R (w + sz f r)).map _))) _ = _
    funext n
    have ihn := congrFun ih n
    have e := congrFun (congrArg (shf w) (mulG_as (sz f r) Y)) n
    have e2 := congrFun (shf_shf w (sz f r) Y) n
    unfold addS at ihn ⊢
    have e3 : shf w (addS (mulG (sz f r) Y) (shf (sz f r) Y)) n = shf w (mulG (sz f r) Y) n + shf w (shf (sz f r) Y) n := by
      unfold shf addS
      by_cases h : w ≤ n
      · simp only [h, if_true]
      · simp only [h, if_false]; rfl
    rw [e3, e2] at e
    omega
def sumTo : Nat → Se → Int
  | 0, c => c 0
  | n + 1, c => sumTo n c + c (n + 1)
theorem sumTo_top {g h : Nat} {c : Se} (t : Top0 g c) (e : g ≤ h) : sumTo h c = sumTo g c := by
  induction h with
  | zero => have : g = 0 := by omega
            rw [this]
  | succ h ih =>
    by_cases q : g = h + 1
    · rw [q]
    · show sumTo h c + c (h + 1) = _
      rw [ih (by omega), t (h + 1) (by omega)]; omega
theorem sumTo_add (c d : Se) : ∀ n, sumTo n (addS c d) = sumTo n c + sumTo n d
  | 0 => rfl
  | n + 1 => by show sumTo n (addS c d) + (c (n + 1) + d (n + 1)) = (sumTo n c + _) + (sumTo n d + _); rw [sumTo_add c d n]; omega
theorem sumTo_low (w : Nat) (c : Se) : ∀ n, n < w → sumTo n (shf w c) = 0
  | 0, h => by show shf w c 0 = 0; unfold shf; rw [if_neg (by omega)]
  | n + 1, h => by
    show sumTo n (shf w c) + shf w c (n + 1) = 0
    rw [sumTo_low w c n (by omega)]; unfold shf; rw [if_neg (by omega)]; rfl
theorem sumTo_shf (w : Nat) (c : Se) : ∀ n, sumTo (n + w) (shf w c) = sumTo n c
  | 0 => by
    cases w with
    | zero => rw [shf_0]
    | succ w =>
      show sumTo (0 + w) _ + shf (w + 1) c (0 + w + 1) = c 0
      rw [sumTo_low (w + 1) c (0 + w) (by omega)]; unfold shf; rw [if_pos (by omega)]
      rw [show 0 + w + 1 - (w + 1) = 0 by omega]; omega
  | n + 1 => by
    rw [show n + 1 + w = n + w + 1 by omega]
    show sumTo (n + w) _ + shf w c (n + w + 1) = sumTo n c + c (n + 1)
    rw [sumTo_shf w c n]; unfold shf; rw [if_pos (by omega), show n + w + 1 - w = n + 1 by omega]
theorem sumTo_sum (g : Nat) : ∀ l : List Se, sumTo g (sumS l) = (l.map (sumTo g)).sum
  | [] => by
    have : ∀ n, sumTo n zeS = 0 := by
      intro n; induction n with
      | zero => rfl
      | succ n ih => show sumTo n zeS + 0 = 0; rw [ih]; rfl
    exact this g
  | c :: l => by show sumTo g (addS c (sumS l)) = _; rw [sumTo_add, sumTo_sum g l, List.map_cons, List.sum_cons]
theorem top_sum {g : Nat} : ∀ {l : List Se}, (∀ c ∈ l, Top0 g c) → Top0 g (sumS l)
  | [], _ => fun n _ => rfl
  | c :: l, h => Top0.add (h c (by simp)) (top_sum fun d hd' => h d (by simp [hd']))
theorem cof_rec {f : Fo} (o : Ok f) (h1 : f.length ≠ 1) : ((hld f none).map fun r => cof (wou f r)).sum = cof f := by
  have hp := szs_prod_pos f
  refine Nat.eq_of_mul_eq_mul_right hp ?_
  obtain ⟨m, hm⟩ : ∃ m, f.length = m + 1 := ⟨f.length - 1, by have := o.ne; omega⟩
  have key : ∀ R : List Nat, (∀ r ∈ R, r < f.length ∧ hd f r = none) → (R.map fun r => cof (wou f r)).sum * prodl (szs f) = (R.map (sz f)).sum * fact m := by
    intro R
    induction R with
    | nil => intro _; simp
    | cons r R ih =>
      intro hR
      obtain ⟨hr, hn⟩ := hR r (by simp)
      have e1 := prodl_perm (szs_perm o hn hr h1)
      have e2 := cof_mul (wou_ok o hr h1)
      have e3 : (wou f r).length = m := by have := wou_len (f := f) hr; omega
      rw [e3] at e2
      rw [List.map_cons, List.sum_cons, Nat.add_mul, ih fun x hx => hR x (by simp [hx]), List.map_cons, List.sum_cons, Nat.add_mul]
      congr 1
      rw [e1, prodl, ← e2]
      simp only [Nat.mul_assoc, Nat.mul_comm, Nat.mul_left_comm]
  rw [key _ fun r hr => hld_mem.mp hr, roots_sum o, cof_mul o, hm, fact, Nat.mul_comm]
theorem szs_pos {f : Fo} : ∀ x ∈ szs f, 0 < x := fun x hx => by
  unfold szs at hx
  obtain ⟨t, ht, rfl⟩ := List.mem_map.mp hx
  exact sz_pos (List.mem_range.mp ht)
theorem sum_int (l : List Nat) : (l.map fun (x : Nat) => (x : Int)).sum = (l.sum : Int) := by
  induction l with
  | nil => rfl
  | cons x l ih => rw [List.map_cons, List.sum_cons, List.sum_cons, ih]; omega
theorem hld_ne {f : Fo} (o : Ok f) : hld f none ≠ [] := fun e => by
  have := roots_sum o
  rw [e] at this
  have h := o.ne
  have h2 : (0 : Nat) = f.length := this
  omega
structure IsX (f : Fo) (X : Se) (g : Nat) : Prop where
  eq : mulL (szs f) X = PN f.length
  top : Top0 g X
  deg : g + (szs f).sum = tri f.length
  tot : sumTo g X = (cof f : Nat)
theorem exX : ∀ (n : Nat) (f : Fo), f.length = n → Ok f → ∃ X g, IsX f X g
  | 0, f, h, o => by have := o.ne; omega
  | 1, f, h, o => by
    have hf : f = [none] := by
      match f, h with
      | [x], _ =>
        cases x with
        | none => rfl
        | some k =>
          obtain ⟨d, hd'⟩ := o.rk
          have h1 : hd [some k] 0 = some k := rfl
          have h2 := o.lt 0 k h1
          have h3 : k = 0 := by simp at h2; omega
          subst h3
          exact absurd (hd' 0 0 h1) (Nat.lt_irrefl _)
    subst hf
    refine ⟨one0, 0, rfl, top_one, rfl, ?_⟩
    decide
  | n + 2, f, h, o => by
    have h1 : f.length ≠ 1 := by omega
    have ex : ∀ r, ∃ X g, (r < f.length ∧ hd f r = none) → IsX (wou f r) X g := fun r => by
      by_cases q : r < f.length ∧ hd f r = none
      · obtain ⟨X, g, x⟩ := exX (n + 1) (wou f r) (by have := wou_len (f := f) q.1; omega) (wou_ok o q.1 h1)
        exact ⟨X, g, fun _ => x⟩
      · exact ⟨one0, 0, fun z => absurd z q⟩
    let XX : Nat → Se := fun r => (ex r).choose
    let gg : Nat → Nat := fun r => (ex r).choose_spec.choose
    have hX : ∀ r, r < f.length → hd f r = none → IsX (wou f r) (XX r) (gg r) := fun r a b => (ex r).choose_spec.choose_spec ⟨a, b⟩
    have hroot : ∀ p ∈ sts f (hld f none) 0, p.1 < f.length ∧ hd f p.1 = none := fun p hp => by
      have : p.1 ∈ hld f none := by rw [← sts_map f (hld f none) 0]; exact List.mem_map_of_mem hp
      exact hld_mem.mp this
    have hg : ∀ r, r < f.length → hd f r = none → gg r + f.length + (szs f).sum = tri f.length + sz f r := fun r a b => by
      have d := (hX r a b).deg
      have e := (szs_perm o b a h1).sum_nat
      have l : (wou f r).length = n + 1 := by have := wou_len (f := f) a; omega
      rw [List.sum_cons] at e
      rw [l] at d
      rw [h]
      have t : tri (n + 2) = tri (n + 1) + (n + 2) := rfl
      omega
    obtain ⟨r0, hr0⟩ := List.exists_mem_of_ne_nil _ (hld_ne o)
    obtain ⟨a0, b0⟩ := hld_mem.mp hr0
    have g0 := hg r0 a0 b0
    have s0 := sz_le f r0
    refine ⟨sumS ((sts f (hld f none) 0).map fun p => shf p.2 (XX p.1)), gg r0 + f.length - sz f r0, ?_, ?_, by omega, ?_⟩
    · rw [mulL_sum, List.map_map]
      have e : (sts f (hld f none) 0).map (mulL (szs f) ∘ fun p => shf p.2 (XX p.1)) = (sts f (hld f none) 0).map fun p => shf p.2 (mulG (sz f p.1) (PN (n + 1))) := by
        refine List.map_congr_left fun p hp => ?_
        obtain ⟨a, b⟩ := hroot p hp
        show mulL (szs f) (shf p.2 (XX p.1)) = _
        have l : (wou f p.1).length = n + 1 := by have := wou_len (f := f) a; omega
        have q := (hX p.1 a b).eq
        rw [l] at q
        rw [mulL_shf, mulL_perm (szs_perm o b a h1)]
        show shf p.2 (mulG (sz f p.1) (mulL (szs (wou f p.1)) (XX p.1))) = _
        rw [q]
      rw [e, h]
      have t := tele f (PN (n + 1)) (hld f none) 0
      rw [roots_sum o, Nat.zero_add, shf_0, h] at t
      have t2 := mulG_as (n + 2) (PN (n + 1))
      funext m
      have c1 := congrFun t m
      have c2 := congrFun t2 m
      unfold addS at c1 c2
      show _ = mulG (n + 2) (PN (n + 1)) m
      omega
    · refine top_sum fun c hc => ?_
      obtain ⟨p, hp, rfl⟩ := List.mem_map.mp hc
      obtain ⟨a, b⟩ := hroot p hp
      have l1 := sts_le f (hld f none) 0 p hp
      rw [roots_sum o] at l1
      have g1 := hg p.1 a b
      exact ((hX p.1 a b).top.shf (w := p.2)).mono (by omega)
    · rw [sumTo_sum, List.map_map]
      have e : (sts f (hld f none) 0).map (sumTo (gg r0 + f.length - sz f r0) ∘ fun p => shf p.2 (XX p.1)) = (sts f (hld f none) 0).map fun p => ((cof (wou f p.1) : Nat) : Int) := by
        refine List.map_congr_left fun p hp => ?_
        obtain ⟨a, b⟩ := hroot p hp
        have l1 := sts_le f (hld f none) 0 p hp
        rw [roots_sum o] at l1
        have g1 := hg p.1 a b
        have t := (hX p.1 a b).top
        show sumTo _ (shf p.2 (XX p.1)) = _
        obtain ⟨k, hk⟩ : ∃ k, gg r0 + f.length - sz f r0 = k + p.2 := ⟨gg r0 + f.length - sz f r0 - p.2, by omega⟩
        rw [hk, sumTo_shf, sumTo_top t (by omega), (hX p.1 a b).tot]
      rw [e, ← cof_rec o h1, ← sum_int, List.map_map]
      congr 1
      conv => rhs; rw [← sts_map f (hld f none) 0]
      rw [List.map_map]; rfl
end Hb
namespace Hb
/-! ### the series that is computed -/
def serF : List Nat → Nat → Se → Se
  | [], _, c => c
  | s :: l, k, c => serF l (k + 1) (divG s (mulG (k + 1) c))
def ser (f : Fo) : Se := serF (szs f) 0 one0
theorem serF_mul : ∀ (l : List Nat) (k : Nat) (c : Se) (m : List Nat), (∀ x ∈ l, 0 < x) → mulL m c = PN k → mulL (m ++ l) (serF l k c) = PN (k + l.length)
  | [], k, c, m, _, h => by rw [List.append_nil]; exact h
  | s :: l, k, c, m, hp, h => by
    have hs := hp s (by simp)
    have e : mulL (m ++ [s]) (divG s (mulG (k + 1) c)) = PN (k + 1) := by
      rw [mulL_app]
      show mulL m (mulG s (divG s (mulG (k + 1) c))) = _
      rw [mul_div s hs, mulL_G, h]; rfl
    have := serF_mul l (k + 1) _ (m ++ [s]) (fun x hx => hp x (by simp [hx])) e
    rw [List.append_assoc] at this
    show mulL (m ++ ([s] ++ l)) _ = _
    rw [List.length_cons, show k + (l.length + 1) = k + 1 + l.length by omega]
    exact this
theorem ser_mul (f : Fo) : mulL (szs f) (ser f) = PN f.length := by
  have := serF_mul (szs f) 0 one0 [] szs_pos rfl
  rw [List.nil_append, Nat.zero_add, szs_len] at this
  exact this
theorem ser_eq {f : Fo} {c : Se} (h : mulL (szs f) c = PN f.length) : c = ser f := mulL_inj szs_pos (h.trans (ser_mul f).symm)
def deg (f : Fo) : Nat := tri f.length - (szs f).sum
theorem ser_isX {f : Fo} (o : Ok f) : IsX f (ser f) (deg f) := by
  obtain ⟨X, g, x⟩ := exX f.length f rfl o
  have e := ser_eq x.eq
  have d : g = deg f := by have := x.deg; unfold deg; omega
  rw [← e, ← d]; exact x
theorem ser_zero {f : Fo} (o : Ok f) : ser f 0 = 1 := by
  have key : ∀ (l : List Nat) (c : Se), (∀ x ∈ l, 0 < x) → mulL l c 0 = c 0 := by
    intro l
    induction l with
    | nil => intro c _; rfl
    | cons x l ih =>
      intro c h
      show mulG x (mulL l c) 0 = _
      unfold mulG
      have := h x (by simp)
      rw [if_neg (by omega), ih c fun y hy => h y (by simp [hy])]; omega
  have pn : ∀ n, PN n 0 = 1 := by
    intro n
    induction n with
    | zero => rfl
    | succ n ih => show mulG (n + 1) (PN n) 0 = 1; unfold mulG; rw [if_neg (by omega), ih]; rfl
  rw [← key (szs f) (ser f) szs_pos, ser_mul, pn]
theorem PN_list (n : Nat) : PN n = mulL ((List.range n).map (· + 1)) one0 := by
  induction n with
  | zero => rfl
  | succ n ih => rw [List.range_succ, List.map_append, mulL_app]; show _ = mulL _ (mulG (n + 1) one0); rw [mulL_G, ← ih]; rfl
theorem tri_list (n : Nat) : ((List.range n).map (· + 1)).sum = tri n := by
  induction n with
  | zero => rfl
  | succ n ih => rw [List.range_succ, List.map_append, List.sum_append, ih]; rfl
theorem ser_rev {f : Fo} (o : Ok f) : rvS (deg f) (ser f) = ser f := by
  have x := ser_isX o
  refine ser_eq ?_
  rw [rv_mulL _ x.top, ser_mul, x.deg, szs_len]
  have h := rv_mulL ((List.range f.length).map (· + 1)) top_one
  rw [rv_one, List.length_map, List.length_range, tri_list, ← PN_list, Nat.zero_add] at h
  exact h.symm
/-- a first step -/
theorem ser_rec {f : Fo} (o : Ok f) (h1 : f.length ≠ 1) : ser f = sumS ((sts f (hld f none) 0).map fun p => shf p.2 (ser (wou f p.1))) := by
  refine (ser_eq ?_).symm
  obtain ⟨m, hm⟩ : ∃ m, f.length = m + 1 := ⟨f.length - 1, by have := o.ne; omega⟩
  rw [mulL_sum, List.map_map]
  have e : (sts f (hld f none) 0).map (mulL (szs f) ∘ fun p => shf p.2 (ser (wou f p.1))) = (sts f (hld f none) 0).map fun p => shf p.2 (mulG (sz f p.1) (PN m)) := by
    refine List.map_congr_left fun p hp => ?_
    have hr : p.1 ∈ hld f none := by rw [← sts_map f (hld f none) 0]; exact List.mem_map_of_mem hp
    obtain ⟨a, b⟩ := hld_mem.mp hr
    show mulL (szs f) (shf p.2 (ser (wou f p.1))) = _
    have l : (wou f p.1).length = m := by have := wou_len (f := f) a; omega
    have q := ser_mul (wou f p.1)
    rw [l] at q
    rw [mulL_shf, mulL_perm (szs_perm o b a h1)]
    show shf p.2 (mulG (sz f p.1) (mulL (szs (wou f p.1)) (ser (wou f p.1)))) = _
    rw [q]
  rw [e, hm]
  have t := tele f (PN m) (hld f none) 0
  rw [roots_sum o, Nat.zero_add, shf_0, hm] at t
  have t2 := mulG_as (m + 1) (PN m)
  funext k
  have c1 := congrFun t k
  have c2 := congrFun t2 k
  unfold addS at c1 c2
  show _ = mulG (m + 1) (PN m) k
  omega
theorem deg_first {f : Fo} (o : Ok f) (h1 : f.length ≠ 1) {p : Nat × Nat} (hp : p ∈ sts f (hld f none) 0) : p.2 + deg (wou f p.1) ≤ deg f := by
  have hr : p.1 ∈ hld f none := by rw [← sts_map f (hld f none) 0]; exact List.mem_map_of_mem hp
  obtain ⟨a, b⟩ := hld_mem.mp hr
  have l1 := sts_le f (hld f none) 0 p hp
  rw [roots_sum o] at l1
  have d := (ser_isX (wou_ok o a h1)).deg
  have d2 := (ser_isX o).deg
  have e := (szs_perm o b a h1).sum_nat
  rw [List.sum_cons] at e
  have l : (wou f p.1).length + 1 = f.length := wou_len a
  have t : tri f.length = tri (wou f p.1).length + f.length := by rw [← l]; rfl
  omega
theorem first_pos {f : Fo} (o : Ok f) {p : Nat × Nat} (hp : p ∈ sts f (hld f none) 0) : posOf (walk f) p.1 = some p.2 := by
  have h := sts_pos o (hld f none) [] (fun r hr => (hld_mem.mp hr).1) p hp
  rw [List.nil_append] at h
  exact posOf_at (walk_nodup o) h
/-! ### products and quotients -/
def cvT (a b : Se) (n : Nat) : Nat → Int
  | 0 => a 0 * b n
  | k + 1 => cvT a b n k + a (k + 1) * b (n - (k + 1))
def conv (a b : Se) : Se := fun n => cvT a b n n
theorem cvT_one (a : Se) (n : Nat) : ∀ k, k ≤ n → cvT a one0 n k = if k = n then a n else 0
  | 0, h => by
    show a 0 * one0 n = _
    unfold one0
    by_cases e : n = 0
    · subst e; simp
    · rw [if_neg e, if_neg (fun z => e z.symm)]; simp
  | k + 1, h => by
    show cvT a one0 n k + a (k + 1) * one0 (n - (k + 1)) = _
    rw [cvT_one a n k (by omega), if_neg (by omega)]
    unfold one0
    by_cases e : k + 1 = n
    · rw [if_pos e, if_pos (by omega), e]; simp
    · rw [if_neg e, if_neg (by omega)]; simp
theorem conv_one (a : Se) : conv a one0 = a := by
  funext n
  unfold conv
  rw [cvT_one a n n (Nat.le_refl _), if_pos rfl]
theorem cvT_mul (a b : Se) (m n : Nat) : ∀ k, k ≤ n → cvT a (mulG m b) n k = cvT a b n k - (if m ≤ n then cvT a b (n - m) (min k (n - m)) else 0)
  | 0, h => by
    show a 0 * mulG m b n = a 0 * b n - _
    unfold mulG
    by_cases e : m ≤ n
    · rw [if_pos e, if_pos e, Nat.zero_min, Int.mul_sub]; rfl
    · rw [if_neg e, if_neg e]; simp
  | k + 1, h => by
    show cvT a (mulG m b) n k + a (k + 1) * mulG m b (n - (k + 1)) = cvT a b n k + a (k + 1) * b (n - (k + 1)) - _
    rw [cvT_mul a b m n k (by omega)]
    unfold mulG
    by_cases e : m ≤ n
    · rw [if_pos e, if_pos e]
      by_cases e2 : k + 1 ≤ n - m
      · rw [if_pos (by omega), Nat.min_eq_left e2, Nat.min_eq_left (by omega : k ≤ n - m), Int.mul_sub]
        show _ = _ - (cvT a b (n - m) k + a (k + 1) * b (n - m - (k + 1)))
        rw [show n - (k + 1) - m = n - m - (k + 1) by omega]
        omega
      · rw [if_neg (by omega), show min (k + 1) (n - m) = min k (n - m) by omega, Int.mul_sub]
        simp; omega
    · rw [if_neg e, if_neg e, if_neg (by omega)]; simp
theorem conv_mul (a b : Se) (m : Nat) : conv a (mulG m b) = mulG m (conv a b) := by
  funext n
  unfold conv
  rw [cvT_mul a b m n n (Nat.le_refl _)]
  show _ = cvT a b n n - (if m ≤ n then cvT a b (n - m) (n - m) else 0)
  by_cases e : m ≤ n
  · rw [if_pos e, if_pos e, Nat.min_eq_right (by omega)]
  · rw [if_neg e, if_neg e]
theorem conv_mulL (a : Se) : ∀ l : List Nat, conv a (mulL l one0) = mulL l a
  | [] => conv_one a
  | m :: l => by show conv a (mulG m (mulL l one0)) = mulG m (mulL l a); rw [conv_mul, conv_mulL a l]
theorem cvT_top {a b : Se} {n : Nat} : ∀ k, cvT a b n k = a 0 * b n + (cvT a b n k - a 0 * b n) := fun k => by omega
/-- the sizes as a series -/
def VS (f : Fo) : Se := mulL (szs f) one0
theorem V_conv (f : Fo) : conv (ser f) (VS f) = PN f.length := by unfold VS; rw [conv_mulL, ser_mul]
/-- the sum of all but the first, as far as k -/
def cvR (a b : Se) (n : Nat) : Nat → Int
  | 0 => 0
  | k + 1 => cvR a b n k + a (k + 1) * b (n - (k + 1))
theorem cvT_R (a b : Se) (n : Nat) : ∀ k, cvT a b n k = a 0 * b n + cvR a b n k
  | 0 => by show a 0 * b n = a 0 * b n + 0; omega
  | k + 1 => by show cvT a b n k + _ = _ + (cvR a b n k + _); rw [cvT_R a b n k]; omega
theorem cvR_top {a b : Se} {n g : Nat} (t : Top0 g a) : ∀ k, g ≤ k → cvR a b n k = cvR a b n g
  | 0, h => by have : g = 0 := by omega
               rw [this]
  | k + 1, h => by
    by_cases e : g = k + 1
    · rw [e]
    · show cvR a b n k + a (k + 1) * _ = _
      rw [cvR_top t k (by omega), t (k + 1) (by omega)]; simp
theorem V_step {f : Fo} (o : Ok f) (n : Nat) : VS f n = PN f.length n - cvR (ser f) (VS f) n (min n (deg f)) := by
  have h := congrFun (V_conv f) n
  unfold conv at h
  rw [cvT_R, ser_zero o] at h
  have e : cvR (ser f) (VS f) n n = cvR (ser f) (VS f) n (min n (deg f)) := by
    by_cases q : n ≤ deg f
    · rw [Nat.min_eq_left q]
    · rw [Nat.min_eq_right (by omega)]; exact cvR_top (ser_isX o).top n (by omega)
  rw [e] at h
  omega
/-! ### the sizes are found back -/
theorem mulL_zero : ∀ {l : List Nat}, (∀ x ∈ l, 0 < x) → mulL l one0 0 = 1
  | [], _ => rfl
  | x :: l, h => by
    show mulG x (mulL l one0) 0 = 1
    unfold mulG
    have := h x (by simp)
    rw [if_neg (by omega), mulL_zero fun y hy => h y (by simp [hy])]; rfl
theorem mulL_low {m : Nat} (hm : 0 < m) : ∀ {l : List Nat}, (∀ x ∈ l, m ≤ x) → mulL l one0 m = - (l.count m : Int)
  | [], _ => by show one0 m = _; unfold one0; rw [if_neg (by omega)]; rfl
  | x :: l, h => by
    have ih := mulL_low hm (l := l) fun y hy => h y (by simp [hy])
    have hx := h x (by simp)
    show mulG x (mulL l one0) m = _
    unfold mulG
    rw [ih, List.count_cons]
    by_cases e : x = m
    · subst e
      rw [if_pos (Nat.le_refl _), Nat.sub_self, mulL_zero fun y hy => by have := h y (by simp [hy]); omega]
      simp; omega
    · rw [if_neg (by omega)]
      have : (x == m) = false := by simp [e]
      rw [this]; simp
theorem divs_mul (m : Nat) (hm : 0 < m) : ∀ (k : Nat) (c : Se), (Nat.rec (mulL (List.replicate k m) c) (fun _ d => divG m d) k : Se) = c
  | 0, c => rfl
  | k + 1, c => by
    show divG m (Nat.rec (mulL (List.replicate (k + 1) m) c) (fun _ d => divG m d) k) = c
    have e : mulL (List.replicate (k + 1) m) c = mulL (List.replicate k m) (mulG m c) := by rw [List.replicate_succ, mulL_G]; rfl
    rw [e, divs_mul m hm k, div_mul m hm]
/-- what is left of the sizes -/
def geS (l : List Nat) (m : Nat) : List Nat := l.filter fun x => decide (m ≤ x)
theorem geS_perm (l : List Nat) (m : Nat) : (geS l m).Perm (List.replicate (l.count m) m ++ geS l (m + 1)) := by
  induction l with
  | nil => exact List.Perm.refl _
  | cons x l ih =>
    unfold geS at ih ⊢
    by_cases e : x = m
    · subst e
      rw [List.filter_cons_of_pos (by simp), List.filter_cons_of_neg (by simp), List.count_cons_self, List.replicate_succ]
      exact ih.cons x
    · rw [List.count_cons, show (x == m) = false by simp [e]]
      simp only [Bool.false_eq_true, if_false, Nat.add_zero]
      by_cases h : m ≤ x
      · rw [List.filter_cons_of_pos (by simpa using h), List.filter_cons_of_pos (by simp; omega)]
        exact (ih.cons x).trans List.perm_middle.symm
      · rw [List.filter_cons_of_neg (by simpa using h), List.filter_cons_of_neg (by simp; omega)]
        exact ih
theorem geS_count (l : List Nat) (m : Nat) : (geS l m).count m = l.count m := by
  have h := (geS_perm l m).count_eq m
  rw [h, List.count_append, List.count_replicate_self]
  have : (geS l (m + 1)).count m = 0 := List.count_eq_zero.mpr fun hm => by
    have := (List.mem_filter.mp hm).2
    simp at this; omega
  omega
def dvs (m : Nat) : Nat → Se → Se
  | 0, c => c
  | k + 1, c => dvs m k (divG m c)
theorem dvs_rep {m : Nat} (hm : 0 < m) : ∀ (k : Nat) (c : Se), dvs m k (mulL (List.replicate k m) c) = c
  | 0, c => rfl
  | k + 1, c => by
    show dvs m k (divG m (mulL (List.replicate (k + 1) m) c)) = c
    have e : mulL (List.replicate (k + 1) m) c = mulG m (mulL (List.replicate k m) c) := by rw [List.replicate_succ]; rfl
    rw [e, div_mul m hm, dvs_rep hm k]
theorem geS_step {l : List Nat} {m : Nat} (hm : 0 < m) : dvs m (l.count m) (mulL (geS l m) one0) = mulL (geS l (m + 1)) one0 := by
  rw [mulL_perm (geS_perm l m), mulL_app, dvs_rep hm]
theorem geS_coef {l : List Nat} {m : Nat} (hm : 0 < m) : mulL (geS l m) one0 m = - (l.count m : Int) := by
  rw [mulL_low hm fun x hx => by have := (List.mem_filter.mp hx).2; simpa using this, geS_count]
theorem geS_one {l : List Nat} (h : ∀ x ∈ l, 0 < x) : geS l 1 = l := List.filter_eq_self.mpr fun x hx => by have := h x hx; simp; omega
theorem geS_end {l : List Nat} {n : Nat} (h : ∀ x ∈ l, x ≤ n) : geS l (n + 1) = [] := List.filter_eq_nil_iff.mpr fun x hx => by have := h x hx; simp; omega
/-- the sizes, each as often -/
def bck (l : List Nat) (n : Nat) : List Nat := (List.range n).flatMap fun i => List.replicate (l.count (i + 1)) (i + 1)
theorem bck_perm {l : List Nat} : ∀ (n : Nat), (∀ x ∈ l, 0 < x) → (l.filter fun x => decide (x ≤ n)).Perm (bck l n)
  | 0, h => by
    have : l.filter (fun x => decide (x ≤ 0)) = [] := List.filter_eq_nil_iff.mpr fun x hx => by have := h x hx; simp; omega
    rw [this]; exact List.Perm.refl _
  | n + 1, h => by
    unfold bck
    rw [List.range_succ, List.flatMap_append, List.flatMap_cons, List.flatMap_nil, List.append_nil]
    refine List.Perm.trans ?_ ((bck_perm n h).append_right _)
    have key : ∀ l : List Nat, (l.filter fun x => decide (x ≤ n + 1)).Perm ((l.filter fun x => decide (x ≤ n)) ++ List.replicate (l.count (n + 1)) (n + 1)) := by
      intro l
      induction l with
      | nil => exact List.Perm.refl _
      | cons x l ih =>
        by_cases e : x = n + 1
        · subst e
          rw [List.filter_cons_of_pos (by simp), List.filter_cons_of_neg (by simp), List.count_cons_self, List.replicate_succ]
          exact (ih.cons _).trans List.perm_middle.symm
        · rw [List.count_cons, show (x == n + 1) = false by simp [e]]
          simp only [Bool.false_eq_true, if_false, Nat.add_zero]
          by_cases q : x ≤ n
          · rw [List.filter_cons_of_pos (by simp; omega), List.filter_cons_of_pos (by simpa using q)]
            exact ih.cons x
          · rw [List.filter_cons_of_neg (by simp; omega), List.filter_cons_of_neg (by simpa using q)]
            exact ih
    exact key l
theorem bck_sorted (l : List Nat) : ∀ n, (bck l n).Pairwise (· ≤ ·) ∧ ∀ x ∈ bck l n, x ≤ n
  | 0 => ⟨List.Pairwise.nil, fun x h => by cases h⟩
  | n + 1 => by
    obtain ⟨h1, h2⟩ := bck_sorted l n
    have e : bck l (n + 1) = bck l n ++ List.replicate (l.count (n + 1)) (n + 1) := by
      unfold bck
      rw [List.range_succ, List.flatMap_append, List.flatMap_cons, List.flatMap_nil, List.append_nil]
    rw [e]
    refine ⟨List.pairwise_append.mpr ⟨h1, List.pairwise_replicate.mpr (.inr (Nat.le_refl _)), fun a ha b hb => ?_⟩, fun x hx => ?_⟩
    · have := h2 a ha
      have := List.eq_of_mem_replicate hb
      omega
    · rcases List.mem_append.mp hx with h | h
      · have := h2 x h; omega
      · have := List.eq_of_mem_replicate h; omega
theorem bck_srt {l : List Nat} {n : Nat} (h : ∀ x ∈ l, 0 < x) (h2 : ∀ x ∈ l, x ≤ n) : bck l n = srt l := by
  have p := bck_perm (l := l) n h
  rw [List.filter_eq_self.mpr fun x hx => by simpa using h2 x hx] at p
  exact srt_unique p.symm (bck_sorted l n).1
theorem bck_len {l : List Nat} {n : Nat} (h : ∀ x ∈ l, 0 < x) (h2 : ∀ x ∈ l, x ≤ n) : ((List.range n).map fun i => l.count (i + 1)).sum = l.length := by
  have p := (bck_perm (l := l) n h).length_eq
  rw [List.filter_eq_self.mpr fun x hx => by simpa using h2 x hx] at p
  have e : ∀ m, (bck l m).length = ((List.range m).map fun i => l.count (i + 1)).sum := by
    intro m
    induction m with
    | zero => rfl
    | succ m ih =>
      have e : bck l (m + 1) = bck l m ++ List.replicate (l.count (m + 1)) (m + 1) := by
        unfold bck
        rw [List.range_succ, List.flatMap_append, List.flatMap_cons, List.flatMap_nil, List.append_nil]
      rw [e, List.length_append, ih, List.length_replicate, List.range_succ, List.map_append, List.sum_append]; simp
  rw [← e, p]
theorem szs_le (f : Fo) : ∀ x ∈ szs f, x ≤ f.length := fun x hx => by
  unfold szs at hx
  obtain ⟨t, _, rfl⟩ := List.mem_map.mp hx
  exact sz_le f t
/-- the same series, the same sizes -/
theorem V_inj {l m : List Nat} (hl : ∀ x ∈ l, 0 < x) (hm : ∀ x ∈ m, 0 < x) (h : mulL l one0 = mulL m one0) : l.Perm m := by
  have key : ∀ k, mulL (geS l (k + 1)) one0 = mulL (geS m (k + 1)) one0 ∧ ∀ j, 0 < j → j ≤ k → l.count j = m.count j := by
    intro k
    induction k with
    | zero => exact ⟨by rw [geS_one hl, geS_one hm]; exact h, fun j h1 h2 => by omega⟩
    | succ k ih =>
      obtain ⟨e, c⟩ := ih
      have hk : 0 < k + 1 := by omega
      have c1 := geS_coef (l := l) hk
      have c2 := geS_coef (l := m) hk
      rw [e, c2] at c1
      have c3 : l.count (k + 1) = m.count (k + 1) := by omega
      refine ⟨?_, fun j h1 h2 => ?_⟩
      · rw [← geS_step hk, ← geS_step (l := m) hk, c3, e]
      · by_cases q : j = k + 1
        · rw [q]; exact c3
        · exact c j h1 (by omega)
  refine List.perm_iff_count.mpr fun a => ?_
  by_cases ha : 0 < a
  · exact (key a).2 a ha (Nat.le_refl _)
  · have e : a = 0 := by omega
    subst e
    rw [List.count_eq_zero.mpr fun h0 => absurd (hl 0 h0) (by omega), List.count_eq_zero.mpr fun h0 => absurd (hm 0 h0) (by omega)]
theorem conv_inj {a b c : Se} (h0 : a 0 = 1) (h : conv a b = conv a c) : b = c := by
  funext n
  induction n using Nat.strongRecOn with
  | ind n ih =>
    have e := congrFun h n
    unfold conv at e
    rw [cvT_R, cvT_R, h0] at e
    have key : ∀ k, k ≤ n → cvR a b n k = cvR a c n k := by
      intro k
      induction k with
      | zero => intro _; rfl
      | succ k ihk =>
        intro hk
        show cvR a b n k + _ = cvR a c n k + _
        rw [ihk (by omega), ih (n - (k + 1)) (by omega)]
    rw [key n (Nat.le_refl _)] at e
    omega
theorem alike_of_ser {f g : Fo} (o : Ok f) (hl : f.length = g.length) (h : ser f = ser g) : (szs f).Perm (szs g) := by
  refine V_inj szs_pos szs_pos ?_
  refine conv_inj (ser_zero o) ?_
  have h1 := V_conv f
  have h2 := V_conv g
  unfold VS at h1 h2
  rw [h1, h, h2, hl]
theorem ser_of_alike {f g : Fo} (hl : f.length = g.length) (h : (szs f).Perm (szs g)) : ser f = ser g := by
  refine ser_eq ?_
  rw [← mulL_perm h, ser_mul, hl]
theorem deg_of_alike {f g : Fo} (hl : f.length = g.length) (h : (szs f).Perm (szs g)) : deg f = deg g := by
  unfold deg; rw [hl, h.sum_nat]
end Hb
namespace Hb
/-! ### the sum of the depths -/
theorem sum_zero {l : List Nat} (h : ∀ x ∈ l, x = 0) : l.sum = 0 := by
  induction l with
  | nil => rfl
  | cons x l ih => rw [List.sum_cons, h x (by simp), ih fun y hy => h y (by simp [hy])]
theorem sum_map_add (l : List Nat) (p q : Nat → Nat) : (l.map fun x => p x + q x).sum = (l.map p).sum + (l.map q).sum := by
  induction l with
  | nil => rfl
  | cons x l ih => simp only [List.map_cons, List.sum_cons]; rw [ih]; omega
theorem filter_sum (l : List Nat) (p : Nat → Bool) : (l.filter p).length = (l.map fun x => if p x = true then 1 else 0).sum := by
  induction l with
  | nil => rfl
  | cons x l ih =>
    rw [List.map_cons, List.sum_cons, List.filter_cons]
    by_cases h : p x = true
    · rw [if_pos h, if_pos h, List.length_cons, ih]; omega
    · rw [if_neg h, if_neg h, ih]; omega
theorem swap_sum (A B : List Nat) (p : Nat → Nat → Bool) : (A.map fun t => (B.filter (p t)).length).sum = (B.map fun u => (A.filter fun t => p t u).length).sum := by
  induction A with
  | nil =>
    refine (sum_zero fun x hx => ?_).symm
    obtain ⟨u, _, rfl⟩ := List.mem_map.mp hx; rfl
  | cons t A ih =>
    rw [List.map_cons, List.sum_cons, ih, filter_sum, ← sum_map_add]
    congr 1
    refine List.map_congr_left fun u _ => ?_
    rw [List.filter_cons]
    by_cases h : p t u = true
    · rw [if_pos h, if_pos h, List.length_cons]; omega
    · rw [if_neg h, if_neg h]; omega
theorem dep_filter {f : Fo} (o : Ok f) (t : Nat) : dep f t = ((List.range f.length).filter fun u => decide (u ∈ abv f t)).length := by
  unfold dep
  refine ((List.perm_ext_iff_of_nodup (abv_nodup o t) (List.Pairwise.filter _ List.nodup_range)).mpr fun x => ?_).length_eq
  rw [List.mem_filter, List.mem_range, decide_eq_true_iff]
  exact ⟨fun h => ⟨abv_lt o h, h⟩, fun h => h.2⟩
theorem sz_filter {f : Fo} (o : Ok f) {t : Nat} (ht : t < f.length) : sz f t = 1 + ((List.range f.length).filter fun s => decide (t ∈ abv f s)).length := by
  unfold sz
  rw [filter_sum, filter_sum]
  have e : ∀ s ∈ List.range f.length, (if (decide (s = t) || decide (t ∈ abv f s)) = true then 1 else 0) = (if decide (s = t) = true then 1 else 0) + (if decide (t ∈ abv f s) = true then 1 else 0) := fun s _ => by
    by_cases h : s = t
    · subst h
      have := not_abv o s
      simp [this]
    · simp [h]
  rw [List.map_congr_left e, sum_map_add, ← filter_sum]
  congr 1
  have e2 : (List.range f.length).filter (fun s => decide (s = t)) = [t] := by
    refine List.Perm.eq_singleton ((List.perm_ext_iff_of_nodup (List.Pairwise.filter _ List.nodup_range) (List.pairwise_singleton _ t)).mpr fun x => ?_)
    rw [List.mem_filter, List.mem_range, decide_eq_true_iff, List.mem_singleton]
    exact ⟨fun h => h.2, fun h => ⟨by rw [h]; exact ht, h⟩⟩
  rw [e2]; rfl
theorem dep_sum {f : Fo} (o : Ok f) : ((List.range f.length).map (dep f)).sum + f.length = (szs f).sum := by
  have h1 : ((List.range f.length).map (dep f)).sum = ((List.range f.length).map fun u => ((List.range f.length).filter fun s => decide (u ∈ abv f s)).length).sum := by
    rw [List.map_congr_left fun t _ => dep_filter o t]
    exact swap_sum _ _ _
  unfold szs
  rw [List.map_congr_left fun t ht => sz_filter o (List.mem_range.mp ht), sum_map_add, h1]
  have : ∀ l : List Nat, (l.map fun _ => 1).sum = l.length := by
    intro l
    induction l with
    | nil => rfl
    | cons x l ih => rw [List.map_cons, List.sum_cons, ih, List.length_cons]; omega
  rw [this, List.length_range]; omega
theorem tri_two : ∀ n, 2 * tri n = n * (n + 1)
  | 0 => rfl
  | n + 1 => by
    have := tri_two n
    show 2 * (tri n + (n + 1)) = (n + 1) * (n + 1 + 1)
    rw [Nat.mul_add, this]
    simp only [Nat.mul_add, Nat.add_mul]; omega
theorem sum_int_sub (l : List Nat) (n : Nat) (p q : Nat → Nat) : (l.map fun t => (n : Int) - (p t : Int) - (q t : Int)).sum = (l.length * n : Nat) - ((l.map p).sum : Nat) - ((l.map q).sum : Nat) := by
  induction l with
  | nil => simp
  | cons x l ih =>
    simp only [List.map_cons, List.sum_cons, List.length_cons]
    rw [ih, Nat.add_mul]
    omega
theorem deg_sum {f : Fo} (o : Ok f) : ((List.range f.length).map fun t => (f.length : Int) - (sz f t : Int) - (dep f t : Int)).sum = 2 * (deg f : Int) := by
  rw [sum_int_sub, List.length_range]
  have h1 := dep_sum o
  have h2 := (ser_isX o).deg
  have h3 := tri_two f.length
  rw [Nat.mul_add] at h3
  unfold szs at h1 h2
  omega
theorem tri_le (n : Nat) : tri n ≤ n * n + n := by have := tri_two n; rw [Nat.mul_add] at this; omega
theorem deg_le (f : Fo) : deg f ≤ f.length * f.length + f.length := Nat.le_trans (Nat.sub_le _ _) (tri_le _)
/-! ### another holder -/
def nearF (f : Fo) (t : Nat) (x : Option Nat) : Fo := f.set t x
theorem near_hd {f : Fo} {t : Nat} {x : Option Nat} (ht : t < f.length) (s : Nat) : hd (nearF f t x) s = if s = t then x else hd f s := by
  unfold nearF hd
  rw [List.getD_eq_getElem?_getD, List.getElem?_set]
  by_cases e : t = s
  · rw [if_pos e, if_pos e.symm, if_pos ht]; rfl
  · rw [if_neg e, if_neg (fun q => e q.symm)]
    exact (List.getD_eq_getElem?_getD ..).symm
theorem le_sum {l : List Nat} {x : Nat} (h : x ∈ l) : x ≤ l.sum := by
  induction l with
  | nil => cases h
  | cons y l ih =>
    rw [List.sum_cons]
    rcases List.mem_cons.mp h with rfl | h
    · omega
    · have := ih h; omega
theorem near_ok {f : Fo} (o : Ok f) {t : Nat} (ht : t < f.length) {x : Option Nat} (hx : ∀ k, x = some k → k < f.length ∧ k ≠ t ∧ t ∉ abv f k) : Ok (nearF f t x) := by
  have hl : (nearF f t x).length = f.length := List.length_set
  obtain ⟨d, hd'⟩ := o.rk
  refine ⟨by rw [hl]; exact o.ne, fun s k e => ?_, fun s => if s = t ∨ t ∈ abv f s then ((List.range f.length).map d).sum + 1 + d s else d s, fun s k e => ?_⟩
  · rw [near_hd ht] at e
    rw [hl]
    by_cases q : s = t
    · rw [if_pos q] at e; exact (hx k e).1
    · rw [if_neg q] at e; exact o.lt _ _ e
  · rw [near_hd ht] at e
    by_cases q : s = t
    · rw [if_pos q] at e
      obtain ⟨h1, h2, h3⟩ := hx k e
      show (if k = t ∨ t ∈ abv f k then _ else d k) < (if s = t ∨ t ∈ abv f s then _ else d s)
      rw [if_neg (fun z => z.elim h2 h3), if_pos (.inl q)]
      have : d k ≤ ((List.range f.length).map d).sum := le_sum (List.mem_map_of_mem (List.mem_range.mpr h1))
      omega
    · rw [if_neg q] at e
      have hk := hd' s k e
      have ea := abv_some o e
      show (if k = t ∨ t ∈ abv f k then _ else d k) < (if s = t ∨ t ∈ abv f s then _ else d s)
      by_cases z : k = t ∨ t ∈ abv f k
      · have z2 : s = t ∨ t ∈ abv f s := .inr (by rw [ea, List.mem_cons]; exact z.imp (fun h => h.symm) id)
        rw [if_pos z, if_pos z2]; omega
      · have z2 : ¬ (s = t ∨ t ∈ abv f s) := fun h => h.elim q fun h => z (by rw [ea, List.mem_cons] at h; exact h.imp (fun h => h.symm) id)
        rw [if_neg z, if_neg z2]; exact hk
end Hb
namespace Hb
/-! ### how great the numbers get -/
theorem ser_nonneg : ∀ (n : Nat) (f : Fo), f.length = n → Ok f → ∀ k, 0 ≤ ser f k
  | 0, f, h, o => by have := o.ne; omega
  | n + 1, f, h, o => by
    by_cases h1 : f.length = 1
    · intro k
      have hd1 := (ser_isX o).deg
      have ht := (ser_isX o).top
      have hz := szs_pos (f := f)
      have d0 : deg f = 0 := by
        rw [h1] at hd1
        have e : (szs f).sum ≥ 1 := by
          have hl := szs_len f
          rw [h1] at hl
          match hs : szs f, hl with
          | [x], _ => have := hz x (by rw [hs]; simp); simp; omega
        have t1 : tri 1 = 1 := rfl
        omega
      by_cases hk : k = 0
      · rw [hk, ser_zero o]; decide
      · rw [ht k (by omega)]; exact Int.le_refl _
    · intro k
      rw [ser_rec o h1]
      have key : ∀ l : List Se, (∀ c ∈ l, ∀ k, 0 ≤ c k) → 0 ≤ sumS l k := by
        intro l
        induction l with
        | nil => intro _; exact Int.le_refl _
        | cons c l ih => intro hc; exact Int.add_nonneg (hc c (by simp) k) (ih fun d hd' => hc d (by simp [hd']))
      refine key _ fun c hc k => ?_
      obtain ⟨p, hp, rfl⟩ := List.mem_map.mp hc
      have hr : p.1 ∈ hld f none := by rw [← sts_map f (hld f none) 0]; exact List.mem_map_of_mem hp
      obtain ⟨a, b⟩ := hld_mem.mp hr
      show 0 ≤ shf p.2 (ser (wou f p.1)) k
      unfold shf
      by_cases q : p.2 ≤ k
      · rw [if_pos q]
        exact ser_nonneg n (wou f p.1) (by have := wou_len (f := f) a; omega) (wou_ok o a h1) _
      · rw [if_neg q]; exact Int.le_refl _
theorem ser_le {f : Fo} (o : Ok f) (k : Nat) : ser f k ≤ (cof f : Nat) := by
  have nn := ser_nonneg f.length f rfl o
  have x := ser_isX o
  have key : ∀ n, 0 ≤ sumTo n (ser f) ∧ ∀ k, k ≤ n → ser f k ≤ sumTo n (ser f) := by
    intro n
    induction n with
    | zero => exact ⟨nn 0, fun k hk => by have : k = 0 := by omega
                                          rw [this]; exact Int.le_refl _⟩
    | succ n ih =>
      obtain ⟨h0, h1⟩ := ih
      have := nn (n + 1)
      refine ⟨by show 0 ≤ sumTo n (ser f) + _; omega, fun k hk => ?_⟩
      show ser f k ≤ sumTo n (ser f) + ser f (n + 1)
      by_cases q : k = n + 1
      · rw [q]; omega
      · have := h1 k (by omega); omega
  by_cases q : k ≤ deg f
  · rw [← x.tot]; exact (key (deg f)).2 k q
  · rw [x.top k (by omega)]; exact Int.natCast_nonneg _
theorem dvs_comm (m : Nat) : ∀ (k : Nat) (c : Se), dvs m (k + 1) c = divG m (dvs m k c)
  | 0, c => rfl
  | k + 1, c => by show dvs m (k + 1) (divG m c) = divG m (dvs m k (divG m c)); rw [dvs_comm m k]
end Hb
/-! the plain forest: a listing, each thing behind its holder, by depths -/
namespace Hb
def Chn (R : Nat → Nat → Prop) : List Nat → Prop
  | [] => True
  | [_] => True
  | a :: b :: l => R a b ∧ Chn R (b :: l)
theorem Chn.app {R : Nat → Nat → Prop} : ∀ {A B : List Nat}, Chn R A → Chn R B → (∀ u ∈ A, ∀ v, B.head? = some v → R u v) → Chn R (A ++ B)
  | [], B, _, hB, _ => hB
  | [a], [], _, _, _ => True.intro
  | [a], b :: B, _, hB, h => ⟨h a (by simp) b rfl, hB⟩
  | a :: b :: A, B, hA, hB, h => ⟨hA.1, Chn.app (A := b :: A) hA.2 hB fun u hu => h u (by simp at hu ⊢; exact .inr hu)⟩
theorem Chn.mono {R S : Nat → Nat → Prop} (h : ∀ u v, R u v → S u v) : ∀ {A : List Nat}, Chn R A → Chn S A
  | [], _ => True.intro
  | [_], _ => True.intro
  | a :: b :: A, hA => ⟨h _ _ hA.1, Chn.mono h (A := b :: A) hA.2⟩
theorem Chn.at {R : Nat → Nat → Prop} : ∀ {A : List Nat}, Chn R A → ∀ i u v, A[i]? = some u → A[i + 1]? = some v → R u v
  | [], _, i, u, v, h, _ => by simp at h
  | [a], _, i, u, v, _, h => by simp at h
  | a :: b :: A, hA, 0, u, v, h1, h2 => by simp at h1 h2; subst h1; subst h2; exact hA.1
  | a :: b :: A, hA, i + 1, u, v, h1, h2 => Chn.at (A := b :: A) hA.2 i u v (by simpa using h1) (by simpa using h2)
/-- v may stand just behind u -/
def Beh (f : Fo) (u v : Nat) : Prop := ∃ k, hd f v = some k ∧ (k = u ∨ k ∈ abv f u)
def BehR (f : Fo) (u v : Nat) : Prop := hd f v = none ∨ Beh f u v
structure Bl (f : Fo) (t : Nat) (L : List Nat) : Prop where
  perm : L.Perm (pre f t)
  hd0 : L.head? = some t
  ch : Chn (Beh f) L
structure Rt (f : Fo) (L : List Nat) : Prop where
  perm : L.Perm (walk f)
  hd0 : ∀ t, L.head? = some t → hd f t = none
  ch : Chn (BehR f) L
/-- blocks of things with one holder, one behind the other -/
inductive Bls (f : Fo) : List Nat → List (List Nat) → Prop where
  | nil : Bls f [] []
  | cons {t : Nat} {L : List Nat} {ts : List Nat} {Ls : List (List Nat)} : Bl f t L → Bls f ts Ls → Bls f (t :: ts) (L :: Ls)
theorem Bls.snoc {f : Fo} : ∀ {ts : List Nat} {Ls : List (List Nat)} {t : Nat} {L : List Nat}, Bls f ts Ls → Bl f t L → Bls f (ts ++ [t]) (Ls ++ [L])
  | [], [], t, L, .nil, h => .cons h .nil
  | _ :: _, _ :: _, t, L, .cons a b, h => .cons a (b.snoc h)
theorem Bls.flat {f : Fo} : ∀ {ts : List Nat} {Ls : List (List Nat)}, Bls f ts Ls → Ls.flatten.Perm (ts.flatMap (pre f))
  | [], [], .nil => List.Perm.refl _
  | _ :: _, _ :: _, .cons a b => by rw [List.flatten_cons, List.flatMap_cons]; exact a.perm.append b.flat
theorem Bls.head {f : Fo} : ∀ {ts : List Nat} {Ls : List (List Nat)}, Bls f ts Ls → ∀ v, Ls.flatten.head? = some v → v ∈ ts
  | [], [], .nil, v, h => by simp at h
  | t :: ts, L :: Ls, .cons a b, v, h => by
    have := a.hd0
    match L, this with
    | x :: L', e =>
      simp at e h
      subst e; subst h; simp
theorem Bls.chain {f : Fo} {R : Nat → Nat → Prop} (hR : ∀ u v, Beh f u v → R u v) : ∀ {ts : List Nat} {Ls : List (List Nat)}, Bls f ts Ls → (∀ c ∈ ts, ∀ u ∈ pre f c, ∀ v ∈ ts, R u v) → Chn R Ls.flatten
  | [], [], .nil, _ => True.intro
  | t :: ts, L :: Ls, .cons a b, h => by
    rw [List.flatten_cons]
    refine Chn.app (a.ch.mono hR) (Bls.chain hR b fun c hc u hu v hv => h c (by simp [hc]) u hu v (by simp [hv])) fun u hu v hv => ?_
    exact h t (by simp) u (a.perm.mem_iff.mp hu) v (by have := b.head v hv; simp [this])
theorem Bl.of {f : Fo} (o : Ok f) {t : Nat} (ht : t < f.length) {ts : List Nat} {Ls : List (List Nat)} (hp : ts.Perm (hld f (some t))) (h : Bls f ts Ls) : Bl f t (t :: Ls.flatten) := by
  have hm : ∀ c ∈ ts, c < f.length ∧ hd f c = some t := fun c hc => hld_mem.mp (hp.mem_iff.mp hc)
  refine ⟨?_, rfl, ?_⟩
  · rw [pre_eq o ht]
    exact ((h.flat).trans (hp.flatMap_right _)).cons t
  · have hc : Chn (Beh f) Ls.flatten := h.chain (fun _ _ x => x) fun c hc u hu v hv => ⟨t, (hm v hv).2, by
      obtain ⟨c1, c2⟩ := hm c hc
      rcases ((pre_mem o c c1 u).mp hu).2 with e | e
      · right; rw [e, abv_some o c2]; simp
      · right; exact abv_trans o u e (by rw [abv_some o c2]; simp)⟩
    exact Chn.app (A := [t]) True.intro hc fun u hu v hv => ⟨t, (hm v (h.head v hv)).2, .inl (List.mem_singleton.mp hu).symm⟩
theorem Rt.of {f : Fo} {ts : List Nat} {Ls : List (List Nat)} (hp : ts.Perm (hld f none)) (h : Bls f ts Ls) : Rt f Ls.flatten := by
  have hm : ∀ c ∈ ts, c < f.length ∧ hd f c = none := fun c hc => hld_mem.mp (hp.mem_iff.mp hc)
  refine ⟨(h.flat).trans (hp.flatMap_right _), fun t ht => (hm t (h.head t ht)).2, ?_⟩
  exact h.chain (fun _ _ x => .inr x) fun c hc u hu v hv => .inl (hm v hv).2
/-! the listing as places -/
def posD (L : List Nat) (x : Nat) : Nat := (posOf L x).getD 0
theorem abv_suffix {f : Fo} (o : Ok f) : ∀ u, ∀ k, k ∈ abv f u → ∃ A, abv f u = A ++ k :: abv f k := by
  refine high_ind o fun u ih k hk => ?_
  cases q : hd f u with
  | none => rw [abv_none q] at hk; cases hk
  | some j =>
    rw [abv_some o q] at hk ⊢
    rcases List.mem_cons.mp hk with rfl | hk
    · exact ⟨[], rfl⟩
    · obtain ⟨A, e⟩ := ih j q k hk
      exact ⟨j :: A, by rw [e]; rfl⟩
theorem Rt.mem {f : Fo} (o : Ok f) {L : List Nat} (r : Rt f L) (x : Nat) : x ∈ L ↔ x < f.length := by rw [r.perm.mem_iff, walk_mem o]
theorem Rt.nd {f : Fo} (o : Ok f) {L : List Nat} (r : Rt f L) : L.Nodup := r.perm.nodup_iff.mpr (walk_nodup o)
theorem Rt.len {f : Fo} (o : Ok f) {L : List Nat} (r : Rt f L) : L.length = f.length := by
  rw [r.perm.length_eq, (walk_perm o).length_eq, List.length_range]
/-- the way behind i things -/
def wayL (f : Fo) (L : List Nat) : Nat → List Nat
  | 0 => []
  | i + 1 => ((L.getD i 0 :: abv f (L.getD i 0)).reverse).map (posD L)
theorem way_take {f : Fo} (o : Ok f) {L : List Nat} (r : Rt f L) {i : Nat} (hi : i < L.length) : (wayL f L i).take (dep f L[i]) = ((abv f L[i]).reverse).map (posD L) := by
  cases q : hd f L[i] with
  | none =>
    have : abv f L[i] = [] := abv_none q
    unfold dep
    rw [this]; simp
  | some k =>
    have hk := abv_some o q
    cases i with
    | zero =>
      have := r.hd0 L[0] (by rw [List.head?_eq_getElem?, List.getElem?_eq_getElem hi])
      rw [this] at q; cases q
    | succ i =>
      have hi' : i < L.length := by omega
      have hc := r.ch.at i L[i] L[i + 1] (List.getElem?_eq_getElem hi') (List.getElem?_eq_getElem hi)
      have eg : L.getD i 0 = L[i] := by rw [List.getD_eq_getElem?_getD, List.getElem?_eq_getElem hi']; rfl
      rcases hc with e | ⟨k', e, hkk⟩
      · rw [q] at e; cases e
      · rw [q] at e
        cases e
        obtain ⟨A, hA⟩ : ∃ A, L[i] :: abv f L[i] = A ++ k :: abv f k := by
          rcases hkk with e | e
          · exact ⟨[], by rw [e]; rfl⟩
          · obtain ⟨A, e⟩ := abv_suffix o _ _ e
            exact ⟨L[i] :: A, by rw [e]; rfl⟩
        show (List.map (posD L) ((L.getD i 0 :: abv f (L.getD i 0)).reverse)).take _ = _
        have hd2 : dep f L[i + 1] = (k :: abv f k).length := by unfold dep; rw [hk]
        rw [eg, hA, hk, List.reverse_append, List.map_append, hd2]
        have : (k :: abv f k).length = (List.map (posD L) (k :: abv f k).reverse).length := by simp
        rw [this, List.take_left]
theorem posD_at {L : List Nat} (nd : L.Nodup) {i : Nat} (hi : i < L.length) : posD L L[i] = i := by
  unfold posD; rw [posOf_at nd (List.getElem?_eq_getElem hi)]; rfl
theorem way_next {f : Fo} {L : List Nat} (nd : L.Nodup) {i : Nat} (hi : i < L.length) : ((abv f L[i]).reverse).map (posD L) ++ [i] = wayL f L (i + 1) := by
  have eg : L.getD i 0 = L[i] := by rw [List.getD_eq_getElem?_getD, List.getElem?_eq_getElem hi]; rfl
  show _ = List.map (posD L) ((L.getD i 0 :: abv f (L.getD i 0)).reverse)
  rw [eg, List.reverse_cons, List.map_append]
  congr 1
  simp [posD_at nd hi]
/-- the holder by the way -/
theorem way_last {f : Fo} (o : Ok f) {L : List Nat} (r : Rt f L) {i : Nat} (hi : i < L.length) : (((abv f L[i]).reverse).map (posD L)).getLast? = (hd f L[i]).bind (posOf L) := by
  cases q : hd f L[i] with
  | none => rw [abv_none q]; rfl
  | some k =>
    rw [abv_some o q, List.reverse_cons, List.map_append]
    obtain ⟨j, hj⟩ := posOf_mem ((r.mem o k).mpr (o.lt _ _ q))
    show _ = posOf L k
    rw [hj]
    simp [posD, hj]
theorem ren_abv {f : Fo} (o : Ok f) {L : List Nat} (nd : L.Nodup) (hm : ∀ x, x ∈ L ↔ x < f.length) (okr : Ok (ren f L)) : ∀ t, ∀ i, L[i]? = some t → ∀ j u, L[j]? = some u → (j ∈ abv (ren f L) i ↔ u ∈ abv f t) := by
  refine high_ind o fun t ih i hi j u hj => ?_
  have e := ren_hd (f := f) hi
  cases q : hd f t with
  | none => rw [q] at e; rw [abv_none q, abv_none e]; simp
  | some k =>
    rw [q] at e
    obtain ⟨jk, hjk⟩ := posOf_mem ((hm k).mpr (o.lt _ _ q))
    have e2 : hd (ren f L) i = some jk := by rw [e]; exact hjk
    rw [abv_some okr e2, abv_some o q, List.mem_cons, List.mem_cons, ih k q jk (posOf_some hjk) j u hj]
    have : j = jk ↔ u = k := by
      constructor
      · intro z; rw [z, posOf_some hjk] at hj; exact (Option.some.inj hj).symm
      · intro z; rw [z] at hj; have := posOf_at nd hj; rw [hjk] at this; exact (Option.some.inj this).symm
    rw [this]
theorem ren_szs {f : Fo} (o : Ok f) {L : List Nat} (nd : L.Nodup) (hm : ∀ x, x ∈ L ↔ x < f.length) (okr : Ok (ren f L)) : szs (ren f L) = L.map (sz f) := by
  have hp : L.Perm (List.range f.length) := (List.perm_ext_iff_of_nodup nd List.nodup_range).mpr fun x => by rw [hm, List.mem_range]
  unfold szs
  rw [ren_len]
  conv => rhs; rw [← getD_self L]
  rw [List.map_map]
  refine List.map_congr_left fun i hi => ?_
  have hi' := List.mem_range.mp hi
  have gi : L[i]? = some (L.getD i 0) := by rw [List.getD_eq_getElem?_getD, List.getElem?_eq_getElem hi']; rfl
  show sz (ren f L) i = sz f (L.getD i 0)
  unfold sz
  rw [ren_len]
  have e1 : ((List.range L.length).filter fun s => decide (s = i) || decide (i ∈ abv (ren f L) s)).length = (L.filter fun x => decide (x = L.getD i 0) || decide (L.getD i 0 ∈ abv f x)).length := by
    conv => rhs; arg 1; arg 2; rw [← getD_self L]
    rw [List.filter_map, List.length_map]
    congr 1
    refine List.filter_congr fun s hs => ?_
    have hs' := List.mem_range.mp hs
    have g : L[s]? = some (L.getD s 0) := by rw [List.getD_eq_getElem?_getD, List.getElem?_eq_getElem hs']; rfl
    have q1 := ren_abv o nd hm okr _ s g i _ gi
    have q2 : s = i ↔ L.getD s 0 = L.getD i 0 := by
      constructor
      · intro z; rw [z]
      · intro z; rw [z] at g; have a := posOf_at nd g; have b := posOf_at nd gi; rw [a] at b; exact Option.some.inj b
    show (decide (s = i) || decide (i ∈ abv (ren f L) s)) = (decide (L.getD s 0 = L.getD i 0) || decide (L.getD i 0 ∈ abv f (L.getD s 0)))
    rw [decide_eq_decide.mpr q2, decide_eq_decide.mpr q1]
  rw [e1]
  exact (hp.filter _).length_eq
theorem Rt.ok {f : Fo} (o : Ok f) {L : List Nat} (r : Rt f L) : Ok (ren f L) := ren_ok (r.nd o) (by rw [r.len o]; exact o.ne) o.rk
theorem Rt.szs {f : Fo} (o : Ok f) {L : List Nat} (r : Rt f L) : (szs (ren f L)).Perm (Hb.szs f) := by
  rw [ren_szs o (r.nd o) (r.mem o) (r.ok o)]
  have hp : L.Perm (List.range f.length) := (List.perm_ext_iff_of_nodup (r.nd o) List.nodup_range).mpr fun x => by rw [r.mem o, List.mem_range]
  exact hp.map _
end Hb
namespace Hb
open PySem PySem.Spec PyProof.Rows L2

/-! ### heaps: all but some are kept -/
def Kp (S : List Addr) (H H' : Hp) : Prop := ∀ b o, b ∉ S → H b = some o → H' b = some o
section
variable {S S' : List Addr} {H H1 H2 H' : Hp} {a b l p : Addr} {o u : HO} {K : PySem.W.Frag} {xs : List V}
theorem Kp.refl : Kp S H H := fun _ _ _ h => h
theorem Kp.trans (a : Kp S H H1) (b : Kp S H1 H2) : Kp S H H2 := fun c o n h => b c o n (a c o n h)
theorem Kp.mono (h : ∀ b ∈ S, b ∈ S') (a : Kp S H H1) : Kp S' H H1 := fun c o n q => a c o (fun z => n (h c z)) q
theorem Kp.of (a : Same H H1) : Kp S H H1 := fun c o _ q => a c o q
theorem Kp.same (a : Kp [] H H1) : Same H H1 := fun c o q => a c o (by simp) q
theorem Kp.put (hl : l ∈ S) (a : Kp S H H1) : Kp S H (upd H1 l o) := fun c u n q => by
  rw [upd_ne (fun z => n (by rw [z]; exact hl))]; exact a c u n q
theorem Kp.new (hp : H1 p = none) (a : Kp S H H1) : Kp S H (upd H1 p o) := fun c u n q => by
  rw [upd_ne (ne_of_none (a c u n q) hp)]; exact a c u n q
theorem Kp.fr (hp : H p = none) (a : Kp S H H1) : Kp S H (upd H1 p o) := fun c u n q => by
  rw [upd_ne (ne_of_none q hp)]; exact a c u n q
theorem Kp.at (a : Kp S H H1) (n : b ∉ S) (h : H b = some o) : H1 b = some o := a b o n h
theorem Kp.rd (a : Kp S H H1) (n : b ∉ S) (h : Rd H b u) : Rd H1 b u := by
  rcases h with h | ⟨o, h⟩
  · exact .inl (a b _ n h)
  · exact .inr ⟨o, a b _ n h⟩
theorem Kp.sqL (a : Kp S H H1) (n : b ∉ S) (h : SqL K H b xs) : SqL K H1 b xs := by
  rcases h with h | h
  · exact .inl (a.rd n h)
  · exact .inr h
theorem Kp.sqT (a : Kp S H H1) (n : b ∉ S) (h : SqT K H b xs) : SqT K H1 b xs := by
  rcases h with h | h
  · exact .inl (a.rd n h)
  · exact .inr h
theorem same_sqT (e : Same H H') (h : SqT K H a xs) : SqT K H' a xs := by
  rcases h with (h | ⟨o, h⟩) | h
  · exact .inl (.inl (e _ _ h))
  · exact .inl (.inr ⟨o, e _ _ h⟩)
  · exact .inr h
theorem same_put (hp : H p = none) (a : Same H H1) : Same H (upd H1 p o) := fun c u q => by
  rw [upd_ne (ne_of_none q hp)]; exact a c u q
theorem same_new (hp : H1 p = none) (a : Same H H1) : Same H (L2.upd H1 p o) := fun c u q => by
  rw [upd_ne (ne_of_none (a c u q) hp)]; exact a c u q
theorem same_new0 (hp : H p = none) : Same H (upd H p o) := same_new hp (Same.refl H)
end

/-! ### the built-ins' names -/
structure Bu (mg : Str → Option Value) : Prop where
  len_ : mg "len" = none
  range_ : mg "range" = none
  enumerate_ : mg "enumerate" = none
  isinstance_ : mg "isinstance" = none
  int_ : mg "int" = none
  bool_ : mg "bool" = none
  tuple_ : mg "tuple" = none
  list_ : mg "list" = none
  str_ : mg "str" = none
  set_ : mg "set" = none
  all_ : mg "all" = none
  any_ : mg "any" = none
  sum_ : mg "sum" = none
  abs_ : mg "abs" = none
  max_ : mg "max" = none
  min_ : mg "min" = none
  sorted_ : mg "sorted" = none
  zip_ : mg "zip" = none
theorem bt_int : bootBuiltins "int" = some (.type "int") := by decide +kernel
theorem bt_bool : bootBuiltins "bool" = some (.type "bool") := by decide +kernel
theorem bt_tuple : bootBuiltins "tuple" = some (.type "tuple") := by decide +kernel
theorem bt_list : bootBuiltins "list" = some (.type "list") := by decide +kernel
theorem bt_str : bootBuiltins "str" = some (.type "str") := by decide +kernel

/-! ### a def of the text, its promise under its name -/
structure De (K : PySem.W.Frag) (mg : Str → Option Value) (x : Str) (st : Stmt) (ps : List Str) : Prop where
  ex : ∃ (f : Addr) (fd : FuncData), Fun K x x st f fd ∧ mg x = some (.ref f) ∧ Binds K fd ps []
structure Cl (P : Program) (w : World) (K : PySem.W.Frag) (mg : Str → Option Value) (base : Heap) (CX : CXT) (k : Nat) (x : Str) (sp : Sp) : Prop where
  ex : ∃ (f : Addr) (fd : FuncData) (ps : List Str), FnOk P w K mg base CX k f fd ps sp ∧ mg x = some (.ref f) ∧ PySem.W.keepIn K (.ref f) = true ∧ Binds K fd ps []
section
variable {P : Program} {w : World} {K : PySem.W.Frag} {mg : Str → Option Value} {base : Heap}
theorem mk_cl {x : Str} {st : Stmt} {N ps : List Str} {k : Nat} {sp : Sp} (D : De K mg x st ps) (S : FnScope N ps (defScope st)) (len : ∀ vs H Q E, sp vs H Q E → vs.length = ps.length)
    (hbody : ∀ (f : Addr) (cdv : Value) (A : Around) (outer : List Env) (s : Shared) (H : Hp) (vs : List V) (Q : VK) (E : XK), Room k (A.deeper (envOfC x (defScope st) s.heap.objs.size f cdv)) → sp vs H Q E →
      ∃ t, PSs (cxOf CX0 P w K mg base N x (defScope st) f cdv A outer s H E).nox (defBody st) t ∧ t { nx := fun _ H' => Q .non H', rt := Q } (start N vs) H) : Cl P w K mg base CX0 (k + 1) x sp := by
  obtain ⟨f, fd, F, hm, hb⟩ := D.ex
  exact ⟨f, fd, ps, F.ok S len (hbody f), hm, F.kp, hb⟩
theorem Cl.mono {x : Str} {j k : Nat} {sp : Sp} {CX : CXT} (c : Cl P w K mg base CX j x sp) (h : j ≤ k) : Cl P w K mg base CX k x sp := by
  obtain ⟨f, fd, ps, F, hm, hk, hb⟩ := c.ex
  exact ⟨f, fd, ps, F.mono h, hm, hk, hb⟩
end
section
variable {X : Cx} {CX : CXT} {j k : Nat} {x : Str} {sp : Sp} {E : XK} {e : Expr} {es : List Expr} {t : TA} {p pos : Pos}
theorem p_call (c : Cl X.prog X.w X.K X.mg X.base CX k x sp) (hr : Room j X.A) (hk : k ≤ j) (hg : Gl X x) (hx : Passes CX X E) (ha : PA X (e :: es) t)
    (hdb : (x == ("__debug__" : Str)) = false := by decide) (he : starEach (e :: es) X.env = (false, eval e X.env) :: starEach es X.env := by rfl) (hpl : (backTo pos (starEach es X.env)).any (·.1) = false := by rfl) :
    PE X (.Call (.Name x p) (e :: es) [] pos) (tCall sp [] E t) := by
  obtain ⟨f, fd, ps, F, hm, hkp, hb⟩ := c.ex
  exact pe_call F (hr.mono hk) hg hm hkp hb .nil hx ha hdb he hpl
theorem p_call0 (c : Cl X.prog X.w X.K X.mg X.base CX k x sp) (hr : Room j X.A) (hk : k ≤ j) (hg : Gl X x) (hx : Passes CX X E)
    (hdb : (x == ("__debug__" : Str)) = false := by decide) : PE X (.Call (.Name x p) [] [] pos) (tCall sp [] E tNil) := by
  obtain ⟨f, fd, ps, F, hm, hkp, hb⟩ := c.ex
  exact pe_call0 F (hr.mono hk) hg hm hkp hb .nil hx hdb
end

/-! ### what is made by a comprehension whose parts change nothing -/
def given (n : Nat) (f : Nat → Bool) (v : Nat → V) : List V := ((List.range n).filter f).map v
theorem given_zero {f : Nat → Bool} {v : Nat → V} : given 0 f v = [] := rfl
theorem given_yes {n : Nat} {f : Nat → Bool} {v : Nat → V} (h : f n = true) : given (n + 1) f v = given n f v ++ [v n] := by
  unfold given
  rw [List.range_succ, List.filter_append, List.map_append, List.filter_cons, if_pos h]
  rfl
theorem given_no {n : Nat} {f : Nat → Bool} {v : Nat → V} (h : f n = false) : given (n + 1) f v = given n f v := by
  unfold given
  rw [List.range_succ, List.filter_append, List.map_append, List.filter_cons, if_neg (by rw [h]; decide)]
  show _ ++ [] = _
  rw [List.append_nil]
theorem given_len (n : Nat) (f : Nat → Bool) (v : Nat → V) : (given n f v).length ≤ n := by
  unfold given
  rw [List.length_map]
  have h := List.length_filter_le f (List.range n)
  rw [List.length_range] at h
  exact h
theorem given_all {n : Nat} {f : Nat → Bool} {v : Nat → V} (h : ∀ i, i < n → f i = true) : given n f v = (List.range n).map v := by
  unfold given
  rw [List.filter_eq_self.mpr (fun a ha => h a (List.mem_range.mp ha))]
theorem sz_of {n : Nat} (h : n ≤ 100000) : n ≤ sizeLine := Nat.le_trans h (by decide)
theorem sz_lt {n : Nat} (h : n < 100000) : n < sizeLine := Nat.lt_of_lt_of_le h (by decide)
theorem sz_of2 {n : Nat} (h : n ≤ 10000000) : n ≤ sizeLine := Nat.le_trans h (by decide)
theorem sz_lt2 {n : Nat} (h : n < 10000000) : n < sizeLine := Nat.lt_of_lt_of_le h (by decide)
theorem walk_r0 {n : Nat} : Walk (Itr 0 n) n (fun _ => True) (fun i H x H' => H' = H ∧ x = .int (i : Int)) :=
  (walk_range (lo := 0) (n := n)).mono (fun _ _ => trivial) fun i H x H' _ _ y => ⟨y.1, by rw [y.2]; show V.int (0 + (i : Int)) = _; rw [Int.zero_add]⟩
theorem for_r0 {n : Nat} {g : TG} {tb : TS} {D : Ends} {σ : L2.St} {H : Hp} (Pv : Nat → L2.St → Hp → Prop) (h0 : Pv 0 σ H)
    (hs : ∀ i σ H, i < n → Pv i σ H → g (.int (i : Int)) σ H fun σ2 H2 => tb { D with nx := Pv (i + 1), ct := Pv (i + 1), bk := D.nx } σ2 H2) (hd : ∀ σ H, Pv n σ H → D.nx σ H) :
    ∃ W : Nat → Nat → L2.St → Hp → Prop, (∃ m, W 0 m σ H) ∧ ∀ i m σ H, W i m σ H →
      ((Itr 0 n).stop i H ∧ D.nx σ H) ∨ ((Itr 0 n).go i H ∧ ∃ N : L2.St → Hp → Prop, (∀ σ' H', N σ' H' → ∃ m', m' < m ∧ W (i + 1) m' σ' H') ∧ ∀ x H', (Itr 0 n).yld i H x H' → g x σ H' fun σ2 H2 => tb { D with nx := N, ct := N, bk := D.nx } σ2 H2) :=
  for_range (lo := 0) Pv h0 (fun i σ H hi p => by rw [Int.zero_add]; exact hs i σ H hi p) hd
theorem lc_flat {J : It} {n : Nat} {G : Hp → Prop} {Y : Nat → Hp → V → Hp → Prop} (w : Walk J n G Y) {g : TG} {tt : TT} {te : TE} {vs : List Nat} {σ : L2.St} {H1 : Hp} {D : Addr} {Qd : Hp → Prop}
    (hD : H1 D = none) (hn : n ≤ 50000) (f : Nat → Bool) (v : Nat → V) (hG : ∀ H, Same H1 H → G H)
    (hs : ∀ i x H H' (Q : V → Hp → Prop) (Qn : Hp → Prop), i < n → Same H1 H → Y i H x H' → (f i = true → ∀ H4, Same H H4 → Q (v i) H4) → (f i = false → ∀ H3, Same H H3 → Qn H3) →
      g x (wipe σ vs) H' fun σ2 H2 => wipe σ2 vs = wipe σ vs ∧ tt σ2 H2 fun b H3 => if b = true then te σ2 H3 Q else Qn H3)
    (hd : ∀ H, Same H1 H → H D = some (.lst (given n f v)) → Qd H) :
    ∃ W : Nat → Nat → Hp → Prop, (∃ m, W 0 m (upd H1 D (.lst []))) ∧ ∀ i m H, W i m H →
      (J.stop i H ∧ Qd H) ∨ (J.go i H ∧ ∃ Nx : Hp → Prop, (∀ H', Nx H' → ∃ m', m' < m ∧ W (i + 1) m' H') ∧ ∀ x H', J.yld i H x H' → g x (wipe σ vs) H' fun σ2 H2 => wipe σ2 vs = wipe σ vs ∧ tt σ2 H2 fun b H3 =>
        if b = true then te σ2 H3 fun y H4 => ∃ acc, H4 D = some (.lst acc) ∧ acc.length < sizeLine ∧ Nx (upd H4 D (.lst (acc ++ [y]))) else Nx H3) := by
  refine lc_it w (fun i H => Same H1 H ∧ H D = some (.lst (given i f v))) ⟨same_new0 hD, upd_same⟩ (fun i H _ p => hG H p.1) (fun i x H H' hi p y => ?_) (fun H p => hd H p.1 p.2)
  refine hs i x H H' _ _ hi p.1 y (fun hf H4 s4 => ?_) fun hf H3 s3 => ?_
  · have hl := given_len i f v
    refine ⟨given i f v, s4 _ _ p.2, sz_lt (by omega), same_put hD (p.1.trans s4), ?_⟩
    rw [upd_same, given_yes hf]
  · exact ⟨p.1.trans s3, by rw [given_no hf]; exact s3 _ _ p.2⟩
/-- every item is taken -/
theorem lc_map {J : It} {n : Nat} {G : Hp → Prop} {Y : Nat → Hp → V → Hp → Prop} (w : Walk J n G Y) {g : TG} {te : TE} {vs : List Nat} {σ : L2.St} {H1 : Hp} {D : Addr} {Qd : Hp → Prop}
    (hD : H1 D = none) (hn : n ≤ 50000) (v : Nat → V) (hG : ∀ H, Same H1 H → G H)
    (hs : ∀ i x H H' (Q : V → Hp → Prop), i < n → Same H1 H → Y i H x H' → (∀ H4, Same H H4 → Q (v i) H4) →
      g x (wipe σ vs) H' fun σ2 H2 => wipe σ2 vs = wipe σ vs ∧ te σ2 H2 Q)
    (hd : ∀ H, Same H1 H → H D = some (.lst ((List.range n).map v)) → Qd H) :
    ∃ W : Nat → Nat → Hp → Prop, (∃ m, W 0 m (upd H1 D (.lst []))) ∧ ∀ i m H, W i m H →
      (J.stop i H ∧ Qd H) ∨ (J.go i H ∧ ∃ Nx : Hp → Prop, (∀ H', Nx H' → ∃ m', m' < m ∧ W (i + 1) m' H') ∧ ∀ x H', J.yld i H x H' → g x (wipe σ vs) H' fun σ2 H2 => wipe σ2 vs = wipe σ vs ∧ tYes σ2 H2 fun b H3 =>
        if b = true then te σ2 H3 fun y H4 => ∃ acc, H4 D = some (.lst acc) ∧ acc.length < sizeLine ∧ Nx (upd H4 D (.lst (acc ++ [y]))) else Nx H3) := by
  refine lc_flat w hD hn (fun _ => true) v hG (fun i x H H' Q Qn hi sm y kT kF => ?_) (fun H s h => hd H s (by rw [h, given_all (fun _ _ => rfl)]))
  have := hs i x H H' Q hi sm y (fun H4 s4 => kT rfl H4 s4)
  exact this

/-! ### forests as data -/
def ov : Option Nat → V
  | none => .non
  | some k => .int (k : Int)
def hv (f : Fo) : List V := f.map ov
theorem hv_len (f : Fo) : (hv f).length = f.length := List.length_map _
theorem hv_get {f : Fo} {i : Nat} {h : Option Nat} (e : f[i]? = some h) : (hv f)[i]? = some (ov h) := by unfold hv; rw [List.getElem?_map, e]; rfl
abbrev nv (l : List Nat) : List V := l.map fun (k : Nat) => V.int (k : Int)
theorem nv_get {l : List Nat} {i k : Nat} (e : l[i]? = some k) : (nv l)[i]? = some (.int (k : Int)) := by unfold nv; rw [List.getElem?_map, e]; rfl
theorem nv_int (l : List Nat) : nv l = (l.map fun (k : Nat) => (k : Int)).map V.int := by unfold nv; rw [List.map_map]; rfl

/-- a new list, a value -/
def RetL (xs : List V) (H : Hp) (Q : VK) : Prop := ∀ p H2, H p = none → Same H H2 → H2 p = some (.lst xs) → Q (.ref p) H2
def RetT (xs : List V) (H : Hp) (Q : VK) : Prop := ∀ p H2, H p = none → Same H H2 → H2 p = some (.tup xs) → Q (.ref p) H2
def RetV (v : V) (H : Hp) (Q : VK) : Prop := ∀ H2, Same H H2 → Q v H2
end Hb
namespace Hb
open PySem PySem.Spec PyProof.Rows L2
/-! ### data of a Lean type, for == -/
structure Tu (α : Type) where
  items : List α
  deriving DecidableEq
class Dm (α : Type) [DecidableEq α] where
  toD : α → PyData
  lay : ∀ a, (toD a).canLay0 = true
  eqv : ∀ a b, PyData.eqv (toD a) (toD b) = decide (a = b)
  dep : Nat
  dep_le : ∀ a, (toD a).depth ≤ dep
theorem beq_dec {α : Type} [BEq α] [LawfulBEq α] [DecidableEq α] (a b : α) : (a == b) = decide (a = b) := by
  rw [Bool.eq_iff_iff, beq_iff_eq, decide_eq_true_eq]
instance : Dm Int where
  toD := .int
  lay _ := rfl
  eqv a b := by simp only [PyData.eqv]; exact beq_dec a b
  dep := 0
  dep_le _ := Nat.le_refl _
instance : Dm Nat where
  toD n := .int (n : Int)
  lay _ := rfl
  eqv a b := by simp only [PyData.eqv]; rw [beq_dec]; exact decide_eq_decide.mpr (by omega)
  dep := 0
  dep_le _ := Nat.le_refl _
def odD : Option Nat → PyData
  | none => .none
  | some k => .int (k : Int)
instance : Dm (Option Nat) where
  toD := odD
  lay a := by cases a <;> rfl
  eqv a b := by
    cases a with
    | none => cases b with
      | none => rfl
      | some b => rfl
    | some a => cases b with
      | none => rfl
      | some b =>
        show PyData.eqv (.int _) (.int _) = _
        simp only [PyData.eqv]; rw [beq_dec]; exact decide_eq_decide.mpr ⟨fun h => by congr 1; omega, fun h => by have := Option.some.inj h; omega⟩
  dep := 0
  dep_le a := by cases a <;> exact Nat.le_refl _
section
variable {α β : Type} [DecidableEq α] [Dm α] [DecidableEq β] [Dm β]
theorem layAll : ∀ xs : List α, PyData.canLayAll0 (xs.map Dm.toD) = true
  | [] => rfl
  | x :: xs => by rw [List.map_cons, PyData.canLayAll0, Dm.lay x, layAll xs]; rfl
theorem depAll : ∀ xs : List α, PyData.depthAll (xs.map Dm.toD) ≤ Dm.dep α
  | [] => Nat.zero_le _
  | x :: xs => by rw [List.map_cons, PyData.depthAll]; exact Nat.max_le.mpr ⟨Dm.dep_le x, depAll xs⟩
theorem eqvAllM : ∀ xs ys : List α, PyData.eqvAll (xs.map Dm.toD) (ys.map Dm.toD) = decide (xs = ys)
  | [], [] => by simp only [List.map_nil, PyData.eqvAll, decide_true]
  | [], _ :: _ => by simp [PyData.eqvAll]
  | _ :: _, [] => by simp [PyData.eqvAll]
  | x :: xs, y :: ys => by
    rw [List.map_cons, List.map_cons, PyData.eqvAll, Dm.eqv x y, eqvAllM xs ys, ← Bool.decide_and]
    exact decide_eq_decide.mpr (by rw [List.cons.injEq])
instance : Dm (List α) where
  toD xs := .list (xs.map Dm.toD)
  lay xs := by simp only [PyData.canLay0]; exact layAll xs
  eqv xs ys := by simp only [PyData.eqv]; exact eqvAllM xs ys
  dep := Dm.dep α + 1
  dep_le xs := by simp only [PyData.depth]; exact Nat.succ_le_succ (depAll xs)
instance : Dm (Tu α) where
  toD t := .tuple (t.items.map Dm.toD)
  lay t := by simp only [PyData.canLay0]; exact layAll t.items
  eqv t u := by
    simp only [PyData.eqv]
    rw [eqvAllM]
    exact decide_eq_decide.mpr ⟨fun e => by cases t; cases u; exact congrArg Tu.mk e, fun e => by rw [e]⟩
  dep := Dm.dep α + 1
  dep_le t := by simp only [PyData.depth]; exact Nat.succ_le_succ (depAll t.items)
instance : Dm (α × β) where
  toD p := .tuple [Dm.toD p.1, Dm.toD p.2]
  lay p := by simp only [PyData.canLay0, PyData.canLayAll0, Dm.lay, Bool.and_self]
  eqv p q := by
    simp only [PyData.eqv, PyData.eqvAll]
    rw [Dm.eqv, Dm.eqv, Bool.and_true, ← Bool.decide_and]
    exact decide_eq_decide.mpr ⟨fun e => Prod.ext e.1 e.2, fun e => by rw [e]; exact ⟨rfl, rfl⟩⟩
  dep := max (Dm.dep α) (Dm.dep β) + 1
  dep_le p := by
    simp only [PyData.depth, PyData.depthAll]
    exact Nat.succ_le_succ (Nat.max_le.mpr ⟨Nat.le_trans (Dm.dep_le p.1) (Nat.le_max_left _ _), Nat.max_le.mpr ⟨Nat.le_trans (Dm.dep_le p.2) (Nat.le_max_right _ _), Nat.zero_le _⟩⟩)
/-- v stands for x -/
def Re (K : PySem.W.Frag) (H : Hp) (v : V) (x : α) : Prop := Dp K H v (Dm.toD x)
def ReA (K : PySem.W.Frag) (H : Hp) (vs : List V) (xs : List α) : Prop := DpAll K H vs (xs.map Dm.toD)
theorem shp (x : α) (h : Dm.dep α ≤ 64 := by decide) : SeqAt.shaped (Dm.toD x) = true := by
  unfold SeqAt.shaped
  rw [Dm.lay x, decide_eq_true (Nat.le_trans (Dm.dep_le x) h)]; rfl
variable {K : PySem.W.Frag} {H H' : Hp}
theorem Re.int (i : Int) : Re K H (.int i) i := Dp.int i
theorem Re.nat (n : Nat) : Re K H (.int (n : Int)) n := Dp.int _
theorem Re.opt (o : Option Nat) : Re K H (ov o) o := by
  cases o with
  | none => exact Dp.non
  | some k => exact Dp.int _
theorem Re.lst {a : Addr} {vs : List V} {xs : List α} (h : SqL K H a vs) (r : ReA K H vs xs) : Re K H (.ref a) xs := Dp.lst h r
theorem Re.tup {a : Addr} {vs : List V} {xs : List α} (h : SqT K H a vs) (r : ReA K H vs xs) : Re K H (.ref a) (Tu.mk xs) := Dp.tup h r
theorem Re.pair {a : Addr} {v u : V} {x : α} {y : β} (h : SqT K H a [v, u]) (r : Re K H v x) (q : Re K H u y) : Re K H (.ref a) (x, y) := Dp.tup h (DpAll.cons r (DpAll.cons q DpAll.nil))
theorem ReA.nil : ReA K H [] ([] : List α) := DpAll.nil
theorem ReA.cons {v : V} {vs : List V} {x : α} {xs : List α} (r : Re K H v x) (q : ReA K H vs xs) : ReA K H (v :: vs) (x :: xs) := DpAll.cons r q
theorem ReA.map (g : α → V) (h : ∀ x, Re K H (g x) x) : ∀ xs : List α, ReA K H (xs.map g) xs
  | [] => DpAll.nil
  | x :: xs => DpAll.cons (h x) (ReA.map g h xs)
theorem ReA.snoc {v : V} {x : α} (r : Re K H v x) : ∀ {vs : List V} {xs : List α}, ReA K H vs xs → ReA K H (vs ++ [v]) (xs ++ [x])
  | [], [], _ => DpAll.cons r DpAll.nil
  | [], _ :: _, h => nomatch (show DpAll K H [] (_ :: _) from h)
  | _ :: _, [], h => nomatch (show DpAll K H (_ :: _) [] from h)
  | _ :: _, _ :: _, h => match (show DpAll K H (_ :: _) (_ :: _) from h) with
    | .cons a b => DpAll.cons a (ReA.snoc r b)
theorem Re.nats {a : Addr} {l : List Nat} (h : SqL K H a (nv l)) : Re K H (.ref a) l := Dp.lst h (ReA.map (fun n : Nat => V.int (n : Int)) Re.nat l)
theorem Re.ints {a : Addr} {l : List Int} (h : SqL K H a (l.map V.int)) : Re K H (.ref a) l := Dp.lst h (ReA.map V.int Re.int l)
theorem Re.fo {a : Addr} {f : Fo} (h : SqT K H a (hv f)) : Re K H (.ref a) (Tu.mk f) := Dp.tup h (ReA.map ov Re.opt f)
/-- == and != of data of one type -/
theorem eqD {x y : V} {d e : α} {Q : VK} (h : Re K H x d) (g : Re K H y e) (q : Q (.bl (decide (d = e))) H) (hd : Dm.dep α ≤ 64 := by decide) : rEqD K x y H Q :=
  ⟨_, _, h, g, shp d hd, shp e hd, by rw [Dm.eqv]; exact q⟩
theorem neD {x y : V} {d e : α} {Q : VK} (h : Re K H x d) (g : Re K H y e) (q : Q (.bl (!decide (d = e))) H) (hd : Dm.dep α ≤ 64 := by decide) : rNeD K x y H Q :=
  ⟨_, _, h, g, shp d hd, shp e hd, by rw [Dm.eqv]; exact q⟩
mutual
theorem dp_mono (s : Same H H') : ∀ {v : V} {d : PyData}, Dp K H v d → Dp K H' v d
  | _, _, .non => .non
  | _, _, .bl b => .bl b
  | _, _, .int i => .int i
  | _, _, .str x => .str x
  | _, _, .lst h r => .lst (s.seq h) (dpAll_mono s r)
  | _, _, .tup h r => .tup (same_sqT s h) (dpAll_mono s r)
theorem dpAll_mono (s : Same H H') : ∀ {vs : List V} {ds : List PyData}, DpAll K H vs ds → DpAll K H' vs ds
  | _, _, .nil => .nil
  | _, _, .cons a b => .cons (dp_mono s a) (dpAll_mono s b)
end
theorem Re.mono {v : V} {x : α} (s : Same H H') (r : Re K H v x) : Re K H' v x := dp_mono s r
theorem ReA.mono {vs : List V} {xs : List α} (s : Same H H') (r : ReA K H vs xs) : ReA K H' vs xs := dpAll_mono s r
end
end Hb
namespace Hb
open PySem PySem.Spec PyProof.Rows L2
/-! ### the rules that speak of the written part, by its letter -/
theorem k_ix_list {X : Cx} {K : PySem.W.Frag} (hK : X.K = K := by rfl) : IxR X (rIxL K) := by subst hK; exact ix_list
theorem k_ix_seq {X : Cx} {K : PySem.W.Frag} (hK : X.K = K := by rfl) : IxR X (rIx K) := by subst hK; exact ix_seq
theorem k_ix_tup {X : Cx} {K : PySem.W.Frag} (hK : X.K = K := by rfl) : IxR X (rIxT K) := by subst hK; exact ix_tup
theorem k_sl_list {X : Cx} {K : PySem.W.Frag} (hK : X.K = K := by rfl) : SlR X (rSlL K) := by subst hK; exact sl_list
theorem k_sl_tupA {X : Cx} {K : PySem.W.Frag} (hK : X.K = K := by rfl) : SlR X (rSlA K) := by subst hK; exact sl_tupA
theorem k_in_seq {X : Cx} {K : PySem.W.Frag} (hK : X.K = K := by rfl) : OpR X (compareOp .In) (rIn K false) := by subst hK; exact op_in_seq
theorem k_notIn_seq {X : Cx} {K : PySem.W.Frag} (hK : X.K = K := by rfl) : OpR X (compareOp .NotIn) (rIn K true) := by subst hK; exact op_notIn_seq
def rLn (K : PySem.W.Frag) : List V → Hp → VK → Prop := fun xs H Q => ∃ p ys, xs = [.ref p] ∧ (SqL K H p ys ∨ SqT K H p ys) ∧ Q (.int ys.length) H
theorem k_len {X : Cx} {K : PySem.W.Frag} (hK : X.K = K := by rfl) : CallR X (.builtin "len") (rLn K) := by subst hK; exact call_len_seq
def rLo (K : PySem.W.Frag) : List V → Hp → VK → Prop := fun xs H Q => ∃ p ys, xs = [.ref p] ∧ (SqL K H p ys ∨ SqT K H p ys) ∧ ∀ l, H l = none → Q (.ref l) (upd H l (.lst ys))
theorem k_list_of {X : Cx} {K : PySem.W.Frag} (hK : X.K = K := by rfl) : CallR X (.type "list") (rLo K) := by subst hK; exact call_list_of
def rTo (K : PySem.W.Frag) : List V → Hp → VK → Prop := fun xs H Q => ∃ p ys, xs = [.ref p] ∧ ((SqL K H p ys ∧ ∀ l, H l = none → Q (.ref l) (upd H l (.tup ys))) ∨ (SqT K H p ys ∧ Q (.ref p) H))
theorem k_tuple_of {X : Cx} {K : PySem.W.Frag} (hK : X.K = K := by rfl) : CallR X (.type "tuple") (rTo K) := by subst hK; exact call_tuple_of
theorem k_sum {X : Cx} {K : PySem.W.Frag} (hc : X.calm = true) (hK : X.K = K := by rfl) : CallR X (.builtin "sum") (rSum K) := by subst hK; exact cr_sum hc
theorem k_max {X : Cx} {K : PySem.W.Frag} (hc : X.calm = true) (hK : X.K = K := by rfl) : CallR X (.builtin "max") (rMax K) := by subst hK; exact cr_max hc
theorem k_min {X : Cx} {K : PySem.W.Frag} (hc : X.calm = true) (hK : X.K = K := by rfl) : CallR X (.builtin "min") (rMin K) := by subst hK; exact cr_min hc
theorem k_all {X : Cx} {K : PySem.W.Frag} (hc : X.calm = true) (hK : X.K = K := by rfl) : CallR X (.builtin "all") (rAll K) := by subst hK; exact cr_all hc
theorem k_any {X : Cx} {K : PySem.W.Frag} (hc : X.calm = true) (hK : X.K = K := by rfl) : CallR X (.builtin "any") (rAny K) := by subst hK; exact cr_any hc
theorem k_sortedI {X : Cx} {K : PySem.W.Frag} (hK : X.K = K := by rfl) : CallR X (.builtin "sorted") (rSortedI K) := by subst hK; exact cr_sortedI
theorem k_isi {X : Cx} {K : PySem.W.Frag} (hK : X.K = K := by rfl) : CallR X (.builtin "isinstance") (rIsi K) := by subst hK; exact call_isi
theorem k_index {X : Cx} {K : PySem.W.Frag} (hK : X.K = K := by rfl) : MtR X "list.index" (rIndex K) := by subst hK; exact mt_index
theorem k_eqD {X : Cx} {K : PySem.W.Frag} (hu : X.A.units + 64 < cLine) (hK : X.K = K := by rfl) : OpR X (compareOp .Eq) (rEqD K) := by subst hK; exact op_eqD hu
theorem k_neD {X : Cx} {K : PySem.W.Frag} (hu : X.A.units + 64 < cLine) (hK : X.K = K := by rfl) : OpR X (compareOp .NotEq) (rNeD K) := by subst hK; exact op_neD hu
theorem k_catA {X : Cx} {K : PySem.W.Frag} (hK : X.K = K := by rfl) : OpR X (binaryOp .Add) (rCatA K) := by subst hK; exact op_catA
theorem k_pi_list {X : Cx} {K : PySem.W.Frag} {tg l : Expr} {tl : TE} (hl : PE X l tl) (hK : X.K = K := by rfl) : PI X tg l (iList K tl) := by subst hK; exact pi_list hl
theorem k_pi_tup {X : Cx} {K : PySem.W.Frag} {tg l : Expr} {tl : TE} (hl : PE X l tl) (hK : X.K = K := by rfl) : PI X tg l (iTup K tl) := by subst hK; exact pi_tup hl
theorem k_pi_enum {X : Cx} {K : PySem.W.Frag} {e : Expr} {ta : TA} {p pos tpos : Pos} {elts : List Expr} {kk : Nat} (hg : Gl X "enumerate") (hm : X.mg "enumerate" = none) (ha : PA X [e] ta) (hs : starEach [e] X.env = [(false, eval e X.env)] := by rfl) (hK : X.K = K := by rfl) : PI X (.Tuple elts kk tpos) (.Call (.Name "enumerate" p) [e] [] pos) (iEnum K ta) := by subst hK; exact pi_enum hg hm ha hs
theorem k_pi_enumT {X : Cx} {K : PySem.W.Frag} {e : Expr} {ta : TA} {p pos tpos : Pos} {elts : List Expr} {kk : Nat} (hg : Gl X "enumerate") (hm : X.mg "enumerate" = none) (ha : PA X [e] ta) (hs : starEach [e] X.env = [(false, eval e X.env)] := by rfl) (hK : X.K = K := by rfl) : PI X (.Tuple elts kk tpos) (.Call (.Name "enumerate" p) [e] [] pos) (iEnumT K ta) := by subst hK; exact pi_enumT hg hm ha hs
theorem k_pi_zip {X : Cx} {K : PySem.W.Frag} {e e2 : Expr} {ta : TA} {p pos tpos : Pos} {elts : List Expr} {kk : Nat} (hg : Gl X "zip") (hm : X.mg "zip" = none) (ha : PA X [e, e2] ta) (hs : starEach [e, e2] X.env = (false, eval e X.env) :: starEach [e2] X.env := by rfl) (hpl : (backTo pos (starEach [e2] X.env)).any (·.1) = false := by rfl) (hK : X.K = K := by rfl) : PI X (.Tuple elts kk tpos) (.Call (.Name "zip" p) [e, e2] [] pos) (RZ.iZipA K ta) := by subst hK; exact RZ.pi_zipA hg hm ha hs hpl
theorem k_pg_tup {X : Cx} {K : PySem.W.Frag} {es : List Expr} {k : Nat} {pos : Pos} {t : TGs} {n : Nat} (hc : X.calm = true) (h : PGs X es t) (hn : (assignEach es X.env).length = n := by rfl) (hst : (assignEach es X.env).findIdx? (·.1) = none := by rfl) (hK : X.K = K := by rfl) : PG X (.Tuple es k pos) (gTup K n t) := by subst hK; exact pg_tup hc h hn hst
theorem k_revL {X : Cx} {K : PySem.W.Frag} {e : Expr} {te : TE} {k : Nat} {p1 p2 p3 pos : Pos} (he : PE X e te) (hK : X.K = K := by rfl) : PE X (.Subscript e (.Slice none none (some (.UnaryOp .USub (.Constant (.int 1) k p1) p2)) p3) pos) (tRevL K te) := by subst hK; exact pe_revL he
theorem k_star {X : Cx} {K : PySem.W.Frag} {e : Expr} {es : List Expr} {p : Pos} {te : TE} {t : TA} (he : PE X e te) (hr : PA X es t) (hs : starEach (.Starred e p :: es) X.env = (true, eval e X.env) :: starEach es X.env := by rfl) (hK : X.K = K := by rfl) : PA X (.Starred e p :: es) (StX.tStar K te t) := by subst hK; exact StX.pa_star he hr hs
theorem k_fld {X : Cx} {K : PySem.W.Frag} {e : Expr} {f : Str} {pos : Pos} {ta : TE} (he : PE X e ta) (hb : attributeBase e f X.env (eval e X.env) = eval e X.env) (hK : X.K = K := by rfl) : PE X (.Attribute e f pos) (tFld K ta f) := by subst hK; exact pe_fld he hb
theorem k_ps_fld {X : Cx} {K : PySem.W.Frag} {o value : Expr} {f : Str} {pos pos' : Pos} {ta tv : TE} (ha : PE X o ta) (hv : PE X value tv) (hs : swapsWith value (some (.Attribute o f pos')) pos.line X.env = pure false) (hK : X.K = K := by rfl) : PS X (.Assign [.Attribute o f pos'] value pos) (sFld K ta tv f) := by subst hK; exact ps_fld ha hv hs
theorem k_lenSetI {X : Cx} {K : PySem.W.Frag} {a : Expr} {ta : TE} {p p2 q pos : Pos} (hg : Gl X "len") (hm : X.mg "len" = none) (hg2 : Gl X "set") (hm2 : X.mg "set" = none) (ha : PE X a ta) (hc : X.calm = true := by rfl) (na : starEach [a] X.env = (false, eval a X.env) :: starEach [] X.env := by rfl) (hK : X.K = K := by rfl) : PE X (.Call (.Name "len" p) [.Call (.Name "set" p2) [a] [] q] [] pos) (RZ.tLenSetI K ta) := by subst hK; exact RZ.pe_lenSetI hg hm hg2 hm2 ha hc na
theorem k_bm0 {X : Cx} {K : PySem.W.Frag} {o : Expr} {to : TE} {name : Str} {apos cpos : Pos} {T id : String} {r : V → List V → Hp → VK → Prop} (pa : PlainAttrs T) (slot : Slot T name id) (hty : typeOf (.builtin id) = pure (.type "method_descriptor")) (hm : MtR X id r) (ho : PE X o to) (hbase : attributeBase o name X.env (eval o X.env) = eval o X.env := by rfl) (hline : (apos.endLine == cpos.line) = true := by rfl) (hK : X.K = K := by rfl) : PE X (.Call (.Attribute o name apos) [] [] cpos) (tBM0 K T r to) := by subst hK; exact pe_bm0 pa slot hty hm ho hbase hline
theorem k_bm {X : Cx} {K : PySem.W.Frag} {o e : Expr} {es : List Expr} {to : TE} {t : TA} {name : Str} {apos cpos : Pos} {T id : String} {r : V → List V → Hp → VK → Prop} (pa : PlainAttrs T) (slot : Slot T name id) (hty : typeOf (.builtin id) = pure (.type "method_descriptor")) (hm : MtR X id r) (ho : PE X o to) (ha : PA X (e :: es) t) (hbase : attributeBase o name X.env (eval o X.env) = eval o X.env := by rfl) (hfew : ((backTo cpos (starEach (e :: es) X.env)).all (fun x => !x.1) && (backToKw cpos (keywordEach [] X.env)).all (fun x => x.1.isSome) && decide ((e :: es).length + ([] : List Keyword).length + (if ([] : List Keyword).isEmpty then 0 else 1) < 30)) = true := by rfl) (hline : (apos.endLine == cpos.line) = true := by rfl) (hs : starEach (e :: es) X.env = (false, eval e X.env) :: starEach es X.env := by rfl) (hplain : (backTo cpos (starEach es X.env)).any (·.1) = false := by rfl) (hK : X.K = K := by rfl) : PE X (.Call (.Attribute o name apos) (e :: es) [] cpos) (tBM K T r to t) := by subst hK; exact pe_bm pa slot hty hm ho ha hbase hfew hline hs hplain
def tTru (K : PySem.W.Frag) (ta : TE) : TT := fun σ H Q => ta σ H fun x H' => ∃ k, TruV K x H' k ∧ Q k H'
theorem k_truth {X : Cx} {K : PySem.W.Frag} {a : Expr} {ta : TE} (ha : PE X a ta) (he : ∀ whole, isTrue a X.env whole = (do let v ← whole; standAt a.pos; holding [v] (truthy v))) (hK : X.K = K := by rfl) : PT X a (tTru K ta) := by subst hK; exact pt_truth ha he
end Hb
namespace Hb
open PySem PySem.Spec PyProof.Rows L2
/-! ### d.get(y), y may be None -/
def tDGetN (td ty : TE) : TE := fun σ H Q => td σ H fun x H1 => ∃ a, x = .ref a ∧ IsD H1 a ∧ ty σ H1 fun y H2 => ∃ kvs, Rd H2 a (.dK kvs) ∧ ((∃ k, y = kV k ∧ Q ((valV kvs k).getD .non) H2) ∨ (y = .non ∧ Q .non H2))
theorem d_getN {X : Cx} {pins : List (Addr × Obj)} {σ : L2.St} {H : Hp} {s : Shared} {a : Addr} {kvs : List (Key × V)} {A : Around} {E : Value → Shared → Prop} {Q : Value → Shared → Prop} (I : Inv X pins σ H s) (e : Rd H a (.dK kvs))
    (h : ∀ s', Inv X pins σ H s' → Q .none s') : wpAny (model X.prog X.w) A (call (.builtin "dict.get") [.ref a, .none]) Q E s := by
  obtain ⟨z, hd, vs, rel, dd⟩ := dk_rd I.hok e
  obtain ⟨f, hm, hf⟩ := none_map dd
  refine call_meetsIn PySem.F.slot_dict_get dd.typeIs PySem.F.entry_dict_get (PySem.F.args_dict_get_2 _ _) (meets_dict_get (noneKind X.prog X.w) (k := none) a rfl hd) ⟨f, hm, ?_⟩
  rw [hf]
  exact h _ (I.tok _)
theorem pe_dgetN {X : Cx} {o e : Expr} {apos cpos : Pos} {td ty : TE} (hu : X.A.units + 1 < cLine) (ho : PE X o td) (he : PE X e ty) (m : M1 X o "get" apos e cpos) : PE X (.Call (.Attribute o "get" apos) [e] [] cpos) (tDGetN td ty) := by
  refine ⟨fun pins s σ H Q I h => ?_⟩
  refine wpAny_Call_method m.base m.few m.line PySem.F.plainAttrs_dict PySem.F.slot_dict_get PySem.F.type_dict_get (thn (ho.run pins s σ H _ I h) fun u s1 ⟨x, H1, I1, rx, a, ex, d, q1⟩ => ?_)
  subst ex
  obtain rfl : u = Value.ref a := rx
  obtain ⟨t1, t2, _⟩ := isD_at I1 d
  refine ⟨t1, t2, ?_⟩
  rw [m.trees]
  refine Calls.callWith_builtin rfl (Calls.evalArgs_plain (Calls.spliced_cons (thn (he.run pins s1 σ H1 _ I1 q1) fun v s2 ⟨y, H2, I2, ry, kvs, hkv, q2⟩ => Calls.spliced_nil ?_)))
  rcases q2 with ⟨k, rfl, q2⟩ | ⟨rfl, q2⟩
  · exact d_get1 hu I2 (.inl ⟨kvs, k, hkv, rfl, rfl⟩) ry fun w' s3 I3 rw' => ⟨_, H2, I3, rw', q2⟩
  · obtain rfl : v = Value.none := ry
    exact d_getN I2 hkv fun s3 I3 => ⟨.non, H2, I3, rfl, q2⟩
end Hb
namespace Hb
open PySem PySem.Spec PyProof.Rows L2
/-! ### a dict made by a comprehension whose parts change nothing -/
def dput (key : Nat → Key) (val : Nat → V) : Nat → List (Key × V)
  | 0 => []
  | n + 1 => putK (dput key val n) (key n) (val n)
theorem dput_len (key : Nat → Key) (val : Nat → V) : ∀ n, (dput key val n).length ≤ n
  | 0 => Nat.le_refl _
  | n + 1 => by
    have h1 := dput_len key val n
    have h2 := length_putK (dput key val n) (key n) (val n)
    exact Nat.le_trans h2 (by omega)
theorem dput_none {key : Nat → Key} {val : Nat → V} {k : Key} : ∀ n, (∀ i, i < n → key i ≠ k) → valV (dput key val n) k = none
  | 0, _ => rfl
  | n + 1, h => by
    show valV (putK _ _ _) k = none
    rw [valV_put, if_neg (fun e => h n (by omega) e.symm)]
    exact dput_none n fun i hi => h i (by omega)
theorem dput_some {key : Nat → Key} {val : Nat → V} {k : Key} : ∀ n i, i < n → key i = k → (∀ j, i < j → j < n → key j ≠ k) → valV (dput key val n) k = some (val i)
  | 0, _, h, _, _ => absurd h (by omega)
  | n + 1, i, h, e, hl => by
    show valV (putK _ _ _) k = some _
    rw [valV_put]
    by_cases q : i = n
    · subst q; rw [if_pos e.symm]
    · rw [if_neg (fun e' => hl n (by omega) (by omega) e'.symm)]
      exact dput_some n i (by omega) e fun j h1 h2 => hl j h1 (by omega)
theorem dc_flat {J : It} {n : Nat} {G : Hp → Prop} {Y : Nat → Hp → V → Hp → Prop} (w : Walk J n G Y) {g : TG} {tk tv : TE} {vs : List Nat} {σ : L2.St} {H1 : Hp} {D : Addr} {Qd : Hp → Prop}
    (hD : H1 D = none) (hn : n ≤ 50000) (key : Nat → Key) (val : Nat → V) (hG : ∀ H, Same H1 H → G H)
    (hs : ∀ i x H H' (Q : V → V → Hp → Prop), i < n → Same H1 H → Y i H x H' → (∀ H4, Same H H4 → Q (kV (key i)) (val i) H4) →
      g x (wipe σ vs) H' fun σ2 H2 => wipe σ2 vs = wipe σ vs ∧ tk σ2 H2 fun y H3 => tv σ2 H3 fun z H4 => Q y z H4)
    (hd : ∀ H, Same H1 H → H D = some (.dK (dput key val n)) → Qd H) :
    ∃ W : Nat → Nat → Hp → Prop, (∃ m, W 0 m (upd H1 D (.dK []))) ∧ ∀ i m H, W i m H →
      (J.stop i H ∧ Qd H) ∨ (J.go i H ∧ ∃ Nx : Hp → Prop, (∀ H', Nx H' → ∃ m', m' < m ∧ W (i + 1) m' H') ∧ ∀ x H', J.yld i H x H' → g x (wipe σ vs) H' fun σ2 H2 => wipe σ2 vs = wipe σ vs ∧ tYes σ2 H2 fun b H3 =>
        if b = true then tk σ2 H3 fun y H4 => tv σ2 H4 fun z H5 => ∃ kvs k, y = kV k ∧ H5 D = some (.dK kvs) ∧ kvs.length < sizeLine ∧ Nx (upd H5 D (.dK (putK kvs k z))) else Nx H3) := by
  refine ⟨fun i m H => m = n - i ∧ i ≤ n ∧ Same H1 H ∧ H D = some (.dK (dput key val i)), ⟨n, by simp, Nat.zero_le _, same_new0 hD, upd_same⟩, ?_⟩
  rintro i m H ⟨rfl, hi, sm, hd'⟩
  by_cases hlt : i < n
  · refine .inr ⟨w.goes i H hlt (hG H sm), fun H' => Same H1 H' ∧ H' D = some (.dK (dput key val (i + 1))), fun H' p' => ⟨n - (i + 1), by omega, rfl, hlt, p'⟩, fun x H' y => ?_⟩
    have := hs i x H H' (fun y z H5 => ∃ kvs k, y = kV k ∧ H5 D = some (.dK kvs) ∧ kvs.length < sizeLine ∧ (Same H1 (upd H5 D (.dK (putK kvs k z))) ∧ upd H5 D (.dK (putK kvs k z)) D = some (.dK (dput key val (i + 1))))) hlt sm (w.yields i H x H' hlt (hG H sm) y)
      (fun H4 s4 => ⟨_, key i, rfl, s4 _ _ hd', sz_lt (by have := dput_len key val i; omega), same_put hD (sm.trans s4), upd_same⟩)
    exact this
  · have e : i = n := by omega
    subst e
    exact .inl ⟨w.stops H (hG H sm), hd H sm hd'⟩
end Hb
namespace Hb
open PySem PySem.Spec PyProof.Rows L2
theorem nats_of {ns : List Int} {l : List Nat} (hp : ns.Perm (l.map fun (k : Nat) => (k : Int))) : ∃ ms : List Nat, ns = ms.map (fun (k : Nat) => (k : Int)) ∧ ms.Perm l := by
  have hall : ∀ x ∈ ns, ∃ k : Nat, x = (k : Int) := fun x hx => by
    obtain ⟨k, _, e⟩ := List.mem_map.mp (hp.mem_iff.mp hx)
    exact ⟨k, e.symm⟩
  refine ⟨ns.map Int.toNat, ?_, ?_⟩
  · rw [List.map_map]
    refine Eq.trans (List.map_id ns).symm (List.map_congr_left fun x hx => ?_)
    obtain ⟨k, e⟩ := hall x hx
    rw [e]; simp
  · have := hp.map Int.toNat
    rw [List.map_map] at this
    have e : (Int.toNat ∘ fun (k : Nat) => (k : Int)) = id := funext fun k => by simp
    rw [e, List.map_id] at this
    exact this
theorem sortedN {K : PySem.W.Frag} {H : Hp} {a : Addr} {l : List Nat} {Q : VK} (h : SqL K H a (nv l)) (k : ∀ p, H p = none → Q (.ref p) (upd H p (.lst (nv (srt l))))) : rSortedI K [.ref a] H Q := by
  refine ⟨a, _, rfl, by rw [← nv_int]; exact h, fun ns p hp hs hq => ?_⟩
  obtain ⟨ms, rfl, hp2⟩ := nats_of hp
  have hs' : ms.Pairwise (· ≤ ·) := (List.pairwise_map.mp hs).imp fun h => by omega
  rw [← nv_int, srt_unique hp2 hs']
  exact k p hq
theorem filter_range_get (r : List Nat) (p : Nat → Bool) : given r.length (fun i => p (r.getD i 0)) (fun i => V.int ((r.getD i 0 : Nat) : Int)) = nv (r.filter p) := by
  unfold given nv
  have key : ∀ (n : Nat), n ≤ r.length → ((List.range n).filter (fun i => p (r.getD i 0))).map (fun i => V.int ((r.getD i 0 : Nat) : Int)) = ((r.take n).filter p).map (fun (k : Nat) => V.int (k : Int)) := by
    intro n
    induction n with
    | zero => intro _; simp
    | succ n ih =>
      intro h
      have hn : n < r.length := by omega
      have e : r.getD n 0 = r[n] := by rw [List.getD_eq_getElem?_getD, List.getElem?_eq_getElem hn]; rfl
      rw [List.range_succ, List.filter_append, List.map_append, ih (by omega), List.take_add_one, List.getElem?_eq_getElem hn, List.filter_append, List.map_append]
      congr 1
      show ((List.filter _ [n]).map _ : List V) = ((List.filter p [r[n]]).map _)
      by_cases q : p r[n] = true
      · rw [List.filter_cons, if_pos (by rw [e]; exact q), List.filter_cons, if_pos q]
        show [V.int ((r.getD n 0 : Nat) : Int)] = [V.int ((r[n] : Nat) : Int)]
        rw [e]
      · rw [List.filter_cons, if_neg (by rw [e]; exact q), List.filter_cons, if_neg q]; rfl
  have := key r.length (Nat.le_refl _)
  rw [List.take_length] at this
  exact this
theorem map_range_get (r : List Nat) {α : Type} (g : Nat → α) : (List.range r.length).map (fun i => g (r.getD i 0)) = r.map g := by
  refine List.ext_getElem? fun i => ?_
  by_cases hi : i < r.length
  · rw [List.getElem?_map, List.getElem?_range hi, List.getElem?_map, List.getElem?_eq_getElem hi]
    simp [List.getD_eq_getElem?_getD, List.getElem?_eq_getElem hi]
  · rw [List.getElem?_eq_none (by simp; omega), List.getElem?_eq_none (by simp; omega)]
theorem getD_get {r : List Nat} {i : Nat} (h : i < r.length) : r.getD i 0 = r[i] := by rw [List.getD_eq_getElem?_getD, List.getElem?_eq_getElem h]; rfl
end Hb
namespace Hb
open PySem PySem.Spec PyProof.Rows L2
/-! ### own classes: the parts of the text, their promises -/
structure DeM (K : PySem.W.Frag) (C : Addr) (m qual : Str) (st : Stmt) (ps : List Str) : Prop where
  ex : ∃ (f : Addr) (fd : FuncData), Fun K m qual st f fd ∧ Meth K C m f ∧ Binds K fd ps []
structure DeI (K : PySem.W.Frag) (C : Addr) (qual : Str) (st : Stmt) (ps : List Str) : Prop where
  ex : ∃ (f : Addr) (fd : FuncData), Fun K "__init__" qual st f fd ∧ Mk K C f ∧ Binds K fd ps []
structure DeP (K : PySem.W.Frag) (C : Addr) (m qual : Str) (st : Stmt) : Prop where
  ex : ∃ (p g : Addr) (fd : FuncData), Fun K m qual st g fd ∧ PropOf K C m p g ∧ Binds K fd ["self"] []
structure ClM (P : Program) (w : World) (K : PySem.W.Frag) (mg : Str → Option Value) (base : Heap) (CX : CXT) (k : Nat) (C : Addr) (m : Str) (sp : Sp) : Prop where
  ex : ∃ (f : Addr) (fd : FuncData) (ps : List Str), FnOk P w K mg base CX k f fd ps sp ∧ Meth K C m f ∧ Binds K fd ps []
structure ClI (P : Program) (w : World) (K : PySem.W.Frag) (mg : Str → Option Value) (base : Heap) (CX : CXT) (k : Nat) (C : Addr) (sp : Sp) : Prop where
  ex : ∃ (f : Addr) (fd : FuncData) (ps : List Str), FnOk P w K mg base CX k f fd ps sp ∧ Mk K C f ∧ Binds K fd ps []
structure ClP (P : Program) (w : World) (K : PySem.W.Frag) (mg : Str → Option Value) (base : Heap) (CX : CXT) (k : Nat) (C : Addr) (m : Str) (sp : Sp) : Prop where
  ex : ∃ (p g : Addr) (fd : FuncData) (ps : List Str), FnOk P w K mg base CX k g fd ps sp ∧ PropOf K C m p g ∧ Binds K fd ps []
section
variable {P : Program} {w : World} {K : PySem.W.Frag} {mg : Str → Option Value} {base : Heap} {C : Addr} {m qual : Str} {st : Stmt} {N ps : List Str} {k : Nat} {sp : Sp}
theorem mk_clM (D : DeM K C m qual st ps) (S : FnScope N ps (defScope st)) (len : ∀ vs H Q E, sp vs H Q E → vs.length = ps.length)
    (hbody : ∀ (f : Addr) (cdv : Value) (A : Around) (outer : List Env) (s : Shared) (H : Hp) (vs : List V) (Q : VK) (E : XK), Room k (A.deeper (envOfC qual (defScope st) s.heap.objs.size f cdv)) → sp vs H Q E →
      ∃ t, PSs (cxOf CX0 P w K mg base N qual (defScope st) f cdv A outer s H E).nox (defBody st) t ∧ t { nx := fun _ H' => Q .non H', rt := Q } (start N vs) H) : ClM P w K mg base CX0 (k + 1) C m sp := by
  obtain ⟨f, fd, F, hm, hb⟩ := D.ex
  exact ⟨f, fd, ps, F.ok S len (hbody f), hm, hb⟩
theorem mk_clI (D : DeI K C qual st ps) (S : FnScope N ps (defScope st)) (len : ∀ vs H Q E, sp vs H Q E → vs.length = ps.length)
    (hbody : ∀ (f : Addr) (cdv : Value) (A : Around) (outer : List Env) (s : Shared) (H : Hp) (vs : List V) (Q : VK) (E : XK), Room k (A.deeper (envOfC qual (defScope st) s.heap.objs.size f cdv)) → sp vs H Q E →
      ∃ t, PSs (cxOf CX0 P w K mg base N qual (defScope st) f cdv A outer s H E).nox (defBody st) t ∧ t { nx := fun _ H' => Q .non H', rt := Q } (start N vs) H) : ClI P w K mg base CX0 (k + 1) C sp := by
  obtain ⟨f, fd, F, hm, hb⟩ := D.ex
  exact ⟨f, fd, ps, F.ok S len (hbody f), hm, hb⟩
theorem mk_clP (D : DeP K C m qual st) (S : FnScope N ["self"] (defScope st)) (len : ∀ vs H Q E, sp vs H Q E → vs.length = 1)
    (hbody : ∀ (f : Addr) (cdv : Value) (A : Around) (outer : List Env) (s : Shared) (H : Hp) (vs : List V) (Q : VK) (E : XK), Room k (A.deeper (envOfC qual (defScope st) s.heap.objs.size f cdv)) → sp vs H Q E →
      ∃ t, PSs (cxOf CX0 P w K mg base N qual (defScope st) f cdv A outer s H E).nox (defBody st) t ∧ t { nx := fun _ H' => Q .non H', rt := Q } (start N vs) H) : ClP P w K mg base CX0 (k + 1) C m sp := by
  obtain ⟨p, g, fd, F, hm, hb⟩ := D.ex
  exact ⟨p, g, fd, _, F.ok S len (hbody g), hm, hb⟩
end
section
variable {X : Cx} {CX : CXT} {j k : Nat} {x m : Str} {C : Addr} {sp : Sp} {E : XK} {e o : Expr} {es : List Expr} {t : TA} {ta : TE} {p pos apos : Pos}
theorem p_make (c : ClI X.prog X.w X.K X.mg X.base CX k C sp) (hr : Room j X.A) (hk : k + 1 ≤ j) (hg : Gl X x) (hm : X.mg x = some (.ref C)) (hx : Passes CX X E) (ha : PA X (e :: es) t)
    (hdb : (x == ("__debug__" : Str)) = false := by decide) (he : starEach (e :: es) X.env = (false, eval e X.env) :: starEach es X.env := by rfl) (hpl : (backTo pos (starEach es X.env)).any (·.1) = false := by rfl) :
    PE X (.Call (.Name x p) (e :: es) [] pos) (tMake C sp [] E t) := by
  obtain ⟨f, fd, ps, F, M, hb⟩ := c.ex
  exact pe_make M F (hr.mono hk) hg hm hb .nil hx ha hdb he hpl
theorem p_make0 (c : ClI X.prog X.w X.K X.mg X.base CX k C sp) (hr : Room j X.A) (hk : k + 1 ≤ j) (hg : Gl X x) (hm : X.mg x = some (.ref C)) (hx : Passes CX X E)
    (hdb : (x == ("__debug__" : Str)) = false := by decide) : PE X (.Call (.Name x p) [] [] pos) (tMake C sp [] E tNil) := by
  obtain ⟨f, fd, ps, F, M, hb⟩ := c.ex
  exact pe_make0 M F (hr.mono hk) hg hm hb .nil hx hdb
theorem p_prop (c : ClP X.prog X.w X.K X.mg X.base CX k C m sp) (he : PE X e ta) (cl : Cls X.K C) (hr : Room j X.A) (hk : k + 1 ≤ j) (hx : Passes CX X.nox E)
    (hab : attributeBase e m X.env (eval e X.env) = eval e X.env) : PE X (.Attribute e m pos) (tProp C sp [] E ta) := by
  obtain ⟨q, g, fd, ps, F, M, hb⟩ := c.ex
  exact pe_prop he cl M F (hr.mono hk) hb .nil hx hab
theorem p_meth {pl : Sem Bool} (c : ClM X.prog X.w X.K X.mg X.base CX k C m sp) (he : PE X o ta) (cl : Cls X.K C) (hr : Room j X.A) (hk : k ≤ j) (hx : Passes CX X E) (ha : PA X (e :: es) t)
    (hst : starEach (e :: es) X.env = (false, eval e X.env) :: starEach es X.env := by rfl) (hpl : (backTo pos (starEach es X.env)).any (·.1) = false := by rfl)
    (ht : eval (.Call (.Attribute o m apos) (e :: es) [] pos) X.env = (do
      let ov ← eval o X.env
      standAt apos.atName
      let (f, first) ← holding [ov] (getMethod ov m pl)
      callWith pos f first (backTo pos (starEach (e :: es) X.env)) (backToKw pos (keywordEach [] X.env))) := by rfl) :
    PE X (.Call (.Attribute o m apos) (e :: es) [] pos) (tMeth C m sp [] E ta t) := by
  obtain ⟨f, fd, ps, F, M, hb⟩ := c.ex
  exact pe_meth he cl M F (hr.mono hk) hb .nil hx ha hst hpl ht
theorem p_meth0 {pl : Sem Bool} (c : ClM X.prog X.w X.K X.mg X.base CX k C m sp) (he : PE X o ta) (cl : Cls X.K C) (hr : Room j X.A) (hk : k ≤ j) (hx : Passes CX X E)
    (ht : eval (.Call (.Attribute o m apos) [] [] pos) X.env = (do
      let ov ← eval o X.env
      standAt apos.atName
      let (f, first) ← holding [ov] (getMethod ov m pl)
      callWith pos f first (backTo pos (starEach [] X.env)) (backToKw pos (keywordEach [] X.env))) := by rfl) :
    PE X (.Call (.Attribute o m apos) [] [] pos) (tMeth C m sp [] E ta tNil) := by
  obtain ⟨f, fd, ps, F, M, hb⟩ := c.ex
  exact pe_meth0 he cl M F (hr.mono hk) hb .nil hx ht
end
/-! ### operators by an own method -/
def rOwnIn (C : Addr) (sp : Sp) (neg : Bool) (E : XK) : R2 := fun x y H Q => ∃ (a dx : Addr) (fs : List (Str × V)), y = .ref a ∧ H a = some (.ins C dx fs) ∧ sp [y, x] H (fun v H' => ∃ b : Bool, v = .bl b ∧ Q (.bl (neg ^^ b)) H') E
def rOwnOp (C : Addr) (sp : Sp) (E : XK) : R2 := fun x y H Q => ∃ (a dx b dy : Addr) (fs gs : List (Str × V)), x = .ref a ∧ H a = some (.ins C dx fs) ∧ y = .ref b ∧ H b = some (.ins C dy gs) ∧ sp [x, y] H Q E
theorem back_of {X : Cx} {pins : List (Addr × Obj)} {σ : L2.St} {Q : VK} {u : Value} {s : Shared} (h : EP X pins σ Q u s) : PySem.W.CmpBack (EP X pins σ Q) u s := by
  cases u <;> first | exact h | skip
  obtain ⟨v, H', _, r, _⟩ := h
  cases v <;> first | (have r : _ = _ := r; cases r) | (obtain ⟨_, r⟩ := (r : ∃ _, _ = _); cases r) | exact False.elim r
section
variable {X : Cx} {CX : CXT} {j k : Nat} {C : Addr} {sp : Sp} {E : XK}
theorem k_ownIn (c : ClM X.prog X.w X.K X.mg X.base CX k C "__contains__" sp) (hr : Room j X.A) (hk : k ≤ j) (hx : Passes CX X E) : OpR X (compareOp .In) (rOwnIn C sp false E) := by
  intro pins s σ H x y v u Q I rx ry h
  obtain ⟨a, dx, fs, rfl, ea, q⟩ := h
  obtain rfl : u = Value.ref a := ry
  obtain ⟨f, fd, ps, F, M, hb⟩ := c.ex
  obtain ⟨mA, O, _, _, _, _⟩ := ins_get I.hok ea
  obtain ⟨od, J, _⟩ := O.look
  obtain ⟨fm, hf⟩ := I.fr
  refine PySem.W.in_K hf I.ok.mod.kin J M.at_ M.fn ?_
  refine thn (run_fn (us := [.ref a, v]) (vs := [.ref a, x]) F (hr.mono hk) hb .nil hx I (.cons rfl (.cons rx .nil)) q) fun r s1 ⟨w1, H1, I1, rw1, b, ew, q1⟩ => ?_
  subst ew
  obtain rfl : r = Value.bool b := rw1
  exact wpAny_truthy_bool ⟨.bl b, H1, I1, rfl, by rw [Bool.false_xor] at q1; exact q1⟩
theorem k_ownNotIn (c : ClM X.prog X.w X.K X.mg X.base CX k C "__contains__" sp) (hr : Room j X.A) (hk : k ≤ j) (hx : Passes CX X E) : OpR X (compareOp .NotIn) (rOwnIn C sp true E) := by
  intro pins s σ H x y v u Q I rx ry h
  obtain ⟨a, dx, fs, rfl, ea, q⟩ := h
  obtain rfl : u = Value.ref a := ry
  obtain ⟨f, fd, ps, F, M, hb⟩ := c.ex
  obtain ⟨mA, O, _, _, _, _⟩ := ins_get I.hok ea
  obtain ⟨od, J, _⟩ := O.look
  obtain ⟨fm, hf⟩ := I.fr
  refine PySem.W.notIn_K hf I.ok.mod.kin J M.at_ M.fn ?_
  refine thn (run_fn (us := [.ref a, v]) (vs := [.ref a, x]) F (hr.mono hk) hb .nil hx I (.cons rfl (.cons rx .nil)) q) fun r s1 ⟨w1, H1, I1, rw1, b, ew, q1⟩ => ?_
  subst ew
  obtain rfl : r = Value.bool b := rw1
  exact wpAny_truthy_bool ⟨.bl (!b), H1, I1, rfl, by rw [Bool.true_xor] at q1; exact q1⟩
theorem k_ownAdd (c : ClM X.prog X.w X.K X.mg X.base CX k C "__add__" sp) (hs : PySem.W.selfFirst X.K C = true) (hr : Room j X.A) (hk : k ≤ j) (hx : Passes CX X E) : OpR X (binaryOp .Add) (rOwnOp C sp E) := by
  intro pins s σ H x y v u Q I rx ry h
  obtain ⟨a, dx, b, dy, fs, gs, rfl, ea, rfl, eb, q⟩ := h
  obtain rfl : v = Value.ref a := rx
  obtain rfl : u = Value.ref b := ry
  obtain ⟨f, fd, ps, F, M, hb⟩ := c.ex
  obtain ⟨mA, O, _, _, _, _⟩ := ins_get I.hok ea
  obtain ⟨od, J, _⟩ := O.look
  obtain ⟨mB, OB, _, _, _, _⟩ := ins_get I.hok eb
  obtain ⟨ob, JB, _⟩ := OB.look
  obtain ⟨fm, hf⟩ := I.fr
  refine PySem.W.binop_K hf I.ok.mod.kin J JB.type hs M.at_ M.fn ?_
  exact thn (run_fn (us := [.ref a, .ref b]) (vs := [.ref a, .ref b]) F (hr.mono hk) hb .nil hx I (.cons rfl (.cons rfl .nil)) q) fun r s1 h1 => back_of h1
end
end Hb
namespace Hb
open PySem PySem.Spec PyProof.Rows L2
/-! ### powers of wide numbers; the wells of numbers that the laws draw from -/
def CPowB (i j : Int) : Prop := 0 ≤ j ∧ j ≤ 1000 ∧ i.natAbs < 2 ^ 2000
theorem op_powB {X : Cx} : OpR X (binaryOp .Pow) (rI CPowB fun i j => .int (i ^ j.toNat)) := opI fun i j _ _ _ _ _ hc q => by
  have h1 : (Builtin.Int.intBits i : Int) ≤ 2000 := by exact_mod_cast PyProof.Rows.intBits_le hc.2.2
  have h0 := hc.1
  have h2 := hc.2.1
  refine pow_int h0 (Int.le_trans (Int.mul_le_mul h1 h2 h0 (by decide)) (by decide)) q
theorem powB_of {i : Int} {j : Int} (h0 : 0 ≤ i) (h : i < 2 ^ 1000) (hj : 0 ≤ j) (hj2 : j ≤ 1000) : CPowB i j := by
  refine ⟨hj, hj2, Nat.lt_of_lt_of_le (m := 2 ^ 1000) ?_ (Nat.pow_le_pow_right (by decide) (by decide))⟩
  have : ((i.natAbs : Nat) : Int) < ((2 ^ 1000 : Nat) : Int) := by rw [Int.natAbs_of_nonneg h0]; exact_mod_cast h
  exact_mod_cast this
/-! cuts: what a statement leaves, and what is made of it -/
theorem cutN {te : TE} {rest : TS} {D : Ends} {σ : L2.St} {H : Hp} {i : Nat} (Pv : V → Hp → Prop) (h1 : ∀ Q' : VK, (∀ v H6, Pv v H6 → Q' v H6) → te σ H Q') (h2 : ∀ v H6, Pv v H6 → rest D (σ.set i (some v)) H6) :
    tSeq (tAsg te (gName i)) rest D σ H := h1 _ h2
theorem cutS {a rest : TS} {D : Ends} {σ : L2.St} {H : Hp} (Pv : L2.St → Hp → Prop) (h1 : ∀ D' : Ends, (∀ σ H, Pv σ H → D'.nx σ H) → a D' σ H) (h2 : ∀ σ H, Pv σ H → rest D σ H) : tSeq a rest D σ H := h1 _ h2
theorem lt_wide {m : Int} (h : m ≤ 10000000) : m < 2 ^ 1000 := Int.lt_of_le_of_lt h (by decide +kernel)
/-- a well: its numbers, how often it was drawn from at most -/
def WellAt (H : Hp) (p : Addr) (N : Nat) : Prop := ∃ w0 w1 w2 : Int, H p = some (.lst [.int w0, .int w1, .int w2]) ∧ 0 ≤ w1 ∧ w1 < 2 ^ 131 ∧ 0 ≤ w2 ∧ w2 ≤ (N : Int)
theorem WellAt.mono {H : Hp} {p : Addr} {N M : Nat} (h : WellAt H p N) (e : N ≤ M) : WellAt H p M := by
  obtain ⟨a, b, c, h1, h2, h3, h4, h5⟩ := h
  exact ⟨a, b, c, h1, h2, h3, h4, by omega⟩
theorem WellAt.same {H H' : Hp} {p : Addr} {N : Nat} (h : WellAt H p N) (s : Same H H') : WellAt H' p N := by
  obtain ⟨a, b, c, h1, h⟩ := h
  exact ⟨a, b, c, s _ _ h1, h⟩
theorem WellAt.kp {H H' : Hp} {S : List Addr} {p : Addr} {N : Nat} (h : WellAt H p N) (k : Kp S H H') (n : p ∉ S) : WellAt H' p N := by
  obtain ⟨a, b, c, h1, h⟩ := h
  exact ⟨a, b, c, k _ _ n h1, h⟩
end Hb
namespace Hb
open PySem PySem.Spec PyProof.Rows L2
/-! ### comprehensions over a list of naturals -/
theorem getD_all (l : List Nat) : (List.range l.length).map (fun i => l.getD i 0) = l := by
  refine List.ext_getElem (by simp) fun i h1 h2 => ?_
  simp only [List.getElem_map, List.getElem_range]
  rw [List.getD_eq_getElem?_getD, List.getElem?_eq_getElem h2]; rfl
theorem given_nats (l : List Nat) (q : Nat → Bool) (u : Nat → V) : given l.length (fun i => q (l.getD i 0)) (fun i => u (l.getD i 0)) = (l.filter q).map u := by
  unfold given
  have e : l.filter q = ((List.range l.length).filter (fun i => q (l.getD i 0))).map (fun i => l.getD i 0) := by
    conv => lhs; rw [← getD_all l]
    rw [List.filter_map]; rfl
  rw [e, List.map_map]; rfl
section
variable {K : PySem.W.Frag} {a : Addr} {l : List Nat} {g : TG} {tt : TT} {te : TE} {vs : List Nat} {σ : L2.St} {H1 : Hp} {D : Addr} {Qd : Hp → Prop}
theorem lc_nats (hL : SqL K H1 a (nv l)) (hD : H1 D = none) (hn : l.length ≤ 50000) (q : Nat → Bool) (u : Nat → V)
    (hs : ∀ (x : Nat) (H : Hp) (Q : V → Hp → Prop) (Qn : Hp → Prop), x ∈ l → Same H1 H → (q x = true → ∀ H4, Same H H4 → Q (u x) H4) → (q x = false → ∀ H3, Same H H3 → Qn H3) →
      g (.int (x : Int)) (wipe σ vs) H fun σ2 H2 => wipe σ2 vs = wipe σ vs ∧ tt σ2 H2 fun b H3 => if b = true then te σ2 H3 Q else Qn H3)
    (hd : ∀ H, Same H1 H → H D = some (.lst ((l.filter q).map u)) → Qd H) :
    ∃ W : Nat → Nat → Hp → Prop, (∃ m, W 0 m (upd H1 D (.lst []))) ∧ ∀ i m H, W i m H →
      ((Itl K a).stop i H ∧ Qd H) ∨ ((Itl K a).go i H ∧ ∃ Nx : Hp → Prop, (∀ H', Nx H' → ∃ m', m' < m ∧ W (i + 1) m' H') ∧ ∀ x H', (Itl K a).yld i H x H' → g x (wipe σ vs) H' fun σ2 H2 => wipe σ2 vs = wipe σ vs ∧ tt σ2 H2 fun b H3 =>
        if b = true then te σ2 H3 fun y H4 => ∃ acc, H4 D = some (.lst acc) ∧ acc.length < sizeLine ∧ Nx (upd H4 D (.lst (acc ++ [y]))) else Nx H3) := by
  have hll : (nv l).length = l.length := List.length_map _
  refine lc_flat (walk_list (xs := nv l)) hD (by omega) (fun i => q (l.getD i 0)) (fun i => u (l.getD i 0)) (fun H2 s2 => s2.seq hL) (fun i x H2 H3 Qe Qn hi s2 y kT kF => ?_) (fun H2 s2 hD2 => ?_)
  · obtain ⟨rfl, hx⟩ := y
    have hi' : i < l.length := by omega
    have e : l.getD i 0 = l[i] := by rw [List.getD_eq_getElem?_getD, List.getElem?_eq_getElem hi']; rfl
    rw [nv_get (List.getElem?_eq_getElem hi')] at hx
    cases hx
    rw [e] at kT kF
    exact hs l[i] _ Qe Qn (List.getElem_mem hi') s2 kT kF
  · rw [hll, given_nats] at hD2
    exact hd H2 s2 hD2
theorem lc_natsM (hL : SqL K H1 a (nv l)) (hD : H1 D = none) (hn : l.length ≤ 50000) (u : Nat → V)
    (hs : ∀ (x : Nat) (H : Hp) (Q : V → Hp → Prop), x ∈ l → Same H1 H → (∀ H4, Same H H4 → Q (u x) H4) → g (.int (x : Int)) (wipe σ vs) H fun σ2 H2 => wipe σ2 vs = wipe σ vs ∧ te σ2 H2 Q)
    (hd : ∀ H, Same H1 H → H D = some (.lst (l.map u)) → Qd H) :
    ∃ W : Nat → Nat → Hp → Prop, (∃ m, W 0 m (upd H1 D (.lst []))) ∧ ∀ i m H, W i m H →
      ((Itl K a).stop i H ∧ Qd H) ∨ ((Itl K a).go i H ∧ ∃ Nx : Hp → Prop, (∀ H', Nx H' → ∃ m', m' < m ∧ W (i + 1) m' H') ∧ ∀ x H', (Itl K a).yld i H x H' → g x (wipe σ vs) H' fun σ2 H2 => wipe σ2 vs = wipe σ vs ∧ tYes σ2 H2 fun b H3 =>
        if b = true then te σ2 H3 fun y H4 => ∃ acc, H4 D = some (.lst acc) ∧ acc.length < sizeLine ∧ Nx (upd H4 D (.lst (acc ++ [y]))) else Nx H3) := by
  refine lc_nats hL hD hn (fun _ => true) u (fun x H Q Qn hx s kT kF => ?_) (fun H s h => hd H s (by rw [h, List.filter_eq_self.mpr (fun _ _ => rfl)]))
  exact hs x H Q hx s (fun H4 s4 => kT rfl H4 s4)
end
theorem iteN {c : Bool} {A B : Prop} (h : c = false) (k : B) : if c = true then A else B := by rw [h, if_neg Bool.false_ne_true]; exact k
theorem iteY {c : Bool} {A B : Prop} (h : c = true) (k : A) : if c = true then A else B := by rw [h, if_pos rfl]; exact k
end Hb
namespace Hb
open PySem PySem.Spec PyProof.Rows L2
/-! ### comprehensions of two parts -/
section
variable {J : It} {n : Nat} {G : Hp → Prop} {Y : Nat → Hp → V → Hp → Prop} {H1 : Hp} {D : Addr}
/-- the outer part: acc i is what is made behind i turns -/
theorem lc2_out (w : Walk J n G Y) {g : TG} {tt : TT} {wi1 : TI} {IN : L2.St → (Hp → Prop) → It → Hp → Prop} {vs : List Nat} {σ : L2.St} {Qd : Hp → Prop} (hD : H1 D = none) (acc : Nat → List V) (h0 : acc 0 = []) (hG : ∀ H, Same H1 H → G H)
    (hs : ∀ i x H H', i < n → Same H1 H → H D = some (.lst (acc i)) → Y i H x H' → ∀ Nx : Hp → Prop, (∀ H2, Same H1 H2 → H2 D = some (.lst (acc (i + 1))) → Nx H2) →
      g x (wipe σ vs) H' fun σ2 H2 => wipe σ2 vs = wipe σ vs ∧ tt σ2 H2 fun b H3 => if b = true then wi1 σ2 H3 (IN σ2 Nx) else Nx H3)
    (hd : ∀ H, Same H1 H → H D = some (.lst (acc n)) → Qd H) :
    ∃ W : Nat → Nat → Hp → Prop, (∃ m, W 0 m (upd H1 D (.lst []))) ∧ ∀ i m H, W i m H →
      (J.stop i H ∧ Qd H) ∨ (J.go i H ∧ ∃ Nx : Hp → Prop, (∀ H', Nx H' → ∃ m', m' < m ∧ W (i + 1) m' H') ∧ ∀ x H', J.yld i H x H' → g x (wipe σ vs) H' fun σ2 H2 => wipe σ2 vs = wipe σ vs ∧ tt σ2 H2 fun b H3 =>
        if b = true then wi1 σ2 H3 (IN σ2 Nx) else Nx H3) := by
  refine ⟨fun i m H => m = n - i ∧ i ≤ n ∧ Same H1 H ∧ H D = some (.lst (acc i)), ⟨n, by simp, Nat.zero_le _, same_new0 hD, by rw [upd_same, h0]⟩, ?_⟩
  rintro i m H ⟨rfl, hi, sm, hl⟩
  have q := hG H sm
  by_cases hlt : i < n
  · exact .inr ⟨w.goes i H hlt q, fun H2 => Same H1 H2 ∧ H2 D = some (.lst (acc (i + 1))), fun H' p' => ⟨n - (i + 1), by omega, rfl, hlt, p'⟩, fun x H' y => hs i x H H' hlt sm hl (w.yields i H x H' hlt q y) _ fun H2 a b => ⟨a, b⟩⟩
  · have e : i = n := by omega
    subst e
    exact .inl ⟨w.stops H q, hd H sm hl⟩
/-- the inner part -/
theorem lc2_in {J1 : It} {n1 : Nat} {G1 : Hp → Prop} {Y1 : Nat → Hp → V → Hp → Prop} (w1 : Walk J1 n1 G1 Y1) {g1 : TG} {tt1 : TT} {te : TE} {vs1 : List Nat} {σ2 : L2.St} {H4 : Hp} {Nx : Hp → Prop} (hD : H1 D = none) (a0 : List V) (f1 : Nat → Bool) (v1 : Nat → V)
    (s4 : Same H1 H4) (h4 : H4 D = some (.lst a0)) (hn : a0.length + n1 ≤ 100000) (hG : ∀ H, Same H1 H → G1 H)
    (hs : ∀ j x H H' (Q : V → Hp → Prop) (Qn : Hp → Prop), j < n1 → Same H1 H → Y1 j H x H' → (f1 j = true → ∀ H7, Same H H7 → Q (v1 j) H7) → (f1 j = false → ∀ H7, Same H H7 → Qn H7) →
      g1 x (wipe σ2 vs1) H' fun σ3 H5 => wipe σ3 vs1 = wipe σ2 vs1 ∧ tt1 σ3 H5 fun b H6 => if b = true then te σ3 H6 Q else Qn H6)
    (hd : ∀ H, Same H1 H → H D = some (.lst (a0 ++ given n1 f1 v1)) → Nx H) :
    ∃ W1 : Nat → Nat → Hp → Prop, (∃ m, W1 0 m H4) ∧ ∀ j k H, W1 j k H →
      (J1.stop j H ∧ Nx H) ∨ (J1.go j H ∧ ∃ Nx1 : Hp → Prop, (∀ H', Nx1 H' → ∃ k', k' < k ∧ W1 (j + 1) k' H') ∧ ∀ x H', J1.yld j H x H' → g1 x (wipe σ2 vs1) H' fun σ3 H5 => wipe σ3 vs1 = wipe σ2 vs1 ∧ tt1 σ3 H5 fun b H6 =>
        if b = true then te σ3 H6 fun y H7 => ∃ acc, H7 D = some (.lst acc) ∧ acc.length < sizeLine ∧ Nx1 (upd H7 D (.lst (acc ++ [y]))) else Nx1 H6) := by
  refine ⟨fun j m H => m = n1 - j ∧ j ≤ n1 ∧ Same H1 H ∧ H D = some (.lst (a0 ++ given j f1 v1)), ⟨n1, by simp, Nat.zero_le _, s4, by rw [given_zero, List.append_nil]; exact h4⟩, ?_⟩
  rintro j m H ⟨rfl, hj, sm, hl⟩
  have q := hG H sm
  by_cases hlt : j < n1
  · refine .inr ⟨w1.goes j H hlt q, fun H2 => Same H1 H2 ∧ H2 D = some (.lst (a0 ++ given (j + 1) f1 v1)), fun H' p' => ⟨n1 - (j + 1), by omega, rfl, hlt, p'⟩, fun x H' y => ?_⟩
    refine hs j x H H' _ _ hlt sm (w1.yields j H x H' hlt q y) (fun hf H7 s7 => ?_) (fun hf H7 s7 => ?_)
    · have gl := given_len j f1 v1
      refine ⟨_, s7 _ _ hl, by rw [List.length_append]; exact sz_lt2 (by omega), same_put hD (sm.trans s7), ?_⟩
      rw [upd_same, given_yes hf, List.append_assoc]
    · exact ⟨sm.trans s7, by rw [given_no hf]; exact s7 _ _ hl⟩
  · have e : j = n1 := by omega
    subst e
    exact .inl ⟨w1.stops H q, hd H sm hl⟩
end
end Hb
namespace Hb
open PySem PySem.Spec PyProof.Rows L2
/-! ### sorted(xs), xs a list of lists of naturals: a permutation -/
abbrev encL (b : Addr × List Nat) : PyData := .list ((b.2.map fun (k : Nat) => (k : Int)).map .int)
def rSortedD (K : PySem.W.Frag) : List V → Hp → VK → Prop := fun vs H Q => ∃ (a : Addr) (bs : List (Addr × List Nat)), vs = [V.ref a] ∧ SqL K H a (bs.map fun b => V.ref b.1) ∧ (∀ b ∈ bs, H b.1 = some (.lst (nv b.2))) ∧
  ∀ (cs : List (Addr × List Nat)) (q : Addr), cs.Perm bs → H q = none → Q (.ref q) (upd H q (.lst (cs.map fun b => V.ref b.1)))
theorem vals_refs : ∀ {bs : List (Addr × List Nat)} {its : List Value}, Vals (bs.map fun b => V.ref b.1) its → its = bs.map fun b => Value.ref b.1
  | [], its, h => by cases h; rfl
  | b :: bs, its, h => by
    cases h with
    | cons r t => rw [vals_refs t]; cases r; rfl
theorem refs_vals : ∀ bs : List (Addr × List Nat), Vals (bs.map fun b => V.ref b.1) (bs.map fun b => Value.ref b.1)
  | [] => .nil
  | b :: bs => .cons rfl (refs_vals bs)
theorem each_refs : ∀ bs : List (Addr × List Nat), PySem.W.EachIs (fun v b => v = Value.ref b.1) (bs.map fun b => Value.ref b.1) bs
  | [] => .nil
  | b :: bs => .cons rfl (each_refs bs)
theorem refs_each : ∀ {out : List Value} {cs : List (Addr × List Nat)}, PySem.W.EachIs (fun v b => v = Value.ref b.1) out cs → out = cs.map fun b => Value.ref b.1
  | [], [], _ => rfl
  | _ :: _, _ :: _, .cons h t => by rw [h, refs_each t]; rfl
theorem k_sortedD {X : Cx} {K : PySem.W.Frag} (hu : X.A.units + 64 < cLine) (hK : X.K = K := by rfl) : CallR X (.builtin "sorted") (rSortedD K) := by
  subst hK
  intro pins s σ H vs us Q I r h
  obtain ⟨a, bs, rfl, hs, hb, q⟩ := h
  obtain ⟨its, rv, hl, hz⟩ := I.list hs
  rw [Vals.ref1 r]
  have ei := vals_refs rv
  subst ei
  rw [List.length_map] at hz
  have er : ∀ (l : List (Addr × List Nat)), (∀ b ∈ l, b ∈ bs) → PySem.W.EachIs (fun v b => ∃ as, Reads s.heap v (encL b) as) (l.map fun b => Value.ref b.1) l := by
    intro l
    induction l with
    | nil => intro _; exact .nil
    | cons b l ih =>
      intro hm
      refine .cons ?_ (ih fun c hc => hm c (by simp [hc]))
      have hd : Dp X.K H (.ref b.1) (encL b) := by
        have e : nv b.2 = (b.2.map fun (k : Nat) => (k : Int)).map V.int := nv_int b.2
        have hL := hb b (hm b (by simp))
        rw [e] at hL
        refine Dp.lst (.of hL) ?_
        generalize (b.2.map fun (k : Nat) => (k : Int)) = ns
        induction ns with
        | nil => exact DpAll.nil
        | cons n ns ih2 => exact DpAll.cons (Dp.int n) ih2
      exact Dp.reads I _ _ _ hd rfl
  refine PySem.W.sorted_data (enc := encL) (R := fun v b => v = Value.ref b.1) (bs := bs) hl.isList (each_refs bs) (er bs fun b h => h) (PySem.W.AllAlike.of fun b b' => PySem.W.alike_ints _ _) (PySem.W.Sortable.others fun b => ⟨fun e => (by cases e), fun xs e => (by cases e)⟩) hz (fun b _ => ?_) (fun out hlen he => ?_)
  · have hd : (encL b).depth = 1 := by
      show PyData.depthAll _ + 1 = 1
      rw [PySem.W.depth_ints]
    rw [hd]; omega
  · have eo := refs_each he
    obtain ⟨ep, he'⟩ := PyProof.Rows.sortedAll_at s.heap (bs.map fun b => Value.ref b.1) out.toArray
    have hp : (bs.mergeSort (PySem.W.dataLe false encL)).Perm bs := List.mergeSort_perm _ _
    refine ⟨.ref _, upd H (s.heap.objs.size + 1) (.lst ((bs.mergeSort (PySem.W.dataLe false encL)).map fun b => V.ref b.1)), I.laid (t' := s.toks) (fun _ _ => PyProof.Rows.sortedAll_old) (Nat.le_succ _) ⟨?_, out, ep, ?_, he'⟩, rfl, q _ _ hp (I.hok.fresh (Nat.le_succ _))⟩
    · rw [List.length_map, hp.length_eq]; exact hz
    · rw [eo]; exact refs_vals _
end Hb
namespace Hb
open PySem PySem.Spec PyProof.Rows L2
def top (i : Nat) : Stmt := PySem.Challenge.pw_heldbehind_k69_whole_turned_pairs_by_siz.main.body.getD i (.Pass ⟨0, 0, 0, 0⟩)
section
variable {P : Program} {w : World} {K : PySem.W.Frag} {mg : Str → Option Value} {base : Heap}
/-! ### is_integer -/
abbrev s_is_integer : Stmt := top 8
abbrev n_is_integer : List Str := ["value", "least", "most"]
theorem sc_is_integer : FnScope n_is_integer ["value", "least", "most"] (defScope s_is_integer) := ⟨rfl, rfl, rfl, by decide +kernel, rfl, by decide +kernel, by decide +kernel⟩

def oi : Option Int → V
  | none => .non
  | some i => .int i
inductive Sc1 : V → Prop
  | non : Sc1 .non
  | bl (b : Bool) : Sc1 (.bl b)
  | int (i : Int) : Sc1 (.int i)
def loB : Option Int → Int → Bool
  | none, _ => true
  | some l, i => decide (l ≤ i)
def hiB : Int → Option Int → Bool
  | _, none => true
  | i, some h => decide (i ≤ h)
def isInt (v : V) (lo hi : Option Int) : Bool := match v with
  | .int i => loB lo i && hiB i hi
  | _ => false
def sp_is_integer : Sp := fun vs H Q _ => ∃ (v : V) (lo hi : Option Int), vs = [v, oi lo, oi hi] ∧ Sc1 v ∧ Q (.bl (isInt v lo hi)) H
theorem c_is_integer (D : De K mg "is_integer" s_is_integer ["value", "least", "most"]) (B : Bu mg) : Cl P w K mg base CX0 1 "is_integer" sp_is_integer := by
  refine mk_cl D sc_is_integer (fun vs H Q E h => ?_) (fun f cdv A outer s H vs Q E hr h => ?_)
  · obtain ⟨v, lo, hi, rfl, _⟩ := h
    rfl
  · obtain ⟨v, lo, hi, rfl, hv, k⟩ := h
    have nd := sc_is_integer.nd
    refine ⟨_, (pss_cons (ps_if (PW.pt (pw_or (pt_not (pt_val (pe_callB (k_isi (K := K)) (by rfl) B.isinstance_ (by decide +kernel) (pa_cons (pv 0) (pa_cons (pe_bltn (v := .ty "int") (by rfl) B.int_ bt_int rfl) pa_nil))))) (pw_or1 (pt_val (pe_callB (k_isi (K := K)) (by rfl) B.isinstance_ (by decide +kernel) (pa_cons (pv 0) (pa_cons (pe_bltn (v := .ty "bool") (by rfl) B.bool_ bt_bool rfl) pa_nil)))))))
        (pss_one (ps_ret pe_bl))
        pss_nil)
      (pss_one (ps_ret (pe_and (pe_or (pe_cmpR op_isN (pv 1) pe_non (nomark _)) (pe_one (pe_cmpR op_le (pv 1) (pv 0) (nomark _)))) (pe_one (pe_or (pe_cmpR op_isN (pv 2) pe_non (nomark _)) (pe_one (pe_cmpR op_le (pv 0) (pv 2) (nomark _))))))))), ?_⟩
    cases hv with
    | non =>
      refine ⟨_, rfl, _, _, _, _, false, rfl, .ty _, .base .non, kit_ty (by decide +kernel), _, rfl, ?_⟩
      exact k
    | bl b =>
      refine ⟨_, rfl, _, _, _, _, true, rfl, .ty _, .base (.bl b), kit_ty (by decide +kernel), _, rfl, ?_⟩
      refine ⟨_, rfl, _, _, _, _, true, rfl, .ty _, .base (.bl b), kit_ty (by decide +kernel), _, rfl, ?_⟩
      exact k
    | int i =>
      refine ⟨_, rfl, _, _, _, _, true, rfl, .ty _, .base (.int i), kit_ty (by decide +kernel), _, rfl, ?_⟩
      refine ⟨_, rfl, _, _, _, _, false, rfl, .ty _, .base (.int i), kit_ty (by decide +kernel), _, rfl, ?_⟩
      have rest : if loB lo i = true then Q (.bl (hiB i hi)) H else Q (.bl false) H := by
        have k' : Q (.bl (loB lo i && hiB i hi)) H := k
        cases hb : loB lo i with
        | false => rw [hb] at k'; exact k'
        | true => rw [hb] at k'; exact k'
      have fin : ∀ b : Bool, (if b = true then Q (.bl (hiB i hi)) H else Q (.bl false) H) →
          (if b = true then tOrV (tOp (fun x y H Q => y = .non ∧ Q (.bl (decide (x = .non))) H) (tVar 2) (tC .non)) (tOp (rI0 fun i j => .bl (decide (i ≤ j))) (tVar 0) (tVar 2)) (start n_is_integer [V.int i, oi lo, oi hi]) H Q else Q (.bl false) H) := fun b r => by
        cases b with
        | false => exact r
        | true =>
          cases hi with
          | none => exact ⟨_, rfl, rfl, _, rfl, r⟩
          | some h => exact ⟨_, rfl, rfl, _, rfl, _, rfl, _, rfl, _, _, rfl, rfl, r⟩
      cases lo with
      | none => exact ⟨_, rfl, rfl, _, rfl, true, rfl, fin true rest⟩
      | some l => exact ⟨_, rfl, rfl, _, rfl, _, rfl, _, rfl, _, _, rfl, rfl, decide (l ≤ i), rfl, fin _ rest⟩
end
end Hb
namespace Hb
open PySem PySem.Spec PyProof.Rows L2
section
variable {P : Program} {w : World} {K : PySem.W.Frag} {mg : Str → Option Value} {base : Heap}
/-! ### factorial -/
abbrev s_factorial : Stmt := top 9
abbrev n_factorial : List Str := ["number", "found", "factor"]
theorem sc_factorial : FnScope n_factorial ["number"] (defScope s_factorial) := ⟨rfl, rfl, rfl, by decide +kernel, rfl, by decide +kernel, by decide +kernel⟩

theorem small62 {n : Nat} (h : n ≤ 100000) : -(2 ^ 62) ≤ (n : Int) ∧ (n : Int) < 2 ^ 62 := by omega
def sp_factorial : Sp := fun vs H Q _ => ∃ (n : Nat), vs = [.int (n : Int)] ∧ n ≤ 10000 ∧ Q (.int (fact n : Nat)) H
theorem c_factorial (D : De K mg "factorial" s_factorial ["number"]) (B : Bu mg) : Cl P w K mg base CX0 1 "factorial" sp_factorial := by
  refine mk_cl D sc_factorial (fun vs H Q E h => ?_) (fun f cdv A outer s H vs Q E hr h => ?_)
  · obtain ⟨n, rfl, _⟩ := h
    rfl
  · obtain ⟨n, rfl, hn, k⟩ := h
    have nd := sc_factorial.nd
    refine ⟨_, (pss_cons (ps_set (i := 1) nd rfl (Or.inl rfl) pe_int)
      (pss_cons (ps_for PassesOwn.never rfl (pi_range2 (by rfl) B.range_ (pa_cons pe_int (pa_cons (pe_op op_add (pv 0) pe_int) pa_nil))) (pg_name (i := 2) nd rfl (Or.inl rfl))
        (pss_one (ps_set (i := 1) nd rfl (Or.inl rfl) (pe_op op_mul (pv 1) (pv 2)))))
      (pss_one (ps_ret (pv 1))))), ?_⟩
    refine ⟨_, rfl, _, _, rfl, rfl, _, _, rfl, ⟨by omega, by omega, by omega, by omega⟩, ?_⟩
    refine for_range (lo := 2) (n := ((n : Int) + 1 - 2).toNat) (fun i σ H' => ∃ v, σ = [some (.int (n : Int)), some (.int (fact (i + 1) : Nat)), v] ∧ H' = H) ⟨none, rfl, rfl⟩ ?_ ?_
    · rintro i σ H' hi ⟨v, rfl, rfl⟩
      refine ⟨_, rfl, _, rfl, _, _, rfl, rfl, .inr ⟨by omega, by omega⟩, ?_⟩
      have e : ((fact (i + 1) : Nat) : Int) * (2 + (i : Int)) = ((fact (i + 1 + 1) : Nat) : Int) := by
        show _ = ((fact (i + 1) * (i + 1 + 1) : Nat) : Int)
        rw [Int.natCast_mul]
        congr 1
        omega
      exact ⟨some (.int (2 + (i : Int))), by rw [← e]; rfl, rfl⟩
    · rintro σ H' ⟨v, rfl, rfl⟩
      refine ⟨_, rfl, ?_⟩
      have e : fact (((n : Int) + 1 - 2).toNat + 1) = fact n := by
        cases n with
        | zero => rfl
        | succ n => congr 1; omega
      rw [e]
      exact k
/-! ### is_rooted -/
abbrev s_is_rooted : Stmt := top 11
abbrev n_is_rooted : List Str := ["forest", "thing", "here", "step"]
theorem sc_is_rooted : FnScope n_is_rooted ["forest"] (defScope s_is_rooted) := ⟨rfl, rfl, rfl, by decide +kernel, rfl, by decide +kernel, by decide +kernel⟩

def sp_is_rooted (K : PySem.W.Frag) : Sp := fun vs H Q _ => ∃ (a : Addr) (f : Fo), vs = [.ref a] ∧ SqT K H a (hv f) ∧ f.length ≤ 1000 ∧ (∀ t k, hd f t = some k → k < f.length) ∧ Q (.bl (rootB f)) H
theorem ov_none {h : Option Nat} : decide (ov h = .non) = h.isNone := by cases h <;> rfl
theorem c_is_rooted (D : De K mg "is_rooted" s_is_rooted ["forest"]) (B : Bu mg) : Cl P w K mg base CX0 1 "is_rooted" (sp_is_rooted K) := by
  refine mk_cl D sc_is_rooted (fun vs H Q E h => ?_) (fun fa cdv A outer s H vs Q E hr h => ?_)
  · obtain ⟨a, f, rfl, _⟩ := h
    rfl
  · obtain ⟨a, f, rfl, hS, hn, hlt, k⟩ := h
    have nd := sc_is_rooted.nd
    have hl : (hv f).length = f.length := hv_len f
    refine ⟨_, (pss_cons (ps_for PassesOwn.never rfl (pi_range1 (by rfl) B.range_ (pa_cons (pe_callB (k_len (K := K)) (by rfl) B.len_ PySem.boot_len (pa_cons (pv 0) pa_nil)) pa_nil)) (pg_name (i := 1) nd rfl (Or.inl rfl))
        (pss_cons (ps_set (i := 2) nd rfl (Or.inl rfl) (pe_ix (k_ix_tup (K := K)) (pv 0) (pv 1) (fun _ _ => rfl)))
        (pss_cons (ps_for PassesOwn.never rfl (pi_range1 (by rfl) B.range_ (pa_cons (pe_callB (k_len (K := K)) (by rfl) B.len_ PySem.boot_len (pa_cons (pv 0) pa_nil)) pa_nil)) (pg_name (i := 3) nd rfl (Or.inl rfl))
          (pss_one (ps_if (pt_cmpR op_notN (pv 2) pe_non (nomark _))
            (pss_one (ps_set (i := 2) nd rfl (Or.inl rfl) (pe_ix (k_ix_tup (K := K)) (pv 0) (pv 2) (fun _ _ => rfl))))
            pss_nil)))
        (pss_one (ps_if (pt_cmpR op_notN (pv 2) pe_non (nomark _))
          (pss_one (ps_ret pe_bl))
          pss_nil)))))
      (pss_one (ps_ret pe_bl))), ?_⟩
    refine ⟨_, rfl, a, _, rfl, .inr hS, _, rfl, by omega, by omega, ?_⟩
    refine for_range (lo := 0) (n := (((hv f).length : Nat) : Int).toNat) (fun i σ H' => ∃ v1 v2 v3, σ = [some (.ref a), v1, v2, v3] ∧ H' = H ∧ ∀ t, t < i → (itr f f.length (hd f t)).isNone = true) ⟨_, _, _, rfl, rfl, fun t ht => absurd ht (by omega)⟩ ?_ ?_
    · rintro i σ H' hi ⟨v1, v2, v3, rfl, rfl, hall⟩
      have hi' : i < f.length := by omega
      have e0 : (0 : Int) + (i : Int) = (i : Int) := by omega
      rw [e0]
      refine ⟨_, rfl, _, rfl, a, _, _, _, rfl, rfl, hS, atI_nat (hv_get (hd_get hi')), ?_⟩
      refine ⟨_, rfl, a, _, rfl, .inr hS, _, rfl, by omega, by omega, ?_⟩
      refine for_range (lo := 0) (n := (((hv f).length : Nat) : Int).toNat) (fun j σ H2 => ∃ v3, σ = [some (.ref a), some (.int (i : Int)), some (ov (itr f j (hd f i))), v3] ∧ H2 = H') ⟨_, rfl, rfl⟩ ?_ ?_
      · rintro j σ H2 hj ⟨v3, rfl, rfl⟩
        refine ⟨_, rfl, rfl, _, rfl, ?_⟩
        rw [ov_none]
        cases e : itr f j (hd f i) with
        | none =>
          refine iteF ?_
          have e1 : itr f (j + 1) (hd f i) = none := by simp [itr, e]
          rw [e1]
          exact ⟨_, rfl, rfl⟩
        | some z =>
          have hz := itr_lt hlt j (hd f i) (fun k q => hlt i k q) z e
          refine iteT ?_
          refine ⟨_, rfl, _, rfl, a, _, _, _, rfl, rfl, hS, atI_nat (hv_get (hd_get hz)), ?_⟩
          have e1 : itr f (j + 1) (hd f i) = hd f z := by simp [itr, e]
          rw [e1]
          exact ⟨_, rfl, rfl⟩
      · rintro σ H2 ⟨v3, rfl, rfl⟩
        have en : (((hv f).length : Nat) : Int).toNat = f.length := by omega
        rw [en]
        refine ⟨_, rfl, rfl, _, rfl, ?_⟩
        rw [ov_none]
        cases e : itr f f.length (hd f i) with
        | none =>
          refine iteF ⟨_, _, _, rfl, rfl, fun t ht => ?_⟩
          by_cases q : t = i
          · rw [q, e]; rfl
          · exact hall t (by omega)
        | some z =>
          refine iteT ?_
          have : rootB f = false := by
            unfold rootB
            rw [Bool.eq_false_iff]
            intro h
            have := List.all_eq_true.mp h i (List.mem_range.mpr hi')
            rw [e] at this; cases this
          rw [this] at k
          exact k
    · rintro σ H' ⟨v1, v2, v3, rfl, rfl, hall⟩
      have : rootB f = true := by
        unfold rootB
        rw [List.all_eq_true]
        intro t ht
        have := List.mem_range.mp ht
        exact hall t (by omega)
      rw [this] at k
      exact k
end
end Hb
namespace Hb
open PySem PySem.Spec PyProof.Rows L2
section
variable {P : Program} {w : World} {K : PySem.W.Frag} {mg : Str → Option Value} {base : Heap}
/-! ### is_forest -/
abbrev s_is_forest : Stmt := top 12
abbrev n_is_forest : List Str := ["value", "holder"]
theorem sc_is_forest : FnScope n_is_forest ["value"] (defScope s_is_forest) := ⟨rfl, rfl, rfl, by decide +kernel, rfl, by decide +kernel, by decide +kernel⟩

/-- a value that is no tuple -/
inductive NoT (K : PySem.W.Frag) (H : Hp) : V → Prop
  | non : NoT K H .non
  | lst {a : Addr} {xs : List V} (h : H a = some (.lst xs)) : NoT K H (.ref a)
def sp_is_forest (K : PySem.W.Frag) : Sp := fun vs H Q _ => ∃ v, vs = [v] ∧
  ((∃ (a : Addr) (f : Fo), v = .ref a ∧ SqT K H a (hv f) ∧ f.length ≤ 1000 ∧ RetV (.bl (forB f)) H Q) ∨ (NoT K H v ∧ Q (.bl false) H))
theorem tup_ty {K : PySem.W.Frag} {H : Hp} {a : Addr} {xs : List V} (h : SqT K H a xs) : TyX K H (.ref a) (.type "tuple") := by
  rcases h with (h | ⟨o, h⟩) | ⟨o, its, n, h1, h2, _⟩
  · exact .base (.tup h)
  · exact .fTuple h
  · exact .kTuple h1 h2
theorem c_is_forest (D : De K mg "is_forest" s_is_forest ["value"]) (B : Bu mg) (c_is_integer : Cl P w K mg base CX0 1 "is_integer" sp_is_integer)
    (c_is_rooted : Cl P w K mg base CX0 1 "is_rooted" (sp_is_rooted K)) : Cl P w K mg base CX0 2 "is_forest" (sp_is_forest K) := by
  refine mk_cl D sc_is_forest (fun vs H Q E h => ?_) (fun fa cdv A outer s H vs Q E hr h => ?_)
  · obtain ⟨v, rfl, _⟩ := h
    rfl
  · obtain ⟨v, rfl, h⟩ := h
    have nd := sc_is_forest.nd
    refine ⟨_, (pss_cons (ps_if (PW.pt (pw_or (pt_not (pt_val (pe_callB (k_isi (K := K)) (by rfl) B.isinstance_ (by decide +kernel) (pa_cons (pv 0) (pa_cons (pe_bltn (v := .ty "tuple") (by rfl) B.tuple_ bt_tuple rfl) pa_nil))))) (pw_or1 (pt_cmpR (k_eqD (K := K) hr.units) (pv 0) (pe_tup pa_nil) (nomark _)))))
        (pss_one (ps_ret pe_bl))
        pss_nil)
      (pss_cons (ps_if (pt_not (pt_val (pe_callB (k_all (K := K) rfl) (by rfl) B.all_ (by decide +kernel) (pa_cons (pe_lc (own := [("holder", 1)]) rfl nd (k_pi_tup (K := K) (pv 0)) (blkOk_by (own := [("holder", 1)]) (N := n_is_forest) (sc := defScope s_is_forest) (by decide +kernel)) (fun _ _ _ _ _ => (pg_name (i := 1) nd rfl (Or.inl rfl))) (fun _ _ _ _ _ => pts_nil) (fun _ _ _ _ _ => (pe_or (pe_cmpR op_isN (pv 1) pe_non (nomark _)) (pe_one (p_call c_is_integer hr (by decide) (by rfl) pass0 (pa_cons (pv 1) (pa_cons pe_int (pa_cons (pe_op op_sub (pe_callB (k_len (K := K)) (by rfl) B.len_ PySem.boot_len (pa_cons (pv 0) pa_nil)) pe_int) pa_nil)))))))) pa_nil))))
        (pss_one (ps_ret pe_bl))
        pss_nil)
      (pss_one (ps_ret (p_call c_is_rooted hr (by decide) (by rfl) pass0 (pa_cons (pv 0) pa_nil)))))), ?_⟩
    rcases h with ⟨a, f, rfl, hS, hn, k⟩ | ⟨hN, k⟩
    · have hl := hv_len f
      refine ⟨_, rfl, _, _, _, _, true, rfl, .ty _, tup_ty hS, kit_ty (by decide +kernel), _, rfl, ?_⟩
      refine ⟨_, rfl, Nat.zero_le _, fun p hp => ?_⟩
      have s1 : Same H (upd H p (.tup [])) := same_new0 hp
      refine eqD (Re.fo (f := f) (same_sqT s1 hS)) (Re.tup (α := Option Nat) (xs := []) (.of upd_same) ReA.nil) ?_
      have e1 : decide (Tu.mk f = Tu.mk []) = decide (f = []) := decide_eq_decide.mpr ⟨fun h => congrArg Tu.items h, fun h => by rw [h]⟩
      rw [e1]
      refine ⟨_, rfl, ?_⟩
      by_cases hf : f = []
      · rw [decide_eq_true hf]
        refine iteT ?_
        have : forB f = false := by unfold forB; rw [hf]; rfl
        rw [this] at k
        exact k _ s1
      · rw [decide_eq_false hf]
        refine iteF ?_
        refine ⟨_, rfl, a, rfl, ⟨_, same_sqT s1 hS⟩, fun Dl hD => ?_⟩
        refine lc_map (walk_tup (xs := hv f)) hD (by omega) (fun i => .bl (inR f.length (hd f i))) (fun H2 s2 => same_sqT (s1.trans s2) hS) (fun i x H2 H3 Qe hi s2 y ke => ?_) (fun H2 s2 hD2 => ?_)
        · obtain ⟨rfl, hx⟩ := y
          have hi' : i < f.length := by omega
          have e := hv_get (hd_get hi')
          rw [e] at hx
          cases hx
          refine ⟨rfl, ?_⟩
          refine ⟨_, rfl, rfl, _, rfl, ?_⟩
          rw [ov_none]
          cases eh : hd f i with
          | none =>
            have := ke H3 (Same.refl _)
            rw [eh] at this
            exact iteT this
          | some z =>
            refine iteF ⟨_, rfl, _, rfl, a, _, rfl, .inr (same_sqT (s1.trans s2) hS), _, _, rfl, rfl, ?_⟩
            refine ⟨_, some 0, some (((hv f).length : Nat) - 1), rfl, .int _, ?_⟩
            have := ke H3 (Same.refl _)
            rw [eh] at this
            have e2 : isInt (.int (z : Int)) (some 0) (some (((hv f).length : Nat) - 1)) = inR f.length (some z) := by
              rw [hl]
              show (decide ((0 : Int) ≤ (z : Int)) && decide ((z : Int) ≤ (f.length : Int) - 1)) = decide (z < f.length)
              rw [decide_eq_true (by omega), Bool.true_and]
              exact decide_eq_decide.mpr (by omega)
            show Qe (.bl (isInt (.int (z : Int)) (some 0) (some (((hv f).length : Nat) - 1)))) H3
            rw [e2]
            exact this
        · have e3 : (List.range (hv f).length).map (fun i => V.bl (inR f.length (hd f i))) = (f.map (inR f.length)).map V.bl := by
            rw [List.map_map]
            refine List.ext_getElem? fun i => ?_
            by_cases hi : i < f.length
            · rw [List.getElem?_map, List.getElem?_range (by omega), List.getElem?_map, hd_get hi]; rfl
            · rw [List.getElem?_eq_none (by simp; omega), List.getElem?_eq_none (by simp; omega)]
          rw [e3] at hD2
          refine ⟨Dl, _, rfl, .of hD2, _, rfl, ?_⟩
          have e4 : (f.map (inR f.length)).all id = f.all (inR f.length) := by rw [List.all_map]; rfl
          rw [e4]
          cases hb : f.all (inR f.length) with
          | false =>
            refine iteT ?_
            have : forB f = false := by unfold forB; rw [hb]; simp
            rw [this] at k
            exact k _ (s1.trans s2)
          | true =>
            refine iteF ?_
            refine ⟨_, rfl, a, f, rfl, same_sqT (s1.trans s2) hS, hn, inR_all hb, ?_⟩
            have : forB f = rootB f := by unfold forB; rw [hb, decide_eq_true hf]; simp
            rw [this] at k
            exact k _ (s1.trans s2)
    · cases hN with
      | non =>
        refine ⟨_, rfl, _, _, _, _, false, rfl, .ty _, .base .non, kit_ty (by decide +kernel), _, rfl, ?_⟩
        exact iteT k
      | lst h =>
        refine ⟨_, rfl, _, _, _, _, false, rfl, .ty _, .base (.lst h), kit_ty (by decide +kernel), _, rfl, ?_⟩
        exact iteT k
/-! ### check_forest, of a forest; check_thing, of a thing -/
abbrev s_check_forest : Stmt := top 13
abbrev n_check_forest : List Str := ["forest"]
theorem sc_check_forest : FnScope n_check_forest ["forest"] (defScope s_check_forest) := ⟨rfl, rfl, rfl, by decide +kernel, rfl, by decide +kernel, by decide +kernel⟩

def FoAt (K : PySem.W.Frag) (H : Hp) (a : Addr) (f : Fo) : Prop := SqT K H a (hv f) ∧ Ok f ∧ f.length ≤ 1000
theorem FoAt.mono {H H' : Hp} {a : Addr} {f : Fo} (s : Same H H') (h : FoAt K H a f) : FoAt K H' a f := ⟨same_sqT s h.1, h.2⟩
def sp_check_forest (K : PySem.W.Frag) : Sp := fun vs H Q _ => ∃ (a : Addr) (f : Fo), vs = [.ref a] ∧ FoAt K H a f ∧ RetV .non H Q
theorem c_check_forest (D : De K mg "check_forest" s_check_forest ["forest"]) (B : Bu mg) (c_is_forest : Cl P w K mg base CX0 2 "is_forest" (sp_is_forest K)) : Cl P w K mg base CX0 3 "check_forest" (sp_check_forest K) := by
  refine mk_cl D sc_check_forest (fun vs H Q E h => ?_) (fun fa cdv A outer s H vs Q E hr h => ?_)
  · obtain ⟨v, f, rfl, _⟩ := h
    rfl
  · obtain ⟨a, f, rfl, ⟨hS, o, hn⟩, k⟩ := h
    have nd := sc_check_forest.nd
    refine ⟨_, (pss_one (ps_if (pt_not (pt_val (p_call c_is_forest hr (by decide) (by rfl) pass0 (pa_cons (pv 0) pa_nil))))
        (pss_one ps_never)
        pss_nil)), ?_⟩
    refine ⟨_, rfl, _, rfl, .inl ⟨a, f, rfl, hS, hn, fun H1 s1 => ?_⟩⟩
    rw [forB_ok o]
    exact ⟨_, rfl, iteF (k _ s1)⟩
abbrev s_check_thing : Stmt := top 14
abbrev n_check_thing : List Str := ["forest", "thing"]
theorem sc_check_thing : FnScope n_check_thing ["forest", "thing"] (defScope s_check_thing) := ⟨rfl, rfl, rfl, by decide +kernel, rfl, by decide +kernel, by decide +kernel⟩

def sp_check_thing (K : PySem.W.Frag) : Sp := fun vs H Q _ => ∃ (a : Addr) (f : Fo) (t : Nat), vs = [.ref a, .int (t : Int)] ∧ FoAt K H a f ∧ t < f.length ∧ Q .non H
theorem c_check_thing (D : De K mg "check_thing" s_check_thing ["forest", "thing"]) (B : Bu mg) (c_is_integer : Cl P w K mg base CX0 1 "is_integer" sp_is_integer) : Cl P w K mg base CX0 2 "check_thing" (sp_check_thing K) := by
  refine mk_cl D sc_check_thing (fun vs H Q E h => ?_) (fun fa cdv A outer s H vs Q E hr h => ?_)
  · obtain ⟨v, f, t, rfl, _⟩ := h
    rfl
  · obtain ⟨a, f, t, rfl, ⟨hS, o, hn⟩, ht, k⟩ := h
    have nd := sc_check_thing.nd
    have hl := hv_len f
    refine ⟨_, (pss_one (ps_if (pt_not (pt_val (p_call c_is_integer hr (by decide) (by rfl) pass0 (pa_cons (pv 1) (pa_cons pe_int (pa_cons (pe_op op_sub (pe_callB (k_len (K := K)) (by rfl) B.len_ PySem.boot_len (pa_cons (pv 0) pa_nil)) pe_int) pa_nil))))))
        (pss_one ps_never)
        pss_nil)), ?_⟩
    refine ⟨_, rfl, _, rfl, a, _, rfl, .inr hS, _, _, rfl, rfl, _, some 0, some (((hv f).length : Nat) - 1), rfl, .int _, ?_⟩
    have e2 : isInt (.int (t : Int)) (some 0) (some (((hv f).length : Nat) - 1)) = true := by
      unfold isInt loB hiB
      rw [hl]
      simp; omega
    rw [e2]
    exact ⟨_, rfl, iteF k⟩
/-! ### above_of -/
abbrev s_above_of : Stmt := top 15
abbrev n_above_of : List Str := ["forest", "thing", "found", "here"]
theorem sc_above_of : FnScope n_above_of ["forest", "thing"] (defScope s_above_of) := ⟨rfl, rfl, rfl, by decide +kernel, rfl, by decide +kernel, by decide +kernel⟩

def sp_above_of (K : PySem.W.Frag) : Sp := fun vs H Q _ => ∃ (a : Addr) (f : Fo) (t : Nat), vs = [.ref a, .int (t : Int)] ∧ FoAt K H a f ∧ t < f.length ∧ RetL (nv (abv f t)) H Q
theorem c_above_of (D : De K mg "above_of" s_above_of ["forest", "thing"]) (B : Bu mg) : Cl P w K mg base CX0 1 "above_of" (sp_above_of K) := by
  refine mk_cl D sc_above_of (fun vs H Q E h => ?_) (fun fa cdv A outer s H vs Q E hr h => ?_)
  · obtain ⟨v, f, t, rfl, _⟩ := h
    rfl
  · obtain ⟨a, f, t, rfl, ⟨hS, o, hn⟩, ht, k⟩ := h
    have nd := sc_above_of.nd
    have hl := hv_len f
    refine ⟨_, (pss_cons (ps_set (i := 2) nd rfl (Or.inl rfl) (pe_lst pa_nil))
      (pss_cons (ps_set (i := 3) nd rfl (Or.inl rfl) (pe_ix (k_ix_tup (K := K)) (pv 0) (pv 1) (fun _ _ => rfl)))
      (pss_cons (ps_while PassesOwn.never (pt_cmpR op_notN (pv 3) pe_non (nomark _))
        (pss_cons (ps_expr (k_bm (K := K) PySem.F.plainAttrs_list PySem.F.slot_list_append PySem.F.type_list_append mt_append (pv 2) (pa_cons (pv 3) pa_nil)))
        (pss_one (ps_set (i := 3) nd rfl (Or.inl rfl) (pe_ix (k_ix_tup (K := K)) (pv 0) (pv 3) (fun _ _ => rfl))))))
      (pss_one (ps_ret (pv 2)))))), ?_⟩
    refine ⟨Nat.zero_le _, fun l hl0 => ?_⟩
    have s1 : Same H (upd H l (.lst [])) := same_new0 hl0
    refine ⟨_, rfl, _, rfl, a, _, _, _, rfl, rfl, same_sqT s1 hS, atI_nat (hv_get (hd_get ht)), ?_⟩
    refine ⟨fun m σ H2 => ∃ h xs, σ = [some (.ref a), some (.int (t : Int)), some (.ref l), some (ov h)] ∧ Same H H2 ∧ H2 l = some (.lst (nv xs)) ∧ xs ++ rem f h = abv f t ∧ m = (rem f h).length ∧ (∀ z, h = some z → z < f.length),
      ⟨_, hd f t, [], rfl, s1, upd_same, rem_abv o t, rfl, fun z q => o.lt t z q⟩, ?_⟩
    rintro m σ H2 ⟨h, xs, rfl, s2, h2, hx, rfl, hz⟩
    refine ⟨_, rfl, rfl, _, rfl, ?_⟩
    rw [ov_none]
    cases h with
    | none =>
      refine iteF ⟨_, rfl, ?_⟩
      have e : xs = abv f t := by rw [← hx]; simp [rem]
      rw [e] at h2
      exact k l H2 hl0 s2 h2
    | some z =>
      have hz' := hz z rfl
      have hxl : xs.length ≤ 1000 := by
        have := congrArg List.length hx
        have h3 := abv_len o ht
        rw [List.length_append] at this
        omega
      refine iteT ⟨fun σ H3 => ∃ h' xs', σ = [some (.ref a), some (.int (t : Int)), some (.ref l), some (ov h')] ∧ Same H H3 ∧ H3 l = some (.lst (nv xs')) ∧ xs' ++ rem f h' = abv f t ∧ (rem f h').length < (rem f (some z)).length ∧ (∀ z, h' = some z → z < f.length),
        fun σ H3 ⟨h', xs', e1, e2, e3, e4, e5, e6⟩ => ⟨_, e5, h', xs', e1, e2, e3, e4, rfl, e6⟩, ?_⟩
      refine ⟨_, rfl, .inl ⟨rfl, _, .of h2⟩, _, rfl, l, _, _, rfl, rfl, h2, by rw [List.length_map]; exact sz_lt (by omega), ?_⟩
      have s3 : Same H (upd H2 l (.lst (nv xs ++ [ov (some z)]))) := same_put hl0 s2
      refine ⟨_, rfl, _, rfl, a, _, _, _, rfl, rfl, same_sqT s3 hS, atI_nat (hv_get (hd_get hz')), ?_⟩
      refine ⟨hd f z, xs ++ [z], rfl, s3, ?_, ?_, ?_, fun y q => o.lt z y q⟩
      · rw [upd_same]; unfold nv; rw [List.map_append]; rfl
      · rw [← hx, List.append_assoc, rem_abv o z]; rfl
      · rw [rem_abv o z]; show _ < (abv f z).length + 1; omega
/-! ### held_of -/
abbrev s_held_of : Stmt := top 17
abbrev n_held_of : List Str := ["forest", "holder", "thing", "one"]
theorem sc_held_of : FnScope n_held_of ["forest", "holder"] (defScope s_held_of) := ⟨rfl, rfl, rfl, by decide +kernel, rfl, by decide +kernel, by decide +kernel⟩

def sp_held_of (K : PySem.W.Frag) : Sp := fun vs H Q _ => ∃ (a : Addr) (f : Fo) (h : Option Nat), vs = [.ref a, ov h] ∧ SqT K H a (hv f) ∧ f.length ≤ 1000 ∧ RetL (nv (hld f h)) H Q
theorem scal_ov (a b : Option Nat) : scal (ov a) (ov b) = true := by cases a <;> cases b <;> rfl
theorem ov_inj {a b : Option Nat} : decide (ov a = ov b) = decide (a = b) := decide_eq_decide.mpr ⟨fun h => by
  cases a <;> cases b <;> simp [ov] at h ⊢ <;> omega, fun h => by rw [h]⟩
theorem c_held_of (D : De K mg "held_of" s_held_of ["forest", "holder"]) (B : Bu mg) : Cl P w K mg base CX0 1 "held_of" (sp_held_of K) := by
  refine mk_cl D sc_held_of (fun vs H Q E h => ?_) (fun fa cdv A outer s H vs Q E hr h => ?_)
  · obtain ⟨v, f, t, rfl, _⟩ := h
    rfl
  · obtain ⟨a, f, h, rfl, hS, hn, k⟩ := h
    have nd := sc_held_of.nd
    have hl := hv_len f
    refine ⟨_, (pss_one (ps_ret (pe_lc (own := [("thing", 2), ("one", 3)]) rfl nd (k_pi_enumT (K := K) (by rfl) B.enumerate_ (pa_cons (pv 0) pa_nil)) (blkOk_by (own := [("thing", 2), ("one", 3)]) (N := n_held_of) (sc := defScope s_held_of) (by decide +kernel)) (fun _ _ _ _ _ => (k_pg_tup (K := K) (n := 2) (by rfl) (pgs_cons (pg_name (i := 2) nd rfl (Or.inl rfl)) (pgs_cons (pg_name (i := 3) nd rfl (Or.inl rfl)) pgs_nil)))) (fun _ _ _ _ _ => (pts_one (pt_cmpR op_eq (pv 3) (pv 1) (nomark _)))) (fun _ _ _ _ _ => (pv 2))))), ?_⟩
    refine ⟨_, rfl, a, _, rfl, hS, fun Dl hD => ?_⟩
    refine lc_flat (walk_enumT (xs := hv f)) hD (by omega) (fun i => decide (hd f i = h)) (fun i => .int (i : Int)) (fun H2 s2 => same_sqT s2 hS) (fun i x H2 H3 Qe Qn hi s2 y kT kF => ?_) (fun H2 s2 hD2 => ?_)
    · obtain ⟨T, x1, x2, rfl, hT, rfl, e1, e2⟩ := y
      cases e1
      have hi' : i < f.length := by omega
      replace e2 : (hv f)[i]? = some x2 := e2
      rw [hv_get (hd_get hi')] at e2
      cases e2
      refine ⟨T, _, rfl, .of upd_same, rfl, _, _, rfl, _, _, rfl, rfl, rfl, ?_⟩
      refine ⟨_, rfl, _, rfl, scal_ov _ _, _, rfl, ?_⟩
      rw [ov_inj]
      cases hb : decide (hd f i = h) with
      | true => exact iteT ⟨_, rfl, kT hb _ (same_new0 hT)⟩
      | false => exact iteF (kF hb _ (same_new0 hT))
    · refine k Dl H2 hD s2 ?_
      rw [hD2, hl]; rfl
end
end Hb
namespace Hb
open PySem PySem.Spec PyProof.Rows L2
section
variable {P : Program} {w : World} {K : PySem.W.Frag} {mg : Str → Option Value} {base : Heap}
/-! ### a dict of counts -/
def DC (kvs : List (Key × V)) (c : Nat → Nat) : Prop := ∀ o : Nat, valV kvs (Sum.inl (o : Int)) = if c o = 0 then none else some (.int (c o : Nat))
theorem DC.nil : DC [] (fun _ => 0) := fun o => by rw [if_pos rfl]; rfl
theorem DC.put {kvs : List (Key × V)} {c : Nat → Nat} (h : DC kvs c) (o : Nat) : DC (putK kvs (Sum.inl (o : Int)) (.int ((c o : Nat) + 1))) (fun x => if x = o then c o + 1 else c x) := fun x => by
  rw [valV_put]
  by_cases e : x = o
  · subst e
    rw [if_pos rfl]
    show _ = if (if x = x then c x + 1 else c x) = 0 then none else some (V.int ((if x = x then c x + 1 else c x : Nat) : Int))
    rw [if_pos rfl, if_neg (by omega)]; rfl
  · rw [if_neg (by intro q; injection q with q; omega)]
    show _ = if (if x = o then c o + 1 else c x) = 0 then none else some (V.int ((if x = o then c o + 1 else c x : Nat) : Int))
    rw [if_neg e]; exact h x
theorem DC.get {kvs : List (Key × V)} {c : Nat → Nat} (h : DC kvs c) (o : Nat) : (valV kvs (Sum.inl (o : Int))).getD (.int 0) = .int (c o : Nat) := by
  rw [h o]; split
  · rename_i e; rw [e]; rfl
  · rfl
/-! ### sizes_of -/
abbrev s_sizes_of : Stmt := top 16
abbrev n_sizes_of : List Str := ["forest", "found", "thing", "one"]
theorem sc_sizes_of : FnScope n_sizes_of ["forest"] (defScope s_sizes_of) := ⟨rfl, rfl, rfl, by decide +kernel, rfl, by decide +kernel, by decide +kernel⟩


def sp_sizes_of (K : PySem.W.Frag) : Sp := fun vs H Q _ => ∃ (a : Addr) (f : Fo), vs = [.ref a] ∧ FoAt K H a f ∧ RetL (nv (szs f)) H Q
theorem c_sizes_of (D : De K mg "sizes_of" s_sizes_of ["forest"]) (B : Bu mg) (c_above_of : Cl P w K mg base CX0 1 "above_of" (sp_above_of K)) : Cl P w K mg base CX0 2 "sizes_of" (sp_sizes_of K) := by
  refine mk_cl D sc_sizes_of (fun vs H Q E h => ?_) (fun fa cdv A outer s H vs Q E hr h => ?_)
  · obtain ⟨v, f, rfl, _⟩ := h
    rfl
  · obtain ⟨a, f, rfl, hF, k⟩ := h
    obtain ⟨hS, o, hn⟩ := id hF
    have nd := sc_sizes_of.nd
    have hu := hu_of hr
    have hl := hv_len f
    refine ⟨_, (pss_cons (ps_set (i := 1) nd rfl (Or.inr rfl) pe_dnewK)
      (pss_cons (ps_for PassesOwn.never rfl (pi_range1 (by rfl) B.range_ (pa_cons (pe_callB (k_len (K := K)) (by rfl) B.len_ PySem.boot_len (pa_cons (pv 0) pa_nil)) pa_nil)) (pg_name (i := 2) nd rfl (Or.inl rfl))
        (pss_one (ps_for PassesOwn.never rfl (k_pi_list (K := K) (pe_lst (pa_cons (pv 2) (k_star (K := K) (p_call c_above_of hr (by decide) (by rfl) pass0 (pa_cons (pv 0) (pa_cons (pv 2) pa_nil))) pa_nil)))) (pg_name (i := 3) nd rfl (Or.inl rfl))
          (pss_one (ps_dput hu (pv 1) (pv 3) (pe_op op_add (pe_dget2 hu (pv 1) (pv 3) pe_int ⟨rfl, rfl, rfl, rfl⟩) pe_int) rfl)))))
      (pss_one (ps_ret (pe_lc (own := [("thing", 2)]) rfl nd (pi_range1 (by rfl) B.range_ (pa_cons (pe_callB (k_len (K := K)) (by rfl) B.len_ PySem.boot_len (pa_cons (pv 0) pa_nil)) pa_nil)) (blkOk_by (own := [("thing", 2)]) (N := n_sizes_of) (sc := defScope s_sizes_of) (by decide +kernel)) (fun _ _ _ _ _ => (pg_name (i := 2) nd rfl (Or.inl rfl))) (fun _ _ _ _ _ => pts_nil) (fun _ _ _ _ _ => (pe_dget hu (pv 1) (pv 2) (fun _ _ => rfl)))))))), ?_⟩
    intro d hd0
    have s1 : Same H (upd H d (.dK [])) := same_new0 hd0
    refine ⟨_, rfl, a, _, rfl, .inr (same_sqT s1 hS), _, rfl, by omega, by omega, ?_⟩
    refine for_r0 (n := (((hv f).length : Nat) : Int).toNat) (fun i σ H2 => ∃ v2 v3 kvs, σ = [some (.ref a), some (.ref d), v2, v3] ∧ Same H H2 ∧ H2 d = some (.dK kvs) ∧ DC kvs (cnt f i) ∧ kvs.length ≤ i * 1001)
      ⟨_, _, [], rfl, s1, upd_same, DC.nil, by simp⟩ ?_ ?_
    · rintro i σ H2 hi ⟨v2, v3, kvs, rfl, s2, hd2, hc, hk⟩
      have hi' : i < f.length := by omega
      refine ⟨_, rfl, _, rfl, _, rfl, a, f, i, rfl, hF.mono s2, hi', fun p1 H3 hp1 s3 h3 => ?_⟩
      have hal := abv_len o hi'
      refine ⟨p1, _, rfl, .inr (.of h3), by simp [nv]; exact sz_of (by omega), fun p2 hp2 => ⟨p2, rfl, ⟨_, .of upd_same⟩, ?_⟩⟩
      have s4 : Same H2 (upd H3 p2 (.lst (V.int (i : Int) :: (nv (abv f i) ++ [])))) := same_new hp2 s3
      have ep : V.int (i : Int) :: (nv (abv f i) ++ []) = nv (i :: abv f i) := by simp [nv]
      rw [ep] at s4 ⊢
      have hd4 := s4 _ _ hd2
      have hne : p2 ≠ d := fun e => by rw [e] at hp2; rw [s3 _ _ hd2] at hp2; cases hp2
      refine for_list (K := K) (a := p2) (xs := nv (i :: abv f i)) (fun j σ H4 => ∃ v3 kvs, σ = [some (.ref a), some (.ref d), some (.int (i : Int)), v3] ∧ Same H H4 ∧ H4 p2 = some (.lst (nv (i :: abv f i))) ∧ H4 d = some (.dK kvs) ∧
          DC kvs (fun x => cnt f i x + if x ∈ (i :: abv f i).take j then 1 else 0) ∧ kvs.length ≤ i * 1001 + j)
        ⟨_, kvs, rfl, s2.trans s4, upd_same, hd4, by simpa using hc, by omega⟩ (fun j σ H4 _ ⟨_, _, _, _, h, _⟩ => .of h) ?_ ?_
      · rintro j x σ H4 hj ⟨v3, kvs4, rfl, s5, hp4, hd5, hc4, hk4⟩
        obtain ⟨y, hy, rfl⟩ : ∃ y, (i :: abv f i)[j]? = some y ∧ x = .int (y : Int) := by
          unfold nv at hj
          rw [List.getElem?_map] at hj
          cases e : (i :: abv f i)[j]? with
          | none => rw [e] at hj; cases hj
          | some y => rw [e] at hj; exact ⟨y, rfl, (Option.some.inj hj).symm⟩
        have hjl : j < (i :: abv f i).length := (List.getElem?_eq_some_iff.mp hy).1
        have hnd : (i :: abv f i).Nodup := List.nodup_cons.mpr ⟨not_abv o i, abv_nodup o i⟩
        have hnot : y ∉ (i :: abv f i).take j := fun hm => by
          obtain ⟨m, hm⟩ := List.getElem?_of_mem hm
          have hmj : m < j := by
            have := (List.getElem?_eq_some_iff.mp hm).1
            rw [List.length_take] at this; omega
          rw [List.getElem?_take_of_lt hmj] at hm
          obtain ⟨q1, e1⟩ := List.getElem?_eq_some_iff.mp hm
          obtain ⟨q2, e2⟩ := List.getElem?_eq_some_iff.mp hy
          have := (List.getElem_inj hnd).mp (e1.trans e2.symm)
          omega
        refine ⟨_, rfl, d, rfl, .inl ⟨kvs4, .inl hd5⟩, _, rfl, _, DGet.k (k := Sum.inl (y : Int)) hd5, ?_⟩
        rw [hc4.get y]
        refine ⟨_, _, rfl, rfl, _, rfl, _, rfl, d, _, rfl, DPut.k (k := Sum.inl (y : Int)) hd5 (sz_lt2 (by simp at hjl; have : i * 1001 ≤ 1000 * 1001 := Nat.mul_le_mul_right _ (by omega); omega)), ?_⟩
        refine ⟨_, _, rfl, same_put hd0 s5, ?_, upd_same, ?_, ?_⟩
        · rw [upd_ne hne]; exact hp4
        · have := hc4.put y
          intro x
          rw [this x]
          have e1 : (if x = y then (cnt f i y + if y ∈ (i :: abv f i).take j then 1 else 0) + 1 else cnt f i x + if x ∈ (i :: abv f i).take j then 1 else 0) = cnt f i x + if x ∈ (i :: abv f i).take (j + 1) then 1 else 0 := by
            rw [List.take_add_one, hy]
            by_cases e : x = y
            · subst e
              rw [if_pos rfl, if_neg hnot, if_pos (by simp)]
            · rw [if_neg e]
              congr 1
              by_cases q : x ∈ (i :: abv f i).take j
              · rw [if_pos q, if_pos (List.mem_append_left _ q)]
              · rw [if_neg q, if_neg (by
                  rw [List.mem_append]
                  rintro (h | h)
                  · exact q h
                  · simp at h; exact e h)]
          simp only [e1]
        · have := length_putK kvs4 (Sum.inl (y : Int)) (.int ((cnt f i y + if y ∈ (i :: abv f i).take j then 1 else 0 : Nat) + 1))
          exact Nat.le_trans this (by omega)
      · rintro σ H4 ⟨v3, kvs4, rfl, s5, hp4, hd5, hc4, hk4⟩
        refine ⟨_, _, kvs4, rfl, s5, hd5, ?_, ?_⟩
        · intro x
          rw [hc4 x]
          have : (nv (i :: abv f i)).length = (i :: abv f i).length := List.length_map _
          rw [this, List.take_length]
          have e1 : (cnt f i x + if x ∈ i :: abv f i then 1 else 0) = cnt f (i + 1) x := by
            rw [cnt_succ]
            congr 1
            simp only [List.mem_cons]
          simp only [e1]
        · have : (nv (i :: abv f i)).length = (abv f i).length + 1 := by unfold nv; rw [List.length_map]; rfl
          rw [this] at hk4
          omega
    · rintro σ H2 ⟨v2, v3, kvs, rfl, s2, hd2, hc, hk⟩
      have en : (((hv f).length : Nat) : Int).toNat = f.length := by omega
      rw [en] at hc
      refine ⟨_, rfl, a, _, rfl, .inr (same_sqT s2 hS), _, rfl, by omega, by omega, fun Dl hD => ?_⟩
      refine lc_map (walk_r0 (n := (((hv f).length : Nat) : Int).toNat)) hD (by omega) (fun i => .int (sz f i : Nat)) (fun _ _ => trivial) (fun i x H3 H4 Qe hi s3 y ke => ?_) (fun H3 s3 hD3 => ?_)
      · obtain ⟨rfl, rfl⟩ := y
        refine ⟨rfl, _, rfl, _, rfl, d, .int (sz f i : Nat), rfl, ?_, ke _ (Same.refl _)⟩
        have h3 := s3 _ _ hd2
        have := DGet.k (k := Sum.inl (i : Int)) h3
        rw [hc i, if_neg (by have := sz_pos (f := f) (t := i) (by omega); rw [sz_cnt] at this; omega)] at this
        exact this
      · rw [en] at hD3
        refine k Dl H3 (s2.free hD) (s2.trans s3) ?_
        rw [hD3]
        unfold szs nv
        rw [List.map_map]; rfl
/-! ### sizes, depths -/
abbrev s_sizes : Stmt := top 19
abbrev n_sizes : List Str := ["forest"]
theorem sc_sizes : FnScope n_sizes ["forest"] (defScope s_sizes) := ⟨rfl, rfl, rfl, by decide +kernel, rfl, by decide +kernel, by decide +kernel⟩

theorem c_sizes (D : De K mg "sizes" s_sizes ["forest"]) (c_check_forest : Cl P w K mg base CX0 3 "check_forest" (sp_check_forest K)) (c_sizes_of : Cl P w K mg base CX0 2 "sizes_of" (sp_sizes_of K)) : Cl P w K mg base CX0 4 "sizes" (sp_sizes_of K) := by
  refine mk_cl D sc_sizes (fun vs H Q E h => ?_) (fun fa cdv A outer s H vs Q E hr h => ?_)
  · obtain ⟨v, f, rfl, _⟩ := h
    rfl
  · obtain ⟨a, f, rfl, hF, k⟩ := h
    have nd := sc_sizes.nd
    refine ⟨_, (pss_cons (ps_expr (p_call c_check_forest hr (by decide) (by rfl) pass0 (pa_cons (pv 0) pa_nil)))
      (pss_one (ps_ret (p_call c_sizes_of hr (by decide) (by rfl) pass0 (pa_cons (pv 0) pa_nil))))), ?_⟩
    refine ⟨_, rfl, a, f, rfl, hF, fun H1 s1 => ?_⟩
    refine ⟨_, rfl, a, f, rfl, hF.mono s1, fun p H2 hp s2 h2 => k p H2 (s1.free hp) (s1.trans s2) h2⟩
def sp_depths (K : PySem.W.Frag) : Sp := fun vs H Q _ => ∃ (a : Addr) (f : Fo), vs = [.ref a] ∧ FoAt K H a f ∧ RetL (nv (deps f)) H Q
/-! ### walk_of, walk -/
abbrev s_walk_of : Stmt := top 18
abbrev n_walk_of : List Str := ["forest", "found", "waiting", "thing"]
theorem sc_walk_of : FnScope n_walk_of ["forest"] (defScope s_walk_of) := ⟨rfl, rfl, rfl, by decide +kernel, rfl, by decide +kernel, by decide +kernel⟩

def sp_walk_of (K : PySem.W.Frag) : Sp := fun vs H Q _ => ∃ (a : Addr) (f : Fo), vs = [.ref a] ∧ FoAt K H a f ∧ RetL (nv (walk f)) H Q
theorem c_walk_of (D : De K mg "walk_of" s_walk_of ["forest"]) (B : Bu mg) (c_held_of : Cl P w K mg base CX0 1 "held_of" (sp_held_of K)) : Cl P w K mg base CX0 2 "walk_of" (sp_walk_of K) := by
  refine mk_cl D sc_walk_of (fun vs H Q E h => ?_) (fun fa cdv A outer s H vs Q E hr h => ?_)
  · obtain ⟨v, f, rfl, _⟩ := h
    rfl
  · obtain ⟨a, f, rfl, hF, k⟩ := h
    obtain ⟨hS, o, hn⟩ := id hF
    have nd := sc_walk_of.nd
    have hl := hv_len f
    refine ⟨_, (pss_cons (ps_set (i := 1) nd rfl (Or.inl rfl) (pe_lst pa_nil))
      (pss_cons (ps_set (i := 2) nd rfl (Or.inl rfl) (k_revL (K := K) (p_call c_held_of hr (by decide) (by rfl) pass0 (pa_cons (pv 0) (pa_cons pe_non pa_nil)))))
      (pss_cons (ps_while PassesOwn.never (pt_cmpR (k_neD (K := K) hr.units) (pv 2) (pe_lst pa_nil) (nomark _))
        (pss_cons (ps_set (i := 3) nd rfl (Or.inl rfl) (k_bm0 (K := K) PySem.F.plainAttrs_list PySem.F.slot_list_pop PySem.F.type_list_pop mt_pop (pv 2)))
        (pss_cons (ps_expr (k_bm (K := K) PySem.F.plainAttrs_list PySem.F.slot_list_append PySem.F.type_list_append mt_append (pv 1) (pa_cons (pv 3) pa_nil)))
        (pss_one (ps_expr (k_bm (K := K) PySem.F.plainAttrs_list PySem.F.slot_list_extend PySem.F.type_list_extend mt_extend (pv 2) (pa_cons (k_revL (K := K) (p_call c_held_of hr (by decide) (by rfl) pass0 (pa_cons (pv 0) (pa_cons (pv 3) pa_nil)))) pa_nil)))))))
      (pss_one (ps_ret (pv 1)))))), ?_⟩
    refine ⟨Nat.zero_le _, fun l hl0 => ?_⟩
    have s1 : Same H (upd H l (.lst [])) := same_new0 hl0
    refine ⟨_, rfl, a, f, none, rfl, same_sqT s1 hS, hn, fun p H2 hp s2 h2 => ?_⟩
    refine ⟨p, _, rfl, .of h2, fun q hq => ?_⟩
    have s3 : Same (upd H l (.lst [])) (upd H2 q (.lst (nv (hld f none)).reverse)) := same_new hq s2
    have hql : q ≠ l := fun e => by rw [e] at hq; rw [s2 _ _ upd_same] at hq; cases hq
    have hq0 : H q = none := (s1.trans s2).free hq
    refine ⟨fun m σ H3 => ∃ v3 st xs, σ = [some (.ref a), some (.ref l), some (.ref q), v3] ∧ Same H H3 ∧ H3 l = some (.lst (nv xs)) ∧ H3 q = some (.lst (nv st.reverse)) ∧ xs ++ st.flatMap (pre f) = walk f ∧ m = (st.flatMap (pre f)).length ∧ (∀ x ∈ st, x < f.length) ∧ st.length ≤ xs.length * 1001 + 1001,
      ⟨_, _, hld f none, [], rfl, s1.trans s3, s3 _ _ upd_same, ?_, rfl, rfl, fun x hx => (hld_mem.mp hx).1, ?_⟩, ?_⟩
    · rw [upd_same]; unfold nv; rw [List.map_reverse]
    · have := List.length_filter_le (fun i => decide (hd f i = none)) (List.range f.length)
      rw [List.length_range] at this
      show (hld f none).length ≤ 0 * 1001 + 1001
      unfold hld; omega
    rintro m σ H3 ⟨v3, st, xs, rfl, s4, hl3, hq3, hw, rfl, hst, hsl⟩
    have hxl : xs.length ≤ 1000 := by
      have := congrArg List.length hw
      have h3 := walk_len o
      rw [List.length_append] at this
      omega
    refine ⟨_, rfl, Nat.zero_le _, fun p3 hp3 => ?_⟩
    have s5 : Same H3 (upd H3 p3 (.lst [])) := same_new0 hp3
    refine neD (Re.nats (.of (s5 _ _ hq3))) (Re.nats (l := []) (.of upd_same)) ?_
    refine ⟨_, rfl, ?_⟩
    cases st with
    | nil =>
      refine iteF ⟨_, rfl, ?_⟩
      rw [List.flatMap_nil, List.append_nil] at hw
      rw [← hw] at k
      exact k l _ hl0 (s4.trans s5) (s5 _ _ hl3)
    | cons t r =>
      have ht := hst t List.mem_cons_self
      have e1 : decide ((t :: r).reverse = ([] : List Nat)) = false := by simp
      rw [e1]
      refine iteT ⟨fun σ H4 => ∃ v3 st xs', σ = [some (.ref a), some (.ref l), some (.ref q), v3] ∧ Same H H4 ∧ H4 l = some (.lst (nv xs')) ∧ H4 q = some (.lst (nv st.reverse)) ∧ xs' ++ st.flatMap (pre f) = walk f ∧ (st.flatMap (pre f)).length < ((t :: r).flatMap (pre f)).length ∧ (∀ x ∈ st, x < f.length) ∧ st.length ≤ xs'.length * 1001 + 1001,
        fun σ H4 ⟨v3, st, xs', e1, e2, e3, e4, e5, e6, e7, e8⟩ => ⟨_, e6, v3, st, xs', e1, e2, e3, e4, e5, rfl, e7, e8⟩, ?_⟩
      have eq1 : nv (t :: r).reverse = nv r.reverse ++ [V.int (t : Int)] := by unfold nv; rw [List.reverse_cons, List.map_append]; rfl
      have hq5 := s5 _ _ hq3
      rw [eq1] at hq5
      refine ⟨_, rfl, .inl ⟨rfl, _, .of hq5⟩, q, _, .int (t : Int), rfl, rfl, hq5, by simp, ?_⟩
      have eq2 : (nv r.reverse ++ [V.int (t : Int)]).dropLast = nv r.reverse := by simp
      rw [eq2]
      have s6 : Same H (upd (upd H3 p3 (.lst [])) q (.lst (nv r.reverse))) := same_put hq0 (s4.trans s5)
      have hl6 : upd (upd H3 p3 (.lst [])) q (.lst (nv r.reverse)) l = some (.lst (nv xs)) := by rw [upd_ne (Ne.symm hql)]; exact s5 _ _ hl3
      refine ⟨_, rfl, .inl ⟨rfl, _, .of hl6⟩, _, rfl, l, _, _, rfl, rfl, hl6, by rw [List.length_map]; exact sz_lt (by omega), ?_⟩
      have s7 : Same H (upd (upd (upd H3 p3 (.lst [])) q (.lst (nv r.reverse))) l (.lst (nv xs ++ [V.int (t : Int)]))) := same_put hl0 s6
      refine ⟨_, rfl, .inl ⟨rfl, _, .of (by rw [upd_ne hql]; exact upd_same)⟩, ?_⟩
      refine ⟨_, rfl, _, rfl, a, f, some t, rfl, same_sqT s7 hS, hn, fun p8 H8 hp8 s8 h8 => ?_⟩
      refine ⟨p8, _, rfl, .of h8, fun p9 hp9 => ?_⟩
      have hq9 : upd H8 p9 (.lst (nv (hld f (some t))).reverse) q = some (.lst (nv r.reverse)) := (same_new hp9 s8) _ _ (by rw [upd_ne hql]; exact upd_same)
      have hl9 : upd H8 p9 (.lst (nv (hld f (some t))).reverse) l = some (.lst (nv xs ++ [V.int (t : Int)])) := (same_new hp9 s8) _ _ upd_same
      have hhl : (hld f (some t)).length ≤ f.length := by
        have := List.length_filter_le (fun i => decide (hd f i = some t)) (List.range f.length)
        rw [List.length_range] at this
        exact this
      refine ⟨q, p9, _, _, rfl, rfl, hq9, upd_same, ?_, ?_⟩
      · simp [nv]
        simp at hsl
        have : xs.length * 1001 ≤ 1000 * 1001 := Nat.mul_le_mul_right _ hxl
        exact Nat.le_trans (m := 1100000) (by omega) (by decide)
      · refine ⟨_, hld f (some t) ++ r, xs ++ [t], rfl, same_put hq0 (s7.trans (same_new hp9 s8)), ?_, ?_, ?_, ?_, ?_, ?_⟩
        · rw [upd_ne (Ne.symm hql), hl9]; unfold nv; rw [List.map_append]; rfl
        · rw [upd_same]; unfold nv; rw [List.reverse_append, List.map_append, List.map_reverse, List.map_reverse]
        · rw [← hw, List.flatMap_cons, pre_eq o ht, List.flatMap_append]
          simp
        · rw [List.flatMap_cons, pre_eq o ht, List.flatMap_append, List.length_append, List.length_append, List.length_cons]
          omega
        · intro x hx
          rcases List.mem_append.mp hx with h | h
          · exact (hld_mem.mp h).1
          · exact hst x (List.mem_cons_of_mem _ h)
        · rw [List.length_append, List.length_append, List.length_singleton]
          simp at hsl
          have : (xs.length + 1) * 1001 = xs.length * 1001 + 1001 := by omega
          omega
abbrev s_walk : Stmt := top 22
abbrev n_walk : List Str := ["forest"]
theorem sc_walk : FnScope n_walk ["forest"] (defScope s_walk) := ⟨rfl, rfl, rfl, by decide +kernel, rfl, by decide +kernel, by decide +kernel⟩

theorem c_walk (D : De K mg "walk" s_walk ["forest"]) (c_check_forest : Cl P w K mg base CX0 3 "check_forest" (sp_check_forest K)) (c_walk_of : Cl P w K mg base CX0 2 "walk_of" (sp_walk_of K)) : Cl P w K mg base CX0 4 "walk" (sp_walk_of K) := by
  refine mk_cl D sc_walk (fun vs H Q E h => ?_) (fun fa cdv A outer s H vs Q E hr h => ?_)
  · obtain ⟨v, f, rfl, _⟩ := h
    rfl
  · obtain ⟨a, f, rfl, hF, k⟩ := h
    have nd := sc_walk.nd
    refine ⟨_, (pss_cons (ps_expr (p_call c_check_forest hr (by decide) (by rfl) pass0 (pa_cons (pv 0) pa_nil)))
      (pss_one (ps_ret (p_call c_walk_of hr (by decide) (by rfl) pass0 (pa_cons (pv 0) pa_nil))))), ?_⟩
    refine ⟨_, rfl, a, f, rfl, hF, fun H1 s1 => ?_⟩
    refine ⟨_, rfl, a, f, rfl, hF.mono s1, fun p H2 hp s2 h2 => k p H2 (s1.free hp) (s1.trans s2) h2⟩
end
end Hb
namespace Hb
open PySem PySem.Spec PyProof.Rows L2
section
variable {P : Program} {w : World} {K : PySem.W.Frag} {mg : Str → Option Value} {base : Heap}
/-! ### moved -/
abbrev s_moved : Stmt := top 45
abbrev n_moved : List Str := ["forest", "many", "holder"]
theorem sc_moved : FnScope n_moved ["forest", "many"] (defScope s_moved) := ⟨rfl, rfl, rfl, by decide +kernel, rfl, by decide +kernel, by decide +kernel⟩

def sp_moved (K : PySem.W.Frag) : Sp := fun vs H Q _ => ∃ (a : Addr) (f : Fo) (m : Nat), vs = [.ref a, .int (m : Int)] ∧ SqT K H a (hv f) ∧ f.length ≤ 1000 ∧ RetT (hv (mvd f m)) H Q
theorem map_range_hd {α : Type} (f : Fo) (g : Option Nat → α) : (List.range f.length).map (fun i => g (hd f i)) = f.map g := by
  refine List.ext_getElem? fun i => ?_
  by_cases hi : i < f.length
  · rw [List.getElem?_map, List.getElem?_range (by omega), List.getElem?_map, hd_get hi]; rfl
  · rw [List.getElem?_eq_none (by simp; omega), List.getElem?_eq_none (by simp; omega)]
theorem c_moved (D : De K mg "moved" s_moved ["forest", "many"]) (B : Bu mg) : Cl P w K mg base CX0 1 "moved" (sp_moved K) := by
  refine mk_cl D sc_moved (fun vs H Q E h => ?_) (fun fa cdv A outer s H vs Q E hr h => ?_)
  · obtain ⟨v, f, m, rfl, _⟩ := h
    rfl
  · obtain ⟨a, f, m, rfl, hS, hn, k⟩ := h
    have nd := sc_moved.nd
    have hl := hv_len f
    refine ⟨_, (pss_one (ps_ret (pe_callTy (k_tuple_of (K := K)) (by rfl) B.tuple_ bt_tuple (pa_cons (pe_lc (own := [("holder", 2)]) rfl nd (k_pi_tup (K := K) (pv 0)) (blkOk_by (own := [("holder", 2)]) (N := n_moved) (sc := defScope s_moved) (by decide +kernel)) (fun _ _ _ _ _ => (pg_name (i := 2) nd rfl (Or.inl rfl))) (fun _ _ _ _ _ => pts_nil) (fun _ _ _ _ _ => (pe_ifExp (pt_cmpR op_isN (pv 2) pe_non (nomark _)) pe_non (pe_op op_add (pv 2) (pv 1))))) pa_nil)))), ?_⟩
    refine ⟨_, rfl, a, rfl, ⟨_, hS⟩, fun Dl hD => ?_⟩
    refine lc_map (walk_tup (xs := hv f)) hD (by omega) (fun i => ov ((hd f i).map (· + m))) (fun H2 s2 => same_sqT s2 hS) (fun i x H2 H3 Qe hi s2 y ke => ?_) (fun H2 s2 hD2 => ?_)
    · obtain ⟨rfl, hx⟩ := y
      have hi' : i < f.length := by omega
      rw [hv_get (hd_get hi')] at hx
      cases hx
      refine ⟨rfl, _, rfl, rfl, _, rfl, ?_⟩
      rw [ov_none]
      have k1 := ke H3 (Same.refl _)
      cases eh : hd f i with
      | none => rw [eh] at k1; exact iteT k1
      | some z =>
        rw [eh] at k1
        refine iteF ⟨_, rfl, _, rfl, _, _, rfl, rfl, ?_⟩
        have : ((z : Int) + (m : Int)) = ((z + m : Nat) : Int) := by omega
        show Qe (.int ((z : Int) + (m : Int))) H3
        rw [this]; exact k1
    · rw [hl, map_range_hd f (fun h => ov (h.map (· + m)))] at hD2
      refine ⟨Dl, _, rfl, .inl ⟨.of hD2, fun p hp => k p _ (s2.free hp) (same_new hp s2) ?_⟩⟩
      rw [upd_same]
      unfold hv mvd
      rw [List.map_map]; rfl
/-! ### renamed -/
abbrev s_renamed : Stmt := top 46
abbrev n_renamed : List Str := ["forest", "things", "numbers", "number", "thing"]
theorem sc_renamed : FnScope n_renamed ["forest", "things"] (defScope s_renamed) := ⟨rfl, rfl, rfl, by decide +kernel, rfl, by decide +kernel, by decide +kernel⟩

def sp_renamed (K : PySem.W.Frag) : Sp := fun vs H Q _ => ∃ (a b : Addr) (f : Fo) (ts : List Nat), vs = [.ref a, .ref b] ∧ (SqL K H a (hv f) ∨ SqT K H a (hv f)) ∧ SqL K H b (nv ts) ∧ ts.length ≤ 1000 ∧ ts.Nodup ∧ (∀ x ∈ ts, x < f.length) ∧ RetT (hv (ren f ts)) H Q
theorem kInt_inj {i j : Nat} (h : (Sum.inl (i : Int) : Key) = Sum.inl (j : Int)) : i = j := by injection h with h; omega
theorem c_renamed (D : De K mg "renamed" s_renamed ["forest", "things"]) (B : Bu mg) : Cl P w K mg base CX0 1 "renamed" (sp_renamed K) := by
  refine mk_cl D sc_renamed (fun vs H Q E h => ?_) (fun fa cdv A outer s H vs Q E hr h => ?_)
  · obtain ⟨a, b, f, ts, rfl, _⟩ := h
    rfl
  · obtain ⟨a, b, f, ts, rfl, hS, hT, hn, hnd, hlt, k⟩ := h
    have nd := sc_renamed.nd
    have hu := hu_of hr
    have hl := hv_len f
    have hlt' : (nv ts).length = ts.length := List.length_map _
    refine ⟨_, (pss_cons (ps_set (i := 2) nd rfl (Or.inr rfl) (pe_dc (own := [("number", 3), ("thing", 4)]) rfl nd (k_pi_enum (K := K) (by rfl) B.enumerate_ (pa_cons (pv 1) pa_nil)) (blkOk_by (own := [("number", 3), ("thing", 4)]) (N := n_renamed) (sc := defScope s_renamed) (by decide +kernel)) (fun _ _ _ _ _ => (k_pg_tup (K := K) (n := 2) (by rfl) (pgs_cons (pg_name (i := 3) nd rfl (Or.inl rfl)) (pgs_cons (pg_name (i := 4) nd rfl (Or.inl rfl)) pgs_nil)))) (fun _ _ _ _ _ => pts_nil) (fun _ _ _ _ _ => (pv 4)) (fun _ _ _ _ _ => (pv 3))))
      (pss_one (ps_ret (pe_callTy (k_tuple_of (K := K)) (by rfl) B.tuple_ bt_tuple (pa_cons (pe_lc (own := [("thing", 4)]) rfl nd (k_pi_list (K := K) (pv 1)) (blkOk_by (own := [("thing", 4)]) (N := n_renamed) (sc := defScope s_renamed) (by decide +kernel)) (fun _ _ _ _ _ => (pg_name (i := 4) nd rfl (Or.inl rfl))) (fun _ _ _ _ _ => pts_nil) (fun _ _ _ _ _ => (pe_dgetN hu (pv 2) (pe_ix (k_ix_seq (K := K)) (pv 0) (pv 4) (fun _ _ => rfl)) ⟨rfl, rfl, rfl, rfl⟩))) pa_nil))))), ?_⟩
    refine ⟨_, rfl, b, _, rfl, hT, fun d hd0 => ?_⟩
    refine dc_flat (walk_enum (xs := nv ts)) hd0 (by omega) (fun i => Sum.inl ((ts.getD i 0 : Nat) : Int)) (fun i => .int (i : Int)) (fun H2 s2 => s2.seq hT) (fun i x H2 H3 Qe hi s2 y ke => ?_) (fun H2 s2 hd2 => ?_)
    · obtain ⟨T, x1, x2, rfl, hT0, rfl, e1, e2⟩ := y
      cases e1
      have hi' : i < ts.length := by omega
      replace e2 : (nv ts)[i]? = some x2 := e2
      rw [nv_get (List.getElem?_eq_getElem hi')] at e2
      cases e2
      refine ⟨T, _, rfl, .of upd_same, rfl, _, _, rfl, _, _, rfl, rfl, rfl, ?_⟩
      refine ⟨_, rfl, _, rfl, ?_⟩
      have := ke _ (same_new0 (o := .tup [.int (i : Int), .int ((ts[i] : Nat) : Int)]) hT0)
      rw [List.getD_eq_getElem?_getD, List.getElem?_eq_getElem hi'] at this
      exact this
    · rw [hlt'] at hd2
      have look : ∀ k : Nat, valV (dput (fun i => Sum.inl ((ts.getD i 0 : Nat) : Int)) (fun i => V.int (i : Int)) ts.length) (Sum.inl (k : Int)) = (posOf ts k).map fun i => V.int (i : Int) := fun k => by
        cases e : posOf ts k with
        | some i =>
          have h1 := posOf_some e
          have h2 := posOf_lt e
          refine dput_some _ i h2 ?_ fun j h3 h4 q => ?_
          · rw [List.getD_eq_getElem?_getD, h1]; rfl
          · have q := kInt_inj q
            rw [List.getD_eq_getElem?_getD, List.getElem?_eq_getElem h4] at q
            obtain ⟨h5, e5⟩ := List.getElem?_eq_some_iff.mp h1
            have := (List.getElem_inj hnd (i := j) (j := i)).mp (q.trans e5.symm)
            omega
        | none =>
          refine dput_none _ fun i hi q => ?_
          have q := kInt_inj q
          rw [List.getD_eq_getElem?_getD, List.getElem?_eq_getElem hi] at q
          have q : ts[i] = k := q
          have : k ∈ ts := q ▸ List.getElem_mem hi
          obtain ⟨j, hj⟩ := posOf_mem this
          rw [e] at hj; cases hj
      refine ⟨_, rfl, b, rfl, ⟨_, s2.seq hT⟩, fun Dl hD => ?_⟩
      refine lc_map (walk_list (xs := nv ts)) hD (by omega) (fun i => ov ((hd f (ts.getD i 0)).bind (posOf ts))) (fun H3 s3 => (s2.trans s3).seq hT) (fun i x H3 H4 Qe hi s3 y ke => ?_) (fun H3 s3 hD3 => ?_)
      · obtain ⟨rfl, hx⟩ := y
        have hi' : i < ts.length := by omega
        rw [nv_get (List.getElem?_eq_getElem hi')] at hx
        cases hx
        have k1 := ke H4 (Same.refl _)
        rw [List.getD_eq_getElem?_getD, List.getElem?_eq_getElem hi'] at k1
        have hm := hlt ts[i] (List.getElem_mem hi')
        have hd4 := s3 _ _ hd2
        refine ⟨rfl, _, rfl, d, rfl, .inl ⟨_, .inl hd4⟩, _, rfl, _, rfl, ?_⟩
        have fin : ∃ kvs, Rd H4 d (.dK kvs) ∧ ((∃ k, ov (hd f ts[i]) = kV k ∧ Qe ((valV kvs k).getD .non) H4) ∨ (ov (hd f ts[i]) = .non ∧ Qe .non H4)) := by
          refine ⟨_, .inl hd4, ?_⟩
          replace k1 : Qe (ov ((hd f ts[i]).bind (posOf ts))) H4 := k1
          cases e : hd f ts[i] with
          | none => rw [e] at k1; exact .inr ⟨rfl, k1⟩
          | some z =>
            rw [e] at k1
            refine .inl ⟨Sum.inl (z : Int), rfl, ?_⟩
            rw [look z]
            replace k1 : Qe (ov (posOf ts z)) H4 := k1
            cases e2 : posOf ts z with
            | none => rw [e2] at k1; exact k1
            | some j => rw [e2] at k1; exact k1
        rcases hS with h | h
        · exact .inl ⟨a, _, _, _, rfl, rfl, (s2.trans s3).seq h, atI_nat (hv_get (hd_get hm)), fin⟩
        · exact .inr (.inl ⟨a, _, _, _, rfl, rfl, same_sqT (s2.trans s3) h, atI_nat (hv_get (hd_get hm)), fin⟩)
      · rw [hlt'] at hD3
        refine ⟨Dl, _, rfl, .inl ⟨.of hD3, fun p hp => k p _ ((s2.trans s3).free hp) (same_new hp (s2.trans s3)) ?_⟩⟩
        rw [upd_same]
        unfold hv ren
        rw [List.map_map]
        have : (List.range ts.length).map (fun i => ov ((hd f (ts.getD i 0)).bind (posOf ts))) = ts.map (ov ∘ fun t => (hd f t).bind (posOf ts)) := by
          refine List.ext_getElem? fun i => ?_
          by_cases hi : i < ts.length
          · rw [List.getElem?_map, List.getElem?_range hi, List.getElem?_map, List.getElem?_eq_getElem hi]
            simp [List.getD_eq_getElem?_getD, List.getElem?_eq_getElem hi]
          · rw [List.getElem?_eq_none (by simp; omega), List.getElem?_eq_none (by simp; omega)]
        rw [this]
/-! ### beside, grafted -/
abbrev s_beside : Stmt := top 47
abbrev n_beside : List Str := ["forest", "other"]
theorem sc_beside : FnScope n_beside ["forest", "other"] (defScope s_beside) := ⟨rfl, rfl, rfl, by decide +kernel, rfl, by decide +kernel, by decide +kernel⟩

theorem hv_app (f g : Fo) : hv f ++ hv g = hv (f ++ g) := (List.map_append ..).symm
theorem hv_ne {f : Fo} (o : Ok f) : hv f ≠ [] := fun e => by
  have h : f.length = 0 := (hv_len f).symm.trans (congrArg List.length e)
  have := o.ne; omega
def sp_beside (K : PySem.W.Frag) : Sp := fun vs H Q _ => ∃ (a b : Addr) (f g : Fo), vs = [.ref a, .ref b] ∧ FoAt K H a f ∧ FoAt K H b g ∧ f.length + g.length ≤ 1000 ∧ RetT (hv (bes f g)) H Q
theorem c_beside (D : De K mg "beside" s_beside ["forest", "other"]) (B : Bu mg) (c_check_forest : Cl P w K mg base CX0 3 "check_forest" (sp_check_forest K)) (c_moved : Cl P w K mg base CX0 1 "moved" (sp_moved K)) : Cl P w K mg base CX0 4 "beside" (sp_beside K) := by
  refine mk_cl D sc_beside (fun vs H Q E h => ?_) (fun fa cdv A outer s H vs Q E hr h => ?_)
  · obtain ⟨a, b, f, g, rfl, _⟩ := h
    rfl
  · obtain ⟨a, b, f, g, rfl, hF, hG, hn, k⟩ := h
    have nd := sc_beside.nd
    have hl := hv_len f
    refine ⟨_, (pss_cons (ps_expr (p_call c_check_forest hr (by decide) (by rfl) pass0 (pa_cons (pv 0) pa_nil)))
      (pss_cons (ps_expr (p_call c_check_forest hr (by decide) (by rfl) pass0 (pa_cons (pv 1) pa_nil)))
      (pss_one (ps_ret (pe_op (k_catA (K := K)) (pv 0) (p_call c_moved hr (by decide) (by rfl) pass0 (pa_cons (pv 1) (pa_cons (pe_callB (k_len (K := K)) (by rfl) B.len_ PySem.boot_len (pa_cons (pv 0) pa_nil)) pa_nil)))))))), ?_⟩
    refine ⟨_, rfl, a, f, rfl, hF, fun H1 s1 => ?_⟩
    refine ⟨_, rfl, b, g, rfl, hG.mono s1, fun H2 s2 => ?_⟩
    have s12 := s1.trans s2
    refine ⟨_, rfl, _, rfl, _, rfl, a, _, rfl, .inr (hF.mono s12).1, ?_⟩
    refine ⟨b, g, f.length, by rw [hl]; rfl, (hG.mono s12).1, by omega, fun p H3 hp s3 h3 => ?_⟩
    refine ⟨a, p, _, _, rfl, rfl, (hF.mono (s12.trans s3)).1, .of h3, ?_, fun e => absurd e (hv_ne hF.2.1), fun _ e => ?_, fun _ _ q hq => ?_⟩
    · rw [hv_len, hv_len, mvd_len]; exact sz_of (by omega)
    · have h : g.length = 0 := (mvd_len g f.length).symm.trans ((hv_len _).symm.trans (congrArg List.length e))
      have := hG.2.1.ne; omega
    · refine k q _ ((s12.trans s3).free hq) (same_new hq (s12.trans s3)) ?_
      rw [upd_same, hv_app]; rfl
def sp_grafted (K : PySem.W.Frag) : Sp := fun vs H Q _ => ∃ (a b : Addr) (f g : Fo) (t : Nat), vs = [.ref a, .int (t : Int), .ref b] ∧ FoAt K H a f ∧ t < f.length ∧ FoAt K H b g ∧ f.length + g.length ≤ 1000 ∧ RetT (hv (grf f t g)) H Q
/-! ### part, without -/
def sp_part (K : PySem.W.Frag) : Sp := fun vs H Q _ => ∃ (a : Addr) (f : Fo) (t : Nat), vs = [.ref a, .int (t : Int)] ∧ FoAt K H a f ∧ t < f.length ∧ RetT (hv (prt f t)) H Q
theorem given_filter (n : Nat) (p : Nat → Bool) : given n p (fun i => V.int (i : Int)) = nv ((List.range n).filter p) := rfl
theorem inV_nv (x : Nat) (l : List Nat) : inV (.int (x : Int)) (nv l) = decide (x ∈ l) := by
  unfold inV nv
  rw [List.any_map, Bool.eq_iff_iff, List.any_eq_true, decide_eq_true_eq]
  constructor
  · rintro ⟨y, hy, e⟩
    have e : ((y : Int) == (x : Int)) = true := e
    have : y = x := by have := eq_of_beq e; omega
    exact this ▸ hy
  · intro h
    exact ⟨x, h, by show ((x : Int) == (x : Int)) = true; simp⟩
theorem flat_nv (l : List Nat) : (nv l).all flatV = true := by unfold nv; rw [List.all_map]; simp [flatV]
abbrev s_without : Stmt := top 48
abbrev n_without : List Str := ["forest", "thing", "lifted", "holder", "one"]
theorem sc_without : FnScope n_without ["forest", "thing"] (defScope s_without) := ⟨rfl, rfl, rfl, by decide +kernel, rfl, by decide +kernel, by decide +kernel⟩

def sp_without (K : PySem.W.Frag) : Sp := fun vs H Q _ => ∃ (a : Addr) (f : Fo) (t : Nat), vs = [.ref a, .int (t : Int)] ∧ FoAt K H a f ∧ t < f.length ∧ f.length ≠ 1 ∧ RetT (hv (wou f t)) H Q
theorem c_without (D : De K mg "without" s_without ["forest", "thing"]) (B : Bu mg) (c_check_forest : Cl P w K mg base CX0 3 "check_forest" (sp_check_forest K)) (c_check_thing : Cl P w K mg base CX0 2 "check_thing" (sp_check_thing K))
    (c_renamed : Cl P w K mg base CX0 1 "renamed" (sp_renamed K)) : Cl P w K mg base CX0 4 "without" (sp_without K) := by
  refine mk_cl D sc_without (fun vs H Q E h => ?_) (fun fa cdv A outer s H vs Q E hr h => ?_)
  · obtain ⟨a, f, t, rfl, _⟩ := h
    rfl
  · obtain ⟨a, f, t, rfl, hF, ht, h1, k⟩ := h
    have nd := sc_without.nd
    have hl := hv_len f
    have hn := hF.2.2
    refine ⟨_, (pss_cons (ps_expr (p_call c_check_forest hr (by decide) (by rfl) pass0 (pa_cons (pv 0) pa_nil)))
      (pss_cons (ps_expr (p_call c_check_thing hr (by decide) (by rfl) pass0 (pa_cons (pv 0) (pa_cons (pv 1) pa_nil))))
      (pss_cons (ps_if (pt_cmpR op_eq (pe_callB (k_len (K := K)) (by rfl) B.len_ PySem.boot_len (pa_cons (pv 0) pa_nil)) pe_int (nomark _))
        (pss_one ps_never)
        pss_nil)
      (pss_cons (ps_setLc (i := 2) (own := [("holder", 3)]) rfl nd rfl rfl (sw_true rfl rfl rfl (by decide +kernel)) (k_pi_tup (K := K) (pv 0)) (blkOk_by (own := [("holder", 3)]) (N := n_without) (sc := defScope s_without) (by decide +kernel)) (fun _ _ _ _ _ => (pg_name (i := 3) nd rfl (Or.inl rfl))) (fun _ _ _ _ _ => pts_nil) (fun _ _ _ _ _ => (pe_ifExp (pt_cmpR op_eq (pv 3) (pv 1) (nomark _)) (pe_ix (k_ix_tup (K := K)) (pv 0) (pv 1) (fun _ _ => rfl)) (pv 3))))
      (pss_one (ps_ret (p_call c_renamed hr (by decide) (by rfl) pass0 (pa_cons (pv 2) (pa_cons (pe_lc (own := [("one", 4)]) rfl nd (pi_range1 (by rfl) B.range_ (pa_cons (pe_callB (k_len (K := K)) (by rfl) B.len_ PySem.boot_len (pa_cons (pv 0) pa_nil)) pa_nil)) (blkOk_by (own := [("one", 4)]) (N := n_without) (sc := defScope s_without) (by decide +kernel)) (fun _ _ _ _ _ => (pg_name (i := 4) nd rfl (Or.inl rfl))) (fun _ _ _ _ _ => (pts_one (pt_cmpR op_ne (pv 4) (pv 1) (nomark _)))) (fun _ _ _ _ _ => (pv 4))) pa_nil))))))))), ?_⟩
    refine ⟨_, rfl, a, f, rfl, hF, fun H1 s1 => ?_⟩
    refine ⟨_, rfl, _, rfl, a, f, t, rfl, hF.mono s1, ht, ?_⟩
    refine ⟨_, rfl, a, _, rfl, .inr (hF.mono s1).1, rfl, _, rfl, ?_⟩
    have e0 : decide (V.int (((hv f).length : Nat) : Int) = V.int 1) = false := decide_eq_false fun h => by injection h with h; omega
    rw [e0]
    refine iteF ?_
    refine ⟨_, rfl, a, rfl, ⟨_, (hF.mono s1).1⟩, fun Dl hD => ?_⟩
    refine lc_map (walk_tup (xs := hv f)) hD (by omega) (fun i => ov ((fun h => if h = some t then hd f t else h) (hd f i))) (fun H2 s2 => (hF.mono (s1.trans s2)).1) (fun i x H2 H3 Qe hi s2 y ke => ?_) (fun H2 s2 hD2 => ?_)
    · obtain ⟨rfl, hx⟩ := y
      have hi' : i < f.length := by omega
      rw [hv_get (hd_get hi')] at hx
      cases hx
      refine ⟨rfl, _, rfl, _, rfl, scal_ov _ (some t), _, rfl, ?_⟩
      have e1 : decide (ov (hd f i) = V.int (t : Int)) = decide (hd f i = some t) := ov_inj (b := some t)
      rw [e1]
      have k1 := ke H3 (Same.refl _)
      dsimp only at k1
      by_cases hb : hd f i = some t
      · rw [if_pos hb] at k1
        rw [decide_eq_true hb]
        exact iteT ⟨_, rfl, _, rfl, a, _, _, _, rfl, rfl, (hF.mono (s1.trans s2)).1, atI_nat (hv_get (hd_get ht)), k1⟩
      · rw [if_neg hb] at k1
        rw [decide_eq_false hb]
        exact iteF ⟨_, rfl, k1⟩
    · rw [hl, map_range_hd f (fun h => ov ((fun h => if h = some t then hd f t else h) h))] at hD2
      have e2 : (f.map fun h => ov ((fun h => if h = some t then hd f t else h) h)) = hv (lft f t) := by
        unfold hv lft; rw [List.map_map]; rfl
      rw [e2] at hD2
      refine ⟨_, rfl, _, rfl, a, _, rfl, .inr (hF.mono (s1.trans s2)).1, _, rfl, by omega, by omega, fun Dm hDm => ?_⟩
      refine lc_flat (walk_r0 (n := (((hv f).length : Nat) : Int).toNat)) hDm (by omega) (fun x => decide (x ≠ t)) (fun i => .int (i : Int)) (fun _ _ => trivial) (fun i x H3 H4 Qe Qn hi s3 y kT kF => ?_) (fun H3 s3 hD3 => ?_)
      · obtain ⟨rfl, rfl⟩ := y
        refine ⟨rfl, _, rfl, _, rfl, rfl, _, rfl, ?_⟩
        have e1 : (!decide (V.int (i : Int) = V.int (t : Int))) = decide (i ≠ t) := by
          rw [← decide_not]; exact decide_eq_decide.mpr ⟨fun h q => h (by rw [q]), fun h q => h (by injection q with q; omega)⟩
        rw [e1]
        cases hb : decide (i ≠ t) with
        | true => exact iteT ⟨_, rfl, kT hb _ (Same.refl _)⟩
        | false => exact iteF (kF hb _ (Same.refl _))
      · have en : (((hv f).length : Nat) : Int).toNat = f.length := by omega
        rw [en, given_filter] at hD3
        have s123 := (s1.trans s2).trans s3
        refine ⟨Dl, Dm, lft f t, oth f t, rfl, .inl (.of (s3 _ _ hD2)), .of hD3, ?_, oth_nodup f t, fun x hx => by rw [lft_len]; exact (oth_mem.mp hx).1, fun p H5 hp s5 h5 => k p H5 (s123.free hp) (s123.trans s5) h5⟩
        have := oth_len ht; omega
end
end Hb
namespace Hb
open PySem PySem.Spec PyProof.Rows L2
section
variable {P : Program} {w : World} {K : PySem.W.Frag} {mg : Str → Option Value} {base : Heap}
/-! ### is_list_of_all -/
structure AllOf (l : List Nat) (m : Nat) : Prop where
  nd : l.Nodup
  lt : ∀ x ∈ l, x < m
  len : l.length = m
theorem Sq.all {f : Fo} {l : List Nat} (s : Sq f l) : AllOf l f.length := ⟨s.beg.nd, s.beg.lt, s.len⟩
def sp_is_list_of_all (K : PySem.W.Frag) : Sp := fun vs H Q _ => ∃ (a : Addr) (l : List Nat) (m : Nat), vs = [.ref a, .int (m : Int)] ∧ H a = some (.lst (nv l)) ∧ AllOf l m ∧ m ≤ 1000 ∧ RetV (.bl true) H Q
/-! ### keeps_holders, is_row -/
def sp_keeps_holders (K : PySem.W.Frag) : Sp := fun vs H Q _ => ∃ (a b : Addr) (f : Fo) (l : List Nat), vs = [.ref a, .ref b] ∧ FoAt K H a f ∧ SqL K H b (nv l) ∧ AllOf l f.length ∧ RetV (.bl (keepsB f l)) H Q
theorem AllOf.mem {l : List Nat} {m x : Nat} (al : AllOf l m) (hx : x < m) : x ∈ l := Classical.byContradiction fun hn => by
  have h1 : (x :: l).Nodup := List.nodup_cons.mpr ⟨hn, al.nd⟩
  have := nodup_le m _ h1 (fun y hy => by
    rcases List.mem_cons.mp hy with rfl | h
    · exact hx
    · exact al.lt y h)
  have := al.len
  simp at *; omega
theorem look_pos {l : List Nat} (nd : l.Nodup) (k : Nat) : valV (dput (fun i => Sum.inl ((l.getD i 0 : Nat) : Int)) (fun i => V.int (i : Int)) l.length) (Sum.inl (k : Int)) = (posOf l k).map fun i => V.int (i : Int) := by
  cases e : posOf l k with
  | some i =>
    have h1 := posOf_some e
    have h2 := posOf_lt e
    refine dput_some _ i h2 ?_ fun j h3 h4 q => ?_
    · rw [List.getD_eq_getElem?_getD, h1]; rfl
    · have q := kInt_inj q
      rw [List.getD_eq_getElem?_getD, List.getElem?_eq_getElem h4] at q
      obtain ⟨h5, e5⟩ := List.getElem?_eq_some_iff.mp h1
      have := (List.getElem_inj nd (i := j) (j := i)).mp (q.trans e5.symm)
      omega
  | none =>
    refine dput_none _ fun i hi q => ?_
    have q := kInt_inj q
    rw [List.getD_eq_getElem?_getD, List.getElem?_eq_getElem hi] at q
    have q : l[i] = k := q
    have : k ∈ l := q ▸ List.getElem_mem hi
    obtain ⟨j, hj⟩ := posOf_mem this
    rw [e] at hj; cases hj
def sp_is_row (K : PySem.W.Frag) : Sp := fun vs H Q _ => ∃ (a b : Addr) (f : Fo) (l : List Nat), vs = [.ref a, .ref b] ∧ FoAt K H a f ∧ H b = some (.lst (nv l)) ∧ AllOf l f.length ∧ RetV (.bl (keepsB f l)) H Q
/-! ### check_index -/
def sp_check_index : Sp := fun vs H Q _ => ∃ (i m : Nat), vs = [.int (i : Int), .int (m : Int)] ∧ i < m ∧ Q .non H
/-! ### count_by, count_of -/
abbrev s_count_by : Stmt := top 24
abbrev n_count_by : List Str := ["row", "found", "size"]
theorem sc_count_by : FnScope n_count_by ["row"] (defScope s_count_by) := ⟨rfl, rfl, rfl, by decide +kernel, rfl, by decide +kernel, by decide +kernel⟩

theorem cdiv_small {i : Int} {j : Nat} (h : 0 < j) (h2 : j ≤ 100000) : CDivW i (j : Int) := wide_div (b := 20) (by omega) (by omega) (by decide) (by decide)
def sp_count_by (K : PySem.W.Frag) : Sp := fun vs H Q _ => ∃ (a : Addr) (l : List Nat), vs = [.ref a] ∧ SqL K H a (nv l) ∧ l.length ≤ 1000 ∧ (∀ x ∈ l, 0 < x ∧ x ≤ 100000) ∧ Q (.int (cby l : Nat)) H
theorem c_count_by (D : De K mg "count_by" s_count_by ["row"]) (B : Bu mg) (c_factorial : Cl P w K mg base CX0 1 "factorial" sp_factorial) : Cl P w K mg base CX0 2 "count_by" (sp_count_by K) := by
  refine mk_cl D sc_count_by (fun vs H Q E h => ?_) (fun fa cdv A outer s H vs Q E hr h => ?_)
  · obtain ⟨a, l, rfl, _⟩ := h
    rfl
  · obtain ⟨a, l, rfl, hL, hn, hp, k⟩ := h
    have nd := sc_count_by.nd
    have hll : (nv l).length = l.length := List.length_map _
    refine ⟨_, (pss_cons (ps_set (i := 1) nd rfl (Or.inl rfl) (p_call c_factorial hr (by decide) (by rfl) pass0 (pa_cons (pe_callB (k_len (K := K)) (by rfl) B.len_ PySem.boot_len (pa_cons (pv 0) pa_nil)) pa_nil)))
      (pss_cons (ps_for PassesOwn.never rfl (k_pi_list (K := K) (pv 0)) (pg_name (i := 2) nd rfl (Or.inl rfl))
        (pss_one (ps_set (i := 1) nd rfl (Or.inl rfl) (pe_op op_fdivW (pv 1) (pv 2)))))
      (pss_one (ps_ret (pv 1))))), ?_⟩
    refine ⟨_, rfl, a, _, rfl, .inl hL, l.length, by rw [hll]; rfl, by omega, ?_⟩
    refine ⟨_, rfl, a, rfl, ⟨_, hL⟩, ?_⟩
    refine for_list (K := K) (a := a) (xs := nv l) (fun i σ H2 => ∃ v, σ = [some (.ref a), some (.int ((l.take i).foldl (· / ·) (fact l.length) : Nat)), v] ∧ H2 = H) ⟨_, rfl, rfl⟩ (fun i σ H2 _ ⟨_, _, e⟩ => by rw [e]; exact hL) ?_ ?_
    · rintro i x σ H2 hx ⟨v, rfl, rfl⟩
      have hi : i < l.length := by have := (List.getElem?_eq_some_iff.mp hx).1; omega
      rw [nv_get (List.getElem?_eq_getElem hi)] at hx
      cases hx
      obtain ⟨h1, h2⟩ := hp l[i] (List.getElem_mem hi)
      refine ⟨_, rfl, _, rfl, _, _, rfl, rfl, cdiv_small h1 h2, ?_⟩
      have e : (((l.take (i + 1)).foldl (· / ·) (fact l.length) : Nat) : Int) = (((l.take i).foldl (· / ·) (fact l.length) : Nat) : Int) / ((l[i] : Nat) : Int) := by
        rw [List.take_add_one, List.getElem?_eq_getElem hi, List.foldl_append]; rfl
      exact ⟨some (.int ((l[i] : Nat) : Int)), by rw [e]; rfl, rfl⟩
    · rintro σ H2 ⟨v, rfl, rfl⟩
      refine ⟨_, rfl, ?_⟩
      rw [hll, List.take_length]
      exact k
abbrev s_count_of : Stmt := top 25
abbrev n_count_of : List Str := ["forest"]
theorem sc_count_of : FnScope n_count_of ["forest"] (defScope s_count_of) := ⟨rfl, rfl, rfl, by decide +kernel, rfl, by decide +kernel, by decide +kernel⟩

def sp_count_of (K : PySem.W.Frag) : Sp := fun vs H Q _ => ∃ (a : Addr) (f : Fo), vs = [.ref a] ∧ FoAt K H a f ∧ RetV (.int (cof f : Nat)) H Q
theorem szs_ok {f : Fo} (hn : f.length ≤ 1000) : (szs f).length ≤ 1000 ∧ ∀ x ∈ szs f, 0 < x ∧ x ≤ 100000 := by
  unfold szs
  refine ⟨by rw [List.length_map, List.length_range]; exact hn, fun x hx => ?_⟩
  obtain ⟨t, ht, rfl⟩ := List.mem_map.mp hx
  have h1 := sz_pos (f := f) (List.mem_range.mp ht)
  have h2 := sz_le f t
  omega
theorem c_count_of (D : De K mg "count_of" s_count_of ["forest"]) (c_sizes_of : Cl P w K mg base CX0 2 "sizes_of" (sp_sizes_of K)) (c_count_by : Cl P w K mg base CX0 2 "count_by" (sp_count_by K)) : Cl P w K mg base CX0 3 "count_of" (sp_count_of K) := by
  refine mk_cl D sc_count_of (fun vs H Q E h => ?_) (fun fa cdv A outer s H vs Q E hr h => ?_)
  · obtain ⟨a, f, rfl, _⟩ := h
    rfl
  · obtain ⟨a, f, rfl, hF, k⟩ := h
    have nd := sc_count_of.nd
    refine ⟨_, (pss_one (ps_ret (p_call c_count_by hr (by decide) (by rfl) pass0 (pa_cons (p_call c_sizes_of hr (by decide) (by rfl) pass0 (pa_cons (pv 0) pa_nil)) pa_nil)))), ?_⟩
    obtain ⟨h1, h2⟩ := szs_ok hF.2.2
    refine ⟨_, rfl, a, f, rfl, hF, fun p H1 hp s1 hp1 => ⟨p, szs f, rfl, .of hp1, h1, h2, k _ s1⟩⟩
/-! ### ready_behind, row_at -/
def sp_ready_behind (K : PySem.W.Frag) : Sp := fun vs H Q _ => ∃ (a b : Addr) (f : Fo) (r : List Nat) (t : Nat), vs = [.ref a, .ref b, .int (t : Int)] ∧ FoAt K H a f ∧ SqL K H b (nv r) ∧ r.length ≤ 1000 ∧ RetL (nv (rdy f r t)) H Q
theorem nv_app (a b : List Nat) : nv a ++ nv b = nv (a ++ b) := (List.map_append ..).symm
end
end Hb
namespace Hb
open PySem PySem.Spec PyProof.Rows L2
section
variable {P : Program} {w : World} {K : PySem.W.Frag} {mg : Str → Option Value} {base : Heap}
/-! ### row_at -/
theorem szs_get {f : Fo} {t : Nat} (h : t < f.length) : (nv (szs f))[t]? = some (.int (sz f t : Nat)) := by
  unfold szs nv
  rw [List.map_map, List.getElem?_map, List.getElem?_range h]; rfl
def curV : Option (Nat × Nat) → Option V → Option V → Option V × Option V
  | none, a, b => (a, b)
  | some (t, p), _, _ => (some (.int (t : Int)), some (.int (p : Int)))
def sp_row_at (K : PySem.W.Frag) : Sp := fun vs H Q _ => ∃ (a : Addr) (f : Fo) (i : Nat), vs = [.ref a, .int (i : Int)] ∧ FoAt K H a f ∧ RetL (nv (rowAt f i)) H Q
theorem hld_le (f : Fo) (h : Option Nat) : (hld f h).length ≤ f.length := by
  have := List.length_filter_le (fun i => decide (hd f i = h)) (List.range f.length)
  rw [List.length_range] at this
  exact this
/-! ### count_sequences, nth_sequence, place_range -/
abbrev s_count_sequences : Stmt := top 26
abbrev n_count_sequences : List Str := ["forest"]
theorem sc_count_sequences : FnScope n_count_sequences ["forest"] (defScope s_count_sequences) := ⟨rfl, rfl, rfl, by decide +kernel, rfl, by decide +kernel, by decide +kernel⟩

theorem c_count_sequences (D : De K mg "count_sequences" s_count_sequences ["forest"]) (c_check_forest : Cl P w K mg base CX0 3 "check_forest" (sp_check_forest K)) (c_count_of : Cl P w K mg base CX0 3 "count_of" (sp_count_of K)) : Cl P w K mg base CX0 4 "count_sequences" (sp_count_of K) := by
  refine mk_cl D sc_count_sequences (fun vs H Q E h => ?_) (fun fa cdv A outer s H vs Q E hr h => ?_)
  · obtain ⟨v, f, rfl, _⟩ := h
    rfl
  · obtain ⟨a, f, rfl, hF, k⟩ := h
    have nd := sc_count_sequences.nd
    refine ⟨_, (pss_cons (ps_expr (p_call c_check_forest hr (by decide) (by rfl) pass0 (pa_cons (pv 0) pa_nil)))
      (pss_one (ps_ret (p_call c_count_of hr (by decide) (by rfl) pass0 (pa_cons (pv 0) pa_nil))))), ?_⟩
    refine ⟨_, rfl, a, f, rfl, hF, fun H1 s1 => ?_⟩
    exact ⟨_, rfl, a, f, rfl, hF.mono s1, fun H2 s2 => k H2 (s1.trans s2)⟩
def sp_nth_sequence (K : PySem.W.Frag) : Sp := fun vs H Q _ => ∃ (a : Addr) (f : Fo) (i : Nat), vs = [.ref a, .int (i : Int)] ∧ FoAt K H a f ∧ i < cof f ∧ RetL (nv (rowAt f i)) H Q
def sp_place_range (K : PySem.W.Frag) : Sp := fun vs H Q _ => ∃ (a : Addr) (f : Fo) (t : Nat), vs = [.ref a, .int (t : Int)] ∧ FoAt K H a f ∧ t < f.length ∧ RetT [.int (dep f t : Nat), .int ((f.length : Int) - (sz f t : Nat))] H Q
end
end Hb
namespace Hb
open PySem PySem.Spec PyProof.Rows L2
section
variable {P : Program} {w : World} {K : PySem.W.Frag} {mg : Str → Option Value} {base : Heap}
/-! ### the wells -/
abbrev s__law_well : Stmt := top 50
abbrev n__law_well : List Str := ["script", "at", "cell"]
theorem sc__law_well : FnScope n__law_well ["script", "at"] (defScope s__law_well) := ⟨rfl, rfl, rfl, by decide +kernel, rfl, by decide +kernel, by decide +kernel⟩

def sp_law_well (K : PySem.W.Frag) : Sp := fun vs H Q _ => ∃ (a : Addr) (ns : List Int) (i : Nat), vs = [.ref a, .int (i : Int)] ∧ SqL K H a (ns.map V.int) ∧ i ≤ 100 ∧
  ∀ p H', H p = none → Same H H' → WellAt H' p 0 → Q (.ref p) H'
theorem c_law_well (D : De K mg "_law_well" s__law_well ["script", "at"]) (B : Bu mg) : Cl P w K mg base CX0 1 "_law_well" (sp_law_well K) := by
  refine mk_cl D sc__law_well (fun vs H Q E h => ?_) (fun fa cdv A outer s H vs Q E hr h => ?_)
  · obtain ⟨a, ns, i, rfl, _⟩ := h
    rfl
  · obtain ⟨a, ns, i, rfl, hS, hi, k⟩ := h
    have nd := sc__law_well.nd
    refine ⟨_, (pss_cons (ps_set (i := 2) nd rfl (Or.inl rfl) (pe_ifExp (pt_cmpR op_lt (pv 1) (pe_callB (k_len (K := K)) (by rfl) B.len_ PySem.boot_len (pa_cons (pv 0) pa_nil)) (nomark _)) (pe_ix (k_ix_list (K := K)) (pv 0) (pv 1) (fun _ _ => rfl)) pe_int))
      (pss_one (ps_ret (pe_lst (pa_cons (pe_callB (call_max2 rfl) (by rfl) B.max_ (by decide +kernel) (pa_cons pe_int (pa_cons (pe_op op_sub (pe_callB call_abs (by rfl) B.abs_ (by decide +kernel) (pa_cons (pv 2) pa_nil)) (pe_op op_powB pe_int pe_int)) pa_nil))) (pa_cons (pe_op op_add (pe_op op_add (pe_op op_mul (pe_op op_mod (pe_callTy call_int1 (by rfl) B.int_ bt_int (pa_cons (pv 2) pa_nil)) (pe_op op_add (pe_op op_powB pe_int pe_int) pe_int)) pe_int) (pe_op op_mul pe_int (pv 1))) pe_int) (pa_cons pe_int pa_nil))))))), ?_⟩
    have hl : (ns.map V.int).length = ns.length := List.length_map _
    refine ⟨_, rfl, _, rfl, a, _, rfl, .inl hS, _, _, rfl, rfl, _, rfl, ?_⟩
    rw [hl]
    have e37 : (10 : Int) ^ (37 : Int).toNat = 10 ^ 37 := rfl
    have pw : ∀ j : Int, 0 ≤ j → j ≤ 1000 → CPowB 10 j := fun j h0 h1 => powB_of (by decide) (by decide +kernel) h0 h1
    have mp : (0 : Int) < 10 ^ (37 : Int).toNat + 141 := by decide +kernel
    have mb : ((10 : Int) ^ (37 : Int).toNat + 141) * 101 + 67 * 100 + 41 < 2 ^ 131 := by decide +kernel
    by_cases hlt : i < ns.length
    case pos =>
      rw [decide_eq_true (by omega : (i : Int) < (ns.length : Int))]
      refine iteT ⟨_, rfl, _, rfl, a, _, _, _, rfl, rfl, hS, atI_nat (v := .int ns[i]) (by rw [List.getElem?_map, List.getElem?_eq_getElem hlt]; rfl), _, rfl, ?_⟩
      have b0 := Int.emod_nonneg ns[i] (Int.ne_of_gt mp)
      have b1 := Int.emod_lt_of_pos ns[i] mp
      refine ⟨_, rfl, _, _, rfl, rfl, pw 18 (by decide) (by decide), _, _, rfl, rfl, _, _, rfl, _, rfl, .inl ⟨_, rfl, ?_⟩⟩
      refine ⟨_, _, rfl, rfl, pw 37 (by decide) (by decide), _, _, rfl, rfl, _, _, rfl, rfl, mp, _, _, rfl, rfl, .inr ⟨by decide, by decide⟩, _, rfl, _, _, rfl, rfl, .inl ⟨by decide, by decide⟩, _, _, rfl, rfl, _, _, rfl, rfl, ?_⟩
      refine ⟨by show 3 ≤ sizeLine; decide, fun p hp => k p _ hp (same_new0 hp) ⟨_, _, _, upd_same, ?_, ?_, by decide, by decide⟩⟩
      · omega
      · omega
    case neg =>
      rw [decide_eq_false (by omega : ¬ (i : Int) < (ns.length : Int))]
      refine iteF ⟨_, rfl, ?_⟩
      have b0 := Int.emod_nonneg 0 (Int.ne_of_gt mp)
      have b1 := Int.emod_lt_of_pos 0 mp
      refine ⟨_, rfl, _, _, rfl, rfl, pw 18 (by decide) (by decide), _, _, rfl, rfl, _, _, rfl, _, rfl, .inl ⟨_, rfl, ?_⟩⟩
      refine ⟨_, _, rfl, rfl, pw 37 (by decide) (by decide), _, _, rfl, rfl, _, _, rfl, rfl, mp, _, _, rfl, rfl, .inr ⟨by decide, by decide⟩, _, rfl, _, _, rfl, rfl, .inl ⟨by decide, by decide⟩, _, _, rfl, rfl, _, _, rfl, rfl, ?_⟩
      refine ⟨by show 3 ≤ sizeLine; decide, fun p hp => k p _ hp (same_new0 hp) ⟨_, _, _, upd_same, ?_, ?_, by decide, by decide⟩⟩
      · omega
      · omega
abbrev s__law_draw : Stmt := top 51
abbrev n__law_draw : List Str := ["well", "most", "digit", "blend"]
theorem sc__law_draw : FnScope n__law_draw ["well", "most"] (defScope s__law_draw) := ⟨rfl, rfl, rfl, by decide +kernel, rfl, by decide +kernel, by decide +kernel⟩

def sp_law_draw : Sp := fun vs H Q _ => ∃ (p : Addr) (m : Int) (N : Nat), vs = [.ref p, .int m] ∧ 0 < m ∧ m < 2 ^ 1000 ∧ WellAt H p N ∧ N ≤ 100000 ∧
  ∀ (r : Nat) H', (r : Int) < m → Kp [p] H H' → WellAt H' p (N + 1) → Q (.int (r : Int)) H'
theorem log2_ok {i m : Int} (h : 0 < m) (h2 : m < 2 ^ 1000) : CDivW i m := by
  refine wide_div (b := 1000) h ?_ (by decide) (by decide)
  have : ((m.natAbs : Nat) : Int) < ((2 ^ 1000 : Nat) : Int) := by rw [Int.natAbs_of_nonneg (Int.le_of_lt h)]; exact_mod_cast h2
  exact_mod_cast this
theorem c_law_draw (D : De K mg "_law_draw" s__law_draw ["well", "most"]) (B : Bu mg) : Cl P w K mg base CX0 1 "_law_draw" sp_law_draw := by
  refine mk_cl D sc__law_draw (fun vs H Q E h => ?_) (fun fa cdv A outer s H vs Q E hr h => ?_)
  · obtain ⟨p, m, N, rfl, _⟩ := h
    rfl
  · obtain ⟨p, m, N, rfl, hm, hm2, ⟨w0, w1, w2, hw, g1, g2, g3, g4⟩, hN, k⟩ := h
    have nd := sc__law_draw.nd
    have last : ∀ (x : Int) (H' : Hp), Kp [p] H H' → WellAt H' p (N + 1) → Q (.int (x % m)) H' := fun x H' kp wl => by
      have b0 := Int.emod_nonneg x (Int.ne_of_gt hm)
      have b1 := Int.emod_lt_of_pos x hm
      obtain ⟨r, er⟩ := Int.eq_ofNat_of_zero_le b0
      rw [er] at b1 ⊢
      exact k r H' b1 kp wl
    refine ⟨_, (pss_cons (ps_if (pt_cmpR op_gt (pe_ix (k_ix_list (K := K)) (pv 0) pe_int (fun _ _ => rfl)) pe_int (nomark _))
        (pss_cons (ps_set (i := 2) nd rfl (Or.inl rfl) (pe_op op_mod (pe_callTy call_int1 (by rfl) B.int_ bt_int (pa_cons (pe_ix (k_ix_list (K := K)) (pv 0) pe_int (fun _ _ => rfl)) pa_nil)) (pv 1)))
        (pss_cons (ps_asg (pe_op op_fdivW (pe_ix (k_ix_list (K := K)) (pv 0) pe_int (fun _ _ => rfl)) (pv 1)) (pg_sub (pv 0) pe_int set_list))
        (pss_one (ps_ret (pv 2)))))
        pss_nil)
      (pss_cons (ps_asg (pe_op op_add (pe_ix (k_ix_list (K := K)) (pv 0) pe_int (fun _ _ => rfl)) pe_int) (pg_sub (pv 0) pe_int set_list))
      (pss_cons (ps_set (i := 3) nd rfl (Or.inl rfl) (pe_op op_mod (pe_op op_powB (pe_callTy call_int1 (by rfl) B.int_ bt_int (pa_cons (pe_op op_add (pe_ix (k_ix_list (K := K)) (pv 0) pe_int (fun _ _ => rfl)) (pe_op op_mul pe_int (pe_ix (k_ix_list (K := K)) (pv 0) pe_int (fun _ _ => rfl)))) pa_nil)) pe_int) (pe_op op_add (pe_op op_powB pe_int pe_int) pe_int)))
      (pss_cons (ps_set (i := 3) nd rfl (Or.inl rfl) (pe_op op_mod (pe_op op_powB (pe_callTy call_int1 (by rfl) B.int_ bt_int (pa_cons (pe_op op_add (pv 3) (pe_op op_mul pe_int (pe_ix (k_ix_list (K := K)) (pv 0) pe_int (fun _ _ => rfl)))) pa_nil)) pe_int) (pe_op op_add (pe_op op_powB pe_int pe_int) pe_int)))
      (pss_one (ps_ret (pe_op op_mod (pe_callTy call_int1 (by rfl) B.int_ bt_int (pa_cons (pe_op op_fdivW (pv 3) pe_int) pa_nil)) (pv 1)))))))), ?_⟩
    refine ⟨_, rfl, p, _, 0, _, rfl, rfl, .of hw, rfl, _, _, rfl, rfl, _, rfl, ?_⟩
    by_cases h0 : w0 > 0
    case pos =>
      rw [decide_eq_true h0]
      refine iteT ⟨_, rfl, p, _, 0, _, rfl, rfl, .of hw, rfl, .inl ⟨_, rfl, _, rfl, _, _, rfl, rfl, hm, ?_⟩⟩
      refine ⟨_, rfl, p, _, 0, _, rfl, rfl, .of hw, rfl, _, rfl, _, _, rfl, rfl, log2_ok hm hm2, _, rfl, p, _, 0, 0, rfl, rfl, hw, rfl, _, rfl, ?_⟩
      exact last _ _ (Kp.put (by simp) Kp.refl) ⟨_, _, _, upd_same, g1, g2, g3, by omega⟩
    case neg =>
      rw [decide_eq_false h0]
      refine iteF ⟨_, rfl, p, _, 2, _, rfl, rfl, .of hw, rfl, _, _, rfl, rfl, _, rfl, p, _, 2, 2, rfl, rfl, hw, rfl, ?_⟩
      have kp : Kp [p] H (upd H p (.lst [.int w0, .int w1, .int (w2 + 1)])) := Kp.put (by simp) Kp.refl
      have hw' : upd H p (.lst [.int w0, .int w1, .int (w2 + 1)]) p = some (.lst [.int w0, .int w1, .int (w2 + 1)]) := upd_same
      have p3 : ∀ i : Int, 0 ≤ i → i < 2 ^ 1000 → CPowB i 3 := fun i h1 h2 => powB_of h1 h2 (by decide) (by decide)
      have t1 : (w1 + 715827883 * (w2 + 1)) < 2 ^ 1000 := Int.lt_of_lt_of_le (b := 2 ^ 131 + 715827883 * 100001) (by omega) (by decide +kernel)
      have m41 : (0 : Int) < 10 ^ (41 : Int).toNat + 109 := by decide +kernel
      have m39 : (0 : Int) < 10 ^ (39 : Int).toNat + 3 := by decide +kernel
      have b0 := Int.emod_nonneg ((w1 + 715827883 * (w2 + 1)) ^ (3 : Int).toNat) (Int.ne_of_gt m41)
      have b1 := Int.emod_lt_of_pos ((w1 + 715827883 * (w2 + 1)) ^ (3 : Int).toNat) m41
      have t2 : (w1 + 715827883 * (w2 + 1)) ^ (3 : Int).toNat % (10 ^ (41 : Int).toNat + 109) + 198491317 * (w2 + 1) < 2 ^ 1000 :=
        Int.lt_of_lt_of_le (b := 10 ^ (41 : Int).toNat + 109 + 198491317 * 100001) (by omega) (by decide +kernel)
      refine ⟨_, rfl, p, _, 1, _, rfl, rfl, .of hw', rfl, _, rfl, p, _, 2, _, rfl, rfl, .of hw', rfl, _, _, rfl, rfl, .inl ⟨by decide, by decide⟩, _, _, rfl, rfl, .inl ⟨_, rfl, _, _, rfl, rfl, p3 _ (by omega) t1, ?_⟩⟩
      refine ⟨_, _, rfl, rfl, powB_of (by decide) (by decide +kernel) (by decide) (by decide), _, _, rfl, rfl, _, _, rfl, rfl, m41, ?_⟩
      refine ⟨_, rfl, _, rfl, p, _, 2, _, rfl, rfl, .of hw', rfl, _, _, rfl, rfl, .inl ⟨by decide, by decide⟩, _, _, rfl, rfl, .inl ⟨_, rfl, _, _, rfl, rfl, p3 _ (by omega) t2, ?_⟩⟩
      refine ⟨_, _, rfl, rfl, powB_of (by decide) (by decide +kernel) (by decide) (by decide), _, _, rfl, rfl, _, _, rfl, rfl, m39, ?_⟩
      refine ⟨_, rfl, _, _, rfl, rfl, log2_ok (by decide) (by decide +kernel), .inl ⟨_, rfl, _, rfl, _, _, rfl, rfl, hm, ?_⟩⟩
      exact last _ _ kp ⟨_, _, _, hw', g1, g2, by omega, by omega⟩
end
end Hb
namespace Hb
open PySem PySem.Spec PyProof.Rows L2
section
variable {P : Program} {w : World} {K : PySem.W.Frag} {mg : Str → Option Value} {base : Heap}
/-! ### a drawn forest -/
abbrev s__law_forest : Stmt := top 52
abbrev n__law_forest : List Str := ["well", "most", "size", "way", "found", "k", "some", "names", "left", "turned_here"]
theorem sc__law_forest : FnScope n__law_forest ["well", "most"] (defScope s__law_forest) := ⟨rfl, rfl, rfl, by decide +kernel, rfl, by decide +kernel, by decide +kernel⟩

def sp_law_forest (K : PySem.W.Frag) : Sp := fun vs H Q _ => ∃ (p : Addr) (m N : Nat), vs = [.ref p, .int (m : Int)] ∧ 0 < m ∧ m ≤ 1000 ∧ WellAt H p N ∧ N ≤ 50000 ∧
  ∀ a f H', H a = none → Kp [p] H H' → WellAt H' p (N + 3 + 6 * m) → FoAt K H' a f → f.length ≤ m → Q (.ref a) H'
theorem kp_free {H H' : Hp} {p a : Addr} {N : Nat} (k : Kp [p] H H') (wl : WellAt H' p N) (h : H' a = none) : H a = none := by
  cases e : H a with
  | none => rfl
  | some o =>
    by_cases q : a = p
    · obtain ⟨_, _, _, e2, _⟩ := wl
      rw [q, e2] at h; cases h
    · rw [k a o (by simp [q]) e] at h; cases h
theorem rgV_nv (n : Nat) : rgV 0 (n : Int) = nv (List.range n) := by
  unfold rgV nv
  have e : ((n : Int) - 0).toNat = n := by omega
  rw [e]
  exact List.map_congr_left fun i _ => by show V.int (0 + (i : Int)) = _; rw [Int.zero_add]
theorem er_map {α β : Type} (g : α → β) : ∀ (l : List α) (r : Nat), (l.map g).eraseIdx r = (l.eraseIdx r).map g
  | [], _ => rfl
  | _ :: _, 0 => rfl
  | x :: l, r + 1 => by
    show g x :: (l.map g).eraseIdx r = g x :: (l.eraseIdx r).map g
    rw [er_map g l r]
theorem er_perm {α : Type} : ∀ {l : List α} {r : Nat} (h : r < l.length), (l[r] :: l.eraseIdx r).Perm l
  | _ :: _, 0, _ => List.Perm.refl _
  | x :: l, r + 1, h => (List.Perm.swap _ _ _).trans ((er_perm (l := l) (r := r) (by simpa using h)).cons x)
theorem hd_set {gt : Fo} {a t : Nat} {v : Option Nat} (ha : a < gt.length) : hd (gt.set a v) t = if t = a then v else hd gt t := by
  unfold hd
  rw [List.getD_eq_getElem?_getD, List.getElem?_set]
  by_cases e : a = t
  · rw [if_pos e, if_pos e.symm, if_pos ha]; rfl
  · rw [if_neg e, if_neg (fun q => e q.symm)]
    exact (List.getD_eq_getElem?_getD ..).symm
/-- the forest with its things' names exchanged -/
theorem turned_ok {fo gt : Fo} {ns : List Nat} (o : Ok fo) (hp : ns.Perm (List.range fo.length)) (hl : gt.length = fo.length) (hg : ∀ j (h : j < ns.length), hd gt ns[j] = (hd fo j).map fun x => ns.getD x 0) : Ok gt := by
  have hnl : ns.length = fo.length := by have := hp.length_eq; rw [List.length_range] at this; exact this
  have nd : ns.Nodup := hp.nodup_iff.mpr List.nodup_range
  have hmem : ∀ x, x ∈ ns ↔ x < fo.length := fun x => by rw [hp.mem_iff, List.mem_range]
  obtain ⟨d, hd'⟩ := o.rk
  have key : ∀ t k, hd gt t = some k → ∃ i j, ns[i]? = some t ∧ ns[j]? = some k ∧ hd fo i = some j := fun t k e => by
    have ht : t < fo.length := by rw [← hl]; exact hd_lt e
    obtain ⟨i, hi, et⟩ := List.mem_iff_getElem.mp ((hmem t).mpr ht)
    have := hg i hi
    rw [et, e] at this
    cases ei : hd fo i with
    | none => rw [ei] at this; cases this
    | some j =>
      rw [ei] at this
      have hj : j < ns.length := by rw [hnl]; exact o.lt _ _ ei
      have e2 : k = ns.getD j 0 := by injection this
      rw [List.getD_eq_getElem?_getD, List.getElem?_eq_getElem hj] at e2
      exact ⟨i, j, by rw [List.getElem?_eq_getElem hi, et], by rw [List.getElem?_eq_getElem hj, e2]; rfl, ei⟩
  refine ⟨by rw [hl]; exact o.ne, fun t k e => ?_, fun x => d ((posOf ns x).getD 0), fun t k e => ?_⟩
  · obtain ⟨i, j, _, h2, _⟩ := key t k e
    rw [hl]
    exact (hmem k).mp (List.mem_iff_getElem?.mpr ⟨j, h2⟩)
  · obtain ⟨i, j, h1, h2, h3⟩ := key t k e
    show d ((posOf ns k).getD 0) < d ((posOf ns t).getD 0)
    rw [posOf_at nd h1, posOf_at nd h2]
    exact hd' i j h3
theorem nodup_inj {l : List Nat} (nd : l.Nodup) {i j : Nat} (hi : i < l.length) (hj : j < l.length) (e : l[i] = l[j]) : i = j := by
  have h1 := posOf_at nd (List.getElem?_eq_getElem hi)
  have h2 := posOf_at nd (List.getElem?_eq_getElem hj)
  rw [e, h2] at h1
  injection h1 with h1
  exact h1.symm
theorem ixn_nat {n j : Nat} (h : j < n) : ixN n (j : Int) = some j := by
  unfold ixN
  rw [if_pos (by omega), if_pos (by omega)]; simp
theorem hd_snoc {fo : Fo} {i : Nat} {s : Option Nat} (hl : fo.length = i) (h : ∀ t j, hd fo t = some j → j < t) (hs : ∀ j, s = some j → j < i) : ∀ t j, hd (fo ++ [s]) t = some j → j < t := fun t j e => by
  by_cases h1 : t < fo.length
  · rw [hd_app1 h1] at e; exact h t j e
  · obtain ⟨d, rfl⟩ : ∃ d, t = fo.length + d := ⟨t - fo.length, by omega⟩
    rw [hd_app2] at e
    cases d with
    | zero => have := hs j e; omega
    | succ d => cases e
theorem pick3 {i r r2 : Nat} (hi : 0 < i) (hr : r < i) (h : r2 < 3) : ∃ s : Option Nat, (∀ j, s = some j → j < i) ∧ [V.non, V.int ((i : Int) - 1), V.int (r : Int)][r2]? = some (ov s) := by
  have e : (i : Int) - 1 = ((i - 1 : Nat) : Int) := by omega
  match r2, h with
  | 0, _ => exact ⟨none, fun j h => (by cases h), rfl⟩
  | 1, _ => exact ⟨some (i - 1), fun j h => (by cases h; omega), by rw [e]; rfl⟩
  | 2, _ => exact ⟨some r, fun j h => (by cases h; exact hr), rfl⟩
theorem pick2 {i r2 : Nat} (hi : 0 < i) (h : r2 < 2) : ∃ s : Option Nat, (∀ j, s = some j → j < i) ∧ [V.int ((i : Int) - 1), V.int (if (i : Int) - 2 > 0 then (i : Int) - 2 else 0)][r2]? = some (ov s) := by
  have e : (i : Int) - 1 = ((i - 1 : Nat) : Int) := by omega
  have e2 : (if (i : Int) - 2 > 0 then (i : Int) - 2 else 0) = ((i - 2 : Nat) : Int) := by split <;> omega
  match r2, h with
  | 0, _ => exact ⟨some (i - 1), fun j h => (by cases h; omega), by rw [e]; rfl⟩
  | 1, _ => exact ⟨some (i - 2), fun j h => (by cases h; omega), by rw [e2]; rfl⟩
theorem pick4 {i r r2 : Nat} (hi : 0 < i) (hr : r < i) (h : r2 < 4) : ∃ s : Option Nat, (∀ j, s = some j → j < i) ∧ [V.int 0, V.int 0, V.non, V.int (r : Int)][r2]? = some (ov s) := by
  match r2, h with
  | 0, _ => exact ⟨some 0, fun j h => (by cases h; exact hi), rfl⟩
  | 1, _ => exact ⟨some 0, fun j h => (by cases h; exact hi), rfl⟩
  | 2, _ => exact ⟨none, fun j h => (by cases h), rfl⟩
  | 3, _ => exact ⟨some r, fun j h => (by cases h; exact hr), rfl⟩
theorem c_law_forest (D : De K mg "_law_forest" s__law_forest ["well", "most"]) (B : Bu mg) (c__law_draw : Cl P w K mg base CX0 1 "_law_draw" sp_law_draw) : Cl P w K mg base CX0 2 "_law_forest" (sp_law_forest K) := by
  refine mk_cl D sc__law_forest (fun vs H Q E h => ?_) (fun fa cdv A outer s H vs Q E hr h => ?_)
  · obtain ⟨p, m, N, rfl, _⟩ := h
    rfl
  · obtain ⟨p, m, N, rfl, hm, hm2, wl, hN, k⟩ := h
    have nd := sc__law_forest.nd
    refine ⟨_, (pss_cons (ps_set (i := 2) nd rfl (Or.inl rfl) (pe_op op_add pe_int (p_call c__law_draw hr (by decide) (by rfl) pass0 (pa_cons (pv 0) (pa_cons (pv 1) pa_nil)))))
      (pss_cons (ps_set (i := 3) nd rfl (Or.inl rfl) (p_call c__law_draw hr (by decide) (by rfl) pass0 (pa_cons (pv 0) (pa_cons pe_int pa_nil))))
      (pss_cons (ps_set (i := 4) nd rfl (Or.inl rfl) (pe_lst pa_nil))
      (pss_cons (ps_for PassesOwn.never rfl (pi_range1 (by rfl) B.range_ (pa_cons (pv 2) pa_nil)) (pg_name (i := 5) nd rfl (Or.inl rfl))
        (pss_cons (ps_set (i := 6) nd rfl (Or.inl rfl) (pe_ifExp (pt_cmpR op_gt (pv 5) pe_int (nomark _)) (pe_ix (k_ix_list (K := K)) (pe_lst (pa_cons pe_non (pa_cons (pe_op op_sub (pv 5) pe_int) (pa_cons (p_call c__law_draw hr (by decide) (by rfl) pass0 (pa_cons (pv 0) (pa_cons (pe_callB (call_max2 rfl) (by rfl) B.max_ (by decide +kernel) (pa_cons pe_int (pa_cons (pv 5) pa_nil))) pa_nil))) pa_nil)))) (p_call c__law_draw hr (by decide) (by rfl) pass0 (pa_cons (pv 0) (pa_cons pe_int pa_nil))) (fun _ _ => rfl)) pe_non))
        (pss_cons (ps_if (PW.pt (pw_and (pt_cmpR op_gt (pv 5) pe_int (nomark _)) (pw_and1 (pt_cmpR op_eq (pv 3) pe_int (nomark _)))))
          (pss_one (ps_set (i := 6) nd rfl (Or.inl rfl) (pe_ix (k_ix_list (K := K)) (pe_lst (pa_cons (pe_op op_sub (pv 5) pe_int) (pa_cons (pe_callB (call_max2 rfl) (by rfl) B.max_ (by decide +kernel) (pa_cons pe_int (pa_cons (pe_op op_sub (pv 5) pe_int) pa_nil))) pa_nil))) (p_call c__law_draw hr (by decide) (by rfl) pass0 (pa_cons (pv 0) (pa_cons pe_int pa_nil))) (fun _ _ => rfl))))
          pss_nil)
        (pss_cons (ps_if (PW.pt (pw_and (pt_cmpR op_gt (pv 5) pe_int (nomark _)) (pw_and1 (pt_cmpR op_eq (pv 3) pe_int (nomark _)))))
          (pss_one (ps_set (i := 6) nd rfl (Or.inl rfl) (pe_ix (k_ix_list (K := K)) (pe_lst (pa_cons pe_int (pa_cons pe_int (pa_cons pe_non (pa_cons (p_call c__law_draw hr (by decide) (by rfl) pass0 (pa_cons (pv 0) (pa_cons (pv 5) pa_nil))) pa_nil))))) (p_call c__law_draw hr (by decide) (by rfl) pass0 (pa_cons (pv 0) (pa_cons pe_int pa_nil))) (fun _ _ => rfl))))
          pss_nil)
        (pss_one (ps_expr (k_bm (K := K) PySem.F.plainAttrs_list PySem.F.slot_list_append PySem.F.type_list_append mt_append (pv 4) (pa_cons (pv 6) pa_nil))))))))
      (pss_cons (ps_if (pt_cmpR op_eq (p_call c__law_draw hr (by decide) (by rfl) pass0 (pa_cons (pv 0) (pa_cons pe_int pa_nil))) pe_int (nomark _))
        (pss_one (ps_ret (pe_callTy (k_tuple_of (K := K)) (by rfl) B.tuple_ bt_tuple (pa_cons (pv 4) pa_nil))))
        pss_nil)
      (pss_cons (ps_par (i := 7) (j := 8) (by rfl) nd rfl rfl (by decide) rfl rfl (pa_cons (pe_lst pa_nil) (pa_cons (pe_listRg rfl (by rfl) B.list_ (prg_1 (by rfl) B.range_ (pv 2))) pa_nil)) (by rfl))
      (pss_cons (ps_for PassesOwn.never rfl (pi_range1 (by rfl) B.range_ (pa_cons (pv 2) pa_nil)) (pg_name (i := 5) nd rfl (Or.inl rfl))
        (pss_one (ps_expr (k_bm (K := K) PySem.F.plainAttrs_list PySem.F.slot_list_append PySem.F.type_list_append mt_append (pv 7) (pa_cons (k_bm (K := K) PySem.F.plainAttrs_list PySem.F.slot_list_pop PySem.F.type_list_pop mt_popAt (pv 8) (pa_cons (p_call c__law_draw hr (by decide) (by rfl) pass0 (pa_cons (pv 0) (pa_cons (pe_callB (k_len (K := K)) (by rfl) B.len_ PySem.boot_len (pa_cons (pv 8) pa_nil)) pa_nil))) pa_nil)) pa_nil)))))
      (pss_cons (ps_set (i := 9) nd rfl (Or.inl rfl) (pe_op op_rep (pe_lst (pa_cons pe_non pa_nil)) (pv 2)))
      (pss_cons (ps_for PassesOwn.never rfl (pi_range1 (by rfl) B.range_ (pa_cons (pv 2) pa_nil)) (pg_name (i := 5) nd rfl (Or.inl rfl))
        (pss_one (ps_asg (pe_ifExp (pt_cmpR op_isN (pe_ix (k_ix_list (K := K)) (pv 4) (pv 5) (fun _ _ => rfl)) pe_non (nomark _)) pe_non (pe_ix (k_ix_list (K := K)) (pv 7) (pe_ix (k_ix_list (K := K)) (pv 4) (pv 5) (fun _ _ => rfl)) (fun _ _ => rfl))) (pg_sub (pv 9) (pe_ix (k_ix_list (K := K)) (pv 7) (pv 5) (fun _ _ => rfl)) set_list))))
      (pss_one (ps_ret (pe_callTy (k_tuple_of (K := K)) (by rfl) B.tuple_ bt_tuple (pa_cons (pv 9) pa_nil))))))))))))), ?_⟩
    refine ⟨_, rfl, _, rfl, p, m, N, rfl, by omega, lt_wide (by omega), wl, by omega, fun r1 H1 hr1 k1 wl1 => ?_⟩
    refine ⟨_, _, rfl, rfl, _, rfl, p, 4, N + 1, rfl, by decide, lt_wide (by omega), wl1, by omega, fun way H2 hway k2 wl2 => ?_⟩
    have k02 := k1.trans k2
    have hp0 : ∃ o, H p = some o := let ⟨_, _, _, e, _⟩ := wl; ⟨_, e⟩
    refine ⟨Nat.zero_le _, fun pf hpf => ?_⟩
    have pf0 : H pf = none := by
      cases e : H pf with
      | none => rfl
      | some o =>
        by_cases q : pf = p
        · obtain ⟨_, _, _, e2, _⟩ := wl2
          rw [q, e2] at hpf; cases hpf
        · rw [k02 pf o (by simp [q]) e] at hpf; cases hpf
    have npf : p ≠ pf := fun e => by obtain ⟨o, h⟩ := hp0; rw [e, pf0] at h; cases h
    have es : (1 : Int) + (r1 : Int) = ((r1 + 1 : Nat) : Int) := by omega
    dsimp only
    rw [es]
    refine ⟨_, rfl, _, rfl, by omega, by omega, ?_⟩
    refine for_r0 (n := ((r1 + 1 : Nat) : Int).toNat) (fun i σ H5 => ∃ (fo : Fo) (v5 v6 : Option V), σ = [some (.ref p), some (.int (m : Int)), some (.int ((r1 + 1 : Nat) : Int)), some (.int (way : Int)), some (.ref pf), v5, v6, none, none, none] ∧
      Kp [p] H H5 ∧ H5 pf = some (.lst (hv fo)) ∧ WellAt H5 p (N + 2 + 5 * i) ∧ fo.length = i ∧ ∀ t j, hd fo t = some j → j < t)
      ⟨[], none, none, rfl, Kp.fr pf0 k02, upd_same, ⟨_, _, _, (by rw [upd_ne npf]; exact wl2.choose_spec.choose_spec.choose_spec.1), wl2.choose_spec.choose_spec.choose_spec.2⟩, rfl, fun t j h => by cases (hd_lt h)⟩ ?_ ?_
    · rintro i σ H5 hi ⟨fo, v5, v6, rfl, kp5, h5f, wl5, hlen, hdn⟩
      have hi' : i ≤ r1 := by omega
      have him : i < m := by omega
      refine cutN (Pv := fun v H6 => ∃ s : Option Nat, v = ov s ∧ (∀ j, s = some j → j < i) ∧ Kp [p] H H6 ∧ H6 pf = some (.lst (hv fo)) ∧ WellAt H6 p (N + 2 + 5 * i + 2)) (fun Q' fin => ?_) ?_
      · refine ⟨_, rfl, _, _, rfl, rfl, _, rfl, ?_⟩
        refine ite2 (fun hc => ?_) (fun hc => ?_)
        · have h0 : 0 < i := by have := of_decide_eq_true hc; omega
          refine ⟨_, rfl, _, _, rfl, rfl, _, rfl, _, rfl, _, _, rfl, ?_⟩
          have em : (if (i : Int) > 1 then (i : Int) else 1) = (i : Int) := by split <;> omega
          rw [em]
          refine ⟨p, _, _, rfl, by omega, lt_wide (by omega), wl5, by omega, fun r H6 hr6 k6 wl6 => ?_⟩
          refine ⟨by show 3 ≤ sizeLine; decide, fun q hq => ?_⟩
          have s7 : Same H6 (upd H6 q (.lst [.non, .int ((i : Int) - 1), .int (r : Int)])) := same_new0 hq
          refine ⟨_, rfl, p, 3, _, rfl, by decide, lt_wide (by omega), wl6.same s7, by omega, fun r2 H8 hr8 k8 wl8 => ?_⟩
          have k58 : Kp [p] H5 H8 := (k6.trans (Kp.of s7)).trans k8
          have nqp : q ≠ p := fun e => by obtain ⟨_, _, _, e2, _⟩ := wl6; rw [e, e2] at hq; cases hq
          obtain ⟨sx, hsx, esx⟩ := pick3 (r := r) h0 (by omega) (by omega : r2 < 3)
          refine ⟨q, _, _, _, rfl, rfl, .of (k8 q _ (by simp [nqp]) upd_same), atI_nat esx, fin _ _ ⟨sx, rfl, hsx, kp5.trans k58, k58 _ _ (by simp [npf.symm]) h5f, wl8.mono (by omega)⟩⟩
        · exact fin _ _ ⟨none, rfl, fun j h => (by cases h), kp5, h5f, wl5.mono (by omega)⟩
      · rintro v6' H6 ⟨s6, rfl, hs6, kp6, h6f, wl6⟩
        let Pz : Nat → L2.St → Hp → Prop := fun j σ H7 => ∃ s : Option Nat, σ = [some (.ref p), some (.int (m : Int)), some (.int ((r1 + 1 : Nat) : Int)), some (.int (way : Int)), some (.ref pf), some (.int (i : Int)), some (ov s), none, none, none] ∧
          (∀ j, s = some j → j < i) ∧ Kp [p] H H7 ∧ H7 pf = some (.lst (hv fo)) ∧ WellAt H7 p (N + 2 + 5 * i + j)
        refine cutS (Pv := Pz 3) (fun D' fin => ?_) ?_
        · refine ⟨_, rfl, _, _, rfl, rfl, _, rfl, ?_⟩
          refine ite2 (fun hc => ?_) (fun hc => iteF (fin _ _ ⟨s6, rfl, hs6, kp6, h6f, wl6.mono (by omega)⟩))
          have h0 : 0 < i := by have := of_decide_eq_true hc; omega
          refine ⟨_, rfl, rfl, _, rfl, ?_⟩
          refine ite2 (fun _ => ?_) (fun _ => fin _ _ ⟨s6, rfl, hs6, kp6, h6f, wl6.mono (by omega)⟩)
          refine ⟨_, rfl, _, _, rfl, rfl, _, rfl, _, _, rfl, rfl, _, _, rfl, ?_⟩
          refine ⟨by show 2 ≤ sizeLine; decide, fun q hq => ?_⟩
          have s7 : Same H6 (upd H6 q (.lst [.int ((i : Int) - 1), .int (if (i : Int) - 2 > 0 then (i : Int) - 2 else 0)])) := same_new0 hq
          refine ⟨_, rfl, p, 2, _, rfl, by decide, lt_wide (by omega), wl6.same s7, by omega, fun r2 H8 hr8 k8 wl8 => ?_⟩
          have k68 : Kp [p] H6 H8 := (Kp.of s7).trans k8
          have nqp : q ≠ p := fun e => by obtain ⟨_, _, _, e2, _⟩ := wl6; rw [e, e2] at hq; cases hq
          obtain ⟨sx, hsx, esx⟩ := pick2 h0 (by omega : r2 < 2)
          exact ⟨q, _, _, _, rfl, rfl, .of (k8 q _ (by simp [nqp]) upd_same), atI_nat esx, fin _ _ ⟨sx, rfl, hsx, kp6.trans k68, k68 _ _ (by simp [npf.symm]) h6f, wl8.mono (by omega)⟩⟩
        · rintro σ H7 ⟨s7, rfl, hs7, kp7, h7f, wl7⟩
          refine cutS (Pv := fun σ H7 => ∃ j, j ≤ 5 ∧ Pz j σ H7) (fun D' fin => ?_) ?_
          · refine ⟨_, rfl, _, _, rfl, rfl, _, rfl, ?_⟩
            refine ite2 (fun hc => ?_) (fun hc => iteF (fin _ _ ⟨3, by decide, s7, rfl, hs7, kp7, h7f, wl7⟩))
            have h0 : 0 < i := by have := of_decide_eq_true hc; omega
            refine ⟨_, rfl, rfl, _, rfl, ?_⟩
            refine ite2 (fun _ => ?_) (fun _ => fin _ _ ⟨3, by decide, s7, rfl, hs7, kp7, h7f, wl7⟩)
            refine ⟨_, rfl, _, rfl, p, _, _, rfl, by omega, lt_wide (by omega), wl7, by omega, fun r H8 hr8 k8 wl8 => ?_⟩
            refine ⟨by show 4 ≤ sizeLine; decide, fun q hq => ?_⟩
            have s8 : Same H8 (upd H8 q (.lst [.int 0, .int 0, .non, .int (r : Int)])) := same_new0 hq
            refine ⟨_, rfl, p, 4, _, rfl, by decide, lt_wide (by omega), wl8.same s8, by omega, fun r2 H9 hr9 k9 wl9 => ?_⟩
            have k79 : Kp [p] H7 H9 := (k8.trans (Kp.of s8)).trans k9
            have nqp : q ≠ p := fun e => by obtain ⟨_, _, _, e2, _⟩ := wl8; rw [e, e2] at hq; cases hq
            obtain ⟨sx, hsx, esx⟩ := pick4 (r := r) h0 (by omega) (by omega : r2 < 4)
            exact ⟨q, _, _, _, rfl, rfl, .of (k9 q _ (by simp [nqp]) upd_same), atI_nat esx, fin _ _ ⟨5, by decide, sx, rfl, hsx, kp7.trans k79, k79 _ _ (by simp [npf.symm]) h7f, wl9⟩⟩
          · rintro σ H8 ⟨j, hj, s8, rfl, hs8, kp8, h8f, wl8⟩
            refine ⟨_, rfl, .inl ⟨rfl, _, .of h8f⟩, _, rfl, pf, _, _, rfl, rfl, h8f, by rw [hv_len]; exact sz_lt (by omega), ?_⟩
            refine ⟨fo ++ [s8], _, _, rfl, Kp.fr pf0 kp8, by rw [upd_same, ← hv_app]; rfl, ?_, by rw [List.length_append, hlen]; rfl, hd_snoc hlen hdn hs8⟩
            obtain ⟨a1, a2, a3, e1, e2, e3, e4, e5⟩ := wl8
            exact ⟨a1, a2, a3, by rw [upd_ne npf]; exact e1, e2, e3, e4, by omega⟩
    · rintro σ H5 ⟨fo, v5, v6, rfl, kp5, h5f, wl5, hlen, hdn⟩
      have okF : Ok fo := ⟨by omega, fun t j e => Nat.lt_trans (hdn t j e) (hd_lt e), id, hdn⟩
      have hi5 : ((r1 + 1 : Nat) : Int).toNat = r1 + 1 := by omega
      rw [hi5] at hlen wl5
      refine ⟨_, rfl, p, 3, _, rfl, by decide, lt_wide (by omega), wl5, by omega, fun r H6 hr6 k6 wl6 => ?_⟩
      have kp6 := kp5.trans k6
      have h6f := k6 _ _ (by simp [npf.symm]) h5f
      refine ⟨rfl, _, rfl, ite2 (fun _ => ?_) (fun _ => ?_)⟩
      · refine ⟨_, rfl, pf, _, rfl, .inl ⟨.of h6f, fun a ha => ?_⟩⟩
        refine k a fo _ (kp_free kp6 wl6 ha) (Kp.new ha kp6) ?_ ⟨.of upd_same, okF, by omega⟩ (by omega)
        exact (wl6.same (same_new0 ha)).mono (by omega)
      · refine ⟨Nat.zero_le _, fun pn hpn => ?_⟩
        have s7 : Same H6 (upd H6 pn (.lst [])) := same_new0 hpn
        refine ⟨_, rfl, _, rfl, RgOk.of_le (by omega) (by omega) (by omega) (by omega), fun pl hpl => ?_⟩
        refine ⟨_, _, rfl, ?_⟩
        rw [rgV_nv]
        have s8 : Same (upd H6 pn (.lst [])) (upd (upd H6 pn (.lst [])) pl (.lst (nv (List.range (r1 + 1))))) := same_new0 hpl
        have s68 := s7.trans s8
        have npl6 : H6 pl = none := s7.free hpl
        have pn0 : H pn = none := kp_free kp6 wl6 hpn
        have pl0 : H pl = none := kp_free kp6 wl6 npl6
        obtain ⟨po, hpo⟩ := hp0
        have npn : p ≠ pn := ne_of_none hpo pn0
        have npl : p ≠ pl := ne_of_none hpo pl0
        have nfn : pf ≠ pn := ne_of_none h6f hpn
        have nfl : pf ≠ pl := ne_of_none h6f npl6
        have nnl : pn ≠ pl := ne_of_none (H := upd H6 pn (.lst [])) upd_same hpl
        refine ⟨_, rfl, _, rfl, by omega, by omega, ?_⟩
        refine for_r0 (n := ((r1 + 1 : Nat) : Int).toNat) (fun i σ H5 => ∃ (ns ls : List Nat) (v5 : Option V), σ = [some (.ref p), some (.int (m : Int)), some (.int ((r1 + 1 : Nat) : Int)), some (.int (way : Int)), some (.ref pf), v5, v6, some (.ref pn), some (.ref pl), none] ∧
          Kp [p] H H5 ∧ H5 pf = some (.lst (hv fo)) ∧ H5 pn = some (.lst (nv ns)) ∧ H5 pl = some (.lst (nv ls)) ∧ WellAt H5 p (N + 2 + 5 * (r1 + 1) + 1 + i) ∧ ns.length = i ∧ (ns ++ ls).Perm (List.range (r1 + 1)))
          ⟨[], List.range (r1 + 1), v5, rfl, kp6.trans (Kp.of s68), s68 _ _ h6f, s8 _ _ upd_same, upd_same, (wl6.same s68).mono (by omega), rfl, by simp⟩ ?_ ?_
        · rintro i σ H9 hi ⟨ns, ls, w5, rfl, kp9, h9f, h9n, h9l, wl9, hns, hpm⟩
          have hll : ns.length + ls.length = r1 + 1 := by have := hpm.length_eq; rw [List.length_append, List.length_range] at this; exact this
          have hnl : (nv ls).length = ls.length := List.length_map _
          refine ⟨_, rfl, .inl ⟨rfl, _, .of h9n⟩, _, rfl, .inl ⟨rfl, _, .of h9l⟩, _, rfl, _, rfl, pl, _, rfl, .inl (.of h9l), ?_⟩
          rw [hnl]
          refine ⟨p, _, _, rfl, by omega, lt_wide (by omega), wl9, by omega, fun r H10 hr10 k10 wl10 => ?_⟩
          have hrl : r < ls.length := by omega
          have h10l := k10 _ _ (by simp [npl.symm]) h9l
          have h10n := k10 _ _ (by simp [npn.symm]) h9n
          have h10f := k10 _ _ (by simp [npf.symm]) h9f
          refine ⟨pl, _, _, r, _, rfl, rfl, h10l, by omega, by omega, by rw [hnl, seqIndex_of (by omega) (by omega)]; rfl, nv_get (List.getElem?_eq_getElem hrl), ?_⟩
          refine ⟨pn, _, _, rfl, rfl, by rw [upd_ne nnl]; exact h10n, by rw [List.length_map]; exact sz_lt (by omega), ?_⟩
          refine ⟨ns ++ [ls[r]], ls.eraseIdx r, _, rfl, Kp.fr pn0 (Kp.fr pl0 (kp9.trans k10)), ?_, ?_, ?_, ?_, by rw [List.length_append, hns]; rfl, ?_⟩
          · rw [upd_ne nfn, upd_ne nfl]; exact h10f
          · rw [upd_same, ← nv_app]; rfl
          · rw [upd_ne nnl.symm, upd_same, er_map]
          · obtain ⟨a1, a2, a3, e1, e2⟩ := wl10
            exact ⟨a1, a2, a3, by rw [upd_ne npn, upd_ne npl]; exact e1, e2.1, e2.2.1, e2.2.2.1, by omega⟩
          · rw [List.append_assoc]
            exact ((er_perm hrl).append_left ns).trans hpm
        · rintro σ H9 ⟨ns, ls, w5, rfl, kp9, h9f, h9n, h9l, wl9, hns, hpm⟩
          rw [hi5] at wl9 hns
          have els : ls = [] := by
            have := hpm.length_eq
            rw [List.length_append, List.length_range, hns] at this
            exact List.eq_nil_of_length_eq_zero (by omega)
          rw [els, List.append_nil] at hpm
          have nns : ns.Nodup := hpm.nodup_iff.mpr List.nodup_range
          have hmem : ∀ x, x ∈ ns ↔ x < r1 + 1 := fun x => by rw [hpm.mem_iff, List.mem_range]
          refine ⟨by decide, fun q hq => ?_⟩
          have s10 : Same H9 (upd H9 q (.lst [.non])) := same_new0 hq
          refine ⟨_, rfl, q, _, _, rfl, rfl, upd_same, by omega, by omega, by rw [hi5]; exact sz_of (by show 1 * (r1 + 1) ≤ _; omega), fun pt hpt => ?_⟩
          have s11 : Same (upd H9 q (.lst [.non])) (upd (upd H9 q (.lst [.non])) pt (.lst (List.replicate ((r1 + 1 : Nat) : Int).toNat [V.non]).flatten)) := same_new0 hpt
          have s911 := s10.trans s11
          have erep : (List.replicate ((r1 + 1 : Nat) : Int).toNat [V.non]).flatten = hv (List.replicate (r1 + 1) none) := by
            rw [hi5, List.flatten_replicate_singleton]; unfold hv; rw [List.map_replicate]; rfl
          have npt9 : H9 pt = none := s10.free hpt
          have pt0 : H pt = none := kp_free kp9 wl9 npt9
          have npt : p ≠ pt := ne_of_none hpo pt0
          have nft : pf ≠ pt := ne_of_none h9f npt9
          have nnt : pn ≠ pt := ne_of_none h9n npt9
          refine ⟨_, rfl, _, rfl, by omega, by omega, ?_⟩
          refine for_r0 (n := ((r1 + 1 : Nat) : Int).toNat) (fun i σ H5 => ∃ (gt : Fo) (v5 : Option V), σ = [some (.ref p), some (.int (m : Int)), some (.int ((r1 + 1 : Nat) : Int)), some (.int (way : Int)), some (.ref pf), v5, v6, some (.ref pn), some (.ref pl), some (.ref pt)] ∧
            Kp [p] H H5 ∧ H5 pf = some (.lst (hv fo)) ∧ H5 pn = some (.lst (nv ns)) ∧ H5 pt = some (.lst (hv gt)) ∧ WellAt H5 p (N + 2 + 5 * (r1 + 1) + 1 + (r1 + 1)) ∧ gt.length = r1 + 1 ∧
            ∀ j (h : j < ns.length), j < i → hd gt ns[j] = (hd fo j).map fun x => ns.getD x 0)
            ⟨_, w5, rfl, kp9.trans (Kp.of s911), s911 _ _ h9f, s911 _ _ h9n, by rw [upd_same, erep], wl9.same s911, List.length_replicate, fun j _ h => absurd h (by omega)⟩ ?_ ?_
          · rintro i σ H12 hi ⟨gt, w5, rfl, kp12, h12f, h12n, h12t, wl12, hgl, hg⟩
            have hi' : i < r1 + 1 := by omega
            have hin : i < ns.length := by omega
            have hil : i < fo.length := by omega
            have nsi : ns[i] < gt.length := by rw [hgl]; exact (hmem _).mp (List.getElem_mem hin)
            have gn : ∀ x, x < ns.length → (nv ns)[x]? = some (.int ((ns.getD x 0 : Nat) : Int)) := fun x hx => by
              rw [nv_get (List.getElem?_eq_getElem hx), List.getD_eq_getElem?_getD, List.getElem?_eq_getElem hx]; rfl
            have gi : ns.getD i 0 = ns[i] := by rw [List.getD_eq_getElem?_getD, List.getElem?_eq_getElem hin]; rfl
            have fin : ∀ H13, (∃ o : Option Nat, o = (hd fo i).map (fun x => ns.getD x 0) ∧ H13 = upd H12 pt (.lst ((hv gt).set ns[i] (ov o)))) → ∃ (gt : Fo) (v5 : Option V), [some (V.ref p), some (.int (m : Int)), some (.int ((r1 + 1 : Nat) : Int)), some (.int (way : Int)), some (.ref pf), some (.int (i : Int)), v6, some (.ref pn), some (.ref pl), some (.ref pt)] = [some (.ref p), some (.int (m : Int)), some (.int ((r1 + 1 : Nat) : Int)), some (.int (way : Int)), some (.ref pf), v5, v6, some (.ref pn), some (.ref pl), some (.ref pt)] ∧
                Kp [p] H H13 ∧ H13 pf = some (.lst (hv fo)) ∧ H13 pn = some (.lst (nv ns)) ∧ H13 pt = some (.lst (hv gt)) ∧ WellAt H13 p (N + 2 + 5 * (r1 + 1) + 1 + (r1 + 1)) ∧ gt.length = r1 + 1 ∧
                ∀ j (h : j < ns.length), j < i + 1 → hd gt ns[j] = (hd fo j).map fun x => ns.getD x 0 := by
              rintro H13 ⟨o, rfl, rfl⟩
              refine ⟨gt.set ns[i] ((hd fo i).map fun x => ns.getD x 0), _, rfl, Kp.fr pt0 kp12, by rw [upd_ne nft]; exact h12f, by rw [upd_ne nnt]; exact h12n, by rw [upd_same]; unfold hv; rw [List.map_set], ?_, by rw [List.length_set, hgl], fun j hj hji => ?_⟩
              · obtain ⟨a1, a2, a3, e1, e2⟩ := wl12
                exact ⟨a1, a2, a3, by rw [upd_ne npt]; exact e1, e2⟩
              · rw [hd_set nsi]
                by_cases e : j = i
                · subst e; rw [if_pos rfl]
                · rw [if_neg (fun q => e (nodup_inj nns hj hin q))]
                  exact hg j hj (by omega)
            refine ⟨_, rfl, _, rfl, pf, _, _, _, rfl, rfl, .of h12f, atI_nat (hv_get (hd_get hil)), rfl, _, rfl, ?_⟩
            rw [ov_none]
            cases ei : hd fo i with
            | none =>
              refine iteT ⟨_, rfl, _, rfl, _, rfl, pn, _, _, _, rfl, rfl, .of h12n, atI_nat (gn i hin), pt, _, _, _, rfl, rfl, h12t, ixn_nat (by rw [hv_len, gi]; exact nsi), ?_⟩
              exact fin _ ⟨none, by rw [ei]; rfl, by rw [gi]; rfl⟩
            | some j =>
              have hjn : j < ns.length := by have := hdn i j ei; omega
              refine iteF ⟨_, rfl, _, rfl, _, rfl, pf, _, _, .int (j : Int), rfl, rfl, .of h12f, atI_nat (by rw [hv_get (hd_get hil), ei]; rfl), pn, _, _, _, rfl, rfl, .of h12n, atI_nat (gn j hjn), ?_⟩
              refine ⟨_, rfl, _, rfl, _, rfl, pn, _, _, _, rfl, rfl, .of h12n, atI_nat (gn i hin), pt, _, _, _, rfl, rfl, h12t, ixn_nat (by rw [hv_len, gi]; exact nsi), ?_⟩
              exact fin _ ⟨some (ns.getD j 0), by rw [ei]; rfl, by rw [gi]; rfl⟩
          · rintro σ H12 ⟨gt, w5, rfl, kp12, h12f, h12n, h12t, wl12, hgl, hg⟩
            rw [hi5] at hg
            refine ⟨_, rfl, pt, _, rfl, .inl ⟨.of h12t, fun a ha => ?_⟩⟩
            have okG : Ok gt := turned_ok okF (by rw [hlen]; exact hpm) (by rw [hgl, hlen]) fun j h => hg j h (by omega)
            refine k a gt _ (kp_free kp12 wl12 ha) (Kp.new ha kp12) ?_ ⟨.of upd_same, okG, by omega⟩ (by omega)
            exact (wl12.same (same_new0 ha)).mono (by omega)
end
end Hb
namespace Hb
open PySem PySem.Spec PyProof.Rows L2
section
variable {P : Program} {w : World} {K : PySem.W.Frag} {mg : Str → Option Value} {base : Heap}
/-! ### small things for the laws' own functions -/
theorem FoAt.kpx {H H' : Hp} {S : List Addr} {a : Addr} {f : Fo} (h : FoAt K H a f) (k : Kp S H H') (n : a ∉ S) : FoAt K H' a f := ⟨k.sqT n h.1, h.2⟩
theorem same_kpx {H H1 H2 : Hp} {p : Addr} (n : H p = none) (s : Same H H1) (k : Kp [p] H1 H2) : Same H H2 := fun b o e => k b o (by simp [ne_of_none e n]) (s _ _ e)
theorem FoAt.of {H : Hp} {a : Addr} {f : Fo} (h : H a = some (.tup (hv f))) (o : Ok f) (n : f.length ≤ 1000) : FoAt K H a f := ⟨.of h, o, n⟩
theorem cat_new {xs ys : List V} {a b : Addr} {H : Hp} {Q : VK} (ha : SqT K H a xs) (hb : SqT K H b ys) (hz : xs.length + ys.length ≤ 100000)
    (k : ∀ q H', (q = a ∨ q = b ∨ H q = none) → Same H H' → SqT K H' q (xs ++ ys) → Q (.ref q) H') : rCatA K (.ref a) (.ref b) H Q := by
  refine ⟨a, b, xs, ys, rfl, rfl, ha, hb, sz_of hz, fun e => ?_, fun _ e => ?_, fun _ _ p hp => k p _ (.inr (.inr hp)) (same_new0 hp) (.of upd_same)⟩
  · exact k b H (.inr (.inl rfl)) (Same.refl _) (by rw [e]; exact hb)
  · exact k a H (.inl rfl) (Same.refl _) (by rw [e, List.append_nil]; exact ha)
theorem sl_to {f : Fo} {t : Nat} {a : Addr} {H : Hp} {Q : VK} (h : SqT K H a (hv f)) (ht : t < f.length) (k : ∀ p H', H p = none → Same H H' → H' p = some (.tup (hv (f.take t))) → Q (.ref p) H') : rSlA K (.ref a) none (some (t : Int)) H Q := by
  have hl := hv_len f
  refine ⟨a, _, rfl, h, fun e => ?_, fun _ p hp => k p _ hp (same_new0 hp) ?_⟩
  · have := e.2
    rw [HT.sIx_nat, hl] at this
    omega
  · rw [upd_same]
    unfold cutV
    rw [HT.sIx_nat, HT.sIx_none, List.drop_zero, hl, Nat.min_eq_left (by omega), Nat.sub_zero]
    unfold hv
    rw [List.map_take]
theorem sl_from {f : Fo} {t : Nat} {a : Addr} {H : Hp} {Q : VK} (h : SqT K H a (hv f)) (h0 : 0 < t) (ht : t ≤ f.length) (k : ∀ p H', H p = none → Same H H' → H' p = some (.tup (hv (f.drop t))) → Q (.ref p) H') : rSlA K (.ref a) (some (t : Int)) none H Q := by
  have hl := hv_len f
  refine ⟨a, _, rfl, h, fun e => ?_, fun _ p hp => k p _ hp (same_new0 hp) ?_⟩
  · have := e.1
    rw [HT.sIx_nat, hl] at this
    omega
  · rw [upd_same]
    unfold cutV
    rw [HT.sIx_nat, HT.sIx_none, hl, Nat.min_eq_left ht]
    unfold hv
    rw [← List.map_drop, List.take_of_length_le (by simp)]
theorem set_parts {f : Fo} {t : Nat} (ht : t < f.length) (x : Option Nat) : hv (f.take t) ++ [ov x] ++ hv (f.drop (t + 1)) = hv (f.set t x) := by
  unfold hv
  rw [List.set_eq_take_append_cons_drop, if_pos ht]
  simp
end
end Hb
namespace Hb
open PySem PySem.Spec PyProof.Rows L2
section
variable {P : Program} {w : World} {K : PySem.W.Frag} {mg : Str → Option Value} {base : Heap}
/-! ### numbers by turned pairs -/
def cl (N : Nat) (c : Se) : List Int := (List.range N).map c
abbrev iv (l : List Int) : List V := l.map V.int
theorem cl_len (N : Nat) (c : Se) : (cl N c).length = N := by unfold cl; rw [List.length_map, List.length_range]
theorem iv_len (l : List Int) : (iv l).length = l.length := List.length_map _
theorem cl_get {N : Nat} {c : Se} {i : Nat} (h : i < N) : (iv (cl N c))[i]? = some (.int (c i)) := by
  unfold cl iv
  rw [List.map_map, List.getElem?_map, List.getElem?_range h]; rfl
theorem cl_snoc (N : Nat) (c : Se) : cl (N + 1) c = cl N c ++ [c N] := by unfold cl; rw [List.range_succ, List.map_append]; rfl
abbrev s_times_gap : Stmt := top 28
abbrev n_times_gap : List Str := ["counts", "many", "at", "one"]
theorem sc_times_gap : FnScope n_times_gap ["counts", "many"] (defScope s_times_gap) := ⟨rfl, rfl, rfl, by decide +kernel, rfl, by decide +kernel, by decide +kernel⟩

def sp_times_gap (K : PySem.W.Frag) : Sp := fun vs H Q _ => ∃ (a : Addr) (N m : Nat) (c : Se), vs = [.ref a, .int (m : Int)] ∧ SqL K H a (iv (cl N c)) ∧ N ≤ 40000 ∧ RetL (iv (cl N (mulG m c))) H Q
theorem c_times_gap (D : De K mg "times_gap" s_times_gap ["counts", "many"]) (B : Bu mg) : Cl P w K mg base CX0 1 "times_gap" (sp_times_gap K) := by
  refine mk_cl D sc_times_gap (fun vs H Q E h => ?_) (fun fa cdv A outer s H vs Q E hr h => ?_)
  · obtain ⟨a, N, m, c, rfl, _⟩ := h
    rfl
  · obtain ⟨a, N, m, c, rfl, hS, hN, k⟩ := h
    have nd := sc_times_gap.nd
    refine ⟨_, (pss_one (ps_ret (pe_lc (own := [("at", 2), ("one", 3)]) rfl nd (k_pi_enum (K := K) (by rfl) B.enumerate_ (pa_cons (pv 0) pa_nil)) (blkOk_by (own := [("at", 2), ("one", 3)]) (N := n_times_gap) (sc := defScope s_times_gap) (by decide +kernel)) (fun _ _ _ _ _ => (k_pg_tup (K := K) (n := 2) (by rfl) (pgs_cons (pg_name (i := 2) nd rfl (Or.inl rfl)) (pgs_cons (pg_name (i := 3) nd rfl (Or.inl rfl)) pgs_nil)))) (fun _ _ _ _ _ => pts_nil) (fun _ _ _ _ _ => (pe_op op_sub (pv 3) (pe_ifExp (pt_cmpR op_ge (pv 2) (pv 1) (nomark _)) (pe_ix (k_ix_list (K := K)) (pv 0) (pe_op op_sub (pv 2) (pv 1)) (fun _ _ => rfl)) pe_int)))))), ?_⟩
    have hl : (iv (cl N c)).length = N := by rw [iv_len, cl_len]
    refine ⟨_, rfl, a, _, rfl, hS, fun D hD => ?_⟩
    refine lc_map (walk_enum (xs := iv (cl N c))) hD (by omega) (fun i => .int (mulG m c i)) (fun H2 s2 => s2.seq hS) (fun i x H2 H3 Qe hi s2 y ke => ?_) (fun H2 s2 hD2 => ?_)
    · obtain ⟨T, x1, x2, rfl, hT0, rfl, e1, e2⟩ := y
      cases e1
      have hi' : i < N := by omega
      replace e2 : (iv (cl N c))[i]? = some x2 := e2
      rw [cl_get hi'] at e2
      cases e2
      have s3 : Same H2 (upd H2 T (.tup [.int (i : Int), .int (c i)])) := same_new0 hT0
      refine ⟨T, _, rfl, .of upd_same, rfl, _, _, rfl, _, _, rfl, rfl, rfl, ?_⟩
      refine ⟨_, rfl, _, rfl, _, rfl, _, _, rfl, rfl, _, rfl, ite2 (fun hc => ?_) (fun hc => ?_)⟩
      · have hmi : m ≤ i := by have := of_decide_eq_true hc; omega
        have e : (i : Int) - (m : Int) = ((i - m : Nat) : Int) := by omega
        have ke' := ke _ s3
        unfold mulG at ke'
        rw [if_pos hmi] at ke'
        exact ⟨_, rfl, _, rfl, _, rfl, _, _, rfl, rfl, a, _, _, _, rfl, rfl, (s2.trans s3).seq hS, by rw [e]; exact atI_nat (cl_get (by omega)), _, _, rfl, rfl, ke'⟩
      · have hmi : ¬ m ≤ i := fun z => hc (decide_eq_true (by omega))
        have ke' := ke _ s3
        unfold mulG at ke'
        rw [if_neg hmi] at ke'
        exact ⟨_, _, rfl, rfl, ke'⟩
    · rw [hl] at hD2
      refine k D H2 hD s2 ?_
      rw [hD2]
      unfold cl iv
      rw [List.map_map]; rfl
abbrev s_by_gap : Stmt := top 29
abbrev n_by_gap : List Str := ["counts", "many", "found", "at", "one"]
theorem sc_by_gap : FnScope n_by_gap ["counts", "many"] (defScope s_by_gap) := ⟨rfl, rfl, rfl, by decide +kernel, rfl, by decide +kernel, by decide +kernel⟩

def sp_by_gap (K : PySem.W.Frag) : Sp := fun vs H Q _ => ∃ (a : Addr) (N m : Nat) (c : Se), vs = [.ref a, .int (m : Int)] ∧ 0 < m ∧ SqL K H a (iv (cl N c)) ∧ N ≤ 40000 ∧ RetL (iv (cl N (divG m c))) H Q
theorem c_by_gap (D : De K mg "by_gap" s_by_gap ["counts", "many"]) (B : Bu mg) : Cl P w K mg base CX0 1 "by_gap" (sp_by_gap K) := by
  refine mk_cl D sc_by_gap (fun vs H Q E h => ?_) (fun fa cdv A outer s H vs Q E hr h => ?_)
  · obtain ⟨a, N, m, c, rfl, _⟩ := h
    rfl
  · obtain ⟨a, N, m, c, rfl, hm, hS, hN, k⟩ := h
    have nd := sc_by_gap.nd
    refine ⟨_, (pss_cons (ps_set (i := 2) nd rfl (Or.inl rfl) (pe_lst pa_nil))
      (pss_cons (ps_for PassesOwn.never rfl (k_pi_enum (K := K) (by rfl) B.enumerate_ (pa_cons (pv 0) pa_nil)) (k_pg_tup (K := K) (n := 2) (by rfl) (pgs_cons (pg_name (i := 3) nd rfl (Or.inl rfl)) (pgs_cons (pg_name (i := 4) nd rfl (Or.inl rfl)) pgs_nil)))
        (pss_one (ps_expr (k_bm (K := K) PySem.F.plainAttrs_list PySem.F.slot_list_append PySem.F.type_list_append mt_append (pv 2) (pa_cons (pe_op op_add (pv 4) (pe_ifExp (pt_cmpR op_ge (pv 3) (pv 1) (nomark _)) (pe_ix (k_ix_list (K := K)) (pv 2) (pe_op op_sub (pv 3) (pv 1)) (fun _ _ => rfl)) pe_int)) pa_nil)))))
      (pss_one (ps_ret (pv 2))))), ?_⟩
    have hl : (iv (cl N c)).length = N := by rw [iv_len, cl_len]
    refine ⟨Nat.zero_le _, fun l hln => ?_⟩
    have s1 : Same H (upd H l (.lst [])) := same_new0 hln
    refine ⟨_, rfl, a, _, rfl, s1.seq hS, ?_⟩
    refine for_it (walk_enum (xs := iv (cl N c))) (fun i σ H5 => ∃ v3 v4, σ = [some (.ref a), some (.int (m : Int)), some (.ref l), v3, v4] ∧ Same H H5 ∧ H5 l = some (.lst (iv (cl i (divG m c)))))
      ⟨_, _, rfl, s1, upd_same⟩ (fun i σ H5 _ ⟨_, _, _, s5, _⟩ => s5.seq hS) ?_ ?_
    · rintro i x σ H5 H6 hi ⟨v3, v4, rfl, s5, h5⟩ y
      obtain ⟨T, x1, x2, rfl, hT0, rfl, e1, e2⟩ := y
      cases e1
      have hi' : i < N := by omega
      replace e2 : (iv (cl N c))[i]? = some x2 := e2
      rw [cl_get hi'] at e2
      cases e2
      have s6 : Same H5 (upd H5 T (.tup [.int (i : Int), .int (c i)])) := same_new0 hT0
      have h6 := s6 _ _ h5
      have fin : ∀ z : Int, z = divG m c i → ∃ v3 v4, [some (V.ref a), some (V.int (m : Int)), some (V.ref l), some (V.int (i : Int)), some (V.int (c i))] = [some (.ref a), some (.int (m : Int)), some (.ref l), v3, v4] ∧ Same H (upd (upd H5 T (.tup [.int (i : Int), .int (c i)])) l (.lst (iv (cl i (divG m c)) ++ [V.int z]))) ∧
          upd (upd H5 T (.tup [.int (i : Int), .int (c i)])) l (.lst (iv (cl i (divG m c)) ++ [V.int z])) l = some (.lst (iv (cl (i + 1) (divG m c)))) := fun z hz => by
        refine ⟨_, _, rfl, same_put hln (s5.trans s6), ?_⟩
        rw [upd_same, cl_snoc, hz]; unfold iv; rw [List.map_append]; rfl
      refine ⟨T, _, rfl, .of upd_same, rfl, _, _, rfl, _, _, rfl, rfl, ?_⟩
      have sl : (iv (cl i (divG m c))).length < sizeLine := by rw [iv_len, cl_len]; exact sz_lt (by omega)
      refine ⟨_, rfl, .inl ⟨rfl, _, .of h6⟩, _, rfl, _, rfl, _, rfl, _, _, rfl, rfl, _, rfl, ite2 (fun hc => ?_) (fun hc => ?_)⟩
      · have hmi : m ≤ i := by have := of_decide_eq_true hc; omega
        have e : (i : Int) - (m : Int) = ((i - m : Nat) : Int) := by omega
        refine ⟨_, rfl, _, rfl, _, rfl, _, _, rfl, rfl, l, _, _, _, rfl, rfl, .of h6, by rw [e]; exact atI_nat (cl_get (N := i) (c := divG m c) (by omega)), _, _, rfl, rfl, l, _, _, rfl, rfl, h6, sl, ?_⟩
        exact fin _ (by rw [divG_eq m hm c i, if_pos hmi])
      · have hmi : ¬ m ≤ i := fun z => hc (decide_eq_true (by omega))
        refine ⟨_, _, rfl, rfl, l, _, _, rfl, rfl, h6, sl, ?_⟩
        exact fin _ (by rw [divG_eq m hm c i, if_neg hmi])
    · rintro σ H5 ⟨v3, v4, rfl, s5, h5⟩
      rw [hl] at h5
      exact ⟨_, rfl, k l H5 hln s5 h5⟩
abbrev s_greatest_of : Stmt := top 30
abbrev n_greatest_of : List Str := ["forest", "size", "thing"]
theorem sc_greatest_of : FnScope n_greatest_of ["forest"] (defScope s_greatest_of) := ⟨rfl, rfl, rfl, by decide +kernel, rfl, by decide +kernel, by decide +kernel⟩

def sp_greatest_of (K : PySem.W.Frag) : Sp := fun vs H Q _ => ∃ (a : Addr) (f : Fo), vs = [.ref a] ∧ FoAt K H a f ∧ f.length ≤ 200 ∧ RetV (.int (deg f : Nat)) H Q
theorem c_greatest_of (D : De K mg "greatest_of" s_greatest_of ["forest"]) (B : Bu mg) (c_sizes_of : Cl P w K mg base CX0 2 "sizes_of" (sp_sizes_of K)) (c_above_of : Cl P w K mg base CX0 1 "above_of" (sp_above_of K)) : Cl P w K mg base CX0 3 "greatest_of" (sp_greatest_of K) := by
  refine mk_cl D sc_greatest_of (fun vs H Q E h => ?_) (fun fa cdv A outer s H vs Q E hr h => ?_)
  · obtain ⟨a, f, rfl, _⟩ := h
    rfl
  · obtain ⟨a, f, rfl, hF, hn, k⟩ := h
    have nd := sc_greatest_of.nd
    have o := hF.2.1
    have hl := hv_len f
    refine ⟨_, (pss_cons (ps_set (i := 1) nd rfl (Or.inr rfl) (p_call c_sizes_of hr (by decide) (by rfl) pass0 (pa_cons (pv 0) pa_nil)))
      (pss_one (ps_ret (pe_op op_fdivW (pe_callB (k_sum (K := K) rfl) (by rfl) B.sum_ (by decide +kernel) (pa_cons (pe_lc (own := [("thing", 2)]) rfl nd (pi_range1 (by rfl) B.range_ (pa_cons (pe_callB (k_len (K := K)) (by rfl) B.len_ PySem.boot_len (pa_cons (pv 0) pa_nil)) pa_nil)) (blkOk_by (own := [("thing", 2)]) (N := n_greatest_of) (sc := defScope s_greatest_of) (by decide +kernel)) (fun _ _ _ _ _ => (pg_name (i := 2) nd rfl (Or.inl rfl))) (fun _ _ _ _ _ => pts_nil) (fun _ _ _ _ _ => (pe_op op_sub (pe_op op_sub (pe_callB (k_len (K := K)) (by rfl) B.len_ PySem.boot_len (pa_cons (pv 0) pa_nil)) (pe_ix (k_ix_list (K := K)) (pv 1) (pv 2) (fun _ _ => rfl))) (pe_callB (k_len (K := K)) (by rfl) B.len_ PySem.boot_len (pa_cons (p_call c_above_of hr (by decide) (by rfl) pass0 (pa_cons (pv 0) (pa_cons (pv 2) pa_nil))) pa_nil))))) pa_nil)) pe_int)))), ?_⟩
    refine ⟨_, rfl, a, f, rfl, hF, fun ps H1 hps s1 h1 => ?_⟩
    refine ⟨_, rfl, a, _, rfl, .inr (hF.mono s1).1, _, rfl, by omega, by omega, fun D hD => ?_⟩
    have en : (((hv f).length : Nat) : Int).toNat = f.length := by omega
    rw [en]
    refine lc_map walk_r0 hD (by omega) (fun i => .int ((f.length : Int) - (sz f i : Int) - (dep f i : Int))) (fun _ _ => trivial) (fun i x H2 H3 Qe hi s2 y ke => ?_) (fun H2 s2 hD2 => ?_)
    · obtain ⟨rfl, rfl⟩ := y
      have s12 := s1.trans s2
      refine ⟨rfl, _, rfl, a, _, rfl, .inr (hF.mono s12).1, _, rfl, _, rfl, ps, _, _, _, rfl, rfl, .of (s2 _ _ h1), atI_nat (szs_get hi), _, _, rfl, rfl, _, rfl, _, rfl, a, f, i, rfl, hF.mono s12, hi, fun p H4 hp s4 h4 => ⟨p, _, rfl, .inl (.of h4), _, _, rfl, rfl, ?_⟩⟩
      have e : (nv (abv f i)).length = dep f i := List.length_map _
      rw [e, hl]
      exact ke H4 s4
    · have e : ((List.range f.length).map fun i => V.int ((f.length : Int) - (sz f i : Int) - (dep f i : Int))) = iv ((List.range f.length).map fun t => (f.length : Int) - (sz f t : Int) - (dep f t : Int)) := by unfold iv; rw [List.map_map]; rfl
      rw [e] at hD2
      refine ⟨D, _, rfl, .of hD2, _, _, rfl, rfl, log2_ok (by decide) (by decide +kernel), ?_⟩
      rw [deg_sum o]
      have e2 : (2 * (deg f : Int)) / 2 = (deg f : Int) := by omega
      dsimp only
      rw [e2]
      exact k H2 (s1.trans s2)
theorem serF_snoc : ∀ (l : List Nat) (s k : Nat) (c : Se), serF (l ++ [s]) k c = divG s (mulG (k + l.length + 1) (serF l k c))
  | [], s, k, c => rfl
  | x :: l, s, k, c => by
    show serF (l ++ [s]) (k + 1) _ = divG s (mulG (k + (l.length + 1) + 1) (serF l (k + 1) _))
    rw [serF_snoc l s (k + 1), show k + 1 + l.length + 1 = k + (l.length + 1) + 1 by omega]
theorem cl_one (g : Nat) : iv (cl (g + 1) one0) = [V.int 1] ++ List.replicate g (V.int 0) := by
  unfold iv cl
  rw [List.range_succ_eq_map, List.map_cons, List.map_cons, List.map_map, List.map_map]
  show V.int 1 :: _ = V.int 1 :: _
  congr 1
  refine List.ext_getElem (by simp) fun i h1 h2 => ?_
  simp [one0]
abbrev s_counts_of : Stmt := top 31
abbrev n_counts_of : List Str := ["forest", "found", "many", "size"]
theorem sc_counts_of : FnScope n_counts_of ["forest"] (defScope s_counts_of) := ⟨rfl, rfl, rfl, by decide +kernel, rfl, by decide +kernel, by decide +kernel⟩

def sp_counts_of (K : PySem.W.Frag) : Sp := fun vs H Q _ => ∃ (a : Addr) (f : Fo), vs = [.ref a] ∧ FoAt K H a f ∧ f.length ≤ 100 ∧ RetL (iv (cl (deg f + 1) (ser f))) H Q
theorem c_counts_of (D : De K mg "counts_of" s_counts_of ["forest"]) (B : Bu mg) (c_greatest_of : Cl P w K mg base CX0 3 "greatest_of" (sp_greatest_of K)) (c_sizes_of : Cl P w K mg base CX0 2 "sizes_of" (sp_sizes_of K))
    (c_times_gap : Cl P w K mg base CX0 1 "times_gap" (sp_times_gap K)) (c_by_gap : Cl P w K mg base CX0 1 "by_gap" (sp_by_gap K)) : Cl P w K mg base CX0 4 "counts_of" (sp_counts_of K) := by
  refine mk_cl D sc_counts_of (fun vs H Q E h => ?_) (fun fa cdv A outer s H vs Q E hr h => ?_)
  · obtain ⟨a, f, rfl, _⟩ := h
    rfl
  · obtain ⟨a, f, rfl, hF, hn, k⟩ := h
    have nd := sc_counts_of.nd
    have o := hF.2.1
    have hl := hv_len f
    have hg : deg f ≤ 10100 := Nat.le_trans (deg_le f) (by have := Nat.mul_le_mul hn hn; omega)
    refine ⟨_, (pss_cons (ps_set (i := 1) nd rfl (Or.inl rfl) (pe_op op_cat (pe_lst (pa_cons pe_int pa_nil)) (pe_op op_rep (pe_lst (pa_cons pe_int pa_nil)) (p_call c_greatest_of hr (by decide) (by rfl) pass0 (pa_cons (pv 0) pa_nil)))))
      (pss_cons (ps_for PassesOwn.never rfl (k_pi_enum (K := K) (by rfl) B.enumerate_ (pa_cons (p_call c_sizes_of hr (by decide) (by rfl) pass0 (pa_cons (pv 0) pa_nil)) pa_nil)) (k_pg_tup (K := K) (n := 2) (by rfl) (pgs_cons (pg_name (i := 2) nd rfl (Or.inl rfl)) (pgs_cons (pg_name (i := 3) nd rfl (Or.inl rfl)) pgs_nil)))
        (pss_one (ps_set (i := 1) nd rfl (Or.inl rfl) (p_call c_by_gap hr (by decide) (by rfl) pass0 (pa_cons (p_call c_times_gap hr (by decide) (by rfl) pass0 (pa_cons (pv 1) (pa_cons (pe_op op_add (pv 2) pe_int) pa_nil))) (pa_cons (pv 3) pa_nil))))))
      (pss_one (ps_ret (pv 1))))), ?_⟩
    refine ⟨by show 1 ≤ sizeLine; decide, fun l1 n1 => ?_⟩
    have t1 : Same H (upd H l1 (.lst [.int 1])) := same_new0 n1
    refine ⟨by show 1 ≤ sizeLine; decide, fun l2 n2 => ?_⟩
    have t2 := same_new0 (o := .lst [.int 0]) n2
    have t12 := t1.trans t2
    refine ⟨_, rfl, a, f, rfl, hF.mono t12, by omega, fun H2 s2 => ?_⟩
    refine ⟨l2, _, _, rfl, rfl, s2 _ _ upd_same, by omega, by omega, by show 1 * _ ≤ sizeLine; rw [Nat.one_mul]; exact sz_of (by omega), fun l3 n3 => ?_⟩
    have t3 := same_new0 (o := .lst (List.replicate (((deg f : Nat) : Int).toNat) [V.int 0]).flatten) n3
    refine ⟨l1, l3, _, _, rfl, rfl, t3 _ _ (s2 _ _ (t2 _ _ upd_same)), upd_same, ?_, fun l4 n4 => ?_⟩
    · rw [List.flatten_replicate_singleton, List.length_replicate]; exact sz_of (by show 1 + _ ≤ _; omega)
    have t4 := same_new0 (o := .lst ([V.int 1] ++ (List.replicate (((deg f : Nat) : Int).toNat) [V.int 0]).flatten)) n4
    have e0 : ([V.int 1] ++ (List.replicate (((deg f : Nat) : Int).toNat) [V.int 0]).flatten) = iv (cl (deg f + 1) one0) := by
      rw [List.flatten_replicate_singleton, cl_one]
      have : (((deg f : Nat) : Int).toNat) = deg f := by omega
      rw [this]
    have sA := ((t12.trans s2).trans t3).trans t4
    refine ⟨_, rfl, a, f, rfl, hF.mono sA, fun ps H5 nps s5 h5 => ?_⟩
    refine ⟨ps, _, rfl, .of h5, ?_⟩
    have lsz := szs_len f
    have lnv : (nv (szs f)).length = f.length := by rw [List.length_map, lsz]
    refine for_it (walk_enum (xs := nv (szs f))) (fun i σ H6 => ∃ (l : Addr) (v2 v3 : Option V), σ = [some (.ref a), some (.ref l), v2, v3] ∧ Same H5 H6 ∧ H l = none ∧ H6 l = some (.lst (iv (cl (deg f + 1) (serF ((szs f).take i) 0 one0)))))
      ⟨l4, _, _, rfl, Same.refl _, (((t12.trans s2).trans t3).free n4), s5 _ _ (by rw [upd_same, e0]; rfl)⟩ (fun i σ H6 _ ⟨_, _, _, _, s6, _⟩ => s6.seq (.of h5)) ?_ ?_
    · rintro i x σ H6 H7 hi ⟨l, v2, v3, rfl, s6, nl, h6⟩ y
      obtain ⟨T, x1, x2, rfl, hT0, rfl, e1, e2⟩ := y
      cases e1
      have hi' : i < f.length := by omega
      replace e2 : (nv (szs f))[i]? = some x2 := e2
      rw [szs_get hi'] at e2
      cases e2
      have s7 : Same H6 (upd H6 T (.tup [.int (i : Int), .int ((sz f i : Nat) : Int)])) := same_new0 hT0
      refine ⟨T, _, rfl, .of upd_same, rfl, _, _, rfl, _, _, rfl, rfl, ?_⟩
      have sH := (sA.trans s5).trans (s6.trans s7)
      refine ⟨_, rfl, _, rfl, _, _, rfl, rfl, l, _, i + 1, _, rfl, .of (s7 _ _ h6), by omega, fun q1 H8 nq1 s8 h8 => ?_⟩
      refine ⟨_, rfl, q1, _, _, _, rfl, sz_pos hi', .of h8, by omega, fun q2 H9 nq2 s9 h9 => ?_⟩
      refine ⟨q2, _, _, rfl, ((s6.trans s7).trans s8).trans s9, sH.free (s8.free nq2), ?_⟩
      have e3 : (szs f).take (i + 1) = (szs f).take i ++ [sz f i] := by
        have hg : (szs f)[i]? = some (sz f i) := by unfold szs; rw [List.getElem?_map, List.getElem?_range hi']; rfl
        rw [List.take_succ, hg]; rfl
      rw [e3, serF_snoc, List.length_take, lsz, Nat.min_eq_left (by omega), Nat.zero_add]
      exact h9
    · rintro σ H6 ⟨l, v2, v3, rfl, s6, nl, h6⟩
      refine ⟨_, rfl, k l H6 nl ((sA.trans s5).trans s6) ?_⟩
      rw [lnv, ← lsz, List.take_length] at h6
      exact h6
abbrev s_turned_counts : Stmt := top 32
abbrev n_turned_counts : List Str := ["forest"]
theorem sc_turned_counts : FnScope n_turned_counts ["forest"] (defScope s_turned_counts) := ⟨rfl, rfl, rfl, by decide +kernel, rfl, by decide +kernel, by decide +kernel⟩

theorem c_turned_counts (D : De K mg "turned_counts" s_turned_counts ["forest"]) (c_check_forest : Cl P w K mg base CX0 3 "check_forest" (sp_check_forest K)) (c_counts_of : Cl P w K mg base CX0 4 "counts_of" (sp_counts_of K)) : Cl P w K mg base CX0 5 "turned_counts" (sp_counts_of K) := by
  refine mk_cl D sc_turned_counts (fun vs H Q E h => ?_) (fun fa cdv A outer s H vs Q E hr h => ?_)
  · obtain ⟨a, f, rfl, _⟩ := h
    rfl
  · obtain ⟨a, f, rfl, hF, hn, k⟩ := h
    have nd := sc_turned_counts.nd
    refine ⟨_, (pss_cons (ps_expr (p_call c_check_forest hr (by decide) (by rfl) pass0 (pa_cons (pv 0) pa_nil)))
      (pss_one (ps_ret (p_call c_counts_of hr (by decide) (by rfl) pass0 (pa_cons (pv 0) pa_nil))))), ?_⟩
    refine ⟨_, rfl, a, f, rfl, hF, fun H1 s1 => ?_⟩
    exact ⟨_, rfl, a, f, rfl, hF.mono s1, hn, fun p H2 hp s2 h2 => k p H2 (s1.free hp) (s1.trans s2) h2⟩
abbrev s_most_turned : Stmt := top 33
abbrev n_most_turned : List Str := ["forest"]
theorem sc_most_turned : FnScope n_most_turned ["forest"] (defScope s_most_turned) := ⟨rfl, rfl, rfl, by decide +kernel, rfl, by decide +kernel, by decide +kernel⟩

theorem c_most_turned (D : De K mg "most_turned" s_most_turned ["forest"]) (c_check_forest : Cl P w K mg base CX0 3 "check_forest" (sp_check_forest K)) (c_greatest_of : Cl P w K mg base CX0 3 "greatest_of" (sp_greatest_of K)) : Cl P w K mg base CX0 4 "most_turned" (sp_greatest_of K) := by
  refine mk_cl D sc_most_turned (fun vs H Q E h => ?_) (fun fa cdv A outer s H vs Q E hr h => ?_)
  · obtain ⟨a, f, rfl, _⟩ := h
    rfl
  · obtain ⟨a, f, rfl, hF, hn, k⟩ := h
    have nd := sc_most_turned.nd
    refine ⟨_, (pss_cons (ps_expr (p_call c_check_forest hr (by decide) (by rfl) pass0 (pa_cons (pv 0) pa_nil)))
      (pss_one (ps_ret (p_call c_greatest_of hr (by decide) (by rfl) pass0 (pa_cons (pv 0) pa_nil))))), ?_⟩
    refine ⟨_, rfl, a, f, rfl, hF, fun H1 s1 => ?_⟩
    exact ⟨_, rfl, a, f, rfl, hF.mono s1, hn, fun H2 s2 => k H2 (s1.trans s2)⟩
abbrev s_firsts : Stmt := top 21
abbrev n_firsts : List Str := ["forest"]
theorem sc_firsts : FnScope n_firsts ["forest"] (defScope s_firsts) := ⟨rfl, rfl, rfl, by decide +kernel, rfl, by decide +kernel, by decide +kernel⟩

def sp_firsts (K : PySem.W.Frag) : Sp := fun vs H Q _ => ∃ (a : Addr) (f : Fo), vs = [.ref a] ∧ FoAt K H a f ∧ RetL (nv (hld f none)) H Q
theorem c_firsts (D : De K mg "firsts" s_firsts ["forest"]) (c_check_forest : Cl P w K mg base CX0 3 "check_forest" (sp_check_forest K)) (c_held_of : Cl P w K mg base CX0 1 "held_of" (sp_held_of K)) : Cl P w K mg base CX0 4 "firsts" (sp_firsts K) := by
  refine mk_cl D sc_firsts (fun vs H Q E h => ?_) (fun fa cdv A outer s H vs Q E hr h => ?_)
  · obtain ⟨a, f, rfl, _⟩ := h
    rfl
  · obtain ⟨a, f, rfl, hF, k⟩ := h
    have nd := sc_firsts.nd
    refine ⟨_, (pss_cons (ps_expr (p_call c_check_forest hr (by decide) (by rfl) pass0 (pa_cons (pv 0) pa_nil)))
      (pss_one (ps_ret (p_call c_held_of hr (by decide) (by rfl) pass0 (pa_cons (pv 0) (pa_cons pe_non pa_nil)))))), ?_⟩
    refine ⟨_, rfl, a, f, rfl, hF, fun H1 s1 => ?_⟩
    exact ⟨_, rfl, a, f, none, rfl, (hF.mono s1).1, hF.2.2, fun p H2 hp s2 h2 => k p H2 (s1.free hp) (s1.trans s2) h2⟩
abbrev s_below : Stmt := top 20
abbrev n_below : List Str := ["forest", "thing", "other"]
theorem sc_below : FnScope n_below ["forest", "thing"] (defScope s_below) := ⟨rfl, rfl, rfl, by decide +kernel, rfl, by decide +kernel, by decide +kernel⟩

def bel (f : Fo) (t : Nat) : List Nat := (List.range f.length).filter fun x => decide (t ∈ abv f x)
def sp_below (K : PySem.W.Frag) : Sp := fun vs H Q _ => ∃ (a : Addr) (f : Fo) (t : Nat), vs = [.ref a, .int (t : Int)] ∧ FoAt K H a f ∧ t < f.length ∧ RetL (nv (bel f t)) H Q
theorem c_below (D : De K mg "below" s_below ["forest", "thing"]) (B : Bu mg) (c_check_forest : Cl P w K mg base CX0 3 "check_forest" (sp_check_forest K)) (c_check_thing : Cl P w K mg base CX0 2 "check_thing" (sp_check_thing K))
    (c_above_of : Cl P w K mg base CX0 1 "above_of" (sp_above_of K)) : Cl P w K mg base CX0 4 "below" (sp_below K) := by
  refine mk_cl D sc_below (fun vs H Q E h => ?_) (fun fa cdv A outer s H vs Q E hr h => ?_)
  · obtain ⟨a, f, t, rfl, _⟩ := h
    rfl
  · obtain ⟨a, f, t, rfl, hF, ht, k⟩ := h
    have nd := sc_below.nd
    have hl := hv_len f
    have hn := hF.2.2
    refine ⟨_, (pss_cons (ps_expr (p_call c_check_forest hr (by decide) (by rfl) pass0 (pa_cons (pv 0) pa_nil)))
      (pss_cons (ps_expr (p_call c_check_thing hr (by decide) (by rfl) pass0 (pa_cons (pv 0) (pa_cons (pv 1) pa_nil))))
      (pss_one (ps_ret (pe_lc (own := [("other", 2)]) rfl nd (pi_range1 (by rfl) B.range_ (pa_cons (pe_callB (k_len (K := K)) (by rfl) B.len_ PySem.boot_len (pa_cons (pv 0) pa_nil)) pa_nil)) (blkOk_by (own := [("other", 2)]) (N := n_below) (sc := defScope s_below) (by decide +kernel)) (fun _ _ _ _ _ => (pg_name (i := 2) nd rfl (Or.inl rfl))) (fun _ _ _ _ _ => (pts_one (pt_cmpR (k_in_seq (K := K)) (pv 1) (p_call c_above_of hr (by decide) (by rfl) pass0 (pa_cons (pv 0) (pa_cons (pv 2) pa_nil))) (by rfl)))) (fun _ _ _ _ _ => (pv 2))))))), ?_⟩
    refine ⟨_, rfl, a, f, rfl, hF, fun H1 s1 => ?_⟩
    refine ⟨_, rfl, _, rfl, a, f, t, rfl, hF.mono s1, ht, ?_⟩
    have en : (((hv f).length : Nat) : Int).toNat = f.length := by omega
    refine ⟨_, rfl, a, _, rfl, .inr (hF.mono s1).1, _, rfl, by omega, by omega, fun D hD => ?_⟩
    rw [en]
    refine lc_flat walk_r0 hD (by omega) (fun i => decide (t ∈ abv f i)) (fun i => .int (i : Int)) (fun _ _ => trivial) (fun i x H2 H3 Qe Qn hi s2 y kT kF => ?_) (fun H2 s2 hD2 => ?_)
    · obtain ⟨rfl, rfl⟩ := y
      have s12 := s1.trans s2
      refine ⟨rfl, _, rfl, _, rfl, _, rfl, a, f, i, rfl, hF.mono s12, hi, fun p H4 hp s4 h4 => ?_⟩
      refine ⟨p, _, rfl, .inl (.of h4), rfl, flat_nv _, _, rfl, ?_⟩
      rw [if_neg (by decide), inV_nv]
      cases hb : decide (t ∈ abv f i) with
      | true => exact iteT ⟨_, rfl, kT hb H4 s4⟩
      | false => exact iteF (kF hb H4 s4)
    · exact k D H2 (s1.free hD) (s1.trans s2) hD2
end
end Hb
namespace Hb
open PySem PySem.Spec PyProof.Rows L2
section
variable {P : Program} {w : World} {K : PySem.W.Frag} {mg : Str → Option Value} {base : Heap}
/-! ### the sizes are found back -/
abbrev s_peeled : Stmt := top 35
abbrev n_peeled : List Str := ["row", "many", "found", "size", "times", "turn"]
theorem sc_peeled : FnScope n_peeled ["row", "many"] (defScope s_peeled) := ⟨rfl, rfl, rfl, by decide +kernel, rfl, by decide +kernel, by decide +kernel⟩

def sp_peeled (K : PySem.W.Frag) : Sp := fun vs H Q _ => ∃ (a : Addr) (f : Fo) (N : Nat), vs = [.ref a, .int (f.length : Int)] ∧ Ok f ∧ f.length ≤ 60 ∧ H a = some (.lst (iv (cl N (VS f)))) ∧ f.length < N ∧ N ≤ 40000 ∧
  RetL (nv ((List.range f.length).map fun i => (szs f).count (i + 1))) H Q
theorem c_peeled (D : De K mg "peeled" s_peeled ["row", "many"]) (B : Bu mg) (c_by_gap : Cl P w K mg base CX0 1 "by_gap" (sp_by_gap K)) : Cl P w K mg base CX0 2 "peeled" (sp_peeled K) := by
  refine mk_cl D sc_peeled (fun vs H Q E h => ?_) (fun fa cdv A outer s H vs Q E hr h => ?_)
  · obtain ⟨a, f, N, rfl, _⟩ := h
    rfl
  · obtain ⟨a, f, N, rfl, o, hn, hS, hfN, hN, k⟩ := h
    have nd := sc_peeled.nd
    have lsz := szs_len f
    have cle : ∀ m, (szs f).count m ≤ f.length := fun m => by have := List.count_le_length (a := m) (l := szs f); omega
    refine ⟨_, (pss_cons (ps_set (i := 2) nd rfl (Or.inl rfl) (pe_lst pa_nil))
      (pss_cons (ps_for PassesOwn.never rfl (pi_range2 (by rfl) B.range_ (pa_cons pe_int (pa_cons (pe_op op_add (pv 1) pe_int) pa_nil))) (pg_name (i := 3) nd rfl (Or.inl rfl))
        (pss_cons (ps_set (i := 4) nd rfl (Or.inl rfl) (pe_un un_neg (pe_ix (k_ix_list (K := K)) (pv 0) (pv 3) (fun _ _ => rfl))))
        (pss_cons (ps_if (PW.pt (pw_or (pt_cmpR op_lt (pv 4) pe_int (nomark _)) (pw_or1 (pt_cmpR op_gt (pv 4) (pv 1) (nomark _)))))
          (pss_one (ps_ret pe_non))
          pss_nil)
        (pss_cons (ps_for PassesOwn.never rfl (pi_range1 (by rfl) B.range_ (pa_cons (pv 4) pa_nil)) (pg_name (i := 5) nd rfl (Or.inl rfl))
          (pss_one (ps_set (i := 0) nd rfl (Or.inl rfl) (p_call c_by_gap hr (by decide) (by rfl) pass0 (pa_cons (pv 0) (pa_cons (pv 3) pa_nil))))))
        (pss_one (ps_expr (k_bm (K := K) PySem.F.plainAttrs_list PySem.F.slot_list_append PySem.F.type_list_append mt_append (pv 2) (pa_cons (pv 4) pa_nil))))))))
      (pss_one (ps_ret (pe_ifExp (pt_cmpR (k_eqD (K := K) hr.units) (pv 0) (pe_op op_cat (pe_lst (pa_cons pe_int pa_nil)) (pe_op op_rep (pe_lst (pa_cons pe_int pa_nil)) (pe_op op_sub (pe_callB (k_len (K := K)) (by rfl) B.len_ PySem.boot_len (pa_cons (pv 0) pa_nil)) pe_int))) (nomark _)) (pv 2) pe_non))))), ?_⟩
    refine ⟨Nat.zero_le _, fun l hln => ?_⟩
    have s1 : Same H (upd H l (.lst [])) := same_new0 hln
    refine ⟨_, rfl, _, _, rfl, rfl, _, _, rfl, ⟨by omega, by omega, by omega, by omega⟩, ?_⟩
    refine for_range (lo := 1) (n := ((f.length : Int) + 1 - 1).toNat) (fun i σ H5 => ∃ (ra : Addr) (v3 v4 v5 : Option V), σ = [some (.ref ra), some (.int (f.length : Int)), some (.ref l), v3, v4, v5] ∧ Same H H5 ∧ H5 ra = some (.lst (iv (cl N (mulL (geS (szs f) (i + 1)) one0)))) ∧ ra ≠ l ∧
      H5 l = some (.lst (nv ((List.range i).map fun j => (szs f).count (j + 1)))))
      ⟨a, _, _, _, rfl, s1, by rw [geS_one szs_pos]; exact s1 _ _ hS, ne_of_none hS hln, upd_same⟩ ?_ ?_
    · rintro i σ H5 hi ⟨ra, v3, v4, v5, rfl, s5, hR, hra, h5l⟩
      have hi' : i < f.length := by omega
      have e1 : (1 : Int) + (i : Int) = ((i + 1 : Nat) : Int) := by omega
      rw [e1]
      have hc := geS_coef (l := szs f) (m := i + 1) (by omega)
      refine ⟨_, rfl, _, rfl, ra, _, _, _, rfl, rfl, .of hR, atI_nat (cl_get (by omega)), _, rfl, ?_⟩
      dsimp only
      rw [hc]
      have e2 : -(-(((szs f).count (i + 1) : Nat) : Int)) = (((szs f).count (i + 1) : Nat) : Int) := by omega
      rw [e2]
      have hcl := cle (i + 1)
      refine ⟨_, rfl, _, _, rfl, rfl, _, rfl, iteN (decide_eq_false (by omega)) ?_⟩
      refine ⟨_, rfl, _, rfl, _, _, rfl, rfl, _, rfl, iteN (decide_eq_false (by omega)) ?_⟩
      refine ⟨_, rfl, _, rfl, by omega, by omega, ?_⟩
      refine for_r0 (n := (((szs f).count (i + 1) : Nat) : Int).toNat) (fun j σ H6 => ∃ (rb : Addr) (v5 : Option V), σ = [some (.ref rb), some (.int (f.length : Int)), some (.ref l), some (.int ((i + 1 : Nat) : Int)), some (.int (((szs f).count (i + 1) : Nat) : Int)), v5] ∧ Same H5 H6 ∧
        H6 rb = some (.lst (iv (cl N (dvs (i + 1) j (mulL (geS (szs f) (i + 1)) one0))))) ∧ rb ≠ l)
        ⟨ra, _, rfl, Same.refl _, hR, hra⟩ ?_ ?_
      · rintro j σ H6 hj ⟨rb, v5, rfl, s6, hRb, hrb⟩
        refine ⟨_, rfl, _, rfl, rb, N, i + 1, _, rfl, by omega, .of hRb, by omega, fun q H7 nq s7 h7 => ?_⟩
        have hl6 := s6 _ _ h5l
        exact ⟨q, _, rfl, s6.trans s7, by rw [dvs_comm]; exact h7, (ne_of_none hl6 nq).symm⟩
      · rintro σ H6 ⟨rb, v5, rfl, s6, hRb, hrb⟩
        have en : (((szs f).count (i + 1) : Nat) : Int).toNat = (szs f).count (i + 1) := by omega
        rw [en, geS_step (by omega)] at hRb
        have h6l := s6 _ _ h5l
        refine ⟨_, rfl, .inl ⟨rfl, _, .of h6l⟩, _, rfl, l, _, _, rfl, rfl, h6l, by rw [List.length_map, List.length_map, List.length_range]; exact sz_lt (by omega), ?_⟩
        refine ⟨rb, _, _, _, rfl, same_put hln (s5.trans s6), by rw [upd_ne hrb]; exact hRb, hrb, ?_⟩
        · rw [upd_same, List.range_succ, List.map_append]; unfold nv; rw [List.map_append]; rfl
    · rintro σ H5 ⟨ra, v3, v4, v5, rfl, s5, hR, hra, h5l⟩
      have en : ((f.length : Int) + 1 - 1).toNat = f.length := by omega
      rw [en] at hR h5l
      rw [geS_end (szs_le f)] at hR
      have hR' : H5 ra = some (.lst (iv (cl N one0))) := hR
      obtain ⟨M, rfl⟩ : ∃ M, N = M + 1 := ⟨N - 1, by omega⟩
      refine ⟨_, rfl, by show 1 ≤ sizeLine; decide, fun q1 m1 => ?_⟩
      have u1 := same_new0 (o := .lst [.int 1]) m1
      refine ⟨by show 1 ≤ sizeLine; decide, fun q2 m2 => ?_⟩
      have u2 := same_new0 (o := .lst [.int 0]) m2
      refine ⟨_, rfl, ra, _, rfl, .inl (.of (u2 _ _ (u1 _ _ hR'))), _, _, rfl, rfl, ?_⟩
      have el : (((iv (cl (M + 1) one0)).length : Nat) : Int) - 1 = (M : Int) := by rw [iv_len, cl_len]; omega
      dsimp only
      rw [el]
      refine ⟨q2, _, _, rfl, rfl, upd_same, by omega, by omega, by show 1 * _ ≤ sizeLine; rw [Nat.one_mul]; exact sz_of (by omega), fun q3 m3 => ?_⟩
      have u3 := same_new0 (o := .lst (List.replicate ((M : Int).toNat) [V.int 0]).flatten) m3
      refine ⟨q1, q3, _, _, rfl, rfl, u3 _ _ (u2 _ _ upd_same), upd_same, ?_, fun q4 m4 => ?_⟩
      · rw [List.flatten_replicate_singleton, List.length_replicate]; exact sz_of (by show 1 + _ ≤ _; omega)
      have u4 := same_new0 (o := .lst ([V.int 1] ++ (List.replicate ((M : Int).toNat) [V.int 0]).flatten)) m4
      have e0 : ([V.int 1] ++ (List.replicate ((M : Int).toNat) [V.int 0]).flatten) = iv (cl (M + 1) one0) := by
        rw [List.flatten_replicate_singleton, cl_one]; rfl
      have uA := ((u1.trans u2).trans u3).trans u4
      refine eqD (Re.ints (.of (uA _ _ hR'))) (Re.ints (l := cl (M + 1) one0) (.of (by rw [upd_same, e0]))) ⟨_, rfl, iteY (by simp) ⟨_, rfl, ?_⟩⟩
      exact k l _ hln (s5.trans uA) (uA _ _ h5l)
theorem fact_mono20 : ∀ {a b : Nat}, a ≤ b → fact a ≤ fact b := fun {a b} h => by
  induction h with
  | refl => exact Nat.le_refl _
  | step _ ih => exact Nat.le_trans ih (Nat.le_mul_of_pos_right _ (Nat.succ_pos _))
abbrev s_by_counts : Stmt := top 36
abbrev n_by_counts : List Str := ["row", "counts", "found", "at", "one", "back"]
theorem sc_by_counts : FnScope n_by_counts ["row", "counts"] (defScope s_by_counts) := ⟨rfl, rfl, rfl, by decide +kernel, rfl, by decide +kernel, by decide +kernel⟩

def sp_by_counts (K : PySem.W.Frag) : Sp := fun vs H Q _ => ∃ (a b : Addr) (f : Fo) (N : Nat), vs = [.ref a, .ref b] ∧ Ok f ∧ f.length ≤ 20 ∧ SqL K H a (iv (cl N (PN f.length))) ∧ SqL K H b (iv (cl (deg f + 1) (ser f))) ∧ deg f ≤ 40000 ∧ N ≤ 40000 ∧
  RetL (iv (cl N (VS f))) H Q
theorem c_by_counts (D : De K mg "by_counts" s_by_counts ["row", "counts"]) (B : Bu mg) : Cl P w K mg base CX0 1 "by_counts" (sp_by_counts K) := by
  refine mk_cl D sc_by_counts (fun vs H Q E h => ?_) (fun fa cdv A outer s H vs Q E hr h => ?_)
  · obtain ⟨a, b, f, N, rfl, _⟩ := h
    rfl
  · obtain ⟨a, b, f, N, rfl, o, hn, hA, hB, hg, hN, k⟩ := h
    have nd := sc_by_counts.nd
    have lA : (iv (cl N (PN f.length))).length = N := by rw [iv_len, cl_len]
    have lB : (iv (cl (deg f + 1) (ser f))).length = deg f + 1 := by rw [iv_len, cl_len]
    have nn := ser_nonneg f.length f rfl o
    have le := ser_le o
    have cf : cof f ≤ 2432902008176640000 := Nat.le_trans (by unfold cof; rw [cby_eq, szs_len]; exact Nat.div_le_self _ _) (Nat.le_trans (fact_mono20 hn) (by decide +kernel))
    refine ⟨_, (pss_cons (ps_set (i := 2) nd rfl (Or.inl rfl) (pe_lst pa_nil))
      (pss_cons (ps_for PassesOwn.never rfl (k_pi_enum (K := K) (by rfl) B.enumerate_ (pa_cons (pv 0) pa_nil)) (k_pg_tup (K := K) (n := 2) (by rfl) (pgs_cons (pg_name (i := 3) nd rfl (Or.inl rfl)) (pgs_cons (pg_name (i := 4) nd rfl (Or.inl rfl)) pgs_nil)))
        (pss_cons (ps_for PassesOwn.never rfl (pi_range2 (by rfl) B.range_ (pa_cons pe_int (pa_cons (pe_op op_add (pe_callB (call_min2 rfl) (by rfl) B.min_ (by decide +kernel) (pa_cons (pv 3) (pa_cons (pe_op op_sub (pe_callB (k_len (K := K)) (by rfl) B.len_ PySem.boot_len (pa_cons (pv 1) pa_nil)) pe_int) pa_nil))) pe_int) pa_nil))) (pg_name (i := 5) nd rfl (Or.inl rfl))
          (pss_one (ps_set (i := 4) nd rfl (Or.inl rfl) (pe_op op_sub (pv 4) (pe_op op_mul (pe_ix (k_ix_list (K := K)) (pv 1) (pv 5) (fun _ _ => rfl)) (pe_ix (k_ix_list (K := K)) (pv 2) (pe_op op_sub (pv 3) (pv 5)) (fun _ _ => rfl)))))))
        (pss_one (ps_expr (k_bm (K := K) PySem.F.plainAttrs_list PySem.F.slot_list_append PySem.F.type_list_append mt_append (pv 2) (pa_cons (pv 4) pa_nil))))))
      (pss_one (ps_ret (pv 2))))), ?_⟩
    refine ⟨Nat.zero_le _, fun l hln => ?_⟩
    have s1 : Same H (upd H l (.lst [])) := same_new0 hln
    refine ⟨_, rfl, a, _, rfl, s1.seq hA, ?_⟩
    refine for_it (walk_enum (xs := iv (cl N (PN f.length)))) (fun i σ H5 => ∃ (v3 v4 v5 : Option V), σ = [some (.ref a), some (.ref b), some (.ref l), v3, v4, v5] ∧ Same H H5 ∧ H5 l = some (.lst (iv (cl i (VS f)))))
      ⟨_, _, _, rfl, s1, upd_same⟩ (fun i σ H5 _ ⟨_, _, _, _, s5, _⟩ => s5.seq hA) ?_ ?_
    · rintro i x σ H5 H6 hi ⟨v3, v4, v5, rfl, s5, h5⟩ y
      obtain ⟨T, x1, x2, rfl, hT0, rfl, e1, e2⟩ := y
      cases e1
      have hi' : i < N := by omega
      replace e2 : (iv (cl N (PN f.length)))[i]? = some x2 := e2
      rw [cl_get hi'] at e2
      cases e2
      have s6 : Same H5 (upd H5 T (.tup [.int (i : Int), .int (PN f.length i)])) := same_new0 hT0
      have h6 := s6 _ _ h5
      have s56 := s5.trans s6
      refine ⟨T, _, rfl, .of upd_same, rfl, _, _, rfl, _, _, rfl, rfl, ?_⟩
      refine ⟨_, rfl, _, rfl, b, _, rfl, .inl (s56.seq hB), _, _, rfl, rfl, _, _, rfl, ?_⟩
      have em : (if (((iv (cl (deg f + 1) (ser f))).length : Nat) : Int) - 1 < (i : Int) then (((iv (cl (deg f + 1) (ser f))).length : Nat) : Int) - 1 else (i : Int)) = ((min i (deg f) : Nat) : Int) := by
        rw [lB]; split <;> omega
      rw [em]
      refine ⟨_, _, rfl, rfl, _, _, rfl, ⟨by omega, by omega, by omega, by omega⟩, ?_⟩
      refine for_range (lo := 1) (n := (((min i (deg f) : Nat) : Int) + 1 - 1).toNat) (fun j σ H7 => ∃ (v5 : Option V), σ = [some (.ref a), some (.ref b), some (.ref l), some (.int (i : Int)), some (.int (PN f.length i - cvR (ser f) (VS f) i j)), v5] ∧ H7 = upd H5 T (.tup [.int (i : Int), .int (PN f.length i)]))
        ⟨v5, by show _ = [some (V.ref a), some (.ref b), some (.ref l), some (.int (i : Int)), some (.int (PN f.length i - 0)), v5]; rw [Int.sub_zero]; rfl, rfl⟩ ?_ ?_
      · rintro j σ H7 hj ⟨v5, rfl, rfl⟩
        have e1 : (1 : Int) + (j : Int) = ((j + 1 : Nat) : Int) := by omega
        rw [e1]
        have hj1 : j + 1 ≤ i := by omega
        have hj2 : j + 1 ≤ deg f := by omega
        have e2 : (i : Int) - ((j + 1 : Nat) : Int) = ((i - (j + 1) : Nat) : Int) := by omega
        have b1 := nn (j + 1)
        have b2 := le (j + 1)
        refine ⟨_, rfl, _, rfl, _, rfl, b, _, _, _, rfl, rfl, s56.seq hB, atI_nat (cl_get (by omega)), _, rfl, _, rfl, _, rfl, _, _, rfl, rfl, l, _, _, _, rfl, rfl, .of h6, by rw [e2]; exact atI_nat (cl_get (N := i) (c := VS f) (by omega)), ?_⟩
        refine ⟨_, _, rfl, rfl, .inl ⟨by omega, by omega⟩, _, _, rfl, rfl, ?_⟩
        have e3 : PN f.length i - cvR (ser f) (VS f) i j - ser f (j + 1) * VS f (i - (j + 1)) = PN f.length i - cvR (ser f) (VS f) i (j + 1) := by
          show _ = _ - (cvR (ser f) (VS f) i j + ser f (j + 1) * VS f (i - (j + 1))); omega
        exact ⟨some (.int ((j + 1 : Nat) : Int)), by rw [← e3]; rfl, rfl⟩
      · rintro σ H7 ⟨v5, rfl, rfl⟩
        have en : (((min i (deg f) : Nat) : Int) + 1 - 1).toNat = min i (deg f) := by omega
        rw [en, ← V_step o]
        refine ⟨_, rfl, .inl ⟨rfl, _, .of h6⟩, _, rfl, l, _, _, rfl, rfl, h6, by rw [iv_len, cl_len]; exact sz_lt (by omega), ?_⟩
        refine ⟨_, _, _, rfl, same_put hln s56, ?_⟩
        rw [upd_same, cl_snoc]; unfold iv; rw [List.map_append]; rfl
    · rintro σ H5 ⟨v3, v4, v5, rfl, s5, h5⟩
      rw [lA] at h5
      exact ⟨_, rfl, k l H5 hln s5 h5⟩
theorem ne_intT {i j : Int} (h : i = j) : (!decide (V.int i = V.int j)) = false := by rw [h]; simp
theorem atI_last {α : Type} {xs : List α} {v : α} (h : xs[xs.length - 1]? = some v) : atI xs (-1) = some v := by
  have hl := (List.getElem?_eq_some_iff.mp h).1
  have e : ixN xs.length (-1) = some (xs.length - 1) := by
    unfold ixN
    rw [if_neg (by decide), if_pos (by omega)]
    congr 1; omega
  unfold atI; rw [e]; exact h
theorem le_tri : ∀ n, n ≤ tri n
  | 0 => Nat.le_refl _
  | n + 1 => by show n + 1 ≤ tri n + (n + 1); omega
theorem ser_last {f : Fo} (o : Ok f) : ser f (deg f) = 1 := by
  have h := congrFun (ser_rev o) 0
  unfold rvS at h
  rw [if_pos (Nat.zero_le _), Nat.sub_zero, ser_zero o] at h
  exact h
theorem sq_nv {H : Hp} {p : Addr} {l : List Nat} (h : H p = some (.lst (nv l))) : SqL K H p ((l.map fun (k : Nat) => (k : Int)).map V.int) := by rw [← nv_int]; exact .of h
theorem nv_iv (l : List Nat) : nv l = iv (l.map fun (k : Nat) => (k : Int)) := nv_int l
abbrev s_back_of : Stmt := top 37
abbrev n_back_of : List Str := ["counts", "many", "top", "row", "size", "times", "found", "turn"]
theorem sc_back_of : FnScope n_back_of ["counts", "many"] (defScope s_back_of) := ⟨rfl, rfl, rfl, by decide +kernel, rfl, by decide +kernel, by decide +kernel⟩

def sp_back_of (K : PySem.W.Frag) : Sp := fun vs H Q _ => ∃ (b : Addr) (f : Fo), vs = [.ref b, .int (f.length : Int)] ∧ Ok f ∧ f.length ≤ 20 ∧ SqL K H b (iv (cl (deg f + 1) (ser f))) ∧ RetL (nv (srt (szs f))) H Q
theorem c_back_of (D : De K mg "back_of" s_back_of ["counts", "many"]) (B : Bu mg) (c_times_gap : Cl P w K mg base CX0 1 "times_gap" (sp_times_gap K)) (c_by_counts : Cl P w K mg base CX0 1 "by_counts" (sp_by_counts K))
    (c_peeled : Cl P w K mg base CX0 2 "peeled" (sp_peeled K)) : Cl P w K mg base CX0 3 "back_of" (sp_back_of K) := by
  refine mk_cl D sc_back_of (fun vs H Q E h => ?_) (fun fa cdv A outer s H vs Q E hr h => ?_)
  · obtain ⟨b, f, rfl, _⟩ := h
    rfl
  · obtain ⟨b, f, rfl, o, hn, hB, k⟩ := h
    have nd := sc_back_of.nd
    have hx := ser_isX o
    have hdeg := hx.deg
    have ltri := le_tri f.length
    have t2 := tri_two f.length
    have ttop : tri f.length ≤ 420 := Nat.le_trans (tri_le _) (by have := Nat.mul_le_mul hn hn; omega)
    have lB : (iv (cl (deg f + 1) (ser f))).length = deg f + 1 := by rw [iv_len, cl_len]
    have etop : ((f.length : Int) * ((f.length : Int) + 1)) / 2 = ((tri f.length : Nat) : Int) := by
      have : (f.length : Int) * ((f.length : Int) + 1) = 2 * ((tri f.length : Nat) : Int) := by
        have := congrArg (fun x : Nat => (x : Int)) t2
        simp only [Int.natCast_mul, Int.natCast_add] at this
        exact this.symm
      rw [this]; omega
    refine ⟨_, (pss_cons (ps_set (i := 2) nd rfl (Or.inl rfl) (pe_op op_fdivW (pe_op op_mul (pv 1) (pe_op op_add (pv 1) pe_int)) pe_int))
      (pss_cons (ps_if (PW.pt (pw_or (pt_cmpR op_ne (pe_ix (k_ix_list (K := K)) (pv 0) pe_int (fun _ _ => rfl)) pe_int (nomark _)) (pw_or (pt_cmpR op_eq (pe_ix (k_ix_list (K := K)) (pv 0) (pe_un un_neg pe_int) (fun _ _ => rfl)) pe_int (nomark _)) (pw_or1 (pt_cmpR op_gt (pe_callB (k_len (K := K)) (by rfl) B.len_ PySem.boot_len (pa_cons (pv 0) pa_nil)) (pe_op op_add (pv 2) pe_int) (nomark _))))))
        (pss_one (ps_ret pe_non))
        pss_nil)
      (pss_cons (ps_set (i := 3) nd rfl (Or.inl rfl) (pe_op op_cat (pe_lst (pa_cons pe_int pa_nil)) (pe_op op_rep (pe_lst (pa_cons pe_int pa_nil)) (pv 2))))
      (pss_cons (ps_for PassesOwn.never rfl (pi_range2 (by rfl) B.range_ (pa_cons pe_int (pa_cons (pe_op op_add (pv 1) pe_int) pa_nil))) (pg_name (i := 4) nd rfl (Or.inl rfl))
        (pss_one (ps_set (i := 3) nd rfl (Or.inl rfl) (p_call c_times_gap hr (by decide) (by rfl) pass0 (pa_cons (pv 3) (pa_cons (pv 4) pa_nil))))))
      (pss_cons (ps_set (i := 5) nd rfl (Or.inr rfl) (p_call c_peeled hr (by decide) (by rfl) pass0 (pa_cons (p_call c_by_counts hr (by decide) (by rfl) pass0 (pa_cons (pv 3) (pa_cons (pv 0) pa_nil))) (pa_cons (pv 1) pa_nil))))
      (pss_cons (ps_if (PW.pt (pw_or (pt_cmpR op_isN (pv 5) pe_non (nomark _)) (pw_or1 (pt_cmpR op_ne (pe_callB (k_sum (K := K) rfl) (by rfl) B.sum_ (by decide +kernel) (pa_cons (pv 5) pa_nil)) (pv 1) (nomark _)))))
        (pss_one (ps_ret pe_non))
        pss_nil)
      (pss_cons (ps_setLc2 (i := 6) (own := [("size", 4), ("turn", 7)]) (vs1 := [7]) rfl nd rfl rfl (sw_true rfl rfl rfl (by decide +kernel)) (pi_range1 (by rfl) B.range_ (pa_cons (pv 1) pa_nil)) (blkOk_by (own := [("size", 4), ("turn", 7)]) (N := n_back_of) (sc := defScope s_back_of) (by decide +kernel)) (by decide) (fun _ _ _ _ _ => (pg_name (i := 4) nd rfl (Or.inl rfl))) (fun _ _ _ _ _ => pts_nil) (fun _ _ _ _ _ => (pi_range1 (by rfl) B.range_ (pa_cons (pe_ix (k_ix_list (K := K)) (pv 5) (pv 4) (fun _ _ => rfl)) pa_nil))) (fun _ _ _ _ _ => (pg_name (i := 7) nd rfl (Or.inl rfl))) (fun _ _ _ _ _ => pts_nil) (fun _ _ _ _ _ => (pe_op op_add (pv 4) pe_int)))
      (pss_one (ps_ret (pe_ifExp (pt_cmpR op_eq (pe_op op_add (pe_op op_sub (pe_callB (k_len (K := K)) (by rfl) B.len_ PySem.boot_len (pa_cons (pv 0) pa_nil)) pe_int) (pe_callB (k_sum (K := K) rfl) (by rfl) B.sum_ (by decide +kernel) (pa_cons (pv 6) pa_nil))) (pv 2) (nomark _)) (pv 6) pe_non)))))))))), ?_⟩
    refine ⟨_, rfl, _, rfl, _, _, rfl, rfl, _, _, rfl, rfl, .inl ⟨by omega, by omega⟩, _, _, rfl, rfl, log2_ok (by decide) (by decide +kernel), ?_⟩
    dsimp only
    rw [etop]
    refine ⟨_, rfl, b, _, _, _, rfl, rfl, hB, (by exact atI_nat (j := 0) (cl_get (by omega))), rfl, _, rfl, iteN (ne_intT (ser_zero o)) ?_⟩
    refine ⟨_, rfl, _, rfl, b, _, _, _, rfl, rfl, hB, atI_last (v := .int (ser f (deg f))) (by rw [lB]; exact cl_get (by omega)), rfl, _, rfl, iteN (by rw [ser_last o]; decide) ?_⟩
    refine ⟨_, rfl, b, _, rfl, .inl hB, _, rfl, _, _, rfl, rfl, _, _, rfl, rfl, _, rfl, iteN (decide_eq_false (by rw [lB]; omega)) ?_⟩
    refine ⟨by show 1 ≤ sizeLine; decide, fun q1 m1 => ?_⟩
    have u1 := same_new0 (o := .lst [.int 1]) m1
    refine ⟨by show 1 ≤ sizeLine; decide, fun q2 m2 => ?_⟩
    have u2 := same_new0 (o := .lst [.int 0]) m2
    refine ⟨_, rfl, q2, _, _, rfl, rfl, upd_same, by omega, by omega, by show 1 * _ ≤ sizeLine; rw [Nat.one_mul]; exact sz_of (by omega), fun q3 m3 => ?_⟩
    have u3 := same_new0 (o := .lst (List.replicate (((tri f.length : Nat) : Int).toNat) [V.int 0]).flatten) m3
    refine ⟨q1, q3, _, _, rfl, rfl, u3 _ _ (u2 _ _ upd_same), upd_same, ?_, fun q4 m4 => ?_⟩
    · rw [List.flatten_replicate_singleton, List.length_replicate]; exact sz_of (by show 1 + _ ≤ _; omega)
    have u4 := same_new0 (o := .lst ([V.int 1] ++ (List.replicate (((tri f.length : Nat) : Int).toNat) [V.int 0]).flatten)) m4
    have e0 : ([V.int 1] ++ (List.replicate (((tri f.length : Nat) : Int).toNat) [V.int 0]).flatten) = iv (cl (tri f.length + 1) one0) := by
      rw [List.flatten_replicate_singleton, cl_one]
      have : (((tri f.length : Nat) : Int).toNat) = tri f.length := by omega
      rw [this]
    have uA := ((u1.trans u2).trans u3).trans u4
    refine ⟨_, rfl, _, _, rfl, rfl, _, _, rfl, ⟨by omega, by omega, by omega, by omega⟩, ?_⟩
    refine for_range (lo := 1) (n := ((f.length : Int) + 1 - 1).toNat) (fun i σ H5 => ∃ (ra : Addr) (v4 : Option V), σ = [some (.ref b), some (.int (f.length : Int)), some (.int ((tri f.length : Nat) : Int)), some (.ref ra), v4, none, none, none] ∧ Same H H5 ∧ H5 ra = some (.lst (iv (cl (tri f.length + 1) (PN i)))))
      ⟨q4, _, rfl, uA, by rw [upd_same, e0]; rfl⟩ ?_ ?_
    · rintro i σ H5 hi ⟨ra, v4, rfl, s5, h5⟩
      have e1 : (1 : Int) + (i : Int) = ((i + 1 : Nat) : Int) := by omega
      rw [e1]
      refine ⟨_, rfl, _, rfl, ra, _, i + 1, _, rfl, .of h5, by omega, fun q H6 nq s6 h6 => ?_⟩
      exact ⟨q, _, rfl, s5.trans s6, h6⟩
    · rintro σ H5 ⟨ra, v4, rfl, s5, h5⟩
      have en : ((f.length : Int) + 1 - 1).toNat = f.length := by omega
      rw [en] at h5
      refine ⟨_, rfl, _, rfl, ra, b, f, _, rfl, o, hn, .of h5, s5.seq hB, by omega, by omega, fun q6 H6 n6 s6 h6 => ?_⟩
      refine ⟨_, rfl, q6, f, _, rfl, o, by omega, h6, by omega, by omega, fun q7 H7 n7 s7 h7 => ?_⟩
      have sA := (s5.trans s6).trans s7
      refine ⟨_, rfl, rfl, _, rfl, iteN (by simp) ?_⟩
      have ecount := bck_len (l := szs f) (n := f.length) szs_pos (szs_le f)
      rw [szs_len] at ecount
      refine ⟨_, rfl, q7, _, rfl, sq_nv h7, _, rfl, rfl, _, rfl, iteN (ne_intT (by rw [sum_int, ecount])) ?_⟩
      have cle : ∀ m, (szs f).count m ≤ f.length := fun m => by have := List.count_le_length (a := m) (l := szs f); have := szs_len f; omega
      have bl : ∀ i, i ≤ f.length → (bck (szs f) i).length ≤ f.length := fun i hi => by
        have h1 := (bck_perm (l := szs f) i szs_pos).length_eq
        have h2 := List.length_filter_le (fun x => decide (x ≤ i)) (szs f)
        rw [szs_len] at h2; omega
      refine ⟨_, rfl, _, rfl, by omega, by omega, fun D hD => ?_⟩
      have en2 : ((f.length : Nat) : Int).toNat = f.length := by omega
      rw [en2]
      refine lc2_out walk_r0 hD (fun i => nv (bck (szs f) i)) rfl (fun _ _ => trivial) (fun i x H8 H9 hi s8 h8 y Nx hNx => ?_) (fun H8 s8 h8 => ?_)
      · obtain ⟨rfl, rfl⟩ := y
        have hci := cle (i + 1)
        have hbi := bl i (by omega)
        have gt : (nv ((List.range f.length).map fun i => (szs f).count (i + 1)))[i]? = some (.int (((szs f).count (i + 1) : Nat) : Int)) := nv_get (by rw [List.getElem?_map, List.getElem?_range hi]; rfl)
        refine ⟨rfl, _, rfl, _, rfl, q7, _, _, _, rfl, rfl, .of (s8 _ _ h7), atI_nat gt, _, rfl, by omega, by omega, ?_⟩
        have en3 : (((szs f).count (i + 1) : Nat) : Int).toNat = (szs f).count (i + 1) := by omega
        rw [en3]
        refine lc2_in walk_r0 hD (nv (bck (szs f) i)) (fun _ => true) (fun _ => .int ((i + 1 : Nat) : Int)) s8 h8 (by rw [List.length_map]; omega) (fun _ _ => trivial) (fun j x H10 H11 Qe Qn hj s10 y kT kF => ?_) (fun H10 s10 h10 => hNx H10 s10 ?_)
        · obtain ⟨rfl, rfl⟩ := y
          exact ⟨rfl, _, rfl, _, _, rfl, rfl, kT rfl _ (Same.refl _)⟩
        · rw [h10, given_all (fun _ _ => rfl)]
          have eb : bck (szs f) (i + 1) = bck (szs f) i ++ List.replicate ((szs f).count (i + 1)) (i + 1) := by
            unfold bck
            rw [List.range_succ, List.flatMap_append, List.flatMap_cons, List.flatMap_nil, List.append_nil]
          rw [eb]
          unfold nv
          rw [List.map_append, List.map_replicate]
          congr 3
          refine List.ext_getElem (by simp) fun i h1 h2 => ?_
          simp
      · have ebs := bck_srt (l := szs f) (n := f.length) szs_pos (szs_le f)
        rw [ebs] at h8
        refine ⟨_, rfl, b, _, rfl, .inl ((sA.trans s8).seq hB), _, _, rfl, rfl, _, rfl, D, _, rfl, sq_nv h8, _, _, rfl, rfl, _, rfl, rfl, _, rfl, ?_⟩
        refine iteY ?_ ⟨_, rfl, k D H8 (sA.free hD) (sA.trans s8) h8⟩
        rw [lB, sum_int, (srt_perm (szs f)).sum_nat]
        have : (((deg f + 1 : Nat) : Int) - 1 + ((szs f).sum : Nat)) = ((tri f.length : Nat) : Int) := by omega
        show decide (V.int (((deg f + 1 : Nat) : Int) - 1 + ((szs f).sum : Nat)) = V.int ((tri f.length : Nat) : Int)) = true
        rw [this]; simp
end
end Hb
namespace Hb
open PySem PySem.Spec PyProof.Rows L2
section
variable {P : Program} {w : World} {K : PySem.W.Frag} {mg : Str → Option Value} {base : Heap}
theorem srt_out {l : List Nat} {ns : List Int} (hp : ns.Perm (l.map fun (k : Nat) => (k : Int))) (hs : ns.Pairwise (· ≤ ·)) : ns.map V.int = nv (srt l) := by
  obtain ⟨ms, rfl, hp2⟩ := nats_of hp
  have hs' : ms.Pairwise (· ≤ ·) := (List.pairwise_map.mp hs).imp fun h => by omega
  rw [← nv_int, srt_unique hp2 hs']
abbrev s_check_two : Stmt := top 40
abbrev n_check_two : List Str := ["forest", "other"]
theorem sc_check_two : FnScope n_check_two ["forest", "other"] (defScope s_check_two) := ⟨rfl, rfl, rfl, by decide +kernel, rfl, by decide +kernel, by decide +kernel⟩

def sp_check_two (K : PySem.W.Frag) : Sp := fun vs H Q _ => ∃ (a b : Addr) (f g : Fo), vs = [.ref a, .ref b] ∧ FoAt K H a f ∧ FoAt K H b g ∧ RetV .non H Q
theorem c_check_two (D : De K mg "check_two" s_check_two ["forest", "other"]) (c_check_forest : Cl P w K mg base CX0 3 "check_forest" (sp_check_forest K)) : Cl P w K mg base CX0 4 "check_two" (sp_check_two K) := by
  refine mk_cl D sc_check_two (fun vs H Q E h => ?_) (fun fa cdv A outer s H vs Q E hr h => ?_)
  · obtain ⟨a, b, f, g, rfl, _⟩ := h
    rfl
  · obtain ⟨a, b, f, g, rfl, hF, hG, k⟩ := h
    have nd := sc_check_two.nd
    refine ⟨_, (pss_cons (ps_expr (p_call c_check_forest hr (by decide) (by rfl) pass0 (pa_cons (pv 0) pa_nil)))
      (pss_one (ps_expr (p_call c_check_forest hr (by decide) (by rfl) pass0 (pa_cons (pv 1) pa_nil))))), ?_⟩
    refine ⟨_, rfl, a, f, rfl, hF, fun H1 s1 => ?_⟩
    exact ⟨_, rfl, b, g, rfl, hG.mono s1, fun H2 s2 => k H2 (s1.trans s2)⟩
abbrev s_are_alike : Stmt := top 41
abbrev n_are_alike : List Str := ["forest", "other"]
theorem sc_are_alike : FnScope n_are_alike ["forest", "other"] (defScope s_are_alike) := ⟨rfl, rfl, rfl, by decide +kernel, rfl, by decide +kernel, by decide +kernel⟩

def sp_are_alike (K : PySem.W.Frag) : Sp := fun vs H Q _ => ∃ (a b : Addr) (f g : Fo), vs = [.ref a, .ref b] ∧ FoAt K H a f ∧ FoAt K H b g ∧ RetV (.bl (decide (srt (szs f) = srt (szs g)))) H Q
theorem c_are_alike (D : De K mg "are_alike" s_are_alike ["forest", "other"]) (B : Bu mg) (c_check_two : Cl P w K mg base CX0 4 "check_two" (sp_check_two K)) (c_sizes_of : Cl P w K mg base CX0 2 "sizes_of" (sp_sizes_of K)) : Cl P w K mg base CX0 5 "are_alike" (sp_are_alike K) := by
  refine mk_cl D sc_are_alike (fun vs H Q E h => ?_) (fun fa cdv A outer s H vs Q E hr h => ?_)
  · obtain ⟨a, b, f, g, rfl, _⟩ := h
    rfl
  · obtain ⟨a, b, f, g, rfl, hF, hG, k⟩ := h
    have nd := sc_are_alike.nd
    refine ⟨_, (pss_cons (ps_expr (p_call c_check_two hr (by decide) (by rfl) pass0 (pa_cons (pv 0) (pa_cons (pv 1) pa_nil))))
      (pss_one (ps_ret (pe_cmpR (k_eqD (K := K) hr.units) (pe_callB (k_sortedI (K := K)) (by rfl) B.sorted_ (by decide +kernel) (pa_cons (p_call c_sizes_of hr (by decide) (by rfl) pass0 (pa_cons (pv 0) pa_nil)) pa_nil)) (pe_callB (k_sortedI (K := K)) (by rfl) B.sorted_ (by decide +kernel) (pa_cons (p_call c_sizes_of hr (by decide) (by rfl) pass0 (pa_cons (pv 1) pa_nil)) pa_nil)) (nomark _))))), ?_⟩
    refine ⟨_, rfl, _, rfl, a, b, f, g, rfl, hF, hG, fun H1 s1 => ?_⟩
    refine ⟨_, rfl, a, f, rfl, hF.mono s1, fun p H2 np s2 h2 => ?_⟩
    refine ⟨p, _, rfl, sq_nv h2, fun ns q hp hs nq => ?_⟩
    rw [srt_out hp hs]
    have u1 := same_new0 (o := .lst (nv (srt (szs f)))) nq
    have sA := (s1.trans s2).trans u1
    refine ⟨_, rfl, b, g, rfl, hG.mono sA, fun p3 H3 np3 s3 h3 => ?_⟩
    refine ⟨p3, _, rfl, sq_nv h3, fun ns4 q4 hp4 hs4 nq4 => ?_⟩
    rw [srt_out hp4 hs4]
    have u2 := same_new0 (o := .lst (nv (srt (szs g)))) nq4
    refine eqD (Re.nats (.of ((s3.trans u2) _ _ upd_same))) (Re.nats (.of upd_same)) ?_
    exact k _ (sA.trans (s3.trans u2))
abbrev s_sizes_back : Stmt := top 42
abbrev n_sizes_back : List Str := ["counts", "many", "one"]
theorem sc_sizes_back : FnScope n_sizes_back ["counts", "many"] (defScope s_sizes_back) := ⟨rfl, rfl, rfl, by decide +kernel, rfl, by decide +kernel, by decide +kernel⟩

def sp_sizes_back (K : PySem.W.Frag) : Sp := fun vs H Q _ => ∃ (b : Addr) (f : Fo), vs = [.ref b, .int (f.length : Int)] ∧ Ok f ∧ f.length ≤ 20 ∧ H b = some (.lst (iv (cl (deg f + 1) (ser f)))) ∧ RetL (nv (srt (szs f))) H Q
theorem c_sizes_back (D : De K mg "sizes_back" s_sizes_back ["counts", "many"]) (B : Bu mg) (c_is_integer : Cl P w K mg base CX0 1 "is_integer" sp_is_integer) (c_back_of : Cl P w K mg base CX0 3 "back_of" (sp_back_of K)) : Cl P w K mg base CX0 4 "sizes_back" (sp_sizes_back K) := by
  refine mk_cl D sc_sizes_back (fun vs H Q E h => ?_) (fun fa cdv A outer s H vs Q E hr h => ?_)
  · obtain ⟨b, f, rfl, _⟩ := h
    rfl
  · obtain ⟨b, f, rfl, o, hn, hB, k⟩ := h
    have nd := sc_sizes_back.nd
    refine ⟨_, (pss_cons (ps_if (PW.pt (pw_or (pt_not (pt_val (pe_callB (k_isi (K := K)) (by rfl) B.isinstance_ (by decide +kernel) (pa_cons (pv 0) (pa_cons (pe_bltn (v := .ty "list") (by rfl) B.list_ bt_list rfl) pa_nil))))) (pw_or (pt_cmpR (k_eqD (K := K) hr.units) (pv 0) (pe_lst pa_nil) (nomark _)) (pw_or1 (pt_not (pt_val (pe_callB (k_all (K := K) rfl) (by rfl) B.all_ (by decide +kernel) (pa_cons (pe_lc (own := [("one", 2)]) rfl nd (k_pi_list (K := K) (pv 0)) (blkOk_by (own := [("one", 2)]) (N := n_sizes_back) (sc := defScope s_sizes_back) (by decide +kernel)) (fun _ _ _ _ _ => (pg_name (i := 2) nd rfl (Or.inl rfl))) (fun _ _ _ _ _ => pts_nil) (fun _ _ _ _ _ => (p_call c_is_integer hr (by decide) (by rfl) pass0 (pa_cons (pv 2) (pa_cons pe_non (pa_cons pe_non pa_nil)))))) pa_nil))))))))
        (pss_one ps_never)
        pss_nil)
      (pss_cons (ps_if (pt_not (pt_val (p_call c_is_integer hr (by decide) (by rfl) pass0 (pa_cons (pv 1) (pa_cons pe_int (pa_cons pe_int pa_nil))))))
        (pss_one ps_never)
        pss_nil)
      (pss_one (ps_ret (p_call c_back_of hr (by decide) (by rfl) pass0 (pa_cons (pv 0) (pa_cons (pv 1) pa_nil))))))), ?_⟩
    have lB : (iv (cl (deg f + 1) (ser f))).length = deg f + 1 := by rw [iv_len, cl_len]
    have hdg : deg f ≤ 420 := Nat.le_trans (deg_le f) (by have := Nat.mul_le_mul hn hn; omega)
    refine ⟨_, rfl, _, _, _, _, true, rfl, .ty _, .base (.lst hB), kit_ty (by decide +kernel), _, rfl, iteN rfl ?_⟩
    refine ⟨_, rfl, Nat.zero_le _, fun q nq => ?_⟩
    have u1 := same_new0 (o := .lst []) nq
    refine eqD (Re.ints (.of (u1 _ _ hB))) (Re.ints (l := []) (.of upd_same)) ⟨_, rfl, iteN (decide_eq_false fun e => by have := congrArg List.length e; rw [cl_len] at this; cases this) ?_⟩
    refine ⟨_, rfl, b, rfl, ⟨_, .of (u1 _ _ hB)⟩, fun D hD => ?_⟩
    refine lc_map (walk_list (xs := iv (cl (deg f + 1) (ser f)))) hD (by omega) (fun i => .bl true) (fun H2 s2 => s2.seq (.of (u1 _ _ hB))) (fun i x H2 H3 Qe hi s2 y ke => ?_) (fun H2 s2 hD2 => ?_)
    · obtain ⟨rfl, hx⟩ := y
      rw [cl_get (by omega)] at hx
      cases hx
      exact ⟨rfl, _, rfl, _, none, none, rfl, .int _, ke H3 (Same.refl _)⟩
    · have e3 : (List.range (iv (cl (deg f + 1) (ser f))).length).map (fun i => V.bl true) = (List.replicate (deg f + 1) true).map V.bl := by
        rw [lB, List.map_replicate]
        exact List.ext_getElem (by simp) fun i h1 h2 => by simp
      rw [e3] at hD2
      refine ⟨D, _, rfl, .of hD2, _, rfl, iteN (by simp) ?_⟩
      have sA := u1.trans s2
      have ne := o.ne
      have ei : isInt (.int (f.length : Int)) (some 1) (some 60) = true := by
        show (decide ((1 : Int) ≤ (f.length : Int)) && decide ((f.length : Int) ≤ 60)) = true
        rw [decide_eq_true (by omega), decide_eq_true (by omega)]; rfl
      refine ⟨_, rfl, _, some 1, some 60, rfl, .int _, _, rfl, iteN (by rw [ei]; rfl) ?_⟩
      exact ⟨_, rfl, _, rfl, b, f, rfl, o, hn, .of (sA _ _ hB), fun p H3 np s3 h3 => k p H3 (sA.free np) (sA.trans s3) h3⟩
end
end Hb
namespace Hb
open PySem PySem.Spec PyProof.Rows L2
section
variable {P : Program} {w : World} {K : PySem.W.Frag} {mg : Str → Option Value} {base : Heap}
/-! ### code_of, by_code, plain -/
def dn (f : Fo) : Option Nat → Nat
  | none => 0
  | some t => dep f t + 1
def Lst (f : Fo) : Option Nat → List Nat → Prop
  | none => Rt f
  | some t => Bl f t
theorem perm_map {α β : Type} {g : α → β} : ∀ {cs l : List β}, cs.Perm l → ∀ bs : List α, l = bs.map g → ∃ bs' : List α, cs = bs'.map g ∧ bs'.Perm bs := by
  intro cs l h
  induction h with
  | nil => intro bs e; cases bs with
    | nil => exact ⟨[], rfl, .nil⟩
    | cons _ _ => cases e
  | cons x h ih =>
    intro bs e
    cases bs with
    | nil => cases e
    | cons b bs =>
      rw [List.map_cons] at e
      injection e with e1 e2
      obtain ⟨bs', e3, p⟩ := ih bs e2
      exact ⟨b :: bs', by rw [e1, e3]; rfl, p.cons b⟩
  | swap x y l =>
    intro bs e
    match bs, e with
    | a :: b :: bs, e =>
      simp only [List.map_cons] at e
      injection e with e1 e2
      injection e2 with e2 e3
      exact ⟨b :: a :: bs, by rw [e1, e2, e3]; rfl, .swap _ _ _⟩
  | trans h1 h2 ih1 ih2 =>
    intro bs e
    obtain ⟨b1, e1, p1⟩ := ih2 bs e
    obtain ⟨b2, e2, p2⟩ := ih1 b1 e1
    exact ⟨b2, e2, p2.trans p1⟩
theorem Bls.mk {f : Fo} : ∀ Ls : List (List Nat), (∀ L ∈ Ls, Bl f (L.headD 0) L) → Bls f (Ls.map (·.headD 0)) Ls
  | [], _ => .nil
  | L :: Ls, h => .cons (h L (by simp)) (Bls.mk Ls fun M hM => h M (by simp [hM]))
theorem flat_take_le {α : Type} (Ls : List (List α)) (i : Nat) (h : i < Ls.length) : (Ls.take i).flatten.length + Ls[i].length ≤ Ls.flatten.length := by
  conv => rhs; rw [← List.take_append_drop i Ls, List.drop_eq_getElem_cons h, List.flatten_append, List.flatten_cons]
  rw [List.length_append, List.length_append]
  omega
theorem Bl.len {f : Fo} (o : Ok f) {t : Nat} (ht : t < f.length) {L : List Nat} (b : Bl f t L) : L.length ≤ f.length := by
  rw [b.perm.length_eq]
  exact nodup_le _ _ (pre_nodup o t ht) fun x hx => ((pre_mem o t ht x).mp hx).1
theorem dep_held {f : Fo} (o : Ok f) {c : Nat} {h : Option Nat} (e : hd f c = h) : dep f c = dn f h := by
  cases h with
  | none => unfold dep; rw [abv_none e]; rfl
  | some t => unfold dep; rw [abv_some o e]; rfl
abbrev s_code_of : Stmt := top 38
abbrev n_code_of : List Str := ["forest", "thing", "depth", "parts", "found", "part", "one"]
theorem sc_code_of : FnScope n_code_of ["forest", "thing", "depth"] (defScope s_code_of) := ⟨rfl, rfl, rfl, by decide +kernel, rfl, by decide +kernel, by decide +kernel⟩

def sp_code_of (K : PySem.W.Frag) (m : Nat) : Sp := fun vs H Q _ => ∃ (a : Addr) (f : Fo) (h : Option Nat), vs = [.ref a, ov h, .int ((dn f h : Int) - 1)] ∧ FoAt K H a f ∧ (∀ t, h = some t → t < f.length) ∧ f.length + 1 ≤ dn f h + m ∧
  ∀ p H' L, H p = none → Same H H' → H' p = some (.lst (nv (L.map (dep f)))) → Lst f h L → Q (.ref p) H'
theorem dep_lt {f : Fo} (o : Ok f) {t : Nat} (ht : t < f.length) : dep f t < f.length := abv_len o ht
theorem c_code_of (D : De K mg "code_of" s_code_of ["forest", "thing", "depth"]) (B : Bu mg) (c_held_of : Cl P w K mg base CX0 1 "held_of" (sp_held_of K)) : ∀ m, Cl P w K mg base CX0 (m + 3) "code_of" (sp_code_of K m) := by
  intro m
  induction m with
  | zero =>
    refine mk_cl D sc_code_of (fun vs H Q E h => ?_) (fun fa cdv A outer s H vs Q E hr h => ?_)
    · obtain ⟨a, f, h, rfl, _⟩ := h
      rfl
    · obtain ⟨a, f, h, rfl, hF, ht, hm, k⟩ := h
      exfalso
      cases h with
      | none => have : f.length + 1 ≤ 0 + 0 := hm; omega
      | some t => have : f.length + 1 ≤ dep f t + 1 + 0 := hm; have := dep_lt hF.2.1 (ht t rfl); omega
  | succ m ih =>
    have c_code_of := ih
    refine mk_cl D sc_code_of (fun vs H Q E h => ?_) (fun fa cdv A outer s H vs Q E hr h => ?_)
    · obtain ⟨a, f, h, rfl, _⟩ := h
      rfl
    · obtain ⟨a, f, h, rfl, hF, ht, hm, k⟩ := h
      obtain ⟨hS, o, hn⟩ := id hF
      have nd := sc_code_of.nd
      have hl := hv_len f
      refine ⟨_, (pss_cons (ps_set (i := 3) nd rfl (Or.inl rfl) (pe_callB (k_sortedD (K := K) hr.units) (by rfl) B.sorted_ (by decide +kernel) (pa_cons (pe_lc (own := [("one", 6)]) rfl nd (k_pi_list (K := K) (p_call c_held_of hr (by omega) (by rfl) pass0 (pa_cons (pv 0) (pa_cons (pv 1) pa_nil)))) (blkOk_by (own := [("one", 6)]) (N := n_code_of) (sc := defScope s_code_of) (by decide +kernel)) (fun _ _ _ _ _ => (pg_name (i := 6) nd rfl (Or.inl rfl))) (fun _ _ _ _ _ => pts_nil) (fun _ _ _ _ _ => (p_call c_code_of hr (by omega) (by rfl) pass0 (pa_cons (pv 0) (pa_cons (pv 6) (pa_cons (pe_op op_add (pv 2) pe_int) pa_nil)))))) pa_nil)))
      (pss_cons (ps_set (i := 4) nd rfl (Or.inl rfl) (pe_ifExp (pt_cmpR op_notN (pv 1) pe_non (nomark _)) (pe_lst (pa_cons (pv 2) pa_nil)) (pe_lst pa_nil)))
      (pss_cons (ps_for PassesOwn.never rfl (k_pi_list (K := K) (pv 3)) (pg_name (i := 5) nd rfl (Or.inl rfl))
        (pss_one (ps_expr (k_bm (K := K) PySem.F.plainAttrs_list PySem.F.slot_list_extend PySem.F.type_list_extend mt_extend (pv 4) (pa_cons (pv 5) pa_nil)))))
      (pss_one (ps_ret (pv 4)))))), ?_⟩
      refine ⟨_, rfl, _, rfl, a, f, h, rfl, hS, hn, fun p H2 hp s2 h2 => ?_⟩
      refine ⟨p, rfl, ⟨_, .of h2⟩, fun Dl hD => ?_⟩
      have hn20 : (hld f h).length ≤ f.length := by unfold hld; have := List.length_filter_le (fun i => decide (hd f i = h)) (List.range f.length); rw [List.length_range] at this; exact this
      have hnl : (nv (hld f h)).length = (hld f h).length := List.length_map _
      refine lc_it (walk_list (xs := nv (hld f h))) (fun i H => Same H2 H ∧ ∃ bs : List (Addr × List Nat), H Dl = some (.lst (bs.map fun b => V.ref b.1)) ∧ bs.map (fun b => b.2.headD 0) = (hld f h).take i ∧ ∀ b ∈ bs, b.1 ≠ Dl ∧ Bl f (b.2.headD 0) b.2 ∧ H b.1 = some (.lst (nv (b.2.map (dep f)))))
        ⟨same_new0 hD, [], upd_same, by simp, fun b hb => by cases hb⟩ (fun i H _ q => q.1.seq (.of h2)) (fun i x H3 H4 hi q y => ?_) (fun H3 q => ?_)
      · obtain ⟨sm, bs, hbs, hhd, hb⟩ := q
        obtain ⟨rfl, hx⟩ := y
        have hi' : i < (hld f h).length := by omega
        rw [nv_get (List.getElem?_eq_getElem hi')] at hx
        cases hx
        obtain ⟨hc, hch⟩ := hld_mem.mp (List.getElem_mem hi')
        have hdc := dep_held o hch
        have e1 : (dn f h : Int) - 1 + 1 = ((dn f (some (hld f h)[i]) : Nat) : Int) - 1 := by show _ = ((dep f (hld f h)[i] + 1 : Nat) : Int) - 1; omega
        refine ⟨rfl, _, rfl, _, rfl, _, rfl, _, _, rfl, rfl, a, f, some (hld f h)[i], by dsimp only; rw [e1]; rfl, hF.mono (s2.trans sm), fun t e => by cases e; exact hc, ?_, fun p5 H5 L np5 s5 h5 hL => ?_⟩
        · show _ ≤ dep f (hld f h)[i] + 1 + m
          omega
        · have hL : Bl f (hld f h)[i] L := hL
          have eL : L.headD 0 = (hld f h)[i] := by
            have := hL.hd0
            cases L with
            | nil => cases this
            | cons z L => exact Option.some.inj this
          have hpD : p5 ≠ Dl := fun e => by rw [e, hbs] at np5; cases np5
          have hl5 := congrArg List.length hhd
          rw [List.length_map, List.length_take] at hl5
          refine ⟨_, s5 _ _ hbs, by rw [List.length_map]; exact sz_lt (by omega), same_put hD (sm.trans s5), bs ++ [(p5, L)], ?_, ?_, ?_⟩
          · rw [upd_same, List.map_append]; rfl
          · rw [List.map_append, hhd, List.take_succ, List.getElem?_eq_getElem hi']
            show _ ++ [L.headD 0] = _
            rw [eL]; rfl
          · intro b hbm
            rcases List.mem_append.mp hbm with hbm | hbm
            · obtain ⟨b1, b2, b3⟩ := hb b hbm
              exact ⟨b1, b2, by rw [upd_ne b1]; exact s5 _ _ b3⟩
            · rw [List.mem_singleton.mp hbm]
              exact ⟨hpD, by show Bl f (L.headD 0) L; rw [eL]; exact hL, by show upd H5 Dl _ p5 = _; rw [upd_ne hpD]; exact h5⟩
      · obtain ⟨sm, bs, hbs, hhd, hb⟩ := q
        rw [hnl, List.take_length] at hhd
        refine ⟨Dl, bs.map fun b => (b.1, b.2.map (dep f)), rfl, .of (by rw [hbs, List.map_map]; rfl), fun b hbm => ?_, fun cs q hp3 hq => ?_⟩
        · obtain ⟨c, hc, rfl⟩ := List.mem_map.mp hbm
          exact (hb c hc).2.2
        obtain ⟨bs', rfl, pm⟩ := perm_map hp3 bs rfl
        have sQ := same_new0 (o := .lst ((bs'.map fun b => (b.1, b.2.map (dep f))).map fun b => V.ref b.1)) hq
        have hhd' : (bs'.map fun b => b.2.headD 0).Perm (hld f h) := hhd ▸ (pm.map _)
        have hb' : ∀ b ∈ bs', Bl f (b.2.headD 0) b.2 ∧ H3 b.1 = some (.lst (nv (b.2.map (dep f)))) := fun b hbm => (hb b (pm.mem_iff.mp hbm)).2
        have hBls : Bls f (bs'.map fun b => b.2.headD 0) (bs'.map (·.2)) := by
          have := Bls.mk (f := f) (bs'.map (·.2)) fun L hL => by
            obtain ⟨b, hbm, rfl⟩ := List.mem_map.mp hL
            exact (hb' b hbm).1
          rw [List.map_map] at this
          exact this
        have hq0 : upd H3 q (.lst ((bs'.map fun b => (b.1, b.2.map (dep f))).map fun b => V.ref b.1)) q = some (.lst (bs'.map fun b => V.ref b.1)) := by rw [upd_same, List.map_map]; rfl
        have sA := (s2.trans sm).trans sQ
        have hb5 : ∀ b ∈ bs', upd H3 q (.lst ((bs'.map fun b => (b.1, b.2.map (dep f))).map fun b => V.ref b.1)) b.1 = some (.lst (nv (b.2.map (dep f)))) := fun b hbm => sQ _ _ (hb' b hbm).2
        generalize upd H3 q (.lst ((bs'.map fun b => (b.1, b.2.map (dep f))).map fun b => V.ref b.1)) = H5 at hq0 sA hb5 ⊢
        obtain ⟨pr, LL, hLst, hLn, hLd⟩ : ∃ pr LL : List Nat, Lst f h LL ∧ LL.length ≤ f.length ∧ LL.map (dep f) = pr ++ (bs'.map (·.2)).flatten.map (dep f) ∧ pr = (match h with | none => [] | some t => [dep f t]) := by
          cases h with
          | none => 
            have r := Rt.of hhd' hBls
            exact ⟨[], _, r, Nat.le_of_eq (r.len o), rfl, rfl⟩
          | some t => 
            have r := Bl.of o (ht t rfl) hhd' hBls
            exact ⟨[dep f t], _, r, r.len o (ht t rfl), rfl, rfl⟩
        rw [show gName 3 = fun v (σ : L2.St) H Q => Q (σ.set 3 (some v)) H from rfl]
        dsimp only
        refine cutN (Pv := fun v H6 => ∃ r, v = .ref r ∧ H5 r = none ∧ Same H5 H6 ∧ H6 r = some (.lst (nv pr))) (fun Q' fin => ?_) ?_
        · obtain ⟨_, e⟩ := hLd
          cases h with
          | none => 
            rw [e] at fin
            refine ⟨_, rfl, rfl, _, rfl, iteN (by decide) ⟨Nat.zero_le _, fun r nr => fin _ _ ⟨r, rfl, nr, same_new0 nr, upd_same⟩⟩⟩
          | some t => 
            rw [e] at fin
            refine ⟨_, rfl, rfl, _, rfl, iteY (by rw [decide_eq_false (by intro z; cases z)]; rfl) ⟨_, rfl, by show 1 ≤ sizeLine; decide, fun r nr => fin _ _ ⟨r, rfl, nr, same_new0 nr, ?_⟩⟩⟩
            rw [upd_same]
            have : ((dn f (some t) : Nat) : Int) - 1 = (dep f t : Int) := by show ((dep f t + 1 : Nat) : Int) - 1 = _; omega
            rw [this]; rfl
        rintro v H6 ⟨r, rfl, nr, s6, h6⟩
        have hqr : r ≠ q := fun e => by rw [e, hq0] at nr; cases nr
        have hnr : H r = none := sA.free nr
        have hbr : ∀ b ∈ bs', r ≠ b.1 := fun b hbm e => by rw [e, hb5 b hbm] at nr; cases nr
        refine ⟨_, rfl, q, rfl, ⟨_, .of (s6 _ _ hq0)⟩, ?_⟩
        refine for_it (walk_list (xs := bs'.map fun b => V.ref b.1)) (fun i σ H7 => ∃ v5 v6, σ = [some (.ref a), some (ov h), some (.int ((dn f h : Int) - 1)), some (.ref q), some (.ref r), v5, v6] ∧ Same H H7 ∧ H7 q = some (.lst (bs'.map fun b => V.ref b.1)) ∧ (∀ b ∈ bs', H7 b.1 = some (.lst (nv (b.2.map (dep f))))) ∧
            H7 r = some (.lst (nv (pr ++ ((bs'.map (·.2)).take i).flatten.map (dep f)))))
          ⟨_, _, rfl, sA.trans s6, s6 _ _ hq0, fun b hbm => s6 _ _ (hb5 b hbm), by rw [h6]; simp⟩ (fun i σ H7 _ ⟨_, _, _, _, q7, _⟩ => .of q7) ?_ ?_
        · rintro i x σ H7 H8 hi ⟨v5, v6, rfl, s7, q7, b7, r7⟩ y
          obtain ⟨rfl, hx⟩ := y
          have hi' : i < bs'.length := by rw [List.length_map] at hi; exact hi
          have gi : (bs'.map fun b => V.ref b.1)[i]? = some (V.ref bs'[i].1) := by rw [List.getElem?_map, List.getElem?_eq_getElem hi']; rfl
          rw [gi] at hx
          cases hx
          have hbm := List.getElem_mem hi'
          have hli : i < (bs'.map (·.2)).length := by rw [List.length_map]; exact hi'
          have e2 : (bs'.map (·.2))[i] = bs'[i].2 := List.getElem_map _
          have hle := flat_take_le (bs'.map (·.2)) i hli
          rw [e2] at hle
          have hl9 := congrArg List.length hLd.1
          rw [List.length_append, List.length_map, List.length_map] at hl9
          refine ⟨_, rfl, .inl ⟨rfl, _, .of r7⟩, _, rfl, r, bs'[i].1, _, _, rfl, rfl, r7, b7 _ hbm, ?_, ?_⟩
          · unfold nv
            rw [List.length_map, List.length_map, List.length_append, List.length_map, List.length_map]
            exact sz_of (by omega)
          · refine ⟨_, _, rfl, same_put hnr s7, by rw [upd_ne (Ne.symm hqr)]; exact q7, fun b hb8 => by rw [upd_ne (Ne.symm (hbr b hb8))]; exact b7 b hb8, ?_⟩
            rw [upd_same, List.take_succ, List.getElem?_eq_getElem hli, e2]
            unfold nv
            simp
        · rintro σ H7 ⟨v5, v6, rfl, s7, q7, b7, r7⟩
          refine ⟨_, rfl, ?_⟩
          rw [List.length_map, ← List.length_map (f := fun b : Addr × List Nat => b.2), List.take_length, ← hLd.1] at r7
          exact k r H7 LL hnr s7 r7 hLst
abbrev s_by_code : Stmt := top 39
abbrev n_by_code : List Str := ["code", "found", "way", "thing", "depth"]
theorem sc_by_code : FnScope n_by_code ["code"] (defScope s_by_code) := ⟨rfl, rfl, rfl, by decide +kernel, rfl, by decide +kernel, by decide +kernel⟩

def sp_by_code (K : PySem.W.Frag) : Sp := fun vs H Q _ => ∃ (c : Addr) (f : Fo) (L : List Nat), vs = [.ref c] ∧ Ok f ∧ Rt f L ∧ f.length ≤ 1000 ∧ SqL K H c (nv (L.map (dep f))) ∧
  ∀ p H', H p = none → Same H H' → H' p = some (.tup (hv (ren f L))) → Q (.ref p) H'
theorem c_by_code (D : De K mg "by_code" s_by_code ["code"]) (B : Bu mg) : Cl P w K mg base CX0 1 "by_code" (sp_by_code K) := by
  refine mk_cl D sc_by_code (fun vs H Q E h => ?_) (fun fa cdv A outer s H vs Q E hr h => ?_)
  · obtain ⟨c, f, L, rfl, _⟩ := h
    rfl
  · obtain ⟨c, f, L, rfl, o, r, hn, hS, k⟩ := h
    have nd := sc_by_code.nd
    have hlen := r.len o
    have hl : (nv (L.map (dep f))).length = L.length := by simp [nv]
    refine ⟨_, (pss_cons (ps_set (i := 1) nd rfl (Or.inl rfl) (pe_lst pa_nil))
      (pss_cons (ps_set (i := 2) nd rfl (Or.inl rfl) (pe_lst pa_nil))
      (pss_cons (ps_for PassesOwn.never rfl (k_pi_enum (K := K) (by rfl) B.enumerate_ (pa_cons (pv 0) pa_nil)) (k_pg_tup (K := K) (n := 2) (by rfl) (pgs_cons (pg_name (i := 3) nd rfl (Or.inl rfl)) (pgs_cons (pg_name (i := 4) nd rfl (Or.inl rfl)) pgs_nil)))
        (pss_cons (ps_set (i := 2) nd rfl (Or.inl rfl) (pe_slice (k_sl_list (K := K)) (pv 2) po_none (po_some (pv 4))))
        (pss_cons (ps_expr (k_bm (K := K) PySem.F.plainAttrs_list PySem.F.slot_list_append PySem.F.type_list_append mt_append (pv 1) (pa_cons (pe_ifExp (pt_cmpR (k_neD (K := K) hr.units) (pv 2) (pe_lst pa_nil) (nomark _)) (pe_ix (k_ix_list (K := K)) (pv 2) (pe_un un_neg pe_int) (fun _ _ => rfl)) pe_non) pa_nil)))
        (pss_one (ps_set (i := 2) nd rfl (Or.inl rfl) (pe_lst (k_star (K := K) (pv 2) (pa_cons (pv 3) pa_nil))))))))
      (pss_one (ps_ret (pe_callTy (k_tuple_of (K := K)) (by rfl) B.tuple_ bt_tuple (pa_cons (pv 1) pa_nil))))))), ?_⟩
    refine ⟨Nat.zero_le _, fun l hl0 => ?_⟩
    have s1 : Same H (upd H l (.lst [])) := same_new0 hl0
    refine ⟨Nat.zero_le _, fun y hy0 => ?_⟩
    have s2 : Same (upd H l (.lst [])) (upd (upd H l (.lst [])) y (.lst [])) := same_new0 hy0
    refine ⟨_, rfl, c, _, rfl, (s1.trans s2).seq hS, ?_⟩
    refine for_it (walk_enum (xs := nv (L.map (dep f)))) (fun i σ H5 => ∃ y v3 v4, σ = [some (.ref c), some (.ref l), some (.ref y), v3, v4] ∧ y ≠ l ∧ Same H H5 ∧ H5 l = some (.lst (hv ((ren f L).take i))) ∧ H5 y = some (.lst (nv (wayL f L i))))
      ⟨y, _, _, rfl, (fun e : y = l => by rw [e, upd_same] at hy0; cases hy0), s1.trans s2, s2 _ _ upd_same, upd_same⟩ (fun i σ H5 _ ⟨_, _, _, _, _, s5, _⟩ => s5.seq hS) ?_ ?_
    · rintro i x σ H5 H6 hi ⟨y, v3, v4, rfl, yl, s5, h5, y5⟩ yt
      obtain ⟨T, x1, x2, rfl, hT0, rfl, e1, e2⟩ := yt
      cases e1
      have hi' : i < L.length := by omega
      replace e2 : (nv (L.map (dep f)))[i]? = some x2 := e2
      rw [nv_get (k := dep f L[i]) (by rw [List.getElem?_map, List.getElem?_eq_getElem hi']; rfl)] at e2
      cases e2
      have s6 : Same H5 (upd H5 T (.tup [.int (i : Int), .int (dep f L[i] : Int)])) := same_new0 hT0
      have h6 := s6 _ _ h5
      have y6 := s6 _ _ y5
      refine ⟨T, _, rfl, .of upd_same, rfl, _, _, rfl, _, _, rfl, rfl, ?_⟩
      have hw1 := way_take o r hi'
      have hw2 := way_next (f := f) (r.nd o) hi'
      have hw3 := way_last o r hi'
      have hwl : (wayL f L i).length ≤ 1000 := by
        cases i with
        | zero => exact Nat.zero_le _
        | succ i =>
          have hx : (L.getD i 0) < f.length := by
            rw [List.getD_eq_getElem?_getD, List.getElem?_eq_getElem (by omega : i < L.length)]
            exact (r.mem o _).mp (List.getElem_mem (by omega : i < L.length))
          have := abv_len o hx
          show (List.map (posD L) ((L.getD i 0 :: abv f (L.getD i 0)).reverse)).length ≤ 1000
          rw [List.length_map, List.length_reverse, List.length_cons]
          omega
      refine ⟨_, rfl, _, rfl, _, rfl, y, _, rfl, .of y6, fun z nz => ?_⟩
      have ez : cutV (nv (wayL f L i)) none (some (dep f L[i] : Int)) = nv (((abv f L[i]).reverse).map (posD L)) := by
        rw [← hw1]
        unfold cutV
        rw [HT.sIx_nat, HT.sIx_none, List.drop_zero, Nat.sub_zero]
        unfold nv
        rw [List.map_take]
        rcases Nat.le_total (dep f L[i]) (wayL f L i).length with q | q
        · rw [List.length_map, Nat.min_eq_left q]
        · rw [List.length_map, Nat.min_eq_right q, List.take_of_length_le (by simp), List.take_of_length_le (by simpa using q)]
      rw [ez]
      have s7 := same_new0 (o := .lst (nv (((abv f L[i]).reverse).map (posD L)))) nz
      have h7 := s7 _ _ h6
      have zl : z ≠ l := fun e => by rw [e, h6] at nz; cases nz
      have z7 : upd (upd H5 T (.tup [.int (i : Int), .int (dep f L[i] : Int)])) z (.lst (nv (((abv f L[i]).reverse).map (posD L)))) z = some (.lst (nv (((abv f L[i]).reverse).map (posD L)))) := upd_same
      have s8 := (s5.trans s6).trans s7
      generalize upd (upd H5 T (.tup [.int (i : Int), .int (dep f L[i] : Int)])) z (.lst (nv (((abv f L[i]).reverse).map (posD L)))) = H7 at h7 z7 s8 ⊢
      have hLi : L[i]? = some L[i] := List.getElem?_eq_getElem hi'
      have hri : (ren f L)[i]? = some ((hd f L[i]).bind (posOf L)) := by unfold ren; rw [List.getElem?_map, hLi]; rfl
      have hsl : (hv ((ren f L).take i)).length < sizeLine := by
        rw [hv_len, List.length_take, ren_len]; exact sz_lt (by omega)
      refine ⟨_, rfl, .inl ⟨rfl, _, .of h7⟩, ?_⟩
      refine ⟨_, rfl, Nat.zero_le _, fun q nq => ?_⟩
      have s9 := same_new0 (o := .lst []) nq
      refine neD (Re.nats (.of (s9 _ _ z7))) (Re.nats (l := []) (.of upd_same)) ⟨_, rfl, ?_⟩
      have h9 := s9 _ _ h7
      have z9 := s9 _ _ z7
      have sA := s8.trans s9
      generalize upd H7 q (.lst []) = H9 at h9 z9 sA ⊢
      have fin : ∀ v (De : Ends), v = ov ((hd f L[i]).bind (posOf L)) → (∀ σ H5, (∃ y v3 v4, σ = [some (V.ref c), some (.ref l), some (.ref y), v3, v4] ∧ y ≠ l ∧ Same H H5 ∧ H5 l = some (.lst (hv ((ren f L).take (i + 1)))) ∧ H5 y = some (.lst (nv (wayL f L (i + 1))))) → De.nx σ H5) →
          tAsg (tLst (StX.tStar K (tVar 2) (tCons (tVar 3) tNil))) (gName 2) De
          [some (.ref c), some (.ref l), some (.ref z), some (.int (i : Int)), some (.int (dep f L[i] : Int))] (upd H9 l (.lst (hv ((ren f L).take i) ++ [v]))) := by
        rintro v De rfl nx
        have sB := same_put (o := .lst (hv ((ren f L).take i) ++ [ov ((hd f L[i]).bind (posOf L))])) hl0 sA
        have l10 : upd H9 l (.lst (hv ((ren f L).take i) ++ [ov ((hd f L[i]).bind (posOf L))])) l = some (.lst (hv ((ren f L).take i) ++ [ov ((hd f L[i]).bind (posOf L))])) := upd_same
        have z10 : upd H9 l (.lst (hv ((ren f L).take i) ++ [ov ((hd f L[i]).bind (posOf L))])) z = some (.lst (nv (((abv f L[i]).reverse).map (posD L)))) := by rw [upd_ne zl]; exact z9
        generalize upd H9 l (.lst (hv ((ren f L).take i) ++ [ov ((hd f L[i]).bind (posOf L))])) = H10 at sB l10 z10 ⊢
        have e5 : nv (((abv f L[i]).reverse).map (posD L)) ++ [V.int (i : Int)] = nv (wayL f L (i + 1)) := by
          rw [← hw2]; unfold nv; rw [List.map_append]; rfl
        have hl5 := congrArg List.length hw2
        have hd5 := abv_len o ((r.mem o _).mp (List.getElem_mem hi'))
        refine ⟨_, rfl, z, _, rfl, .inr (.of z10), _, rfl, ?_, fun q5 n5 => nx _ _ ⟨q5, _, _, rfl, ?_, sB.trans (same_new0 n5), ?_, ?_⟩⟩
        · show (nv (((abv f L[i]).reverse).map (posD L)) ++ [V.int (i : Int)]).length ≤ sizeLine
          refine sz_of ?_
          simp [nv]
          omega
        · intro e; rw [e, l10] at n5; cases n5
        · rw [upd_ne (fun e => by rw [← e, l10] at n5; cases n5), l10, List.take_succ, hri]
          unfold hv
          rw [List.map_append]; rfl
        · rw [upd_same]; exact congrArg (fun x => some (HO.lst x)) e5
      dsimp only
      cases q : hd f L[i] with
      | none =>
        rw [abv_none q]
        refine iteN (by rfl) ⟨l, _, _, rfl, rfl, h9, hsl, fin _ _ (by rw [q]; rfl) fun _ _ x => x⟩
      | some kk =>
        rw [q] at hw3
        have nw : ((abv f L[i]).reverse).map (posD L) ≠ [] := by rw [abv_some o q]; simp
        refine iteY (by rw [decide_eq_false nw]; rfl) ?_
        obtain ⟨j, hj⟩ := posOf_mem ((r.mem o kk).mpr (o.lt _ _ q))
        have hw4 : (((abv f L[i]).reverse).map (posD L)).getLast? = some j := by rw [hw3]; exact hj
        rw [List.getLast?_eq_getElem?] at hw4
        refine ⟨_, rfl, _, rfl, z, _, _, _, rfl, rfl, .of z9, atI_last (v := .int (j : Int)) (by rw [List.length_map]; exact nv_get hw4), l, _, _, rfl, rfl, h9, hsl, fin _ _ ?_ fun _ _ x => x⟩
        rw [q]; show _ = ov (posOf L kk); rw [hj]; rfl
    · rintro σ H5 ⟨y, v3, v4, rfl, yl, s5, h5, y5⟩
      rw [hl, ← ren_len f L, List.take_length] at h5
      exact ⟨_, rfl, l, _, rfl, .inl ⟨.of h5, fun p hp => k p _ (s5.free hp) (s5.trans (same_new0 hp)) upd_same⟩⟩
abbrev s_plain : Stmt := top 43
abbrev n_plain : List Str := ["forest"]
theorem sc_plain : FnScope n_plain ["forest"] (defScope s_plain) := ⟨rfl, rfl, rfl, by decide +kernel, rfl, by decide +kernel, by decide +kernel⟩

def sp_plain (K : PySem.W.Frag) : Sp := fun vs H Q _ => ∃ (a : Addr) (f : Fo), vs = [.ref a] ∧ FoAt K H a f ∧ f.length ≤ 20 ∧
  ∀ p H' L, H p = none → Same H H' → H' p = some (.tup (hv (ren f L))) → FoAt K H' p (ren f L) → Rt f L → Q (.ref p) H'
theorem c_plain (D : De K mg "plain" s_plain ["forest"]) (c_check_forest : Cl P w K mg base CX0 3 "check_forest" (sp_check_forest K)) (c_code_of : Cl P w K mg base CX0 (21 + 3) "code_of" (sp_code_of K 21)) (c_by_code : Cl P w K mg base CX0 1 "by_code" (sp_by_code K)) : Cl P w K mg base CX0 25 "plain" (sp_plain K) := by
  refine mk_cl D sc_plain (fun vs H Q E h => ?_) (fun fa cdv A outer s H vs Q E hr h => ?_)
  · obtain ⟨a, f, rfl, _⟩ := h
    rfl
  · obtain ⟨a, f, rfl, hF, hn, k⟩ := h
    have nd := sc_plain.nd
    refine ⟨_, (pss_cons (ps_expr (p_call c_check_forest hr (by decide) (by rfl) pass0 (pa_cons (pv 0) pa_nil)))
      (pss_one (ps_ret (p_call c_by_code hr (by decide) (by rfl) pass0 (pa_cons (p_call c_code_of hr (by decide) (by rfl) pass0 (pa_cons (pv 0) (pa_cons pe_non (pa_cons (pe_un un_neg pe_int) pa_nil)))) pa_nil))))), ?_⟩
    refine ⟨_, rfl, a, f, rfl, hF, fun H1 s1 => ?_⟩
    obtain ⟨hS, o, hn1⟩ := id hF
    refine ⟨_, rfl, _, rfl, a, f, none, rfl, hF.mono s1, (fun t e => by cases e), ?_, fun p2 H2 L np2 s2 h2 hL => ?_⟩
    · show f.length + 1 ≤ 0 + 21
      omega
    · have r : Rt f L := hL
      refine ⟨p2, f, L, rfl, o, r, hn1, .of h2, fun p3 H3 np3 s3 h3 => ?_⟩
      refine k p3 H3 L ((s1.trans s2).free np3) ((s1.trans s2).trans s3) h3 ⟨.of h3, r.ok o, by rw [ren_len, r.len o]; exact hn1⟩ r
end
end Hb
namespace Hb
open PySem PySem.Spec PyProof.Rows L2
section
variable {P : Program} {w : World} {K : PySem.W.Frag} {mg : Str → Option Value} {base : Heap}
abbrev s__law_near : Stmt := top 53
abbrev n__law_near : List Str := ["well", "plan", "one", "under", "some", "mate"]
theorem sc__law_near : FnScope n__law_near ["well", "plan"] (defScope s__law_near) := ⟨rfl, rfl, rfl, by decide +kernel, rfl, by decide +kernel, by decide +kernel⟩

def sp_law_near (K : PySem.W.Frag) : Sp := fun vs H Q _ => ∃ (p a : Addr) (f : Fo) (N : Nat), vs = [.ref p, .ref a] ∧ WellAt H p N ∧ N ≤ 50000 ∧ FoAt K H a f ∧ a ≠ p ∧
  ∀ c g H', H c = none → Kp [p] H H' → WellAt H' p (N + 2) → FoAt K H' c g → g.length = f.length → Q (.ref c) H'
theorem c_law_near (D : De K mg "_law_near" s__law_near ["well", "plan"]) (B : Bu mg) (c__law_draw : Cl P w K mg base CX0 1 "_law_draw" sp_law_draw) (c_below : Cl P w K mg base CX0 4 "below" (sp_below K)) : Cl P w K mg base CX0 5 "_law_near" (sp_law_near K) := by
  refine mk_cl D sc__law_near (fun vs H Q E h => ?_) (fun fa cdv A outer s H vs Q E hr h => ?_)
  · obtain ⟨p, a, f, N, rfl, _⟩ := h
    rfl
  · obtain ⟨p, a, f, N, rfl, wl, hN, hF, nap, k⟩ := h
    have nd := sc__law_near.nd
    have l1 := hv_len f
    have o := hF.2.1
    have hn := hF.2.2
    have ne := o.ne
    refine ⟨_, (pss_cons (ps_set (i := 2) nd rfl (Or.inl rfl) (p_call c__law_draw hr (by decide) (by rfl) pass0 (pa_cons (pv 0) (pa_cons (pe_callB (k_len (K := K)) (by rfl) B.len_ PySem.boot_len (pa_cons (pv 1) pa_nil)) pa_nil))))
      (pss_cons (ps_set (i := 3) nd rfl (Or.inr rfl) (pe_op op_cat (pe_lst (pa_cons (pv 2) pa_nil)) (p_call c_below hr (by decide) (by rfl) pass0 (pa_cons (pv 1) (pa_cons (pv 2) pa_nil)))))
      (pss_cons (ps_set (i := 4) nd rfl (Or.inl rfl) (pe_op op_cat (pe_lst (pa_cons pe_non pa_nil)) (pe_lc (own := [("mate", 5)]) rfl nd (pi_range1 (by rfl) B.range_ (pa_cons (pe_callB (k_len (K := K)) (by rfl) B.len_ PySem.boot_len (pa_cons (pv 1) pa_nil)) pa_nil)) (blkOk_by (own := [("mate", 5)]) (N := n__law_near) (sc := defScope s__law_near) (by decide +kernel)) (fun _ _ _ _ _ => (pg_name (i := 5) nd rfl (Or.inl rfl))) (fun _ _ _ _ _ => (pts_one (pt_cmpR (k_notIn_seq (K := K)) (pv 5) (pv 3) (by rfl)))) (fun _ _ _ _ _ => (pv 5)))))
      (pss_one (ps_ret (pe_op (k_catA (K := K)) (pe_op (k_catA (K := K)) (pe_slice (k_sl_tupA (K := K)) (pv 1) po_none (po_some (pv 2))) (pe_tup (pa_cons (pe_ix (k_ix_list (K := K)) (pv 4) (p_call c__law_draw hr (by decide) (by rfl) pass0 (pa_cons (pv 0) (pa_cons (pe_callB (k_len (K := K)) (by rfl) B.len_ PySem.boot_len (pa_cons (pv 4) pa_nil)) pa_nil))) (fun _ _ => rfl)) pa_nil))) (pe_slice (k_sl_tupA (K := K)) (pv 1) (po_some (pe_op op_add (pv 2) pe_int)) po_none))))))), ?_⟩
    refine ⟨_, rfl, _, rfl, a, _, rfl, .inr hF.1, p, _, N, rfl, by omega, lt_wide (by omega), wl, by omega, fun t H1 ht k1 wl1 => ?_⟩
    have ht' : t < f.length := by omega
    have hF1 := hF.kpx k1 (by simp [nap])
    refine ⟨_, rfl, by show 1 ≤ sizeLine; decide, fun q1 n1 => ?_⟩
    have s1 := same_new0 (o := .lst [.int (t : Int)]) n1
    refine ⟨_, rfl, _, rfl, a, f, t, rfl, hF1.mono s1, ht', fun q2 H2 n2 s2 h2 => ?_⟩
    have hbl : (bel f t).length ≤ f.length := by
      have := List.length_filter_le (fun x => decide (t ∈ abv f x)) (List.range f.length)
      rw [List.length_range] at this
      exact this
    refine ⟨q1, q2, _, _, rfl, rfl, s2 _ _ upd_same, h2, by show 1 + (nv (bel f t)).length ≤ sizeLine; rw [List.length_map]; exact sz_of (by omega), fun q3 n3 => ?_⟩
    have s3 := same_new0 (o := .lst ([V.int (t : Int)] ++ nv (bel f t))) n3
    have h3 : upd H2 q3 (.lst ([V.int (t : Int)] ++ nv (bel f t))) q3 = some (.lst (nv (t :: bel f t))) := by rw [upd_same]; rfl
    have sA := (s1.trans s2).trans s3
    generalize upd H2 q3 (.lst ([V.int (t : Int)] ++ nv (bel f t))) = H3 at h3 sA ⊢
    refine ⟨by show 1 ≤ sizeLine; decide, fun q4 n4 => ?_⟩
    have s4 := same_new0 (o := .lst [V.non]) n4
    refine ⟨_, rfl, a, _, rfl, .inr ((hF1.mono sA).mono s4).1, _, rfl, by omega, by omega, fun Dl hD => ?_⟩
    refine lc_flat (walk_r0 (n := (((hv f).length : Nat) : Int).toNat)) hD (by omega) (fun x => !decide (x ∈ t :: bel f t)) (fun i => .int (i : Int)) (fun _ _ => trivial) (fun i x H5 H6 Qe Qn hi s5 y kT kF => ?_) (fun H5 s5 hD5 => ?_)
    · obtain ⟨rfl, rfl⟩ := y
      refine ⟨rfl, _, rfl, _, rfl, q3, _, rfl, .inl (.of (s5 _ _ (s4 _ _ h3))), rfl, flat_nv _, ?_⟩
      have e2 : (if true = true then !inV (V.int (i : Int)) (nv (t :: bel f t)) else inV (V.int (i : Int)) (nv (t :: bel f t))) = !decide (i ∈ t :: bel f t) := by rw [if_pos rfl, inV_nv]
      refine ⟨_, rfl, ?_⟩
      show (if (if true = true then !inV (V.int (i : Int)) (nv (t :: bel f t)) else inV (V.int (i : Int)) (nv (t :: bel f t))) = true then _ else _)
      rw [e2]
      cases hc : decide (i ∈ t :: bel f t) with
      | true => exact iteF (kF (by rw [hc]; rfl) _ (Same.refl _))
      | false => exact iteT ⟨_, rfl, kT (by rw [hc]; rfl) _ (Same.refl _)⟩
    · have en : (((hv f).length : Nat) : Int).toNat = f.length := by omega
      rw [en] at hD5
      obtain ⟨S, hS, hSl, hSm⟩ : ∃ S : List (Option Nat), hv S = [V.non] ++ given f.length (fun x => !decide (x ∈ t :: bel f t)) (fun i => .int (i : Int)) ∧ S.length ≤ f.length + 1 ∧ ∀ x ∈ S, ∀ k, x = some k → k < f.length ∧ k ≠ t ∧ t ∉ abv f k := by
        refine ⟨none :: ((List.range f.length).filter fun x => !decide (x ∈ t :: bel f t)).map some, ?_, ?_, fun x hx k e => ?_⟩
        · unfold hv given
          rw [List.map_cons, List.map_map]; rfl
        · have := List.length_filter_le (fun x => !decide (x ∈ t :: bel f t)) (List.range f.length)
          rw [List.length_range] at this
          rw [List.length_cons, List.length_map]; omega
        · subst e
          rcases List.mem_cons.mp hx with h | h
          · cases h
          · obtain ⟨y, hy, e⟩ := List.mem_map.mp h
            cases e
            obtain ⟨y1, y2⟩ := List.mem_filter.mp hy
            have y1 := List.mem_range.mp y1
            have y3 : k ∉ t :: bel f t := by simpa using y2
            refine ⟨y1, fun e => y3 (by rw [e]; simp), fun e => y3 (List.mem_cons_of_mem _ ?_)⟩
            exact List.mem_filter.mpr ⟨List.mem_range.mpr y1, decide_eq_true e⟩
      refine ⟨q4, Dl, _, _, rfl, rfl, s5 _ _ upd_same, hD5, ?_, fun q6 n6 => ?_⟩
      · show 1 + (given f.length (fun x => !decide (x ∈ t :: bel f t)) (fun i => .int (i : Int))).length ≤ sizeLine
        have := given_len f.length (fun x => !decide (x ∈ t :: bel f t)) (fun i => V.int (i : Int))
        exact sz_of (by omega)
      rw [← hS]
      have s6 := same_new0 (o := .lst (hv S)) n6
      have h6 : upd H5 q6 (.lst (hv S)) q6 = some (.lst (hv S)) := upd_same
      have sB := ((sA.trans s4).trans s5).trans s6
      generalize upd H5 q6 (.lst (hv S)) = H6 at h6 sB ⊢
      have hF6 := hF1.mono sB
      have kB := k1.trans (Kp.of sB)
      have wl6 := wl1.same sB
      have hSn : 0 < S.length := by
        have := congrArg List.length hS
        rw [hv_len, List.length_append] at this
        simp at this; omega
      have hSv := hv_len S
      have nqp : q6 ≠ p := fun e => by
        obtain ⟨_, _, _, hw, _⟩ := wl1
        have := (((sA.trans s4).trans s5) _ _ hw)
        rw [← e, n6] at this; cases this
      have fr6 : ∀ x, H6 x = none → H x = none := fun x hx => kp_free k1 wl1 (sB.free hx)
      refine ⟨_, rfl, _, rfl, _, rfl, sl_to hF6.1 ht' fun p7 H7 n7 s7 h7 => ?_⟩
      have hSl7 : SqL K H7 q6 (hv S) := .of (s7 _ _ h6)
      refine ⟨_, rfl, _, rfl, _, rfl, q6, _, rfl, .inl hSl7, p, _, N + 1, rfl, by omega, lt_wide (by omega), wl6.same s7, by omega, fun r H8 hr k8 wl8 => ?_⟩
      have hr' : r < S.length := by omega
      have wp6 : ∃ o, H6 p = some o := let ⟨_, _, _, hw, _⟩ := wl6; ⟨_, hw⟩
      have np7 : p7 ≠ p := fun e => by obtain ⟨o, ho⟩ := wp6; rw [← e, n7] at ho; cases ho
      have fr7 : ∀ x, H7 x = none → H x = none := fun x hx => fr6 x (s7.free hx)
      have fr8 : ∀ x, H8 x = none → H x = none := fun x hx => fr7 x (kp_free k8 wl8 hx)
      refine ⟨q6, _, _, _, rfl, rfl, k8.sqL (by simp [nqp]) hSl7, atI_nat (hv_get (List.getElem?_eq_getElem hr')), by show 1 ≤ sizeLine; decide, fun p9 n9 => ?_⟩
      have hx := hSm S[r] (List.getElem_mem hr')
      generalize S[r] = x at hx ⊢
      have s9 := same_new0 (o := .tup [ov x]) n9
      have kC := (kB.trans (Kp.of s7)).trans (k8.trans (Kp.of s9))
      have t7 : SqT K (upd H8 p9 (.tup [ov x])) p7 (hv (f.take t)) := .of (s9 _ _ (k8.at (by simp [np7]) h7))
      have t9 : SqT K (upd H8 p9 (.tup [ov x])) p9 [ov x] := .of upd_same
      have fr9 : ∀ z, upd H8 p9 (.tup [ov x]) z = none → H z = none := fun z hz => fr8 z (s9.free hz)
      have wl9 := wl8.same s9
      generalize upd H8 p9 (.tup [ov x]) = H9 at kC t7 t9 fr9 wl9 ⊢
      have ltk : (hv (f.take t)).length = t := by rw [hv_len, List.length_take]; omega
      refine cat_new t7 t9 (by rw [ltk]; show t + 1 ≤ _; omega) fun q10 H10 hq10 s10 t10 => ?_
      have fq10 : H q10 = none := by
        rcases hq10 with rfl | rfl | h
        · exact fr6 _ n7
        · exact fr8 _ n9
        · exact fr9 _ h
      have hF10 := hF.kpx (kC.trans (Kp.of s10)) (by simp [nap])
      refine ⟨_, rfl, _, rfl, _, _, rfl, rfl, _, rfl, ?_⟩
      have e9 : (t : Int) + 1 = ((t + 1 : Nat) : Int) := by omega
      dsimp only
      rw [e9]
      unfold tNoPart
      refine sl_from (t := t + 1) hF10.1 (by omega) (by omega) fun p11 H11 n11 s11 h11 => ?_
      have l12 : (hv (f.take t) ++ [ov x]).length + (hv (f.drop (t + 1))).length ≤ 100000 := by simp [hv]; omega
      refine cat_new (same_sqT s11 t10) (.of h11) l12 fun q12 H12 hq12 s12 t12 => ?_
      rw [set_parts ht'] at t12
      have fq12 : H q12 = none := by
        rcases hq12 with rfl | rfl | h
        · exact fq10
        · exact fr9 _ (s10.free n11)
        · exact fr9 _ (s10.free (s11.free h))
      refine k q12 (nearF f t x) H12 fq12 ((kC.trans (Kp.of s10)).trans (Kp.of (s11.trans s12))) ((wl9.same (s10.trans (s11.trans s12)))) ⟨t12, near_ok o ht' hx, by show (f.set t x).length ≤ 1000; rw [List.length_set]; exact hn⟩ (by show (f.set t x).length = _; rw [List.length_set])
abbrev s__law_first_right : Stmt := top 54
abbrev n__law_first_right : List Str := ["plan", "line", "found", "trail", "one", "at", "many_here", "spot"]
theorem sc__law_first_right : FnScope n__law_first_right ["plan", "line"] (defScope s__law_first_right) := ⟨rfl, rfl, rfl, by decide +kernel, rfl, by decide +kernel, by decide +kernel⟩

def sp_law_fr (K : PySem.W.Frag) : Sp := fun vs H Q _ => ∃ (a b : Addr) (f : Fo), vs = [.ref a, .ref b] ∧ FoAt K H a f ∧ f.length ≠ 1 ∧ f.length ≤ 100 ∧ H b = some (.lst (iv (cl (deg f + 1) (ser f)))) ∧ RetV (.bl true) H Q
theorem sumS_snoc (c : Se) : ∀ l : List Se, sumS (l ++ [c]) = addS (sumS l) c
  | [] => by funext n; show c n + (0 : Int) = 0 + c n; omega
  | d :: l => by
    show addS d (sumS (l ++ [c])) = addS (addS d (sumS l)) c
    rw [sumS_snoc c l]
    funext n
    show d n + (sumS l n + c n) = d n + sumS l n + c n
    omega
def prt0 (w j : Nat) (S c : Se) : Se := fun n => S n + (if w ≤ n ∧ n - w < j then c (n - w) else 0)
theorem prt0_zero (w : Nat) (S c : Se) : prt0 w 0 S c = S := by funext n; unfold prt0; rw [if_neg (by omega)]; omega
theorem prt0_end {w g : Nat} {S c : Se} (t : Top0 g c) : prt0 w (g + 1) S c = addS S (shf w c) := by
  funext n
  unfold prt0 addS shf
  by_cases h : w ≤ n
  · rw [if_pos h]
    by_cases h2 : n - w < g + 1
    · rw [if_pos ⟨h, h2⟩]
    · rw [if_neg (fun e => h2 e.2), t _ (by omega)]
  · rw [if_neg h, if_neg (fun e => h e.1)]
theorem prt0_step {w j N : Nat} {S c : Se} (h : j + w < N) : (iv (cl N (prt0 w j S c))).set (j + w) (.int (prt0 w j S c (j + w) + c j)) = iv (cl N (prt0 w (j + 1) S c)) := by
  refine List.ext_getElem? fun n => ?_
  rw [List.getElem?_set]
  by_cases hn : n < N
  · rw [cl_get hn, cl_get hn]
    by_cases e : j + w = n
    · subst e
      rw [if_pos rfl, if_pos (by rw [iv_len, cl_len]; exact h)]
      unfold prt0
      rw [if_neg (by omega), if_pos (by omega)]
      rw [show j + w - w = j by omega]
      simp
    · rw [if_neg e]
      unfold prt0
      by_cases q : w ≤ n ∧ n - w < j
      · rw [if_pos q, if_pos (by omega)]
      · rw [if_neg q, if_neg (by omega)]
  · rw [if_neg (by omega), List.getElem?_eq_none (by rw [iv_len, cl_len]; omega), List.getElem?_eq_none (by rw [iv_len, cl_len]; omega)]
theorem c_law_fr (D : De K mg "_law_first_right" s__law_first_right ["plan", "line"]) (B : Bu mg) (c_walk : Cl P w K mg base CX0 4 "walk" (sp_walk_of K)) (c_firsts : Cl P w K mg base CX0 4 "firsts" (sp_firsts K))
    (c_turned_counts : Cl P w K mg base CX0 5 "turned_counts" (sp_counts_of K)) (c_without : Cl P w K mg base CX0 4 "without" (sp_without K)) : Cl P w K mg base CX0 6 "_law_first_right" (sp_law_fr K) := by
  refine mk_cl D sc__law_first_right (fun vs H Q E h => ?_) (fun fa cdv A outer s H vs Q E hr h => ?_)
  · obtain ⟨a, b, f, rfl, _⟩ := h
    rfl
  · obtain ⟨a, b, f, rfl, hF, h1, hn, hB, k⟩ := h
    have nd := sc__law_first_right.nd
    have o := hF.2.1
    have lB : (iv (cl (deg f + 1) (ser f))).length = deg f + 1 := by rw [iv_len, cl_len]
    have hdg : deg f ≤ 10100 := Nat.le_trans (deg_le f) (by have := Nat.mul_le_mul hn hn; omega)
    refine ⟨_, (pss_cons (ps_par (i := 2) (j := 3) (by rfl) nd rfl rfl (by decide) rfl rfl (pa_cons (pe_op op_rep (pe_lst (pa_cons pe_int pa_nil)) (pe_callB (k_len (K := K)) (by rfl) B.len_ PySem.boot_len (pa_cons (pv 1) pa_nil))) (pa_cons (p_call c_walk hr (by decide) (by rfl) pass0 (pa_cons (pv 0) pa_nil)) pa_nil)) (by rfl))
      (pss_cons (ps_for PassesOwn.never rfl (k_pi_list (K := K) (p_call c_firsts hr (by decide) (by rfl) pass0 (pa_cons (pv 0) pa_nil))) (pg_name (i := 4) nd rfl (Or.inl rfl))
        (pss_one (ps_for PassesOwn.never rfl (k_pi_enum (K := K) (by rfl) B.enumerate_ (pa_cons (p_call c_turned_counts hr (by decide) (by rfl) pass0 (pa_cons (p_call c_without hr (by decide) (by rfl) pass0 (pa_cons (pv 0) (pa_cons (pv 4) pa_nil))) pa_nil)) pa_nil)) (k_pg_tup (K := K) (n := 2) (by rfl) (pgs_cons (pg_name (i := 5) nd rfl (Or.inl rfl)) (pgs_cons (pg_name (i := 6) nd rfl (Or.inl rfl)) pgs_nil)))
          (pss_cons (ps_set (i := 7) nd rfl (Or.inl rfl) (pe_op op_add (pv 5) (k_bm (K := K) PySem.F.plainAttrs_list PySem.F.slot_list_index PySem.F.type_list_index (k_index (K := K)) (pv 3) (pa_cons (pv 4) pa_nil))))
          (pss_cons (ps_if (pt_cmpR op_ge (pv 7) (pe_callB (k_len (K := K)) (by rfl) B.len_ PySem.boot_len (pa_cons (pv 2) pa_nil)) (nomark _))
            (pss_one (ps_ret pe_bl))
            pss_nil)
          (pss_one (ps_asg (pe_op op_add (pe_ix (k_ix_list (K := K)) (pv 2) (pv 7) (fun _ _ => rfl)) (pv 6)) (pg_sub (pv 2) (pv 7) set_list))))))))
      (pss_one (ps_ret (pe_cmpR (k_eqD (K := K) hr.units) (pv 2) (pv 1) (nomark _)))))), ?_⟩
    refine ⟨by show 1 ≤ sizeLine; decide, fun q2 m2 => ?_⟩
    have u2 := same_new0 (o := .lst [.int 0]) m2
    refine ⟨_, rfl, b, _, rfl, .inl (.of (u2 _ _ hB)), q2, _, _, rfl, rfl, upd_same, by omega, by omega, by show 1 * _ ≤ sizeLine; rw [Nat.one_mul]; exact sz_of (by omega), fun q3 m3 => ?_⟩
    have u3 := same_new0 (o := .lst (List.replicate ((((iv (cl (deg f + 1) (ser f))).length : Nat) : Int).toNat) [V.int 0]).flatten) m3
    have e0 : (List.replicate ((((iv (cl (deg f + 1) (ser f))).length : Nat) : Int).toNat) [V.int 0]).flatten = iv (cl (deg f + 1) zeS) := by
      rw [List.flatten_replicate_singleton, lB]
      unfold iv cl
      rw [List.map_map]
      refine (List.eq_replicate_iff.mpr ⟨by simp, fun x hx => ?_⟩).symm
      obtain ⟨y, _, rfl⟩ := List.mem_map.mp hx
      rfl
    rw [e0] at u3
    rw [e0]
    have h3 : upd (upd H q2 (.lst [.int 0])) q3 (.lst (iv (cl (deg f + 1) zeS))) q3 = some (.lst (iv (cl (deg f + 1) zeS))) := upd_same
    have sA := u2.trans u3
    have nq3 : H q3 = none := u2.free m3
    generalize upd (upd H q2 (.lst [.int 0])) q3 (.lst (iv (cl (deg f + 1) zeS))) = H3 at h3 sA ⊢
    refine ⟨_, rfl, a, f, rfl, hF.mono sA, fun q5 H5 n5 s5 h5 => ⟨_, _, rfl, ?_⟩⟩
    refine ⟨_, rfl, a, f, rfl, hF.mono (sA.trans s5), fun q6 H6 n6 s6 h6 => ?_⟩
    refine ⟨q6, rfl, ⟨_, .of h6⟩, ?_⟩
    have hmap := sts_map f (hld f none) 0
    have hPl : (sts f (hld f none) 0).length = (hld f none).length := by rw [← congrArg List.length hmap, List.length_map]
    have hnl : (nv (hld f none)).length = (hld f none).length := List.length_map _
    have hrec := ser_rec o h1
    have n35 : q5 ≠ q3 := fun e => by rw [e, h3] at n5; cases n5
    have n36 : q6 ≠ q3 := fun e => by rw [e, s5 _ _ h3] at n6; cases n6
    refine for_it (walk_list (xs := nv (hld f none))) (fun i σ H7 => ∃ v4 v5 v6 v7, σ = [some (.ref a), some (.ref b), some (.ref q3), some (.ref q5), v4, v5, v6, v7] ∧ Same H H7 ∧ H7 q5 = some (.lst (nv (walk f))) ∧ H7 q6 = some (.lst (nv (hld f none))) ∧
        H7 q3 = some (.lst (iv (cl (deg f + 1) (sumS (((sts f (hld f none) 0).take i).map fun p => shf p.2 (ser (wou f p.1))))))))
      ⟨_, _, _, _, rfl, (sA.trans s5).trans s6, s6 _ _ h5, h6, s6 _ _ (s5 _ _ h3)⟩ (fun i σ H7 _ ⟨_, _, _, _, _, _, _, q7, _⟩ => .of q7) ?_ ?_
    · rintro i x σ H7 H8 hi ⟨v4, v5, v6, v7, rfl, s7, h75, h76, h73⟩ y
      obtain ⟨rfl, hx⟩ := y
      have hi' : i < (sts f (hld f none) 0).length := by omega
      have hi2 : i < (hld f none).length := by omega
      obtain ⟨r, w, hP⟩ : ∃ r w, (sts f (hld f none) 0)[i] = (r, w) := ⟨_, _, rfl⟩
      have hPm : (r, w) ∈ sts f (hld f none) 0 := hP ▸ List.getElem_mem hi'
      have hr0 : (hld f none)[i]? = some r := by
        rw [← hmap, List.getElem?_map, List.getElem?_eq_getElem hi', hP]; rfl
      rw [nv_get hr0] at hx
      cases hx
      obtain ⟨hrl, hrh⟩ := hld_mem.mp (List.mem_of_getElem? hr0)
      have hwl := wou_len hrl
      have how := wou_ok o hrl h1
      have hpos := first_pos o hPm
      have hdf := deg_first o h1 hPm
      replace hdf : w + deg (wou f r) ≤ deg f := hdf
      replace hpos : posOf (walk f) r = some w := hpos
      have hww := posOf_some hpos
      generalize hS : sumS (((sts f (hld f none) 0).take i).map fun p => shf p.2 (ser (wou f p.1))) = S at h73 ⊢
      have hSn : sumS (((sts f (hld f none) 0).take (i + 1)).map fun p => shf p.2 (ser (wou f p.1))) = addS S (shf w (ser (wou f r))) := by
        rw [List.take_succ, List.getElem?_eq_getElem hi', hP, List.map_append]
        show sumS (_ ++ [shf w (ser (wou f r))]) = _
        rw [sumS_snoc, hS]
      rw [hSn]
      have htop := (ser_isX how).top
      refine ⟨_, rfl, _, rfl, a, f, r, rfl, hF.mono s7, hrl, h1, fun p8 H9 n8 s8 h8 => ?_⟩
      refine ⟨p8, wou f r, rfl, .of h8 how (by omega), by omega, fun p9 H10 n9 s9 h9 => ?_⟩
      refine ⟨p9, _, rfl, .of h9, ?_⟩
      have lc : (iv (cl (deg (wou f r) + 1) (ser (wou f r)))).length = deg (wou f r) + 1 := by rw [iv_len, cl_len]
      have sB := s7.trans (s8.trans s9)
      have n93 : p9 ≠ q3 := fun e => by rw [e, s8 _ _ h73] at n9; cases n9
      refine for_it (walk_enum (xs := iv (cl (deg (wou f r) + 1) (ser (wou f r))))) (fun j σ H7 => ∃ v5 v6 v7, σ = [some (.ref a), some (.ref b), some (.ref q3), some (.ref q5), some (.int (r : Int)), v5, v6, v7] ∧ Same H H7 ∧ H7 q5 = some (.lst (nv (walk f))) ∧ H7 q6 = some (.lst (nv (hld f none))) ∧
          H7 p9 = some (.lst (iv (cl (deg (wou f r) + 1) (ser (wou f r))))) ∧ H7 q3 = some (.lst (iv (cl (deg f + 1) (prt0 w j S (ser (wou f r)))))))
        ⟨_, _, _, rfl, sB, s9 _ _ (s8 _ _ h75), s9 _ _ (s8 _ _ h76), h9, by rw [prt0_zero]; exact s9 _ _ (s8 _ _ h73)⟩ (fun j σ H7 _ ⟨_, _, _, _, _, _, _, q7, _⟩ => .of q7) ?_ ?_
      · rintro j x σ H11 H12 hj ⟨v5, v6, v7, rfl, s11, h115, h116, h119, h113⟩ y
        obtain ⟨T, x1, x2, rfl, hT0, rfl, e1, e2⟩ := y
        cases e1
        have hj' : j < deg (wou f r) + 1 := by omega
        replace e2 : (iv (cl (deg (wou f r) + 1) (ser (wou f r))))[j]? = some x2 := e2
        rw [cl_get hj'] at e2
        cases e2
        have sT := same_new0 (o := .tup [.int (j : Int), .int (ser (wou f r) j)]) hT0
        refine ⟨T, _, rfl, .of upd_same, rfl, _, _, rfl, _, _, rfl, rfl, ?_⟩
        have h5' := sT _ _ h115
        have h6' := sT _ _ h116
        have h9' := sT _ _ h119
        have h3' := sT _ _ h113
        have sC := s11.trans sT
        generalize upd H11 T (.tup [.int (j : Int), .int (ser (wou f r) j)]) = H13 at h5' h6' h9' h3' sC ⊢
        refine ⟨_, rfl, _, rfl, .inl ⟨rfl, _, .of h5'⟩, _, rfl, q5, _, _, w, _, rfl, rfl, .of h5', rfl, flat_nv _, nv_get hww, by show ((r : Int) == (r : Int)) = true; simp, fun m z' hm hz => ?_, _, _, rfl, rfl, ?_⟩
        · have hml : m < (walk f).length := by have := (List.getElem?_eq_some_iff.mp hww).1; omega
          rw [nv_get (List.getElem?_eq_getElem hml)] at hz
          cases hz
          show (((walk f)[m] : Int) == (r : Int)) = false
          obtain ⟨hw1, hw2⟩ := List.getElem?_eq_some_iff.mp hww
          refine beq_false_of_ne fun e => ?_
          have e : (walk f)[m] = (walk f)[w] := by rw [hw2]; omega
          have := (List.getElem_inj (walk_nodup o)).mp e
          omega
        have ejw : (j : Int) + (w : Int) = ((j + w : Nat) : Int) := by omega
        dsimp only
        rw [ejw]
        have l3 : (iv (cl (deg f + 1) (prt0 w j S (ser (wou f r))))).length = deg f + 1 := by rw [iv_len, cl_len]
        refine ⟨_, rfl, _, rfl, q3, _, rfl, .inl (.of h3'), _, _, rfl, rfl, _, rfl, iteN (decide_eq_false (by rw [l3]; omega)) ?_⟩
        refine ⟨_, rfl, _, rfl, q3, _, _, _, rfl, rfl, .of h3', atI_nat (cl_get (by omega)), _, rfl, _, _, rfl, rfl, _, rfl, _, rfl, q3, _, _, j + w, rfl, rfl, h3', ixn_nat (by rw [l3]; omega), ?_⟩
        rw [prt0_step (by omega)]
        exact ⟨_, _, _, rfl, same_put nq3 sC, by rw [upd_ne n35]; exact h5', by rw [upd_ne n36]; exact h6', by rw [upd_ne n93]; exact h9', upd_same⟩
      · rintro σ H11 ⟨v5, v6, v7, rfl, s11, h115, h116, h119, h113⟩
        rw [lc, prt0_end htop] at h113
        exact ⟨_, _, _, _, rfl, s11, h115, h116, h113⟩
    · rintro σ H7 ⟨v4, v5, v6, v7, rfl, s7, h75, h76, h73⟩
      rw [hnl, ← hPl, List.take_length, ← hrec] at h73
      refine ⟨_, rfl, _, rfl, eqD (Re.ints (.of h73)) (Re.ints (.of (s7 _ _ hB))) ?_⟩
      rw [decide_eq_true rfl]
      exact k H7 s7
end
end Hb
namespace Hb
open PySem PySem.Spec PyProof.Rows L2
section
variable {P : Program} {w : World} {K : PySem.W.Frag} {mg : Str → Option Value} {base : Heap}
/-! ### k69's own law -/
abbrev LN (f : Fo) : List V := iv (cl (deg f + 1) (ser f))
theorem cl_sum (c : Se) : ∀ g, (cl (g + 1) c).sum = sumTo g c
  | 0 => by show c 0 + 0 = c 0; omega
  | g + 1 => by rw [cl_snoc, List.sum_append, cl_sum c g]; show sumTo g c + (c (g + 1) + 0) = sumTo g c + c (g + 1); omega
theorem cl_getE {N : Nat} {c : Se} {i : Nat} (h : i < N) : (cl N c)[i]? = some (c i) := by
  unfold cl
  rw [List.getElem?_map, List.getElem?_range h]; rfl
theorem cl_rev (g : Nat) (c : Se) : (cl (g + 1) c).reverse = cl (g + 1) (rvS g c) := by
  refine List.ext_getElem? fun i => ?_
  by_cases hi : i < g + 1
  · rw [List.getElem?_reverse (by rw [cl_len]; exact hi), cl_len, cl_getE (by omega), cl_getE hi]
    unfold rvS
    rw [if_pos (by omega), show g + 1 - 1 - i = g - i by omega]
  · rw [List.getElem?_eq_none (by rw [List.length_reverse, cl_len]; omega), List.getElem?_eq_none (by rw [cl_len]; omega)]
theorem at0 {N : Nat} {c : Se} (h : 0 < N) : atI (iv (cl N c)) 0 = some (.int (c 0)) := by
  have := atI_nat (cl_get (c := c) h)
  exact this
theorem line_rev {f : Fo} (o : Ok f) : (cl (deg f + 1) (ser f)).reverse = cl (deg f + 1) (ser f) := by rw [cl_rev, ser_rev o]
theorem line_sum {f : Fo} (o : Ok f) : (cl (deg f + 1) (ser f)).sum = ((cof f : Nat) : Int) := by rw [cl_sum]; exact (ser_isX o).tot
theorem srt_iff {l m : List Nat} : srt l = srt m ↔ l.Perm m := ⟨fun h => ((srt_perm l).symm.trans (h ▸ List.Perm.refl _)).trans (srt_perm m), fun h => srt_unique ((srt_perm l).trans h) (srt_sorted l)⟩
theorem line_iff {f g : Fo} (o : Ok f) (p : Ok g) (hl : f.length = g.length) : cl (deg g + 1) (ser g) = cl (deg f + 1) (ser f) ↔ srt (szs f) = srt (szs g) := by
  rw [srt_iff]
  constructor
  · intro h
    have e := congrArg List.length h
    rw [cl_len, cl_len] at e
    have e : deg g = deg f := by omega
    refine alike_of_ser o hl (funext fun n => ?_)
    by_cases hn : n ≤ deg f
    · have h2 : (cl (deg g + 1) (ser g))[n]? = (cl (deg f + 1) (ser f))[n]? := by rw [h]
      rw [cl_getE (by omega), cl_getE (by omega)] at h2
      exact (Option.some.inj h2).symm
    · rw [(ser_isX o).top n (by omega), (ser_isX p).top n (by omega)]
  · intro h
    rw [ser_of_alike hl h, deg_of_alike hl h]
abbrev s__law_right : Stmt := top 55
abbrev n__law_right : List Str := ["well", "plan", "mate", "line", "near", "two", "both"]
theorem sc__law_right : FnScope n__law_right ["well", "plan", "mate"] (defScope s__law_right) := ⟨rfl, rfl, rfl, by decide +kernel, rfl, by decide +kernel, by decide +kernel⟩

def sp_law_right (K : PySem.W.Frag) : Sp := fun vs H Q _ => ∃ (p a b : Addr) (f g : Fo) (N : Nat), vs = [.ref p, .ref a, .ref b] ∧ WellAt H p N ∧ N ≤ 40000 ∧ FoAt K H a f ∧ FoAt K H b g ∧ f.length ≤ 14 ∧ g.length ≤ 6 ∧ a ≠ p ∧ b ≠ p ∧
  ∀ H', Kp [p] H H' → WellAt H' p (N + 4) → Q (.bl true) H'
theorem c_law_right (D : De K mg "_law_right" s__law_right ["well", "plan", "mate"]) (B : Bu mg)
    (c_turned_counts : Cl P w K mg base CX0 5 "turned_counts" (sp_counts_of K)) (c_most_turned : Cl P w K mg base CX0 4 "most_turned" (sp_greatest_of K)) (c_count_sequences : Cl P w K mg base CX0 4 "count_sequences" (sp_count_of K))
    (c_sizes_back : Cl P w K mg base CX0 4 "sizes_back" (sp_sizes_back K)) (c_sizes : Cl P w K mg base CX0 4 "sizes" (sp_sizes_of K)) (c__law_near : Cl P w K mg base CX0 5 "_law_near" (sp_law_near K)) (c_plain : Cl P w K mg base CX0 25 "plain" (sp_plain K))
    (c_are_alike : Cl P w K mg base CX0 5 "are_alike" (sp_are_alike K)) (c__law_first_right : Cl P w K mg base CX0 6 "_law_first_right" (sp_law_fr K)) (c_beside : Cl P w K mg base CX0 4 "beside" (sp_beside K)) : Cl P w K mg base CX0 26 "_law_right" (sp_law_right K) := by
  refine mk_cl D sc__law_right (fun vs H Q E h => ?_) (fun fa cdv A outer s H vs Q E hr h => ?_)
  · obtain ⟨p, a, b, f, g, N, rfl, _⟩ := h
    rfl
  · obtain ⟨p, a, b, f, g, N, rfl, wl, hN, hF, hG, lf, lg, nap, nbp, k⟩ := h
    have nd := sc__law_right.nd
    have l1 := hv_len f
    have l2 := hv_len g
    have o := hF.2.1
    have og := hG.2.1
    refine ⟨_, (pss_cons (ps_set (i := 3) nd rfl (Or.inl rfl) (p_call c_turned_counts hr (by decide) (by rfl) pass0 (pa_cons (pv 1) pa_nil)))
      (pss_cons (ps_if (PW.pt (pw_or (pt_cmpR (k_neD (K := K) hr.units) (pv 3) (k_revL (K := K) (pv 3)) (nomark _)) (pw_or (pt_cmpR op_ne (pe_ix (k_ix_list (K := K)) (pv 3) pe_int (fun _ _ => rfl)) pe_int (nomark _)) (pw_or1 (pt_cmpR op_ne (pe_callB (k_len (K := K)) (by rfl) B.len_ PySem.boot_len (pa_cons (pv 3) pa_nil)) (pe_op op_add (p_call c_most_turned hr (by decide) (by rfl) pass0 (pa_cons (pv 1) pa_nil)) pe_int) (nomark _))))))
        (pss_one (ps_ret pe_bl))
        pss_nil)
      (pss_cons (ps_if (PW.pt (pw_or (pt_cmpR op_ne (pe_callB (k_sum (K := K) rfl) (by rfl) B.sum_ (by decide +kernel) (pa_cons (pv 3) pa_nil)) (p_call c_count_sequences hr (by decide) (by rfl) pass0 (pa_cons (pv 1) pa_nil)) (nomark _)) (pw_or1 (pt_cmpR (k_neD (K := K) hr.units) (p_call c_sizes_back hr (by decide) (by rfl) pass0 (pa_cons (pv 3) (pa_cons (pe_callB (k_len (K := K)) (by rfl) B.len_ PySem.boot_len (pa_cons (pv 1) pa_nil)) pa_nil))) (pe_callB (k_sortedI (K := K)) (by rfl) B.sorted_ (by decide +kernel) (pa_cons (p_call c_sizes hr (by decide) (by rfl) pass0 (pa_cons (pv 1) pa_nil)) pa_nil)) (nomark _)))))
        (pss_one (ps_ret pe_bl))
        pss_nil)
      (pss_cons (ps_set (i := 4) nd rfl (Or.inl rfl) (p_call c__law_near hr (by decide) (by rfl) pass0 (pa_cons (pv 0) (pa_cons (p_call c__law_near hr (by decide) (by rfl) pass0 (pa_cons (pv 0) (pa_cons (pv 1) pa_nil))) pa_nil))))
      (pss_cons (ps_for PassesOwn.never rfl (k_pi_tup (K := K) (pe_tup (pa_cons (pv 4) (pa_cons (p_call c_plain hr (by decide) (by rfl) pass0 (pa_cons (pv 4) pa_nil)) (pa_cons (p_call c_plain hr (by decide) (by rfl) pass0 (pa_cons (pv 1) pa_nil)) pa_nil))))) (pg_name (i := 5) nd rfl (Or.inl rfl))
        (pss_one (ps_if (pt_cmpR op_ne (p_call c_are_alike hr (by decide) (by rfl) pass0 (pa_cons (pv 1) (pa_cons (pv 5) pa_nil))) (pe_cmpR (k_eqD (K := K) hr.units) (p_call c_turned_counts hr (by decide) (by rfl) pass0 (pa_cons (pv 5) pa_nil)) (pv 3) (nomark _)) (nomark _))
          (pss_one (ps_ret pe_bl))
          pss_nil)))
      (pss_cons (ps_if (pt_not (pt_val (p_call c_are_alike hr (by decide) (by rfl) pass0 (pa_cons (pv 1) (pa_cons (p_call c_plain hr (by decide) (by rfl) pass0 (pa_cons (pv 1) pa_nil)) pa_nil)))))
        (pss_one (ps_ret pe_bl))
        pss_nil)
      (pss_cons (ps_if (PW.pt (pw_and (pt_cmpR op_gt (pe_callB (k_len (K := K)) (by rfl) B.len_ PySem.boot_len (pa_cons (pv 1) pa_nil)) pe_int (nomark _)) (pw_and1 (pt_not (pt_val (p_call c__law_first_right hr (by decide) (by rfl) pass0 (pa_cons (pv 1) (pa_cons (pv 3) pa_nil))))))))
        (pss_one (ps_ret pe_bl))
        pss_nil)
      (pss_cons (ps_set (i := 6) nd rfl (Or.inl rfl) (p_call c_turned_counts hr (by decide) (by rfl) pass0 (pa_cons (p_call c_beside hr (by decide) (by rfl) pass0 (pa_cons (pv 1) (pa_cons (pv 2) pa_nil))) pa_nil)))
      (pss_cons (ps_if (PW.pt (pw_or (pt_cmpR (k_neD (K := K) hr.units) (pv 6) (p_call c_turned_counts hr (by decide) (by rfl) pass0 (pa_cons (p_call c_beside hr (by decide) (by rfl) pass0 (pa_cons (pv 2) (pa_cons (pv 1) pa_nil))) pa_nil)) (nomark _)) (pw_or1 (pt_cmpR op_ne (pe_callB (k_sum (K := K) rfl) (by rfl) B.sum_ (by decide +kernel) (pa_cons (pv 6) pa_nil)) (p_call c_count_sequences hr (by decide) (by rfl) pass0 (pa_cons (p_call c_beside hr (by decide) (by rfl) pass0 (pa_cons (pv 2) (pa_cons (pv 1) pa_nil))) pa_nil)) (nomark _)))))
        (pss_one (ps_ret pe_bl))
        pss_nil)
      (pss_one (ps_ret (pe_cmpR (k_eqD (K := K) hr.units) (p_call c_sizes_back hr (by decide) (by rfl) pass0 (pa_cons (pv 6) (pa_cons (pe_op op_add (pe_callB (k_len (K := K)) (by rfl) B.len_ PySem.boot_len (pa_cons (pv 1) pa_nil)) (pe_callB (k_len (K := K)) (by rfl) B.len_ PySem.boot_len (pa_cons (pv 2) pa_nil))) pa_nil))) (pe_callB (k_sortedI (K := K)) (by rfl) B.sorted_ (by decide +kernel) (pa_cons (pe_op op_cat (p_call c_sizes hr (by decide) (by rfl) pass0 (pa_cons (pv 1) pa_nil)) (p_call c_sizes hr (by decide) (by rfl) pass0 (pa_cons (pv 2) pa_nil))) pa_nil)) (nomark _))))))))))))), ?_⟩
    refine ⟨_, rfl, a, f, rfl, hF, by omega, fun q1 H1 n1 s1 h1 => ?_⟩
    have hdg : deg f ≤ 210 := Nat.le_trans (deg_le f) (by have := Nat.mul_le_mul lf lf; omega)
    have lL : (LN f).length = deg f + 1 := by rw [iv_len, cl_len]
    refine ⟨_, rfl, _, rfl, q1, _, rfl, .of h1, fun r1 m1 => ?_⟩
    have u1 := same_new0 (o := .lst (LN f).reverse) m1
    have v1 : upd H1 r1 (.lst (LN f).reverse) r1 = some (.lst (iv (cl (deg f + 1) (ser f)).reverse)) := by rw [upd_same, ← List.map_reverse]
    have h1' := u1 _ _ h1
    have sA := s1.trans u1
    generalize upd H1 r1 (.lst (LN f).reverse) = H2 at v1 h1' sA ⊢
    refine neD (Re.ints (.of h1')) (Re.ints (.of v1)) ⟨_, rfl, iteN (by rw [line_rev o, decide_eq_true rfl]; rfl) ?_⟩
    refine ⟨_, rfl, q1, _, _, _, rfl, rfl, .of h1', at0 (by omega), rfl, _, rfl, iteN (by rw [ser_zero o]; rfl) ?_⟩
    refine ⟨_, rfl, q1, _, rfl, .inl (.of h1'), _, rfl, a, f, rfl, hF.mono sA, by omega, fun H3 s3 => ?_⟩
    have np1 : q1 ≠ p := fun e => by obtain ⟨_, _, _, hw, _⟩ := wl; rw [← e, n1] at hw; cases hw
    have sB := sA.trans s3
    have h13 := s3 _ _ h1'
    refine ⟨_, _, rfl, rfl, rfl, _, rfl, iteN (by rw [decide_eq_true (by rw [lL]; rfl)]; rfl) ?_⟩
    refine ⟨_, rfl, q1, _, rfl, .of h13, _, rfl, a, f, rfl, hF.mono sB, fun H4 s4 => ⟨rfl, _, rfl, iteN (by rw [decide_eq_true (by rw [line_sum o])]; rfl) ?_⟩⟩
    have sC := sB.trans s4
    have h14 := s4 _ _ h13
    refine ⟨_, rfl, _, rfl, a, _, rfl, .inr (hF.mono sC).1, q1, f, by rw [l1]; rfl, o, by omega, h14, fun p5 H5 n5 s5 h5 => ?_⟩
    refine ⟨_, rfl, a, f, rfl, hF.mono (sC.trans s5), fun p6 H6 n6 s6 h6 => ⟨p6, _, rfl, sq_nv h6, fun ns p7 hp7 hs7 n7 => ?_⟩⟩
    rw [srt_out hp7 hs7]
    have u7 := same_new0 (o := .lst (nv (srt (szs f)))) n7
    have sD := ((sC.trans s5).trans s6).trans u7
    refine neD (Re.nats (.of (u7 _ _ (s6 _ _ h5)))) (Re.nats (.of upd_same)) ⟨_, rfl, iteN (by rw [decide_eq_true rfl]; rfl) ?_⟩
    have h17 := u7 _ _ (s6 _ _ (s5 _ _ h14))
    generalize upd H6 p7 (.lst (nv (srt (szs f)))) = H7 at sD h17 ⊢
    refine ⟨_, rfl, _, rfl, _, rfl, p, a, f, N, rfl, wl.same sD, by omega, hF.mono sD, nap, fun c1 f1 H8 nc1 k8 wl8 hF8 lf8 => ?_⟩
    have ep : ∃ o, H7 p = some o := let ⟨_, _, _, hw, _⟩ := wl.same sD; ⟨_, hw⟩
    have ncp1 : c1 ≠ p := fun e => by obtain ⟨o, ho⟩ := ep; rw [← e, nc1] at ho; cases ho
    refine ⟨p, c1, f1, N + 2, rfl, wl8, by omega, hF8, ncp1, fun c2 f2 H9 nc2 k9 wl9 hF9 lf9 => ?_⟩
    have kD := (Kp.of (S := [p]) sD).trans (k8.trans k9)
    have hFa := hF.kpx kD (by simp [nap])
    have hGa := hG.kpx kD (by simp [nbp])
    have h19 := (k8.trans k9).at (b := q1) (by simp [np1]) h17
    refine ⟨_, rfl, _, rfl, c2, f2, rfl, hF9, by omega, fun x3 H10 L3 n3 s10 h10 hF10 r10 => ?_⟩
    refine ⟨_, rfl, a, f, rfl, hFa.mono s10, by omega, fun x4 H11 L4 n4 s11 h11 hF11 r11 => ?_⟩
    refine ⟨by show 3 ≤ sizeLine; decide, fun t0 nt0 => ⟨t0, rfl, ⟨_, .of upd_same⟩, ?_⟩⟩
    have s12 := same_new0 (o := .tup [.ref c2, .ref x3, .ref x4]) nt0
    have sE := (s10.trans s11).trans s12
    have each : ∀ (i : Nat) (x : V), ([V.ref c2, V.ref x3, V.ref x4] : List V)[i]? = some x → ∃ y g, x = V.ref y ∧ FoAt K (upd H11 t0 (.tup [.ref c2, .ref x3, .ref x4])) y g ∧ g.length = f.length := fun i x hx => by
      match i, hx with
      | 0, hx => cases hx; exact ⟨c2, f2, rfl, hF9.mono sE, by omega⟩
      | 1, hx => cases hx; exact ⟨x3, _, rfl, hF10.mono (s11.trans s12), by rw [ren_len, r10.len hF9.2.1]; omega⟩
      | 2, hx => cases hx; exact ⟨x4, _, rfl, hF11.mono s12, by rw [ren_len, r11.len o]⟩
      | n + 3, hx => simp at hx
    have ht0 : upd H11 t0 (.tup [.ref c2, .ref x3, .ref x4]) t0 = some (.tup [.ref c2, .ref x3, .ref x4]) := upd_same
    generalize upd H11 t0 (.tup [.ref c2, .ref x3, .ref x4]) = H12 at each sE ht0 ⊢
    have hFb := hFa.mono sE
    have hGb := hGa.mono sE
    have h1b := sE _ _ h19
    have kE := kD.trans (Kp.of sE)
    have wlE := wl9.same sE
    refine for_it (walk_tup (xs := [.ref c2, .ref x3, .ref x4])) (fun i σ H' => ∃ v5 v6, σ = [some (.ref p), some (.ref a), some (.ref b), some (.ref q1), some (.ref c2), v5, v6] ∧ Same H12 H') ⟨_, _, rfl, Same.refl _⟩ (fun i σ H' _ ⟨_, _, _, s'⟩ => same_sqT s' (.of ht0)) ?_ ?_
    · rintro i x σ H13 H14 hi ⟨v5, v6, rfl, s13⟩ y
      obtain ⟨rfl, hx⟩ := y
      obtain ⟨y, g', rfl, hy, ly⟩ := each i x hx
      refine ⟨_, rfl, _, rfl, a, y, f, g', rfl, hFb.mono s13, hy.mono s13, fun H15 s15 => ?_⟩
      refine ⟨_, rfl, y, g', rfl, hy.mono (s13.trans s15), by omega, fun p16 H16 n16 s16 h16 => ?_⟩
      have s' := (s13.trans s15).trans s16
      refine ⟨_, rfl, eqD (Re.ints (.of h16)) (Re.ints (.of (s' _ _ h1b))) ⟨rfl, _, rfl, iteN ?_ ?_⟩⟩
      · rw [decide_eq_decide.mpr (line_iff o hy.2.1 ly.symm)]
        rw [decide_eq_true rfl]; rfl
      · exact ⟨_, _, rfl, s'⟩
    · rintro σ H13 ⟨v5, v6, rfl, s13⟩
      refine ⟨_, rfl, _, rfl, a, f, rfl, hFb.mono s13, by omega, fun x5 H14 L5 n5 s14 h14' hF14 r14 => ?_⟩
      refine ⟨a, x5, f, _, rfl, hFb.mono (s13.trans s14), hF14, fun H15 s15 => ⟨_, rfl, iteN (by rw [decide_eq_true (srt_iff.mpr (r14.szs o).symm)]; rfl) ?_⟩⟩
      have sF := (s13.trans s14).trans s15
      rw [show (tNext : TS) = fun De σ H => De.nx σ H from rfl]
      dsimp only
      refine cutS (Pv := fun σ H' => σ = [some (.ref p), some (.ref a), some (.ref b), some (.ref q1), some (.ref c2), v5, v6] ∧ Same H15 H') (fun D' fin => ?_) ?_
      · refine ⟨_, rfl, a, _, rfl, .inr (hFb.mono sF).1, _, _, rfl, rfl, _, rfl, ite2 (fun hc => ?_) (fun hc => ?_)⟩
        · refine ⟨_, rfl, _, rfl, a, q1, f, rfl, hFb.mono sF, ?_, by omega, sF _ _ h1b, fun H16 s16 => ⟨_, rfl, iteN rfl (fin _ _ ⟨rfl, s16⟩)⟩⟩
          have := of_decide_eq_true hc
          omega
        · exact iteN rfl (fin _ _ ⟨rfl, Same.refl _⟩)
      · rintro σ H16 ⟨rfl, s16⟩
        have sG := sF.trans s16
        have hFg := hFb.mono sG
        have hGg := hGb.mono sG
        have lbf : (bes f g).length ≤ 20 := by rw [bes_len]; omega
        have lbg : (bes g f).length ≤ 20 := by rw [bes_len]; omega
        have obf := bes_ok o og
        have obg := bes_ok og o
        have pbs : (szs (bes f g)).Perm (szs (bes g f)) := by rw [szs_bes o og, szs_bes og o]; exact List.perm_append_comm
        have lbe : (bes f g).length = (bes g f).length := by rw [bes_len, bes_len]; omega
        have ecl : cl (deg (bes f g) + 1) (ser (bes f g)) = cl (deg (bes g f) + 1) (ser (bes g f)) := by rw [ser_of_alike lbe pbs, deg_of_alike lbe pbs]
        refine ⟨_, rfl, _, rfl, a, b, f, g, rfl, hFg, hGg, by omega, fun y1 H17 m1 s17 h17 => ⟨y1, bes f g, rfl, .of h17 obf (by omega), by omega, fun z1 H18 m2 s18 h18 => ?_⟩⟩
        have sH := s17.trans s18
        refine ⟨_, rfl, _, rfl, _, rfl, b, a, g, f, rfl, hGg.mono sH, hFg.mono sH, by omega, fun y2 H19 m3 s19 h19 => ⟨y2, bes g f, rfl, .of h19 obg (by omega), by omega, fun z2 H20 m4 s20 h20 => ?_⟩⟩
        have sI := s19.trans s20
        have hz1 := sI _ _ h18
        refine neD (Re.ints (.of hz1)) (Re.ints (.of h20)) ⟨_, rfl, iteN (by rw [decide_eq_true ecl]; rfl) ?_⟩
        have sJ := sH.trans sI
        refine ⟨_, rfl, z1, _, rfl, .of hz1, _, rfl, _, rfl, b, a, g, f, rfl, hGg.mono sJ, hFg.mono sJ, by omega, fun y3 H21 m5 s21 h21 => ⟨y3, bes g f, rfl, .of h21 obg (by omega), fun H22 s22 => ⟨rfl, _, rfl, iteN (by rw [decide_eq_true (by rw [ecl, line_sum obg])]; rfl) ?_⟩⟩⟩
        have sK := sJ.trans (s21.trans s22)
        have hz2 := s22 _ _ (s21 _ _ hz1)
        refine ⟨_, rfl, _, rfl, a, _, rfl, .inr (hFg.mono sK).1, _, rfl, b, _, rfl, .inr (hGg.mono sK).1, _, _, rfl, rfl, z1, bes f g, by dsimp only; rw [l1, l2, bes_len, Int.natCast_add]; rfl, obf, lbf, hz2, fun p5 H23 n5 s23 h23 => ?_⟩
        have sL := sK.trans s23
        refine ⟨_, rfl, a, f, rfl, hFg.mono sL, fun p6 H24 n6 s24 h24 => ⟨_, rfl, b, g, rfl, hGg.mono (sL.trans s24), fun p7 H25 n7 s25 h25 => ?_⟩⟩
        refine ⟨p6, p7, _, _, rfl, rfl, s25 _ _ h24, h25, ?_, fun p8 n8 => ?_⟩
        · rw [List.length_map, List.length_map, szs_len, szs_len]; exact sz_of (by omega)
        have u8 := same_new0 (o := .lst (nv (szs f) ++ nv (szs g))) n8
        have h8 : upd H25 p8 (.lst (nv (szs f) ++ nv (szs g))) p8 = some (.lst (nv (szs f ++ szs g))) := by rw [upd_same]; unfold nv; rw [List.map_append]
        have sM := (s24.trans s25).trans u8
        generalize upd H25 p8 (.lst (nv (szs f) ++ nv (szs g))) = H26 at h8 sM ⊢
        refine ⟨p8, _, rfl, sq_nv h8, fun ns p9 hp9 hs9 n9 => ?_⟩
        rw [srt_out hp9 hs9]
        have u9 := same_new0 (o := .lst (nv (srt (szs f ++ szs g)))) n9
        refine eqD (Re.nats (.of (u9 _ _ (sM _ _ h23)))) (Re.nats (.of upd_same)) ?_
        rw [decide_eq_true (by rw [szs_bes o og])]
        have sN := (sG.trans sL).trans (sM.trans u9)
        exact k _ (kE.trans (Kp.of sN)) (wlE.same sN)
end
end Hb
namespace Hb
open PySem PySem.Spec PyProof.Rows L2
section
variable {P : Program} {w : World} {K : PySem.W.Frag} {mg : Str → Option Value} {base : Heap}
/-! ### k69: law -/
abbrev s_law : Stmt := top 56
abbrev n_law : List Str := ["script", "at", "well", "most"]
theorem sc_law : FnScope n_law ["script"] (defScope s_law) := ⟨rfl, rfl, rfl, by decide +kernel, rfl, by decide +kernel, by decide +kernel⟩

def sp_law (K : PySem.W.Frag) : Sp := fun vs H Q _ => ∃ (a : Addr) (ns : List Int), vs = [.ref a] ∧ SqL K H a (ns.map V.int) ∧ ns.length ≤ 63 ∧ ∀ H', Q (.bl true) H'
theorem ok_law {fa : Addr} {fd : FuncData} (D : Fun K "law" "law" s_law fa fd) (B : Bu mg) (c__law_well : Cl P w K mg base CX0 1 "_law_well" (sp_law_well K)) (c__law_forest : Cl P w K mg base CX0 2 "_law_forest" (sp_law_forest K))
    (c__law_right : Cl P w K mg base CX0 26 "_law_right" (sp_law_right K)) : FnOk P w K mg base CX0 27 fa fd ["script"] (sp_law K) := by
  refine D.ok sc_law (fun vs H Q E h => ?_) (fun cdv A outer s H vs Q E hr h => ?_)
  · obtain ⟨a, ns, rfl, _⟩ := h
    rfl
  · obtain ⟨a, ns, rfl, hS, hlen, k⟩ := h
    have nd := sc_law.nd
    refine ⟨_, (pss_cons (ps_for PassesOwn.never rfl (pi_range1 (by rfl) B.range_ (pa_cons (pe_callB (call_max2 rfl) (by rfl) B.max_ (by decide +kernel) (pa_cons pe_int (pa_cons (pe_callB (call_min2 rfl) (by rfl) B.min_ (by decide +kernel) (pa_cons pe_int (pa_cons (pe_callB (k_len (K := K)) (by rfl) B.len_ PySem.boot_len (pa_cons (pv 0) pa_nil)) pa_nil))) pa_nil))) pa_nil)) (pg_name (i := 1) nd rfl (Or.inl rfl))
        (pss_cons (ps_set (i := 2) nd rfl (Or.inl rfl) (p_call c__law_well hr (by decide) (by rfl) pass0 (pa_cons (pv 0) (pa_cons (pv 1) pa_nil))))
        (pss_one (ps_for PassesOwn.never rfl (k_pi_tup (K := K) (pe_tup (pa_cons pe_int (pa_cons pe_int (pa_cons pe_int pa_nil))))) (pg_name (i := 3) nd rfl (Or.inl rfl))
          (pss_one (ps_if (pt_not (pt_val (p_call c__law_right hr (by decide) (by rfl) pass0 (pa_cons (pv 2) (pa_cons (p_call c__law_forest hr (by decide) (by rfl) pass0 (pa_cons (pv 2) (pa_cons (pv 3) pa_nil))) (pa_cons (p_call c__law_forest hr (by decide) (by rfl) pass0 (pa_cons (pv 2) (pa_cons pe_int pa_nil))) pa_nil))))))
            (pss_one (ps_ret pe_bl))
            pss_nil))))))
      (pss_one (ps_ret pe_bl))), ?_⟩
    refine ⟨_, rfl, a, _, rfl, .inl hS, _, _, rfl, _, _, rfl, ?_⟩
    obtain ⟨m, hm, em⟩ : ∃ m : Nat, m ≤ 8 ∧ (if (if ((ns.map V.int).length : Int) < 8 then ((ns.map V.int).length : Int) else 8) > 4 then (if ((ns.map V.int).length : Int) < 8 then ((ns.map V.int).length : Int) else 8) else 4) = (m : Int) := by
      refine ⟨max 4 (min 8 (ns.map V.int).length), by omega, ?_⟩
      split <;> split <;> omega
    rw [em]
    refine ⟨_, rfl, by omega, by omega, ?_⟩
    refine for_r0 (n := (m : Int).toNat) (fun i σ H5 => ∃ v1 v2 v3, σ = [some (.ref a), v1, v2, v3] ∧ Same H H5) ⟨_, _, _, rfl, Same.refl _⟩ ?_ ?_
    · rintro i σ H5 hi ⟨v1, v2, v3, rfl, s5⟩
      refine ⟨_, rfl, _, rfl, a, ns, i, rfl, s5.seq hS, by omega, fun p H6 np s6 wl6 => ?_⟩
      have np0 : H p = none := s5.free np
      have s6' := s5.trans s6
      refine ⟨by show 3 ≤ sizeLine; decide, fun t0 nt0 => ⟨t0, rfl, ⟨_, .of upd_same⟩, ?_⟩⟩
      have s0 := same_new0 (o := .tup [.int 4, .int 8, .int 14]) nt0
      have ht0 : upd H6 t0 (.tup [.int 4, .int 8, .int 14]) t0 = some (.tup [.int 4, .int 8, .int 14]) := upd_same
      have wl0 := wl6.same s0
      have s7' := s6'.trans s0
      generalize upd H6 t0 (.tup [.int 4, .int 8, .int 14]) = H7 at ht0 wl0 s7' ⊢
      have ntp : t0 ≠ p := fun e => by obtain ⟨_, _, _, hw, _⟩ := wl6; rw [e, hw] at nt0; cases nt0
      refine for_it (walk_tup (xs := [.int 4, .int 8, .int 14])) (fun j σ H8 => ∃ v3, σ = [some (.ref a), some (.int (i : Int)), some (.ref p), v3] ∧ Kp [p] H7 H8 ∧ WellAt H8 p (300 * j)) ⟨_, rfl, Kp.refl, wl0⟩ (fun j σ H8 _ ⟨_, _, k8, _⟩ => k8.sqT (by simp [ntp]) (.of ht0)) ?_ ?_
      · rintro j x σ H8 H9 hj ⟨v3, rfl, k8, wl8⟩ y
        obtain ⟨rfl, hx⟩ := y
        have hj' : j < 3 := hj
        obtain ⟨mo, rfl, hmo, hm0⟩ : ∃ mo : Nat, x = V.int (mo : Int) ∧ mo ≤ 14 ∧ 0 < mo := by
          match j, hj', hx with
          | 0, _, hx => cases hx; exact ⟨4, rfl, by decide, by decide⟩
          | 1, _, hx => cases hx; exact ⟨8, rfl, by decide, by decide⟩
          | 2, _, hx => cases hx; exact ⟨14, rfl, by decide, by decide⟩
        have po : ∃ o, H9 p = some o := let ⟨_, _, _, e, _⟩ := wl8; ⟨_, e⟩
        refine ⟨_, rfl, _, rfl, _, rfl, p, mo, _, rfl, hm0, by omega, wl8, by omega, fun c f H10 nc k10 wl10 hF10 lf => ?_⟩
        have qo : ∃ o, H10 p = some o := let ⟨_, _, _, e, _⟩ := wl10; ⟨_, e⟩
        refine ⟨_, rfl, p, 6, _, rfl, by decide, by decide, wl10, by omega, fun d g H11 ndd k11 wl11 hG11 lg => ?_⟩
        have ncp : c ≠ p := fun e => by obtain ⟨o, ho⟩ := po; rw [← e, nc] at ho; cases ho
        have ndp : d ≠ p := fun e => by obtain ⟨o, ho⟩ := qo; rw [← e, ndd] at ho; cases ho
        refine ⟨p, c, d, f, g, _, rfl, wl11, by omega, hF10.kpx k11 (by simp [ncp]), hG11, by omega, lg, ncp, ndp, fun H12 k12 wl12 => ⟨_, rfl, iteN rfl ?_⟩⟩
        exact ⟨_, rfl, ((k8.trans k10).trans k11).trans k12, wl12.mono (by omega)⟩
      · rintro σ H8 ⟨v3, rfl, k8, wl8⟩
        exact ⟨_, _, _, rfl, same_kpx np0 s7' k8⟩
    · rintro σ H5 ⟨v1, v2, v3, rfl, s5⟩
      exact k H5
end
end Hb
namespace Hb
open PySem PySem.Spec PyProof.Rows L2
theorem kit_self {K : PySem.W.Frag} {C : Addr} : PySem.W.kitOne K (.ref C) (.ref C) = some true := by
  unfold PySem.W.kitOne
  simp
theorem all_mk {l : PySem.W.OpenLaw} {w : World} {K : PySem.W.Frag} {h : Heap} {mg : Str → Option Value} {fa : Addr} (X : K.In h) (G : h.Ns mainGlobals mg) (hfa : mg "law" = some (.ref fa))
    {f1 : Addr} {od1 an1 : Option Addr} {sl1 : Array (Option Value)} {oc1 kV1 dc1 pm1 cd1 ct1 : Value}
    {f2 : Addr} {od2 an2 : Option Addr} {sl2 : Array (Option Value)} {oc2 kV2 dc2 pm2 cd2 ct2 : Value}
    {f3 : Addr} {od3 an3 : Option Addr} {sl3 : Array (Option Value)} {oc3 kV3 dc3 pm3 cd3 ct3 : Value}
    {f4 : Addr} {od4 an4 : Option Addr} {sl4 : Array (Option Value)} {oc4 kV4 dc4 pm4 cd4 ct4 : Value}
    {f5 : Addr} {od5 an5 : Option Addr} {sl5 : Array (Option Value)} {oc5 kV5 dc5 pm5 cd5 ct5 : Value}
    {f6 : Addr} {od6 an6 : Option Addr} {sl6 : Array (Option Value)} {oc6 kV6 dc6 pm6 cd6 ct6 : Value}
    {f7 : Addr} {od7 an7 : Option Addr} {sl7 : Array (Option Value)} {oc7 kV7 dc7 pm7 cd7 ct7 : Value}
    {f8 : Addr} {od8 an8 : Option Addr} {sl8 : Array (Option Value)} {oc8 kV8 dc8 pm8 cd8 ct8 : Value}
    {f9 : Addr} {od9 an9 : Option Addr} {sl9 : Array (Option Value)} {oc9 kV9 dc9 pm9 cd9 ct9 : Value}
    {f10 : Addr} {od10 an10 : Option Addr} {sl10 : Array (Option Value)} {oc10 kV10 dc10 pm10 cd10 ct10 : Value}
    {f11 : Addr} {od11 an11 : Option Addr} {sl11 : Array (Option Value)} {oc11 kV11 dc11 pm11 cd11 ct11 : Value}
    {f12 : Addr} {od12 an12 : Option Addr} {sl12 : Array (Option Value)} {oc12 kV12 dc12 pm12 cd12 ct12 : Value}
    {f13 : Addr} {od13 an13 : Option Addr} {sl13 : Array (Option Value)} {oc13 kV13 dc13 pm13 cd13 ct13 : Value}
    {f14 : Addr} {od14 an14 : Option Addr} {sl14 : Array (Option Value)} {oc14 kV14 dc14 pm14 cd14 ct14 : Value}
    {f15 : Addr} {od15 an15 : Option Addr} {sl15 : Array (Option Value)} {oc15 kV15 dc15 pm15 cd15 ct15 : Value}
    {f16 : Addr} {od16 an16 : Option Addr} {sl16 : Array (Option Value)} {oc16 kV16 dc16 pm16 cd16 ct16 : Value}
    {f17 : Addr} {od17 an17 : Option Addr} {sl17 : Array (Option Value)} {oc17 kV17 dc17 pm17 cd17 ct17 : Value}
    {f18 : Addr} {od18 an18 : Option Addr} {sl18 : Array (Option Value)} {oc18 kV18 dc18 pm18 cd18 ct18 : Value}
    {f19 : Addr} {od19 an19 : Option Addr} {sl19 : Array (Option Value)} {oc19 kV19 dc19 pm19 cd19 ct19 : Value}
    {f20 : Addr} {od20 an20 : Option Addr} {sl20 : Array (Option Value)} {oc20 kV20 dc20 pm20 cd20 ct20 : Value}
    {f21 : Addr} {od21 an21 : Option Addr} {sl21 : Array (Option Value)} {oc21 kV21 dc21 pm21 cd21 ct21 : Value}
    {f22 : Addr} {od22 an22 : Option Addr} {sl22 : Array (Option Value)} {oc22 kV22 dc22 pm22 cd22 ct22 : Value}
    {f23 : Addr} {od23 an23 : Option Addr} {sl23 : Array (Option Value)} {oc23 kV23 dc23 pm23 cd23 ct23 : Value}
    {f24 : Addr} {od24 an24 : Option Addr} {sl24 : Array (Option Value)} {oc24 kV24 dc24 pm24 cd24 ct24 : Value}
    {f25 : Addr} {od25 an25 : Option Addr} {sl25 : Array (Option Value)} {oc25 kV25 dc25 pm25 cd25 ct25 : Value}
    {f26 : Addr} {od26 an26 : Option Addr} {sl26 : Array (Option Value)} {oc26 kV26 dc26 pm26 cd26 ct26 : Value}
    {f27 : Addr} {od27 an27 : Option Addr} {sl27 : Array (Option Value)} {oc27 kV27 dc27 pm27 cd27 ct27 : Value}
    {f28 : Addr} {od28 an28 : Option Addr} {sl28 : Array (Option Value)} {oc28 kV28 dc28 pm28 cd28 ct28 : Value}
    {f29 : Addr} {od29 an29 : Option Addr} {sl29 : Array (Option Value)} {oc29 kV29 dc29 pm29 cd29 ct29 : Value}
    {f30 : Addr} {od30 an30 : Option Addr} {sl30 : Array (Option Value)} {oc30 kV30 dc30 pm30 cd30 ct30 : Value}
    {f31 : Addr} {od31 an31 : Option Addr} {sl31 : Array (Option Value)} {oc31 kV31 dc31 pm31 cd31 ct31 : Value}
    {f32 : Addr} {od32 an32 : Option Addr} {sl32 : Array (Option Value)} {oc32 kV32 dc32 pm32 cd32 ct32 : Value}
    {f33 : Addr} {od33 an33 : Option Addr} {sl33 : Array (Option Value)} {oc33 kV33 dc33 pm33 cd33 ct33 : Value}
    {f34 : Addr} {od34 an34 : Option Addr} {sl34 : Array (Option Value)} {oc34 kV34 dc34 pm34 cd34 ct34 : Value}
    {f35 : Addr} {od35 an35 : Option Addr} {sl35 : Array (Option Value)} {oc35 kV35 dc35 pm35 cd35 ct35 : Value}
    {f36 : Addr} {od36 an36 : Option Addr} {sl36 : Array (Option Value)} {oc36 kV36 dc36 pm36 cd36 ct36 : Value}
    {f37 : Addr} {od37 an37 : Option Addr} {sl37 : Array (Option Value)} {oc37 kV37 dc37 pm37 cd37 ct37 : Value}
    {f38 : Addr} {od38 an38 : Option Addr} {sl38 : Array (Option Value)} {oc38 kV38 dc38 pm38 cd38 ct38 : Value}
    {f39 : Addr} {od39 an39 : Option Addr} {sl39 : Array (Option Value)} {oc39 kV39 dc39 pm39 cd39 ct39 : Value}
    {f40 : Addr} {od40 an40 : Option Addr} {sl40 : Array (Option Value)} {oc40 kV40 dc40 pm40 cd40 ct40 : Value}
    {f41 : Addr} {od41 an41 : Option Addr} {sl41 : Array (Option Value)} {oc41 kV41 dc41 pm41 cd41 ct41 : Value}
    {f42 : Addr} {od42 an42 : Option Addr} {sl42 : Array (Option Value)} {oc42 kV42 dc42 pm42 cd42 ct42 : Value}
    {f43 : Addr} {od43 an43 : Option Addr} {sl43 : Array (Option Value)} {oc43 kV43 dc43 pm43 cd43 ct43 : Value}
    (a1 : PySem.W.nsIn K mainGlobals "is_integer" = some (some (.ref f1)))
    (l1 : K.lookup f1 = some ⟨oc1, od1, .func (PySem.W.fnOf "is_integer" "is_integer" (defArgs s_is_integer) (defBody s_is_integer) (defScope s_is_integer) .none kV1 dc1 pm1 an1 cd1 ct1), sl1⟩)
    (c1 : PySem.W.codeIn K cd1 "is_integer" = true)
    (k1 : PySem.W.keepIn K (.ref f1) = true)
    (a2 : PySem.W.nsIn K mainGlobals "factorial" = some (some (.ref f2)))
    (l2 : K.lookup f2 = some ⟨oc2, od2, .func (PySem.W.fnOf "factorial" "factorial" (defArgs s_factorial) (defBody s_factorial) (defScope s_factorial) .none kV2 dc2 pm2 an2 cd2 ct2), sl2⟩)
    (c2 : PySem.W.codeIn K cd2 "factorial" = true)
    (k2 : PySem.W.keepIn K (.ref f2) = true)
    (a3 : PySem.W.nsIn K mainGlobals "is_rooted" = some (some (.ref f3)))
    (l3 : K.lookup f3 = some ⟨oc3, od3, .func (PySem.W.fnOf "is_rooted" "is_rooted" (defArgs s_is_rooted) (defBody s_is_rooted) (defScope s_is_rooted) .none kV3 dc3 pm3 an3 cd3 ct3), sl3⟩)
    (c3 : PySem.W.codeIn K cd3 "is_rooted" = true)
    (k3 : PySem.W.keepIn K (.ref f3) = true)
    (a4 : PySem.W.nsIn K mainGlobals "is_forest" = some (some (.ref f4)))
    (l4 : K.lookup f4 = some ⟨oc4, od4, .func (PySem.W.fnOf "is_forest" "is_forest" (defArgs s_is_forest) (defBody s_is_forest) (defScope s_is_forest) .none kV4 dc4 pm4 an4 cd4 ct4), sl4⟩)
    (c4 : PySem.W.codeIn K cd4 "is_forest" = true)
    (k4 : PySem.W.keepIn K (.ref f4) = true)
    (a5 : PySem.W.nsIn K mainGlobals "check_forest" = some (some (.ref f5)))
    (l5 : K.lookup f5 = some ⟨oc5, od5, .func (PySem.W.fnOf "check_forest" "check_forest" (defArgs s_check_forest) (defBody s_check_forest) (defScope s_check_forest) .none kV5 dc5 pm5 an5 cd5 ct5), sl5⟩)
    (c5 : PySem.W.codeIn K cd5 "check_forest" = true)
    (k5 : PySem.W.keepIn K (.ref f5) = true)
    (a6 : PySem.W.nsIn K mainGlobals "check_thing" = some (some (.ref f6)))
    (l6 : K.lookup f6 = some ⟨oc6, od6, .func (PySem.W.fnOf "check_thing" "check_thing" (defArgs s_check_thing) (defBody s_check_thing) (defScope s_check_thing) .none kV6 dc6 pm6 an6 cd6 ct6), sl6⟩)
    (c6 : PySem.W.codeIn K cd6 "check_thing" = true)
    (k6 : PySem.W.keepIn K (.ref f6) = true)
    (a7 : PySem.W.nsIn K mainGlobals "above_of" = some (some (.ref f7)))
    (l7 : K.lookup f7 = some ⟨oc7, od7, .func (PySem.W.fnOf "above_of" "above_of" (defArgs s_above_of) (defBody s_above_of) (defScope s_above_of) .none kV7 dc7 pm7 an7 cd7 ct7), sl7⟩)
    (c7 : PySem.W.codeIn K cd7 "above_of" = true)
    (k7 : PySem.W.keepIn K (.ref f7) = true)
    (a8 : PySem.W.nsIn K mainGlobals "held_of" = some (some (.ref f8)))
    (l8 : K.lookup f8 = some ⟨oc8, od8, .func (PySem.W.fnOf "held_of" "held_of" (defArgs s_held_of) (defBody s_held_of) (defScope s_held_of) .none kV8 dc8 pm8 an8 cd8 ct8), sl8⟩)
    (c8 : PySem.W.codeIn K cd8 "held_of" = true)
    (k8 : PySem.W.keepIn K (.ref f8) = true)
    (a9 : PySem.W.nsIn K mainGlobals "sizes_of" = some (some (.ref f9)))
    (l9 : K.lookup f9 = some ⟨oc9, od9, .func (PySem.W.fnOf "sizes_of" "sizes_of" (defArgs s_sizes_of) (defBody s_sizes_of) (defScope s_sizes_of) .none kV9 dc9 pm9 an9 cd9 ct9), sl9⟩)
    (c9 : PySem.W.codeIn K cd9 "sizes_of" = true)
    (k9 : PySem.W.keepIn K (.ref f9) = true)
    (a10 : PySem.W.nsIn K mainGlobals "sizes" = some (some (.ref f10)))
    (l10 : K.lookup f10 = some ⟨oc10, od10, .func (PySem.W.fnOf "sizes" "sizes" (defArgs s_sizes) (defBody s_sizes) (defScope s_sizes) .none kV10 dc10 pm10 an10 cd10 ct10), sl10⟩)
    (c10 : PySem.W.codeIn K cd10 "sizes" = true)
    (k10 : PySem.W.keepIn K (.ref f10) = true)
    (a11 : PySem.W.nsIn K mainGlobals "walk_of" = some (some (.ref f11)))
    (l11 : K.lookup f11 = some ⟨oc11, od11, .func (PySem.W.fnOf "walk_of" "walk_of" (defArgs s_walk_of) (defBody s_walk_of) (defScope s_walk_of) .none kV11 dc11 pm11 an11 cd11 ct11), sl11⟩)
    (c11 : PySem.W.codeIn K cd11 "walk_of" = true)
    (k11 : PySem.W.keepIn K (.ref f11) = true)
    (a12 : PySem.W.nsIn K mainGlobals "walk" = some (some (.ref f12)))
    (l12 : K.lookup f12 = some ⟨oc12, od12, .func (PySem.W.fnOf "walk" "walk" (defArgs s_walk) (defBody s_walk) (defScope s_walk) .none kV12 dc12 pm12 an12 cd12 ct12), sl12⟩)
    (c12 : PySem.W.codeIn K cd12 "walk" = true)
    (k12 : PySem.W.keepIn K (.ref f12) = true)
    (a13 : PySem.W.nsIn K mainGlobals "moved" = some (some (.ref f13)))
    (l13 : K.lookup f13 = some ⟨oc13, od13, .func (PySem.W.fnOf "moved" "moved" (defArgs s_moved) (defBody s_moved) (defScope s_moved) .none kV13 dc13 pm13 an13 cd13 ct13), sl13⟩)
    (c13 : PySem.W.codeIn K cd13 "moved" = true)
    (k13 : PySem.W.keepIn K (.ref f13) = true)
    (a14 : PySem.W.nsIn K mainGlobals "renamed" = some (some (.ref f14)))
    (l14 : K.lookup f14 = some ⟨oc14, od14, .func (PySem.W.fnOf "renamed" "renamed" (defArgs s_renamed) (defBody s_renamed) (defScope s_renamed) .none kV14 dc14 pm14 an14 cd14 ct14), sl14⟩)
    (c14 : PySem.W.codeIn K cd14 "renamed" = true)
    (k14 : PySem.W.keepIn K (.ref f14) = true)
    (a15 : PySem.W.nsIn K mainGlobals "beside" = some (some (.ref f15)))
    (l15 : K.lookup f15 = some ⟨oc15, od15, .func (PySem.W.fnOf "beside" "beside" (defArgs s_beside) (defBody s_beside) (defScope s_beside) .none kV15 dc15 pm15 an15 cd15 ct15), sl15⟩)
    (c15 : PySem.W.codeIn K cd15 "beside" = true)
    (k15 : PySem.W.keepIn K (.ref f15) = true)
    (a16 : PySem.W.nsIn K mainGlobals "without" = some (some (.ref f16)))
    (l16 : K.lookup f16 = some ⟨oc16, od16, .func (PySem.W.fnOf "without" "without" (defArgs s_without) (defBody s_without) (defScope s_without) .none kV16 dc16 pm16 an16 cd16 ct16), sl16⟩)
    (c16 : PySem.W.codeIn K cd16 "without" = true)
    (k16 : PySem.W.keepIn K (.ref f16) = true)
    (a17 : PySem.W.nsIn K mainGlobals "count_by" = some (some (.ref f17)))
    (l17 : K.lookup f17 = some ⟨oc17, od17, .func (PySem.W.fnOf "count_by" "count_by" (defArgs s_count_by) (defBody s_count_by) (defScope s_count_by) .none kV17 dc17 pm17 an17 cd17 ct17), sl17⟩)
    (c17 : PySem.W.codeIn K cd17 "count_by" = true)
    (k17 : PySem.W.keepIn K (.ref f17) = true)
    (a18 : PySem.W.nsIn K mainGlobals "count_of" = some (some (.ref f18)))
    (l18 : K.lookup f18 = some ⟨oc18, od18, .func (PySem.W.fnOf "count_of" "count_of" (defArgs s_count_of) (defBody s_count_of) (defScope s_count_of) .none kV18 dc18 pm18 an18 cd18 ct18), sl18⟩)
    (c18 : PySem.W.codeIn K cd18 "count_of" = true)
    (k18 : PySem.W.keepIn K (.ref f18) = true)
    (a19 : PySem.W.nsIn K mainGlobals "count_sequences" = some (some (.ref f19)))
    (l19 : K.lookup f19 = some ⟨oc19, od19, .func (PySem.W.fnOf "count_sequences" "count_sequences" (defArgs s_count_sequences) (defBody s_count_sequences) (defScope s_count_sequences) .none kV19 dc19 pm19 an19 cd19 ct19), sl19⟩)
    (c19 : PySem.W.codeIn K cd19 "count_sequences" = true)
    (k19 : PySem.W.keepIn K (.ref f19) = true)
    (a20 : PySem.W.nsIn K mainGlobals "_law_well" = some (some (.ref f20)))
    (l20 : K.lookup f20 = some ⟨oc20, od20, .func (PySem.W.fnOf "_law_well" "_law_well" (defArgs s__law_well) (defBody s__law_well) (defScope s__law_well) .none kV20 dc20 pm20 an20 cd20 ct20), sl20⟩)
    (c20 : PySem.W.codeIn K cd20 "_law_well" = true)
    (k20 : PySem.W.keepIn K (.ref f20) = true)
    (a21 : PySem.W.nsIn K mainGlobals "_law_draw" = some (some (.ref f21)))
    (l21 : K.lookup f21 = some ⟨oc21, od21, .func (PySem.W.fnOf "_law_draw" "_law_draw" (defArgs s__law_draw) (defBody s__law_draw) (defScope s__law_draw) .none kV21 dc21 pm21 an21 cd21 ct21), sl21⟩)
    (c21 : PySem.W.codeIn K cd21 "_law_draw" = true)
    (k21 : PySem.W.keepIn K (.ref f21) = true)
    (a22 : PySem.W.nsIn K mainGlobals "_law_forest" = some (some (.ref f22)))
    (l22 : K.lookup f22 = some ⟨oc22, od22, .func (PySem.W.fnOf "_law_forest" "_law_forest" (defArgs s__law_forest) (defBody s__law_forest) (defScope s__law_forest) .none kV22 dc22 pm22 an22 cd22 ct22), sl22⟩)
    (c22 : PySem.W.codeIn K cd22 "_law_forest" = true)
    (k22 : PySem.W.keepIn K (.ref f22) = true)
    (a23 : PySem.W.nsIn K mainGlobals "times_gap" = some (some (.ref f23)))
    (l23 : K.lookup f23 = some ⟨oc23, od23, .func (PySem.W.fnOf "times_gap" "times_gap" (defArgs s_times_gap) (defBody s_times_gap) (defScope s_times_gap) .none kV23 dc23 pm23 an23 cd23 ct23), sl23⟩)
    (c23 : PySem.W.codeIn K cd23 "times_gap" = true)
    (k23 : PySem.W.keepIn K (.ref f23) = true)
    (a24 : PySem.W.nsIn K mainGlobals "by_gap" = some (some (.ref f24)))
    (l24 : K.lookup f24 = some ⟨oc24, od24, .func (PySem.W.fnOf "by_gap" "by_gap" (defArgs s_by_gap) (defBody s_by_gap) (defScope s_by_gap) .none kV24 dc24 pm24 an24 cd24 ct24), sl24⟩)
    (c24 : PySem.W.codeIn K cd24 "by_gap" = true)
    (k24 : PySem.W.keepIn K (.ref f24) = true)
    (a25 : PySem.W.nsIn K mainGlobals "greatest_of" = some (some (.ref f25)))
    (l25 : K.lookup f25 = some ⟨oc25, od25, .func (PySem.W.fnOf "greatest_of" "greatest_of" (defArgs s_greatest_of) (defBody s_greatest_of) (defScope s_greatest_of) .none kV25 dc25 pm25 an25 cd25 ct25), sl25⟩)
    (c25 : PySem.W.codeIn K cd25 "greatest_of" = true)
    (k25 : PySem.W.keepIn K (.ref f25) = true)
    (a26 : PySem.W.nsIn K mainGlobals "counts_of" = some (some (.ref f26)))
    (l26 : K.lookup f26 = some ⟨oc26, od26, .func (PySem.W.fnOf "counts_of" "counts_of" (defArgs s_counts_of) (defBody s_counts_of) (defScope s_counts_of) .none kV26 dc26 pm26 an26 cd26 ct26), sl26⟩)
    (c26 : PySem.W.codeIn K cd26 "counts_of" = true)
    (k26 : PySem.W.keepIn K (.ref f26) = true)
    (a27 : PySem.W.nsIn K mainGlobals "turned_counts" = some (some (.ref f27)))
    (l27 : K.lookup f27 = some ⟨oc27, od27, .func (PySem.W.fnOf "turned_counts" "turned_counts" (defArgs s_turned_counts) (defBody s_turned_counts) (defScope s_turned_counts) .none kV27 dc27 pm27 an27 cd27 ct27), sl27⟩)
    (c27 : PySem.W.codeIn K cd27 "turned_counts" = true)
    (k27 : PySem.W.keepIn K (.ref f27) = true)
    (a28 : PySem.W.nsIn K mainGlobals "most_turned" = some (some (.ref f28)))
    (l28 : K.lookup f28 = some ⟨oc28, od28, .func (PySem.W.fnOf "most_turned" "most_turned" (defArgs s_most_turned) (defBody s_most_turned) (defScope s_most_turned) .none kV28 dc28 pm28 an28 cd28 ct28), sl28⟩)
    (c28 : PySem.W.codeIn K cd28 "most_turned" = true)
    (k28 : PySem.W.keepIn K (.ref f28) = true)
    (a29 : PySem.W.nsIn K mainGlobals "firsts" = some (some (.ref f29)))
    (l29 : K.lookup f29 = some ⟨oc29, od29, .func (PySem.W.fnOf "firsts" "firsts" (defArgs s_firsts) (defBody s_firsts) (defScope s_firsts) .none kV29 dc29 pm29 an29 cd29 ct29), sl29⟩)
    (c29 : PySem.W.codeIn K cd29 "firsts" = true)
    (k29 : PySem.W.keepIn K (.ref f29) = true)
    (a30 : PySem.W.nsIn K mainGlobals "below" = some (some (.ref f30)))
    (l30 : K.lookup f30 = some ⟨oc30, od30, .func (PySem.W.fnOf "below" "below" (defArgs s_below) (defBody s_below) (defScope s_below) .none kV30 dc30 pm30 an30 cd30 ct30), sl30⟩)
    (c30 : PySem.W.codeIn K cd30 "below" = true)
    (k30 : PySem.W.keepIn K (.ref f30) = true)
    (a31 : PySem.W.nsIn K mainGlobals "peeled" = some (some (.ref f31)))
    (l31 : K.lookup f31 = some ⟨oc31, od31, .func (PySem.W.fnOf "peeled" "peeled" (defArgs s_peeled) (defBody s_peeled) (defScope s_peeled) .none kV31 dc31 pm31 an31 cd31 ct31), sl31⟩)
    (c31 : PySem.W.codeIn K cd31 "peeled" = true)
    (k31 : PySem.W.keepIn K (.ref f31) = true)
    (a32 : PySem.W.nsIn K mainGlobals "by_counts" = some (some (.ref f32)))
    (l32 : K.lookup f32 = some ⟨oc32, od32, .func (PySem.W.fnOf "by_counts" "by_counts" (defArgs s_by_counts) (defBody s_by_counts) (defScope s_by_counts) .none kV32 dc32 pm32 an32 cd32 ct32), sl32⟩)
    (c32 : PySem.W.codeIn K cd32 "by_counts" = true)
    (k32 : PySem.W.keepIn K (.ref f32) = true)
    (a33 : PySem.W.nsIn K mainGlobals "back_of" = some (some (.ref f33)))
    (l33 : K.lookup f33 = some ⟨oc33, od33, .func (PySem.W.fnOf "back_of" "back_of" (defArgs s_back_of) (defBody s_back_of) (defScope s_back_of) .none kV33 dc33 pm33 an33 cd33 ct33), sl33⟩)
    (c33 : PySem.W.codeIn K cd33 "back_of" = true)
    (k33 : PySem.W.keepIn K (.ref f33) = true)
    (a34 : PySem.W.nsIn K mainGlobals "check_two" = some (some (.ref f34)))
    (l34 : K.lookup f34 = some ⟨oc34, od34, .func (PySem.W.fnOf "check_two" "check_two" (defArgs s_check_two) (defBody s_check_two) (defScope s_check_two) .none kV34 dc34 pm34 an34 cd34 ct34), sl34⟩)
    (c34 : PySem.W.codeIn K cd34 "check_two" = true)
    (k34 : PySem.W.keepIn K (.ref f34) = true)
    (a35 : PySem.W.nsIn K mainGlobals "are_alike" = some (some (.ref f35)))
    (l35 : K.lookup f35 = some ⟨oc35, od35, .func (PySem.W.fnOf "are_alike" "are_alike" (defArgs s_are_alike) (defBody s_are_alike) (defScope s_are_alike) .none kV35 dc35 pm35 an35 cd35 ct35), sl35⟩)
    (c35 : PySem.W.codeIn K cd35 "are_alike" = true)
    (k35 : PySem.W.keepIn K (.ref f35) = true)
    (a36 : PySem.W.nsIn K mainGlobals "sizes_back" = some (some (.ref f36)))
    (l36 : K.lookup f36 = some ⟨oc36, od36, .func (PySem.W.fnOf "sizes_back" "sizes_back" (defArgs s_sizes_back) (defBody s_sizes_back) (defScope s_sizes_back) .none kV36 dc36 pm36 an36 cd36 ct36), sl36⟩)
    (c36 : PySem.W.codeIn K cd36 "sizes_back" = true)
    (k36 : PySem.W.keepIn K (.ref f36) = true)
    (a37 : PySem.W.nsIn K mainGlobals "code_of" = some (some (.ref f37)))
    (l37 : K.lookup f37 = some ⟨oc37, od37, .func (PySem.W.fnOf "code_of" "code_of" (defArgs s_code_of) (defBody s_code_of) (defScope s_code_of) .none kV37 dc37 pm37 an37 cd37 ct37), sl37⟩)
    (c37 : PySem.W.codeIn K cd37 "code_of" = true)
    (k37 : PySem.W.keepIn K (.ref f37) = true)
    (a38 : PySem.W.nsIn K mainGlobals "by_code" = some (some (.ref f38)))
    (l38 : K.lookup f38 = some ⟨oc38, od38, .func (PySem.W.fnOf "by_code" "by_code" (defArgs s_by_code) (defBody s_by_code) (defScope s_by_code) .none kV38 dc38 pm38 an38 cd38 ct38), sl38⟩)
    (c38 : PySem.W.codeIn K cd38 "by_code" = true)
    (k38 : PySem.W.keepIn K (.ref f38) = true)
    (a39 : PySem.W.nsIn K mainGlobals "plain" = some (some (.ref f39)))
    (l39 : K.lookup f39 = some ⟨oc39, od39, .func (PySem.W.fnOf "plain" "plain" (defArgs s_plain) (defBody s_plain) (defScope s_plain) .none kV39 dc39 pm39 an39 cd39 ct39), sl39⟩)
    (c39 : PySem.W.codeIn K cd39 "plain" = true)
    (k39 : PySem.W.keepIn K (.ref f39) = true)
    (a40 : PySem.W.nsIn K mainGlobals "_law_near" = some (some (.ref f40)))
    (l40 : K.lookup f40 = some ⟨oc40, od40, .func (PySem.W.fnOf "_law_near" "_law_near" (defArgs s__law_near) (defBody s__law_near) (defScope s__law_near) .none kV40 dc40 pm40 an40 cd40 ct40), sl40⟩)
    (c40 : PySem.W.codeIn K cd40 "_law_near" = true)
    (k40 : PySem.W.keepIn K (.ref f40) = true)
    (a41 : PySem.W.nsIn K mainGlobals "_law_first_right" = some (some (.ref f41)))
    (l41 : K.lookup f41 = some ⟨oc41, od41, .func (PySem.W.fnOf "_law_first_right" "_law_first_right" (defArgs s__law_first_right) (defBody s__law_first_right) (defScope s__law_first_right) .none kV41 dc41 pm41 an41 cd41 ct41), sl41⟩)
    (c41 : PySem.W.codeIn K cd41 "_law_first_right" = true)
    (k41 : PySem.W.keepIn K (.ref f41) = true)
    (a42 : PySem.W.nsIn K mainGlobals "_law_right" = some (some (.ref f42)))
    (l42 : K.lookup f42 = some ⟨oc42, od42, .func (PySem.W.fnOf "_law_right" "_law_right" (defArgs s__law_right) (defBody s__law_right) (defScope s__law_right) .none kV42 dc42 pm42 an42 cd42 ct42), sl42⟩)
    (c42 : PySem.W.codeIn K cd42 "_law_right" = true)
    (k42 : PySem.W.keepIn K (.ref f42) = true)
    (a43 : PySem.W.nsIn K mainGlobals "law" = some (some (.ref f43)))
    (l43 : K.lookup f43 = some ⟨oc43, od43, .func (PySem.W.fnOf "law" "law" (defArgs s_law) (defBody s_law) (defScope s_law) .none kV43 dc43 pm43 an43 cd43 ct43), sl43⟩)
    (c43 : PySem.W.codeIn K cd43 "law" = true)
    (k43 : PySem.W.keepIn K (.ref f43) = true)
    (z_len : PySem.W.nsIn K mainGlobals "len" = some none)
    (z_range : PySem.W.nsIn K mainGlobals "range" = some none)
    (z_enumerate : PySem.W.nsIn K mainGlobals "enumerate" = some none)
    (z_isinstance : PySem.W.nsIn K mainGlobals "isinstance" = some none)
    (z_int : PySem.W.nsIn K mainGlobals "int" = some none)
    (z_bool : PySem.W.nsIn K mainGlobals "bool" = some none)
    (z_tuple : PySem.W.nsIn K mainGlobals "tuple" = some none)
    (z_list : PySem.W.nsIn K mainGlobals "list" = some none)
    (z_str : PySem.W.nsIn K mainGlobals "str" = some none)
    (z_set : PySem.W.nsIn K mainGlobals "set" = some none)
    (z_all : PySem.W.nsIn K mainGlobals "all" = some none)
    (z_any : PySem.W.nsIn K mainGlobals "any" = some none)
    (z_sum : PySem.W.nsIn K mainGlobals "sum" = some none)
    (z_abs : PySem.W.nsIn K mainGlobals "abs" = some none)
    (z_max : PySem.W.nsIn K mainGlobals "max" = some none)
    (z_min : PySem.W.nsIn K mainGlobals "min" = some none)
    (z_sorted : PySem.W.nsIn K mainGlobals "sorted" = some none)
    (z_zip : PySem.W.nsIn K mainGlobals "zip" = some none)
    : ∃ fd : FuncData, (∀ (s : Shared) (v : Value), BindsTo s fd ⟨[v], []⟩ [("script", v)]) ∧ ∀ base : Heap, K.In base → base.Ns mainGlobals mg → FnOk l.prog w K mg base CX0 27 fa fd ["script"] (sp_law K) := by
  have ela := hfa.symm.trans (PySem.W.mg_of X G a43)
  cases ela
  have B : Bu mg := ⟨PySem.W.mg_none_of X G z_len, PySem.W.mg_none_of X G z_range, PySem.W.mg_none_of X G z_enumerate, PySem.W.mg_none_of X G z_isinstance, PySem.W.mg_none_of X G z_int, PySem.W.mg_none_of X G z_bool, PySem.W.mg_none_of X G z_tuple, PySem.W.mg_none_of X G z_list, PySem.W.mg_none_of X G z_str, PySem.W.mg_none_of X G z_set, PySem.W.mg_none_of X G z_all, PySem.W.mg_none_of X G z_any, PySem.W.mg_none_of X G z_sum, PySem.W.mg_none_of X G z_abs, PySem.W.mg_none_of X G z_max, PySem.W.mg_none_of X G z_min, PySem.W.mg_none_of X G z_sorted, PySem.W.mg_none_of X G z_zip⟩
  have D1 : De K mg "is_integer" s_is_integer ["value", "least", "most"] := ⟨f1, _, fun_mk (st := s_is_integer) l1 c1 k1, PySem.W.mg_of X G a1, ((fun_mk (st := s_is_integer) l1 c1 k1).binds (ps := ["value", "least", "most"]) fun _ _ _ _ _ _ us hl => match us, hl with | [_, _, _], _ => rfl)⟩
  have D2 : De K mg "factorial" s_factorial ["number"] := ⟨f2, _, fun_mk (st := s_factorial) l2 c2 k2, PySem.W.mg_of X G a2, ((fun_mk (st := s_factorial) l2 c2 k2).binds (ps := ["number"]) fun _ _ _ _ _ _ us hl => match us, hl with | [_], _ => rfl)⟩
  have D3 : De K mg "is_rooted" s_is_rooted ["forest"] := ⟨f3, _, fun_mk (st := s_is_rooted) l3 c3 k3, PySem.W.mg_of X G a3, ((fun_mk (st := s_is_rooted) l3 c3 k3).binds (ps := ["forest"]) fun _ _ _ _ _ _ us hl => match us, hl with | [_], _ => rfl)⟩
  have D4 : De K mg "is_forest" s_is_forest ["value"] := ⟨f4, _, fun_mk (st := s_is_forest) l4 c4 k4, PySem.W.mg_of X G a4, ((fun_mk (st := s_is_forest) l4 c4 k4).binds (ps := ["value"]) fun _ _ _ _ _ _ us hl => match us, hl with | [_], _ => rfl)⟩
  have D5 : De K mg "check_forest" s_check_forest ["forest"] := ⟨f5, _, fun_mk (st := s_check_forest) l5 c5 k5, PySem.W.mg_of X G a5, ((fun_mk (st := s_check_forest) l5 c5 k5).binds (ps := ["forest"]) fun _ _ _ _ _ _ us hl => match us, hl with | [_], _ => rfl)⟩
  have D6 : De K mg "check_thing" s_check_thing ["forest", "thing"] := ⟨f6, _, fun_mk (st := s_check_thing) l6 c6 k6, PySem.W.mg_of X G a6, ((fun_mk (st := s_check_thing) l6 c6 k6).binds (ps := ["forest", "thing"]) fun _ _ _ _ _ _ us hl => match us, hl with | [_, _], _ => rfl)⟩
  have D7 : De K mg "above_of" s_above_of ["forest", "thing"] := ⟨f7, _, fun_mk (st := s_above_of) l7 c7 k7, PySem.W.mg_of X G a7, ((fun_mk (st := s_above_of) l7 c7 k7).binds (ps := ["forest", "thing"]) fun _ _ _ _ _ _ us hl => match us, hl with | [_, _], _ => rfl)⟩
  have D8 : De K mg "held_of" s_held_of ["forest", "holder"] := ⟨f8, _, fun_mk (st := s_held_of) l8 c8 k8, PySem.W.mg_of X G a8, ((fun_mk (st := s_held_of) l8 c8 k8).binds (ps := ["forest", "holder"]) fun _ _ _ _ _ _ us hl => match us, hl with | [_, _], _ => rfl)⟩
  have D9 : De K mg "sizes_of" s_sizes_of ["forest"] := ⟨f9, _, fun_mk (st := s_sizes_of) l9 c9 k9, PySem.W.mg_of X G a9, ((fun_mk (st := s_sizes_of) l9 c9 k9).binds (ps := ["forest"]) fun _ _ _ _ _ _ us hl => match us, hl with | [_], _ => rfl)⟩
  have D10 : De K mg "sizes" s_sizes ["forest"] := ⟨f10, _, fun_mk (st := s_sizes) l10 c10 k10, PySem.W.mg_of X G a10, ((fun_mk (st := s_sizes) l10 c10 k10).binds (ps := ["forest"]) fun _ _ _ _ _ _ us hl => match us, hl with | [_], _ => rfl)⟩
  have D11 : De K mg "walk_of" s_walk_of ["forest"] := ⟨f11, _, fun_mk (st := s_walk_of) l11 c11 k11, PySem.W.mg_of X G a11, ((fun_mk (st := s_walk_of) l11 c11 k11).binds (ps := ["forest"]) fun _ _ _ _ _ _ us hl => match us, hl with | [_], _ => rfl)⟩
  have D12 : De K mg "walk" s_walk ["forest"] := ⟨f12, _, fun_mk (st := s_walk) l12 c12 k12, PySem.W.mg_of X G a12, ((fun_mk (st := s_walk) l12 c12 k12).binds (ps := ["forest"]) fun _ _ _ _ _ _ us hl => match us, hl with | [_], _ => rfl)⟩
  have D13 : De K mg "moved" s_moved ["forest", "many"] := ⟨f13, _, fun_mk (st := s_moved) l13 c13 k13, PySem.W.mg_of X G a13, ((fun_mk (st := s_moved) l13 c13 k13).binds (ps := ["forest", "many"]) fun _ _ _ _ _ _ us hl => match us, hl with | [_, _], _ => rfl)⟩
  have D14 : De K mg "renamed" s_renamed ["forest", "things"] := ⟨f14, _, fun_mk (st := s_renamed) l14 c14 k14, PySem.W.mg_of X G a14, ((fun_mk (st := s_renamed) l14 c14 k14).binds (ps := ["forest", "things"]) fun _ _ _ _ _ _ us hl => match us, hl with | [_, _], _ => rfl)⟩
  have D15 : De K mg "beside" s_beside ["forest", "other"] := ⟨f15, _, fun_mk (st := s_beside) l15 c15 k15, PySem.W.mg_of X G a15, ((fun_mk (st := s_beside) l15 c15 k15).binds (ps := ["forest", "other"]) fun _ _ _ _ _ _ us hl => match us, hl with | [_, _], _ => rfl)⟩
  have D16 : De K mg "without" s_without ["forest", "thing"] := ⟨f16, _, fun_mk (st := s_without) l16 c16 k16, PySem.W.mg_of X G a16, ((fun_mk (st := s_without) l16 c16 k16).binds (ps := ["forest", "thing"]) fun _ _ _ _ _ _ us hl => match us, hl with | [_, _], _ => rfl)⟩
  have D17 : De K mg "count_by" s_count_by ["row"] := ⟨f17, _, fun_mk (st := s_count_by) l17 c17 k17, PySem.W.mg_of X G a17, ((fun_mk (st := s_count_by) l17 c17 k17).binds (ps := ["row"]) fun _ _ _ _ _ _ us hl => match us, hl with | [_], _ => rfl)⟩
  have D18 : De K mg "count_of" s_count_of ["forest"] := ⟨f18, _, fun_mk (st := s_count_of) l18 c18 k18, PySem.W.mg_of X G a18, ((fun_mk (st := s_count_of) l18 c18 k18).binds (ps := ["forest"]) fun _ _ _ _ _ _ us hl => match us, hl with | [_], _ => rfl)⟩
  have D19 : De K mg "count_sequences" s_count_sequences ["forest"] := ⟨f19, _, fun_mk (st := s_count_sequences) l19 c19 k19, PySem.W.mg_of X G a19, ((fun_mk (st := s_count_sequences) l19 c19 k19).binds (ps := ["forest"]) fun _ _ _ _ _ _ us hl => match us, hl with | [_], _ => rfl)⟩
  have D20 : De K mg "_law_well" s__law_well ["script", "at"] := ⟨f20, _, fun_mk (st := s__law_well) l20 c20 k20, PySem.W.mg_of X G a20, ((fun_mk (st := s__law_well) l20 c20 k20).binds (ps := ["script", "at"]) fun _ _ _ _ _ _ us hl => match us, hl with | [_, _], _ => rfl)⟩
  have D21 : De K mg "_law_draw" s__law_draw ["well", "most"] := ⟨f21, _, fun_mk (st := s__law_draw) l21 c21 k21, PySem.W.mg_of X G a21, ((fun_mk (st := s__law_draw) l21 c21 k21).binds (ps := ["well", "most"]) fun _ _ _ _ _ _ us hl => match us, hl with | [_, _], _ => rfl)⟩
  have D22 : De K mg "_law_forest" s__law_forest ["well", "most"] := ⟨f22, _, fun_mk (st := s__law_forest) l22 c22 k22, PySem.W.mg_of X G a22, ((fun_mk (st := s__law_forest) l22 c22 k22).binds (ps := ["well", "most"]) fun _ _ _ _ _ _ us hl => match us, hl with | [_, _], _ => rfl)⟩
  have D23 : De K mg "times_gap" s_times_gap ["counts", "many"] := ⟨f23, _, fun_mk (st := s_times_gap) l23 c23 k23, PySem.W.mg_of X G a23, ((fun_mk (st := s_times_gap) l23 c23 k23).binds (ps := ["counts", "many"]) fun _ _ _ _ _ _ us hl => match us, hl with | [_, _], _ => rfl)⟩
  have D24 : De K mg "by_gap" s_by_gap ["counts", "many"] := ⟨f24, _, fun_mk (st := s_by_gap) l24 c24 k24, PySem.W.mg_of X G a24, ((fun_mk (st := s_by_gap) l24 c24 k24).binds (ps := ["counts", "many"]) fun _ _ _ _ _ _ us hl => match us, hl with | [_, _], _ => rfl)⟩
  have D25 : De K mg "greatest_of" s_greatest_of ["forest"] := ⟨f25, _, fun_mk (st := s_greatest_of) l25 c25 k25, PySem.W.mg_of X G a25, ((fun_mk (st := s_greatest_of) l25 c25 k25).binds (ps := ["forest"]) fun _ _ _ _ _ _ us hl => match us, hl with | [_], _ => rfl)⟩
  have D26 : De K mg "counts_of" s_counts_of ["forest"] := ⟨f26, _, fun_mk (st := s_counts_of) l26 c26 k26, PySem.W.mg_of X G a26, ((fun_mk (st := s_counts_of) l26 c26 k26).binds (ps := ["forest"]) fun _ _ _ _ _ _ us hl => match us, hl with | [_], _ => rfl)⟩
  have D27 : De K mg "turned_counts" s_turned_counts ["forest"] := ⟨f27, _, fun_mk (st := s_turned_counts) l27 c27 k27, PySem.W.mg_of X G a27, ((fun_mk (st := s_turned_counts) l27 c27 k27).binds (ps := ["forest"]) fun _ _ _ _ _ _ us hl => match us, hl with | [_], _ => rfl)⟩
  have D28 : De K mg "most_turned" s_most_turned ["forest"] := ⟨f28, _, fun_mk (st := s_most_turned) l28 c28 k28, PySem.W.mg_of X G a28, ((fun_mk (st := s_most_turned) l28 c28 k28).binds (ps := ["forest"]) fun _ _ _ _ _ _ us hl => match us, hl with | [_], _ => rfl)⟩
  have D29 : De K mg "firsts" s_firsts ["forest"] := ⟨f29, _, fun_mk (st := s_firsts) l29 c29 k29, PySem.W.mg_of X G a29, ((fun_mk (st := s_firsts) l29 c29 k29).binds (ps := ["forest"]) fun _ _ _ _ _ _ us hl => match us, hl with | [_], _ => rfl)⟩
  have D30 : De K mg "below" s_below ["forest", "thing"] := ⟨f30, _, fun_mk (st := s_below) l30 c30 k30, PySem.W.mg_of X G a30, ((fun_mk (st := s_below) l30 c30 k30).binds (ps := ["forest", "thing"]) fun _ _ _ _ _ _ us hl => match us, hl with | [_, _], _ => rfl)⟩
  have D31 : De K mg "peeled" s_peeled ["row", "many"] := ⟨f31, _, fun_mk (st := s_peeled) l31 c31 k31, PySem.W.mg_of X G a31, ((fun_mk (st := s_peeled) l31 c31 k31).binds (ps := ["row", "many"]) fun _ _ _ _ _ _ us hl => match us, hl with | [_, _], _ => rfl)⟩
  have D32 : De K mg "by_counts" s_by_counts ["row", "counts"] := ⟨f32, _, fun_mk (st := s_by_counts) l32 c32 k32, PySem.W.mg_of X G a32, ((fun_mk (st := s_by_counts) l32 c32 k32).binds (ps := ["row", "counts"]) fun _ _ _ _ _ _ us hl => match us, hl with | [_, _], _ => rfl)⟩
  have D33 : De K mg "back_of" s_back_of ["counts", "many"] := ⟨f33, _, fun_mk (st := s_back_of) l33 c33 k33, PySem.W.mg_of X G a33, ((fun_mk (st := s_back_of) l33 c33 k33).binds (ps := ["counts", "many"]) fun _ _ _ _ _ _ us hl => match us, hl with | [_, _], _ => rfl)⟩
  have D34 : De K mg "check_two" s_check_two ["forest", "other"] := ⟨f34, _, fun_mk (st := s_check_two) l34 c34 k34, PySem.W.mg_of X G a34, ((fun_mk (st := s_check_two) l34 c34 k34).binds (ps := ["forest", "other"]) fun _ _ _ _ _ _ us hl => match us, hl with | [_, _], _ => rfl)⟩
  have D35 : De K mg "are_alike" s_are_alike ["forest", "other"] := ⟨f35, _, fun_mk (st := s_are_alike) l35 c35 k35, PySem.W.mg_of X G a35, ((fun_mk (st := s_are_alike) l35 c35 k35).binds (ps := ["forest", "other"]) fun _ _ _ _ _ _ us hl => match us, hl with | [_, _], _ => rfl)⟩
  have D36 : De K mg "sizes_back" s_sizes_back ["counts", "many"] := ⟨f36, _, fun_mk (st := s_sizes_back) l36 c36 k36, PySem.W.mg_of X G a36, ((fun_mk (st := s_sizes_back) l36 c36 k36).binds (ps := ["counts", "many"]) fun _ _ _ _ _ _ us hl => match us, hl with | [_, _], _ => rfl)⟩
  have D37 : De K mg "code_of" s_code_of ["forest", "thing", "depth"] := ⟨f37, _, fun_mk (st := s_code_of) l37 c37 k37, PySem.W.mg_of X G a37, ((fun_mk (st := s_code_of) l37 c37 k37).binds (ps := ["forest", "thing", "depth"]) fun _ _ _ _ _ _ us hl => match us, hl with | [_, _, _], _ => rfl)⟩
  have D38 : De K mg "by_code" s_by_code ["code"] := ⟨f38, _, fun_mk (st := s_by_code) l38 c38 k38, PySem.W.mg_of X G a38, ((fun_mk (st := s_by_code) l38 c38 k38).binds (ps := ["code"]) fun _ _ _ _ _ _ us hl => match us, hl with | [_], _ => rfl)⟩
  have D39 : De K mg "plain" s_plain ["forest"] := ⟨f39, _, fun_mk (st := s_plain) l39 c39 k39, PySem.W.mg_of X G a39, ((fun_mk (st := s_plain) l39 c39 k39).binds (ps := ["forest"]) fun _ _ _ _ _ _ us hl => match us, hl with | [_], _ => rfl)⟩
  have D40 : De K mg "_law_near" s__law_near ["well", "plan"] := ⟨f40, _, fun_mk (st := s__law_near) l40 c40 k40, PySem.W.mg_of X G a40, ((fun_mk (st := s__law_near) l40 c40 k40).binds (ps := ["well", "plan"]) fun _ _ _ _ _ _ us hl => match us, hl with | [_, _], _ => rfl)⟩
  have D41 : De K mg "_law_first_right" s__law_first_right ["plan", "line"] := ⟨f41, _, fun_mk (st := s__law_first_right) l41 c41 k41, PySem.W.mg_of X G a41, ((fun_mk (st := s__law_first_right) l41 c41 k41).binds (ps := ["plan", "line"]) fun _ _ _ _ _ _ us hl => match us, hl with | [_, _], _ => rfl)⟩
  have D42 : De K mg "_law_right" s__law_right ["well", "plan", "mate"] := ⟨f42, _, fun_mk (st := s__law_right) l42 c42 k42, PySem.W.mg_of X G a42, ((fun_mk (st := s__law_right) l42 c42 k42).binds (ps := ["well", "plan", "mate"]) fun _ _ _ _ _ _ us hl => match us, hl with | [_, _, _], _ => rfl)⟩
  have D43 := fun_mk (st := s_law) l43 c43 k43
  refine ⟨PySem.W.fnOf "law" "law" (defArgs s_law) (defBody s_law) (defScope s_law) .none kV43 dc43 pm43 an43 cd43 ct43, fun s v => .of_eq rfl, fun base _ _ => ?_⟩
  have c_is_integer := Hb.c_is_integer (P := l.prog) (w := w) (base := base) (D := D1) (B := B)
  have c_factorial := Hb.c_factorial (P := l.prog) (w := w) (base := base) (D := D2) (B := B)
  have c_is_rooted := Hb.c_is_rooted (P := l.prog) (w := w) (base := base) (D := D3) (B := B)
  have c_is_forest := Hb.c_is_forest (P := l.prog) (w := w) (base := base) (D := D4) (B := B) (c_is_integer := c_is_integer) (c_is_rooted := c_is_rooted)
  have c_check_forest := Hb.c_check_forest (P := l.prog) (w := w) (base := base) (D := D5) (B := B) (c_is_forest := c_is_forest)
  have c_check_thing := Hb.c_check_thing (P := l.prog) (w := w) (base := base) (D := D6) (B := B) (c_is_integer := c_is_integer)
  have c_above_of := Hb.c_above_of (P := l.prog) (w := w) (base := base) (D := D7) (B := B)
  have c_held_of := Hb.c_held_of (P := l.prog) (w := w) (base := base) (D := D8) (B := B)
  have c_sizes_of := Hb.c_sizes_of (P := l.prog) (w := w) (base := base) (D := D9) (B := B) (c_above_of := c_above_of)
  have c_sizes := Hb.c_sizes (P := l.prog) (w := w) (base := base) (D := D10) (c_check_forest := c_check_forest) (c_sizes_of := c_sizes_of)
  have c_walk_of := Hb.c_walk_of (P := l.prog) (w := w) (base := base) (D := D11) (B := B) (c_held_of := c_held_of)
  have c_walk := Hb.c_walk (P := l.prog) (w := w) (base := base) (D := D12) (c_check_forest := c_check_forest) (c_walk_of := c_walk_of)
  have c_moved := Hb.c_moved (P := l.prog) (w := w) (base := base) (D := D13) (B := B)
  have c_renamed := Hb.c_renamed (P := l.prog) (w := w) (base := base) (D := D14) (B := B)
  have c_beside := Hb.c_beside (P := l.prog) (w := w) (base := base) (D := D15) (B := B) (c_check_forest := c_check_forest) (c_moved := c_moved)
  have c_without := Hb.c_without (P := l.prog) (w := w) (base := base) (D := D16) (B := B) (c_check_forest := c_check_forest) (c_check_thing := c_check_thing) (c_renamed := c_renamed)
  have c_count_by := Hb.c_count_by (P := l.prog) (w := w) (base := base) (D := D17) (B := B) (c_factorial := c_factorial)
  have c_count_of := Hb.c_count_of (P := l.prog) (w := w) (base := base) (D := D18) (c_sizes_of := c_sizes_of) (c_count_by := c_count_by)
  have c_count_sequences := Hb.c_count_sequences (P := l.prog) (w := w) (base := base) (D := D19) (c_check_forest := c_check_forest) (c_count_of := c_count_of)
  have c__law_well := Hb.c_law_well (P := l.prog) (w := w) (base := base) (D := D20) (B := B)
  have c__law_draw := Hb.c_law_draw (P := l.prog) (w := w) (base := base) (D := D21) (B := B)
  have c__law_forest := Hb.c_law_forest (P := l.prog) (w := w) (base := base) (D := D22) (B := B) (c__law_draw := c__law_draw)
  have c_times_gap := Hb.c_times_gap (P := l.prog) (w := w) (base := base) (D := D23) (B := B)
  have c_by_gap := Hb.c_by_gap (P := l.prog) (w := w) (base := base) (D := D24) (B := B)
  have c_greatest_of := Hb.c_greatest_of (P := l.prog) (w := w) (base := base) (D := D25) (B := B) (c_sizes_of := c_sizes_of) (c_above_of := c_above_of)
  have c_counts_of := Hb.c_counts_of (P := l.prog) (w := w) (base := base) (D := D26) (B := B) (c_greatest_of := c_greatest_of) (c_sizes_of := c_sizes_of) (c_times_gap := c_times_gap) (c_by_gap := c_by_gap)
  have c_turned_counts := Hb.c_turned_counts (P := l.prog) (w := w) (base := base) (D := D27) (c_check_forest := c_check_forest) (c_counts_of := c_counts_of)
  have c_most_turned := Hb.c_most_turned (P := l.prog) (w := w) (base := base) (D := D28) (c_check_forest := c_check_forest) (c_greatest_of := c_greatest_of)
  have c_firsts := Hb.c_firsts (P := l.prog) (w := w) (base := base) (D := D29) (c_check_forest := c_check_forest) (c_held_of := c_held_of)
  have c_below := Hb.c_below (P := l.prog) (w := w) (base := base) (D := D30) (B := B) (c_check_forest := c_check_forest) (c_check_thing := c_check_thing) (c_above_of := c_above_of)
  have c_peeled := Hb.c_peeled (P := l.prog) (w := w) (base := base) (D := D31) (B := B) (c_by_gap := c_by_gap)
  have c_by_counts := Hb.c_by_counts (P := l.prog) (w := w) (base := base) (D := D32) (B := B)
  have c_back_of := Hb.c_back_of (P := l.prog) (w := w) (base := base) (D := D33) (B := B) (c_times_gap := c_times_gap) (c_by_counts := c_by_counts) (c_peeled := c_peeled)
  have c_check_two := Hb.c_check_two (P := l.prog) (w := w) (base := base) (D := D34) (c_check_forest := c_check_forest)
  have c_are_alike := Hb.c_are_alike (P := l.prog) (w := w) (base := base) (D := D35) (B := B) (c_check_two := c_check_two) (c_sizes_of := c_sizes_of)
  have c_sizes_back := Hb.c_sizes_back (P := l.prog) (w := w) (base := base) (D := D36) (B := B) (c_is_integer := c_is_integer) (c_back_of := c_back_of)
  have c_code_of := Hb.c_code_of (P := l.prog) (w := w) (base := base) (D := D37) (B := B) (c_held_of := c_held_of) 21
  have c_by_code := Hb.c_by_code (P := l.prog) (w := w) (base := base) (D := D38) (B := B)
  have c_plain := Hb.c_plain (P := l.prog) (w := w) (base := base) (D := D39) (c_check_forest := c_check_forest) (c_code_of := c_code_of) (c_by_code := c_by_code)
  have c__law_near := Hb.c_law_near (P := l.prog) (w := w) (base := base) (D := D40) (B := B) (c__law_draw := c__law_draw) (c_below := c_below)
  have c__law_first_right := Hb.c_law_fr (P := l.prog) (w := w) (base := base) (D := D41) (B := B) (c_walk := c_walk) (c_firsts := c_firsts) (c_turned_counts := c_turned_counts) (c_without := c_without)
  have c__law_right := Hb.c_law_right (P := l.prog) (w := w) (base := base) (D := D42) (B := B) (c_turned_counts := c_turned_counts) (c_most_turned := c_most_turned) (c_count_sequences := c_count_sequences) (c_sizes_back := c_sizes_back) (c_sizes := c_sizes) (c__law_near := c__law_near) (c_plain := c_plain) (c_are_alike := c_are_alike) (c__law_first_right := c__law_first_right) (c_beside := c_beside)
  exact ok_law (P := l.prog) (w := w) (base := base) (D := D43) (B := B) (c__law_well := c__law_well) (c__law_forest := c__law_forest) (c__law_right := c__law_right)
theorem walk_end {l : PySem.W.OpenLaw} {q : Program} {loose : List Str} {XP : (Str → Option Value) → Heap → Prop} {YP : World → Heap → Prop} {d : DefRec} {K : Params → PySem.W.Frag} (hn : l.most = some 63) (hdf : d.params.defaults = [])
    (hY : ∀ (w : World) (h : Heap), YP w h → (K w.params).In h)
    (F : ∀ (w : World) (mg : Str → Option Value) (fa : Addr) (h : Heap), (K w.params).In h → h.Ns mainGlobals mg → mg d.name = some (.ref fa) →
      ∃ fd : FuncData, (∀ (s : Shared) (u : Value), BindsTo s fd ⟨[u], []⟩ [("script", u)]) ∧ ∀ base : Heap, (K w.params).In base → base.Ns mainGlobals mg → FnOk l.prog w (K w.params) mg base CX0 27 fa fd ["script"] (sp_law (K w.params))) :
    PySem.W.WalkO q loose XP YP l.row.toRowW d [] (fun f vs => PySem.call f vs) :=
  L2.walk_of (n := 63) (k := 27) (x := "script") (CX := fun _ => CX0) (sp := fun w => sp_law (K w.params)) hn (by decide) hdf ⟨rfl, by decide, by decide⟩ hY F (fun _ _ a ns hl _ hS => ⟨a, ns, rfl, hS, hl, fun _ => rfl⟩) fun _ _ _ _ _ z => z
end Hb
open PySem PySem.W PyProof.Rows in
set_option maxRecDepth 100000 in
set_option maxHeartbeats 0 in
theorem PySem.Challenge.cw_heldbehind_k69_whole_turned_pairs_by_siz_holds : PySem.Challenge.rw_heldbehind_k69_whole_turned_pairs_by_siz.Holds := by
  w_on; o_law; k_head; (case hw => w_witness2)
  k_fill
  refine Hb.walk_end (l := PySem.Challenge.rw_heldbehind_k69_whole_turned_pairs_by_siz) rfl rfl (fun w h Y => PySem.W.kIn_of Y) ?F
  case F =>
    intro w mg fa h KX G hmg
    refine' Hb.all_mk KX G hmg ?a1 ?l1 ?c1 ?k1 ?a2 ?l2 ?c2 ?k2 ?a3 ?l3 ?c3 ?k3 ?a4 ?l4 ?c4 ?k4 ?a5 ?l5 ?c5 ?k5 ?a6 ?l6 ?c6 ?k6 ?a7 ?l7 ?c7 ?k7 ?a8 ?l8 ?c8 ?k8 ?a9 ?l9 ?c9 ?k9 ?a10 ?l10 ?c10 ?k10 ?a11 ?l11 ?c11 ?k11 ?a12 ?l12 ?c12 ?k12 ?a13 ?l13 ?c13 ?k13 ?a14 ?l14 ?c14 ?k14 ?a15 ?l15 ?c15 ?k15 ?a16 ?l16 ?c16 ?k16 ?a17 ?l17 ?c17 ?k17 ?a18 ?l18 ?c18 ?k18 ?a19 ?l19 ?c19 ?k19 ?a20 ?l20 ?c20 ?k20 ?a21 ?l21 ?c21 ?k21 ?a22 ?l22 ?c22 ?k22 ?a23 ?l23 ?c23 ?k23 ?a24 ?l24 ?c24 ?k24 ?a25 ?l25 ?c25 ?k25 ?a26 ?l26 ?c26 ?k26 ?a27 ?l27 ?c27 ?k27 ?a28 ?l28 ?c28 ?k28 ?a29 ?l29 ?c29 ?k29 ?a30 ?l30 ?c30 ?k30 ?a31 ?l31 ?c31 ?k31 ?a32 ?l32 ?c32 ?k32 ?a33 ?l33 ?c33 ?k33 ?a34 ?l34 ?c34 ?k34 ?a35 ?l35 ?c35 ?k35 ?a36 ?l36 ?c36 ?k36 ?a37 ?l37 ?c37 ?k37 ?a38 ?l38 ?c38 ?k38 ?a39 ?l39 ?c39 ?k39 ?a40 ?l40 ?c40 ?k40 ?a41 ?l41 ?c41 ?k41 ?a42 ?l42 ?c42 ?k42 ?a43 ?l43 ?c43 ?k43 ?z_len ?z_range ?z_enumerate ?z_isinstance ?z_int ?z_bool ?z_tuple ?z_list ?z_str ?z_set ?z_all ?z_any ?z_sum ?z_abs ?z_max ?z_min ?z_sorted ?z_zip
    (case a1 => k_is)
    (case l1 => k_is)
    (case c1 => k_is)
    (case k1 => k_is)
    (case a2 => k_is)
    (case l2 => k_is)
    (case c2 => k_is)
    (case k2 => k_is)
    (case a3 => k_is)
    (case l3 => k_is)
    (case c3 => k_is)
    (case k3 => k_is)
    (case a4 => k_is)
    (case l4 => k_is)
    (case c4 => k_is)
    (case k4 => k_is)
    (case a5 => k_is)
    (case l5 => k_is)
    (case c5 => k_is)
    (case k5 => k_is)
    (case a6 => k_is)
    (case l6 => k_is)
    (case c6 => k_is)
    (case k6 => k_is)
    (case a7 => k_is)
    (case l7 => k_is)
    (case c7 => k_is)
    (case k7 => k_is)
    (case a8 => k_is)
    (case l8 => k_is)
    (case c8 => k_is)
    (case k8 => k_is)
    (case a9 => k_is)
    (case l9 => k_is)
    (case c9 => k_is)
    (case k9 => k_is)
    (case a10 => k_is)
    (case l10 => k_is)
    (case c10 => k_is)
    (case k10 => k_is)
    (case a11 => k_is)
    (case l11 => k_is)
    (case c11 => k_is)
    (case k11 => k_is)
    (case a12 => k_is)
    (case l12 => k_is)
    (case c12 => k_is)
    (case k12 => k_is)
    (case a13 => k_is)
    (case l13 => k_is)
    (case c13 => k_is)
    (case k13 => k_is)
    (case a14 => k_is)
    (case l14 => k_is)
    (case c14 => k_is)
    (case k14 => k_is)
    (case a15 => k_is)
    (case l15 => k_is)
    (case c15 => k_is)
    (case k15 => k_is)
    (case a16 => k_is)
    (case l16 => k_is)
    (case c16 => k_is)
    (case k16 => k_is)
    (case a17 => k_is)
    (case l17 => k_is)
    (case c17 => k_is)
    (case k17 => k_is)
    (case a18 => k_is)
    (case l18 => k_is)
    (case c18 => k_is)
    (case k18 => k_is)
    (case a19 => k_is)
    (case l19 => k_is)
    (case c19 => k_is)
    (case k19 => k_is)
    (case a20 => k_is)
    (case l20 => k_is)
    (case c20 => k_is)
    (case k20 => k_is)
    (case a21 => k_is)
    (case l21 => k_is)
    (case c21 => k_is)
    (case k21 => k_is)
    (case a22 => k_is)
    (case l22 => k_is)
    (case c22 => k_is)
    (case k22 => k_is)
    (case a23 => k_is)
    (case l23 => k_is)
    (case c23 => k_is)
    (case k23 => k_is)
    (case a24 => k_is)
    (case l24 => k_is)
    (case c24 => k_is)
    (case k24 => k_is)
    (case a25 => k_is)
    (case l25 => k_is)
    (case c25 => k_is)
    (case k25 => k_is)
    (case a26 => k_is)
    (case l26 => k_is)
    (case c26 => k_is)
    (case k26 => k_is)
    (case a27 => k_is)
    (case l27 => k_is)
    (case c27 => k_is)
    (case k27 => k_is)
    (case a28 => k_is)
    (case l28 => k_is)
    (case c28 => k_is)
    (case k28 => k_is)
    (case a29 => k_is)
    (case l29 => k_is)
    (case c29 => k_is)
    (case k29 => k_is)
    (case a30 => k_is)
    (case l30 => k_is)
    (case c30 => k_is)
    (case k30 => k_is)
    (case a31 => k_is)
    (case l31 => k_is)
    (case c31 => k_is)
    (case k31 => k_is)
    (case a32 => k_is)
    (case l32 => k_is)
    (case c32 => k_is)
    (case k32 => k_is)
    (case a33 => k_is)
    (case l33 => k_is)
    (case c33 => k_is)
    (case k33 => k_is)
    (case a34 => k_is)
    (case l34 => k_is)
    (case c34 => k_is)
    (case k34 => k_is)
    (case a35 => k_is)
    (case l35 => k_is)
    (case c35 => k_is)
    (case k35 => k_is)
    (case a36 => k_is)
    (case l36 => k_is)
    (case c36 => k_is)
    (case k36 => k_is)
    (case a37 => k_is)
    (case l37 => k_is)
    (case c37 => k_is)
    (case k37 => k_is)
    (case a38 => k_is)
    (case l38 => k_is)
    (case c38 => k_is)
    (case k38 => k_is)
    (case a39 => k_is)
    (case l39 => k_is)
    (case c39 => k_is)
    (case k39 => k_is)
    (case a40 => k_is)
    (case l40 => k_is)
    (case c40 => k_is)
    (case k40 => k_is)
    (case a41 => k_is)
    (case l41 => k_is)
    (case c41 => k_is)
    (case k41 => k_is)
    (case a42 => k_is)
    (case l42 => k_is)
    (case c42 => k_is)
    (case k42 => k_is)
    (case a43 => k_is)
    (case l43 => k_is)
    (case c43 => k_is)
    (case k43 => k_is)
    (case z_len => k_is)
    (case z_range => k_is)
    (case z_enumerate => k_is)
    (case z_isinstance => k_is)
    (case z_int => k_is)
    (case z_bool => k_is)
    (case z_tuple => k_is)
    (case z_list => k_is)
    (case z_str => k_is)
    (case z_set => k_is)
    (case z_all => k_is)
    (case z_any => k_is)
    (case z_sum => k_is)
    (case z_abs => k_is)
    (case z_max => k_is)
    (case z_min => k_is)
    (case z_sorted => k_is)
    (case z_zip => k_is)

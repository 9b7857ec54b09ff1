import PyProof.Rows.All
import Wide.All
import OpenK.AllK
import Wide.FinOn
import HandS.ForMost
import HandS.ForExc
import HandS.ExcCtx
import HandS.HotCalls
import HandS.ExcIs
import HandS.IsInst
import HandS.Deep
import HandS.Walk
import HandS.WordsDict
import PySem.Challenge.RW_cloak_k57_whole_purses
set_option Elab.async false
set_option maxRecDepth 100000
set_option maxHeartbeats 4000000
/-! the plain side: a ticket as it is kept, its text, the image; reading back gives it again -/
namespace K57
open PySem L2

structure It where
  e : Int
  n : Int
  t : List Int
  s : Int
  u : Int
  v : Int
  x : List Int
  deriving DecidableEq

def It.nums (i : It) : List Int := [i.e, i.n] ++ i.t ++ [i.s, i.u, i.v] ++ i.x
def num (z : Int) : Str := Str.ofString (toString z)
def joined (w : Str) (ns : List Int) : Str := Txt.join (Str.ofString " ") (w :: ns.map num)
def It.txt (i : It) : Str := joined (Str.ofString "ticket") i.nums
def img (l : List It) : Str := Txt.join (Str.ofString ";") (l.map It.txt)
/-- at most four digits -/
def Dig (z : Int) : Prop := 0 ≤ z ∧ z < 10000
structure It.Ok (i : It) : Prop where
  e0 : 0 ≤ i.e
  e3 : i.e < 3
  t6 : i.t.length = 6
  x4 : i.x.length = 4
  dig : ∀ z ∈ i.nums, Dig z

theorem num_nat {z : Int} (h : Dig z) : num z = Str.ofString (toString ((z.toNat : Nat) : Int)) := by
  unfold num
  rw [Int.toNat_of_nonneg h.1]
theorem tl_numz {z : Int} (h : Dig z) : TL.tl (num z) = TL.numL z.toNat := by
  rw [num_nat h, TL.tl_num]
theorem num_len {z : Int} (h : Dig z) : (num z).length ≤ 4 := by
  rw [TL.len_tl, tl_numz h]
  have q : z.toNat < 10 ^ 4 := by
    have h2 := h.2
    have h1 := h.1
    show z.toNat < 10000
    omega
  exact TL.numL_len (by decide) q
theorem num_pos {z : Int} (h : Dig z) : 0 < (num z).length := by
  rw [TL.len_tl, tl_numz h]
  exact List.length_pos_iff.mpr (TL.numL_ne _)
theorem num_sign {z : Int} (h : Dig z) {c : Nat} (hc : c ∈ TL.tl (num z)) : 48 ≤ c ∧ c ≤ 57 := by
  rw [tl_numz h] at hc
  exact TL.numL_digits _ c hc
theorem num_int {z : Int} (h : Dig z) : intText? (num z) = some z := by
  have q := num_len h
  rw [TL.len_tl, tl_numz h] at q
  have r := TL.int_num (n := z.toNat) (by omega)
  rw [num_nat h, r, Int.toNat_of_nonneg h.1]
theorem num_log {z : Int} (h : Dig z) : z.natAbs.log2 < 1920 := by
  have q : z.natAbs < 2 ^ 14 := by
    have h2 := h.2
    have h1 := h.1
    show z.natAbs < 16384
    omega
  by_cases e : z.natAbs = 0
  · rw [e]; decide
  · have := (Nat.log2_lt e).mpr q
    omega

/-! ### lengths -/
theorem joinL_len (S : List Nat) : ∀ ps : List (List Nat), (TL.joinL S ps).length ≤ (ps.map List.length).sum + ps.length * S.length
  | [] => Nat.zero_le _
  | [p] => by
    show p.length ≤ _
    simp
  | p :: q :: r => by
    have ih := joinL_len S (q :: r)
    show (p ++ (S ++ TL.joinL S (q :: r))).length ≤ _
    rw [List.length_append, List.length_append, List.map_cons, List.sum_cons]
    have e : (p :: q :: r).length * S.length = (q :: r).length * S.length + S.length := by
      rw [List.length_cons, Nat.add_mul, Nat.one_mul]
    omega
theorem join_len (y : Str) (ps : List Str) : (Txt.join y ps).length ≤ (ps.map (·.length)).sum + ps.length * y.length := by
  rw [TL.len_tl, TL.join_eq, TL.tl_join]
  refine Nat.le_trans (joinL_len _ _) ?_
  rw [List.map_map, List.length_map, ← TL.len_tl]
  have e : (List.length ∘ TL.tl) = fun z : Str => z.length := by
    funext z
    exact (TL.len_tl z).symm
  rw [e]
  exact Nat.le_refl _
theorem sum_le {α : Type} (f : α → Nat) (k : Nat) : ∀ l : List α, (∀ z ∈ l, f z ≤ k) → (l.map f).sum ≤ l.length * k
  | [], _ => by simp
  | a :: r, h => by
    have ih := sum_le f k r fun z hz => h z (List.mem_cons_of_mem _ hz)
    have h1 := h a (List.mem_cons_self ..)
    rw [List.map_cons, List.sum_cons, List.length_cons, Nat.add_mul, Nat.one_mul]
    omega
/-- the premise of a join of numbers -/
theorem nums_room {w : Str} {ns : List Int} (hw : w.length ≤ 100) (hl : ns.length ≤ 100) (hd : ∀ z ∈ ns, Dig z) :
    ((w :: ns.map num).map (·.length)).sum + (w :: ns.map num).length * (Str.ofString " ").length ≤ 100000 := by
  have e1 : (Str.ofString " ").length = 1 := by decide +kernel
  rw [e1, List.map_cons, List.sum_cons, List.map_map, List.length_cons, List.length_map]
  have q := sum_le ((fun z : Str => z.length) ∘ num) 4 ns fun z hz => num_len (hd z hz)
  omega
theorem joined_len {w : Str} {ns : List Int} (hw : w.length ≤ 100) (hl : ns.length ≤ 100) (hd : ∀ z ∈ ns, Dig z) : (joined w ns).length ≤ 100000 := Nat.le_trans (join_len _ _) (nums_room hw hl hd)
theorem img_room {l : List It} (hl : l.length ≤ 12) (h : ∀ i ∈ l, i.txt.length ≤ 100000) :
    ((l.map It.txt).map (·.length)).sum + (l.map It.txt).length * (Str.ofString ";").length ≤ 1300000 := by
  have e1 : (Str.ofString ";").length = 1 := by decide +kernel
  rw [e1, List.map_map, List.length_map]
  have q := sum_le ((fun z : Str => z.length) ∘ It.txt) 100000 l h
  have : l.length * 100000 ≤ 12 * 100000 := Nat.mul_le_mul_right _ hl
  omega
theorem It.Ok.len15 {i : It} (h : i.Ok) : i.nums.length = 15 := by
  unfold It.nums
  simp only [List.length_append, List.length_cons, List.length_nil, h.t6, h.x4]
theorem ticket_len : (Str.ofString "ticket").length = 6 := by decide +kernel
theorem It.Ok.room {i : It} (h : i.Ok) : i.txt.length ≤ 100000 := joined_len (by rw [ticket_len]; decide) (by rw [h.len15]; decide) h.dig
theorem img_len {l : List It} (hl : l.length ≤ 12) (h : ∀ i ∈ l, i.Ok) : (img l).length ≤ 1300000 :=
  Nat.le_trans (join_len _ _) (img_room hl fun i hi => (h i hi).room)

/-! ### reading back -/
theorem tl_sp : TL.tl (Str.ofString " ") = [32] := by decide +kernel
theorem tl_se : TL.tl (Str.ofString ";") = [59] := by decide +kernel
theorem tl_ti : TL.tl (Str.ofString "ticket") = [116, 105, 99, 107, 101, 116] := by decide +kernel
theorem split_txt {i : It} (h : i.Ok) : Txt.split i.txt (Str.ofString " ") = Str.ofString "ticket" :: i.nums.map num := by
  refine TL.split_join (s := 32) (S := []) tl_sp (by decide +kernel) (by simp) fun p hp => ?_
  rcases List.mem_cons.mp hp with e | hp
  · rw [e, tl_ti]; decide
  · obtain ⟨z, hz, e⟩ := List.mem_map.mp hp
    intro hm
    rw [← e] at hm
    have := num_sign (h.dig z hz) hm
    omega
theorem mem_joinL {S : List Nat} {c : Nat} : ∀ {ps : List (List Nat)}, c ∈ TL.joinL S ps → c ∈ S ∨ ∃ p ∈ ps, c ∈ p
  | [], h => by cases h
  | [p], h => .inr ⟨p, List.mem_cons_self .., h⟩
  | p :: q :: r, h => by
    have h : c ∈ p ++ (S ++ TL.joinL S (q :: r)) := h
    rcases List.mem_append.mp h with h | h
    · exact .inr ⟨p, List.mem_cons_self .., h⟩
    · rcases List.mem_append.mp h with h | h
      · exact .inl h
      · rcases mem_joinL h with z | ⟨y, hy, z⟩
        · exact .inl z
        · exact .inr ⟨y, List.mem_cons_of_mem _ hy, z⟩
theorem txt_free {i : It} (h : i.Ok) : 59 ∉ TL.tl i.txt := by
  intro hm
  have hm : 59 ∈ TL.tl (Txt.join (Str.ofString " ") (Str.ofString "ticket" :: i.nums.map num)) := hm
  rw [TL.join_eq, TL.tl_join] at hm
  rcases mem_joinL hm with z | ⟨p, hp, z⟩
  · rw [tl_sp] at z
    exact absurd z (by decide)
  · obtain ⟨q, hq, e⟩ := List.mem_map.mp hp
    rw [← e] at z
    rcases List.mem_cons.mp hq with e | hq
    · rw [e, tl_ti] at z
      exact absurd z (by decide)
    · obtain ⟨y, hy, e⟩ := List.mem_map.mp hq
      rw [← e] at z
      have := num_sign (h.dig y hy) z
      omega
theorem split_img {l : List It} (hne : l ≠ []) (h : ∀ i ∈ l, i.Ok) : Txt.split (img l) (Str.ofString ";") = l.map It.txt := by
  refine TL.split_join (s := 59) (S := []) tl_se (by decide +kernel) (fun e => hne (List.map_eq_nil_iff.mp e)) fun p hp => ?_
  obtain ⟨i, hi, e⟩ := List.mem_map.mp hp
  rw [← e]
  exact txt_free (h i hi)
theorem img_nil : img [] = Str.ofString "" := by decide +kernel
theorem split_nil : Txt.split (Str.ofString "") (Str.ofString ";") = [Str.ofString ""] := by decide +kernel
theorem txt_ne (i : It) : TL.tl i.txt ≠ [] := by
  have e : TL.tl i.txt = TL.joinL [32] (TL.tl (Str.ofString "ticket") :: (i.nums.map num).map TL.tl) := by
    show TL.tl (Txt.join (Str.ofString " ") (Str.ofString "ticket" :: i.nums.map num)) = _
    rw [TL.join_eq, TL.tl_join, tl_sp, List.map_cons]
  rw [e, tl_ti]
  cases (i.nums.map num).map TL.tl with
  | nil => intro z; cases z
  | cons a r => intro z; cases z
theorem img_ne {l : List It} (h : l ≠ []) : img l ≠ Str.ofString "" := by
  intro e
  have e2 : TL.tl (img l) = [] := by rw [e]; decide +kernel
  have e3 : TL.tl (img l) = TL.joinL [59] ((l.map It.txt).map TL.tl) := by
    show TL.tl (Txt.join (Str.ofString ";") (l.map It.txt)) = _
    rw [TL.join_eq, TL.tl_join, tl_se]
  rw [e3] at e2
  cases l with
  | nil => exact h rfl
  | cons a r =>
    cases r with
    | nil => exact txt_ne a e2
    | cons b r =>
      have e4 : TL.tl a.txt ++ ([59] ++ TL.joinL [59] (TL.tl b.txt :: (r.map It.txt).map TL.tl)) = [] := e2
      exact txt_ne a (List.append_eq_nil_iff.mp e4).1
end K57

/-! the plain side: what is usable, the next number -/
namespace K57
open PySem L2
def cnt (cs : List Int) (e : Int) : Int := cs.getD e.toNat 0
def OkE (e : Int) : Prop := 0 ≤ e ∧ e < 3
def pwNext (pw : Int) : Int := if 0 < pw then pw - 1 else pw
def isE (e : Int) (i : It) : Bool := decide (i.e = e)
def isU (cs : List Int) (e : Int) (i : It) : Bool := decide (i.e = e) && decide (cnt cs e ≤ i.n)
def usab (cs : List Int) (its : List It) (e : Int) : List It := its.filter (isU cs e)
def mx (i j : Int) : Int := if j > i then j else i
def nums1 (its : List It) (e : Int) : List Int := (its.filter (isE e)).map fun i => i.n + 1
def nextN (cs : List Int) (its : List It) (e : Int) : Int := (nums1 its e).foldl mx (cnt cs e)
def Inc (its : List It) : Prop := its.Pairwise fun i j => i.e = j.e → i.n < j.n

theorem take_snoc {α : Type} : ∀ {l : List α} {i : Nat} {x : α}, l[i]? = some x → l.take (i + 1) = l.take i ++ [x]
  | [], i, x, h => by simp at h
  | b :: l, 0, x, h => by
    have e : b = x := by simpa using h
    subst e
    simp
  | b :: l, i + 1, x, h => by
    have ih := take_snoc (l := l) (i := i) (x := x) (by simpa using h)
    rw [List.take_succ_cons, ih, List.take_succ_cons, List.cons_append]
theorem filt_yes {α : Type} {p : α → Bool} {l : List α} {i : Nat} {x : α} (h : l[i]? = some x) (hp : p x = true) : (l.take (i + 1)).filter p = (l.take i).filter p ++ [x] := by
  rw [take_snoc h, List.filter_append, List.filter_cons_of_pos hp, List.filter_nil]
theorem filt_no {α : Type} {p : α → Bool} {l : List α} {i : Nat} {x : α} (h : l[i]? = some x) (hp : p x = false) : (l.take (i + 1)).filter p = (l.take i).filter p := by
  rw [take_snoc h, List.filter_append, List.filter_cons_of_neg (by rw [hp]; exact Bool.false_ne_true), List.filter_nil, List.append_nil]

theorem mx_l (i j : Int) : i ≤ mx i j := by unfold mx; split <;> omega
theorem mx_r (i j : Int) : j ≤ mx i j := by unfold mx; split <;> omega
theorem mx_or (i j : Int) : mx i j = i ∨ mx i j = j := by unfold mx; split <;> simp
theorem fold_ge : ∀ (l : List Int) (c : Int), c ≤ l.foldl mx c ∧ ∀ y ∈ l, y ≤ l.foldl mx c
  | [], c => ⟨Int.le_refl _, fun _ h => by cases h⟩
  | b :: l, c => by
    obtain ⟨h1, h2⟩ := fold_ge l (mx c b)
    refine ⟨Int.le_trans (mx_l c b) h1, fun y hy => ?_⟩
    rcases List.mem_cons.mp hy with e | hy
    · rw [e]; exact Int.le_trans (mx_r c b) h1
    · exact h2 y hy
theorem fold_mem : ∀ (l : List Int) (c : Int), l.foldl mx c ∈ c :: l
  | [], c => List.mem_cons_self ..
  | b :: l, c => by
    rcases List.mem_cons.mp (fold_mem l (mx c b)) with e | h
    · have e : (b :: l).foldl mx c = mx c b := e
      rw [e]
      rcases mx_or c b with q | q
      · rw [q]; exact List.mem_cons_self ..
      · rw [q]; simp
    · exact List.mem_cons_of_mem _ (List.mem_cons_of_mem _ h)
theorem fold_max {l : List Int} {c m : Int} (h1 : m ∈ c :: l) (h2 : ∀ y, y ∈ c :: l → y ≤ m) : m = l.foldl mx c := by
  obtain ⟨g1, g2⟩ := fold_ge l c
  have q1 : m ≤ l.foldl mx c := by
    rcases List.mem_cons.mp h1 with e | h1
    · rw [e]; exact g1
    · exact g2 m h1
  have q2 := h2 _ (fold_mem l c)
  omega
theorem fold_le {l : List Int} {c k : Int} (h0 : c ≤ k) (h : ∀ y ∈ l, y ≤ k) : l.foldl mx c ≤ k := by
  rcases List.mem_cons.mp (fold_mem l c) with e | q
  · rw [e]; exact h0
  · exact h _ q
/-- the usable ones rise -/
theorem usab_rise {cs : List Int} {its : List It} {e : Int} (h : Inc its) : (usab cs its e).Pairwise fun i j => i.n < j.n := by
  have q : (usab cs its e).Pairwise fun i j => i.e = j.e → i.n < j.n := h.sublist List.filter_sublist
  refine q.imp_of_mem fun {i j} hi hj r => r ?_
  have e1 := (List.mem_filter.mp hi).2
  have e2 := (List.mem_filter.mp hj).2
  unfold isU at e1 e2
  simp only [Bool.and_eq_true, decide_eq_true_eq] at e1 e2
  rw [e1.1, e2.1]
theorem usab_head {cs : List Int} {its : List It} {e : Int} {i : It} {r : List It} (h : Inc its) (u : usab cs its e = i :: r) : ∀ j ∈ r, i.n < j.n := by
  have q := usab_rise (cs := cs) (e := e) h
  rw [u] at q
  exact (List.pairwise_cons.mp q).1
theorem usab_mem {cs : List Int} {its : List It} {e : Int} {i : It} (h : i ∈ usab cs its e) : i ∈ its ∧ i.e = e ∧ cnt cs e ≤ i.n := by
  obtain ⟨h1, h2⟩ := List.mem_filter.mp h
  unfold isU at h2
  simp only [Bool.and_eq_true, decide_eq_true_eq] at h2
  exact ⟨h1, h2⟩
end K57

/-! while an exception is handled: the end of a list's iterator, sum, a comprehension of int(x), isinstance, a def called there with the exception at hand -/
namespace K57
open PySem PySem.Spec PyProof.Rows L2 HotX

section
variable {prog : Program} {w : World} {A : Around} {E : Value → Shared → Prop} {s : Shared}
/-- the list's iterator ends while x1 is handled -/
theorem list_end_hot {it l x1 : Addr} {i : Nat} {items : Array Value} {Q : Option Value → Shared → Prop} (hot : HotAt A x1 s.heap)
    (hit : s.heap.IsListIter it l i) (hl : s.heap.IsList l items) (hx : items[i]? = none)
    (hQ : ∀ h', (∀ b o, b ≠ it → s.heap.get? b = some o → h'.get? b = some o) → Q none { s with heap := h' }) : wpAny (model prog w) A (pyNext (.ref it)) Q E s := by
  obtain ⟨oi, gi, ci, di⟩ := id hit
  obtain ⟨oL, gL, _, nL, dL⟩ := hl
  obtain ⟨hh, o1, v1, g1, d1, c1⟩ := hot
  have ne1 : x1 ≠ it := fun z => by
    rw [z, gi] at g1
    cases g1
    rw [di] at d1
    cases d1
    simp at c1
  unfold pyNext
  refine wpAny_bind (wpAny_attempt (wpAny_callSpecial?_slot (name := Str.ofString "__next__") hit.typeIs slot_listiter_next (wpAny_call_entry slot_listiter_next hit.typeIs entry_listiter_next ?_ (args_listiter_next _))))
  show wpAny _ A.in1 (field (.ref it) 0 >>= _) _ _ s
  refine wpAny_bind (wpAny_field gi di (x := .ref l) rfl ?_)
  show wpAny _ _ (if (Value.ref l == Value.none) = true then _ else _) _ _ s
  rw [if_neg (fun z : (Value.ref l == Value.none) = true => Bool.false_ne_true z)]
  show wpAny _ A.in1 (field (.ref it) 1 >>= _) _ _ s
  refine wpAny_bind (wpAny_field gi di (x := .int i 0) rfl ?_)
  show wpAny _ A.in1 (seqItems? (.ref l) >>= _) _ _ s
  refine wpAny_bind (wpAny_seqItems gL dL ?_)
  simp only [Int.toNat_natCast, hx]
  refine wpAny_bind (wpAny_rule (wpAny_bind (wpAny_setField gi di (by simp) ?_)))
  show wpAny _ A.in1 (newExc (.type "StopIteration") [] >>= _) _ _ _
  refine wpAny_bind ?_
  simp only [newExc, newTuple]
  refine wpAny_bind (wpAny_newObj_type ?_ (by size_fits))
  refine wpAny_bind (m := firstArgMember _ _) (wpAny_of_eq (a := Value.none) (by first | rfl | (simp only [firstArgMember]; rfl)) ?_)
  refine wpAny_newObj_type ?_ (by size_fits)
  have g1' := (Heap.get?_update_other s.heap (Obj.mapFields (·.setIfInBounds 0 Value.none)) (Ne.symm ne1)).trans g1
  refine raiseNew_hot ⟨hh, o1, v1, Heap.get?_push_of_some _ (Heap.get?_push_of_some _ g1'), d1, c1⟩ (Nat.ne_of_lt (Heap.lt_size (Heap.get?_push_of_some _ g1'))) (Heap.get?_push_size _ rfl) rfl (by first | (simp; done) | (simp; omega) | (simp only [Array.size_append]; simp; omega)) ?_
  refine wpAny_bind (wpAny_isInstance (T := "StopIteration") (b := true) ⟨_, Heap.get?_update_self _ (Heap.get?_push_size _ rfl) rfl, rfl⟩ isSubtype_stop ?_)
  refine wpAny_pure (hQ _ fun b o hb e => ?_)
  have e' := (Heap.get?_update_other s.heap (Obj.mapFields (·.setIfInBounds 0 Value.none)) (Ne.symm hb)).trans e
  rw [Heap.get?_update_other _ _ (Nat.ne_of_gt (Heap.lt_size (Heap.get?_push_of_some _ e')))]
  exact Heap.get?_push_of_some _ (Heap.get?_push_of_some _ e')

/-- the walk of a list while o1 at x1 is handled -/
theorem walks_hot {x1 : Addr} {o1 : Obj} {v1 : Array Value} (hh : A.handled = some (.ref x1)) (d1 : o1.data = .fields v1) (c1 : v1[2]? = some .none) (I ax : Addr) (hne : ax ≠ I) (hn1 : x1 ≠ I) (items : Array Value) :
    Walks prog w A I [I, ax, x1] [I] items.size (fun i v => items[i]? = some v) (fun i h => h.IsListIter I ax i ∧ h.IsList ax items ∧ h.get? x1 = some o1) where
  sub := fun b hb => by simp at hb; simp [hb]
  frame := fun _ _ _ st hk => ⟨st.1.at fun o e => hk I (by simp) o e, st.2.1.at fun o e => hk ax (by simp) o e, hk x1 (by simp) _ st.2.2⟩
  item := fun i s Q E hi st hQ => by
    refine wpAny_pyNext_list_item st.1 st.2.1 (x := items[i]) (by simp [hi]) fun h' hit' hs' => ?_
    exact hQ _ h' s.toks (by simp [hi]) ⟨hit', st.2.1.extBut hs'.extBut hne, hs'.extBut _ _ hn1 st.2.2⟩ fun b o hb e => hs'.extBut b o (fun h => hb (by simp [h])) e
  done := fun s Q E st hQ => list_end_hot ⟨hh, o1, v1, st.2.2, d1, c1⟩ st.1 st.2.1 (by simp) fun h' he => hQ h' s.toks fun b o hb e => he b o (fun h => hb (by simp [h])) e
  self := fun _ _ _ _ st hQ => wpAny_pyIter_listiter st.1 hQ

theorem sum_hot {x1 l : Addr} {o1 : Obj} {v1 : Array Value} {its : List Value} {ns : List Int} {Q : Value → Shared → Prop} (hh : A.handled = some (.ref x1)) (g1 : s.heap.get? x1 = some o1) (d1 : o1.data = .fields v1) (c1 : v1[2]? = some .none)
    (hl : s.heap.IsList l its.toArray) (hi : IntsAre its ns)
    (h : ∀ h' tk t', (∀ b o, s.heap.get? b = some o → h'.get? b = some o) → Q (.int ns.sum t') { s with heap := h', toks := tk }) : wpAny (model prog w) A (call (.builtin "sum") [.ref l]) Q E s := by
  obtain ⟨xs, e⟩ := hi.allInts.items
  have hn : numsOf (intItems xs).toList = ns := by rw [← e]; exact hi.numsOf
  rw [nums_intItems] at hn
  rw [e] at hl
  refine call_sum_walkG (iter_intList hl fun s2 e2 st hfp hlI => ?_)
  subst e2
  refine ⟨s.heap.objs.size, [s.heap.objs.size, l, x1], [s.heap.objs.size], _, _, _, numAt xs, rfl, walks_hot (A := A.in1) (x1 := x1) (o1 := o1) (v1 := v1) hh d1 c1 s.heap.objs.size l hlI (Nat.ne_of_lt (Heap.lt_size g1)) (intItems xs),
    ⟨st.1, st.2, Heap.get?_push_of_some _ g1⟩, fun b hb => ?_, (fun _ _ => intItems_at), fun h' tk t' hk => ?_⟩
  · rcases List.mem_cons.mp hb with q | hb
    · exact hfp b (by rw [q]; exact List.mem_cons_self ..)
    rcases List.mem_cons.mp hb with q | hb
    · exact hfp b (by rw [q]; simp)
    · rw [List.mem_singleton.mp hb]
      exact Heap.lt_size (Heap.get?_push_of_some _ g1)
  · have q := h h' tk t' (old_kept hk)
    rw [preSum_eq, List.take_of_length_le (by simp [intItems]), hn]
    exact q
end

section
variable {X : Cx}
/-- sum(xs) there -/
theorem cr_sumH (hc : L2H.HotC X) : CallR X (.builtin "sum") (rSum X.K) := by
  intro pins s σ H vs us Q I r h
  obtain ⟨a, ns, rfl, hs, q⟩ := h
  obtain ⟨its, rv, hl, _⟩ := I.list hs
  rw [Vals.ref1 r]
  obtain ⟨p, ⟨hh, v1, d1, c1⟩, hp⟩ := hc
  exact sum_hot hh (I.pin p (List.mem_append_left _ hp)).1 d1 c1 hl.isList rv.ints fun h' tk t' hk => ⟨.int _, H, I.kept hk, ⟨_, rfl⟩, q⟩

/-- a new object where nothing stood -/
theorem laid_at {pins : List (Addr × Obj)} {σ : L2.St} {H : Hp} {s : Shared} {h' : Heap} {a : Addr} {o : HO} {t' : Nat} (I : Inv X pins σ H s) (k : ∀ b u, s.heap.get? b = some u → h'.get? b = some u) (hn : s.heap.get? a = none)
    (new : ObjOk X.prog X.w (upd H a o) h' a o) : Inv X pins σ (upd H a o) { s with heap := h', toks := t' } := by
  have h0 := I.hok.gone hn
  have ne : ∀ {b u}, H b = some u → upd H a o b = some u := fun {b u} e => by
    rw [upd_ne (ne_of_none e h0)]
    exact e
  refine I.un ⟨fun b u e _ _ _ => k b u e, fun b u e _ _ _ => ⟨u.slots, k b u e⟩, fun b u e n _ => ?_, fun b u e _ => ⟨u, k b u e⟩, fun b xs e => ne e, fun b u v e => ne e, fun b ps e => ⟨#[], by rw [ne e, Array.append_empty]⟩⟩ fun b u e => ?_
  · have nb : b ≠ a := fun z => by
      rw [z, hn] at e
      cases e
    rw [upd_ne nb]
    exact n
  · by_cases hb : b = a
    · subst hb
      rw [upd_same] at e
      cases e
      exact new
    · rw [upd_ne hb] at e
      exact (I.hok b u e).stay (fun c v _ q => k c v q) (fun c q => ne q) fun c xs q => ne q
/-- [int(x) for x in e], e a list of truth values -/
def tIntsB (K : PySem.W.Frag) (te : TE) : TE := fun σ H Q => te σ H fun y H1 => ∃ (a : Addr) (bs : List Bool), y = .ref a ∧ SqL K H1 a (bs.map V.bl) ∧
  ∀ p, H1 p = none → Q (.ref p) (upd H1 p (.lst (bs.map fun b => V.int (if b then 1 else 0))))
theorem paired_bls : ∀ {bs : List Bool} {ys : List Value}, Paired (fun (v y : Value) => ∃ b t, v = .bool b ∧ y = .int (if b then 1 else 0) t) (bs.map Value.bool) ys → Vals (bs.map fun b => V.int (if b then 1 else 0)) ys
  | [], _, h => by cases h; exact .nil
  | b :: r, _, h => by
    cases h with
    | cons z t =>
      obtain ⟨b', tk, e1, e2⟩ := z
      cases e1
      exact .cons ⟨tk, e2⟩ (paired_bls t)
theorem vals_at : ∀ {vs ws : List Value}, vs.length = ws.length → (∀ (j : Nat) (v : Value), vs[j]? = some v → ws[j]? = some v) → vs = ws := fun {vs ws} hl h => by
  refine List.ext_getElem? fun j => ?_
  cases e : vs[j]? with
  | some v => exact (h j v e).symm
  | none =>
    have := List.getElem?_eq_none_iff.mp e
    exact (List.getElem?_eq_none_iff.mpr (by omega)).symm
theorem pe_intsH {iter : Expr} {te : TE} {x : Str} {p p2 p3 pos cpos : Pos} {scope : Scope} (hc : L2H.HotC X) (hi : PE X iter te) (hm : X.mg "int" = none)
    (hfree : ∀ y ∈ scope.names, y.2 ≠ .free) (hcell : ∀ y ∈ scope.names, y.2 ≠ .cell) (hkind : scope.kind = .function)
    (hnames : ∀ y ∈ scope.names, y.2 = .local → scope.names.lookup y.1 = some .local) (hx : scope.names.lookup x = some .local)
    (hxd : (x == ("__debug__" : Str)) = false)
    (hint : ∀ (cl : List (Str × Addr)) (C : Addr), (compEnvC scope cl C X.env).kindOf "int" = some .globalImplicit)
    (hpl : ∀ (cl : List (Str × Addr)) (C : Addr), (backTo cpos (starEach ([] : List Expr) (compEnvC scope cl C X.env))).any (·.1) = false)
    (hs : ∀ x, foldedSetIterable iter X.env x = pure x := by intro _; rfl) :
    PE X (.ListComp (.Call (.Name "int" p) [.Name x p2] [] cpos) [⟨.Name x p3, iter, [], 0⟩] scope pos) (tIntsB X.K te) := by
  refine ⟨fun pins s σ H Q I h => ?_⟩
  have hclos := closure_ok (scope := scope) (env := X.env) fun y hy e => absurd e (hfree y hy)
  obtain ⟨q1, ⟨hh, v1, d1, c1⟩, hp1⟩ := hc
  refine wpAny_ListComp_free (fun _ => true) (fun v y => ∃ b t, v = .bool b ∧ y = .int (if b then 1 else 0) t) hclos hcell hkind hnames hx
    (thn (hi.run pins s σ H _ I h) fun xv s1 ⟨y, H1, I1, r1, a, bs, ey, hq, k⟩ => ?_) hs
  subst ey
  cases r1
  obtain ⟨its, rv, pl, hz⟩ := I1.list hq
  have ei := Vals.bls rv
  have g1 := (I1.pin q1 (List.mem_append_left _ hp1)).1
  refine wpAny_pyIter_list pl.isList ?_
  have hlt : a < s1.heap.objs.size := by
    obtain ⟨_, e, _⟩ := pl.isList
    exact Heap.lt_size e
  have hl1 := Heap.lt_size g1
  refine ⟨s1.heap.objs.size, [s1.heap.objs.size, a, q1.1], [s1.heap.objs.size], _, _, _, rfl,
    walks_hot (x1 := q1.1) (o1 := q1.2) (v1 := v1) hh d1 c1 s1.heap.objs.size a (Nat.ne_of_lt hlt) (Nat.ne_of_lt hl1) its.toArray, by rw [List.size_toArray, ← rv.length]; exact hz, ⟨⟨_, Heap.get?_push_size _ rfl, rfl, rfl⟩, pl.isList.push _, Heap.get?_push_of_some _ g1⟩, fun b hb => ?_, ⟨?_, ?_⟩, ?_⟩
  · show b < (s1.heap.push _).objs.size
    rw [Heap.size_push]
    rcases List.mem_cons.mp hb with q | hb
    · rw [q]; exact Nat.lt_succ_self _
    rcases List.mem_cons.mp hb with q | hb
    · rw [q]; exact Nat.lt_succ_of_lt hlt
    · rw [List.mem_singleton.mp hb]; exact Nat.lt_succ_of_lt hl1
  · intro C i v s3 m3 E' _ _ _ _ _ _
    exact wpAny_tests_nil ⟨rfl, s3.heap, s3.toks, rfl, fun _ _ e => e⟩
  · intro C i v s3 m3 E' _ hv _ hn hm3 hk _
    have hv : its.toArray[i]? = some v := hv
    have hv : its[i]? = some v := by simpa using hv
    rw [ei, List.getElem?_map] at hv
    obtain ⟨b, rfl⟩ : ∃ b, v = .bool b := by
      cases e : bs[i]? with
      | none => rw [e] at hv; cases hv
      | some b => rw [e] at hv; exact ⟨b, (Option.some.inj hv).symm⟩
    have kb : ∀ b o, X.base.get? b = some o → s3.heap.get? b = some o := fun b o e => by
      have e1 := I1.bk b o e
      refine hk b o (fun z => ?_) (Heap.get?_push_of_some _ e1)
      rw [List.mem_singleton.mp z] at e1
      exact Nat.lt_irrefl _ (Heap.lt_size e1)
    obtain ⟨mb, b1, b2⟩ := I1.mod.blt
    have hkd : (compEnvC scope (cloFrom X.env.cells scope.names []) C X.env).scope.kind = .function := hkind
    refine wpAny_Call_Name_kw (Calls.Name_function_global hkd (hint _ C) (Calls.loadGlobal_builtin (mg := X.mg) (mb := mb) (v := .type "int")
      (by show s3.heap.Ns X.env.globals X.mg; rw [I1.ok.glob]; exact I1.mod.glob.keeps kb) hm (by show s3.heap.Ns X.env.builtins mb; rw [I1.ok.blt]; exact b1.keeps kb) ((b2 "int" (by decide)).trans (by decide +kernel)) ?_))
    refine PyProof.Rows.callWith_type1 (Calls.spliced_cons (wpAny_Name (wpAny_loadName_local hkd (lookup_relabel_local hx) hn hm3 (Calls.spliced_nil ?_)) hxd)) (by rfl) (hpl _ C)
    exact call_int_bool ⟨⟨b, _, rfl, rfl⟩, s3.heap, s3.toks + 1, rfl, fun _ _ e => e⟩
  · intro D h' tk ys vs hD hl hpl hlen hP hF hk
    have ev : vs = its := vals_at (by rw [hlen, List.size_toArray]) fun j v e => by
      have := hP j v e
      simpa using this
    have hF : Paired (fun (v y : Value) => ∃ b t, v = .bool b ∧ y = .int (if b then 1 else 0) t) (vs.filter fun _ => true) ys.toList := hF
    rw [List.filter_eq_self.mpr (fun _ _ => rfl), ev, ei] at hF
    have rv2 := paired_bls hF
    have keep : ∀ b o, s1.heap.get? b = some o → h'.get? b = some o := fun b o e => hk b o (fun z => by
      rw [List.mem_singleton.mp z] at e
      exact Nat.lt_irrefl _ (Heap.lt_size e)) (Heap.get?_push_of_some _ e)
    have hD0 : s1.heap.get? D = none := by
      cases q : s1.heap.get? D with
      | none => rfl
      | some o => rw [Heap.get?_push_of_some _ q] at hD; cases hD
    obtain ⟨n, en⟩ := hpl
    have J := laid_at (s := s1) (h' := h') (t' := tk) (o := .lst (bs.map fun b => V.int (if b then 1 else 0))) I1 keep hD0 ⟨by rw [List.length_map]; simpa using hz, ys.toList, n, rv2, by simpa using en⟩
    exact ⟨.ref D, _, J, rfl, k D (I1.hok.gone hD0)⟩

/-- isinstance(e, c) of a handled exception of the class D, pinned -/
theorem call_isP {a D : Addr} {oe : Obj} (C : ExcC X.K D) (hp : (a, oe) ∈ X.pn) (hz : Zc (.ref D) none oe) (hf : ∃ vs, oe.data = .fields vs) : CallR X (.builtin "isinstance") (rIsE X.K D a) := by
  intro pins s σ H xs us Q I r h
  obtain ⟨c, cv, b, rfl, hcv, e, q⟩ := h
  cases r with
  | cons rx rr =>
    cases rr with
    | cons rt rr =>
      cases rr
      cases rx
      have ec := hcv _ rt
      subst ec
      have hget := (I.pin (a, oe) (List.mem_append_left _ hp)).1
      obtain ⟨vs, hv⟩ := hf
      have J : PySem.W.InstAt s.heap a oe D none := by
        obtain ⟨oc, od, oda, osl⟩ := oe
        obtain ⟨h1, h2⟩ := hz
        dsimp only at h1 h2 hv
        subst h1 h2 hv
        exact ⟨hget, rfl, rfl, trivial⟩
      exact PySem.W.kia_one (PySem.W.handS_kitx_exc C.hg C.hk C.hs C.hd C.ha C.hn C.ht C.hm) I.kIn J e (fun z => nomatch z) fun tk => ⟨.bl b, H, I.kept (t' := tk) fun _ _ z => z, rfl, q⟩
end
end K57

/-! defs that raise (by ExcCtx), and a def that is called in an except suite with the very exception as its argument -/
namespace K57
open PySem PySem.Spec PyProof.Rows L2 HotX
section
variable {P : Program} {w : World} {K : PySem.W.Frag} {mg : Str → Option Value} {base : Heap}
abbrev CN (P : Program) (w : World) : CXT := L2N.CX P w
/-- a def that may raise -/
theorem okN {x qual : Str} {st : Stmt} {f : Addr} {fd : FuncData} {N ps : List Str} {k : Nat} {sp : Sp} (F : Fun K x qual st f fd) (S : FnScope N ps (defScope st)) (len : ∀ vs H Q E, sp vs H Q E → vs.length = ps.length)
    (hb : ∀ (cdv : Value) (A : Around) (outer : List Env) (s : Shared) (H : Hp) (vs : List V) (Q : VK) (E : XK), Room k (A.deeper (envOfC qual (defScope st) s.heap.objs.size f cdv)) → sp vs H Q E →
      ∃ t, PSs (cxOf (CN P w) P w K mg base N qual (defScope st) f cdv A outer s H E) (defBody st) t ∧ t { nx := fun _ H' => Q .non H', rt := Q } (start N vs) H) : FnOk P w K mg base (CN P w) (k + 1) f fd ps sp := by
  obtain ⟨oc, od, kV, doc, pm, an, cdv, ct, osl, e, lk, hcd⟩ := F.ex
  subst e
  exact fn_of lk hcd S len (hb cdv)
/-- nothing is let out of the callee -/
theorem passN0 {X : Cx} : Passes (CN X.prog X.w) X E0 := fun _ _ _ _ _ _ _ h => by
  obtain ⟨_, _, _, _, _, _, _, _, _, _, _, _, z⟩ := h
  exact z.elim
/-- what the callee lets out is let out -/
theorem passN {X : Cx} {W : WX} {E : XK} (tk : L2N.Takes X W) (h : ∀ cls d σ H, E cls d H → W cls d σ H) : Passes (CN X.prog X.w) X E := L2N.passes_call tk h
/-- what the callee lets out is told of at the caller's slots -/
theorem passT {X : Cx} {W : WX} (tk : L2N.Takes X W) : Passes (CN X.prog X.w) X (fun cls d H => ∀ σ : L2.St, σ.length = X.N.length → W cls d σ H) :=
  fun _ σ _ _ e s' I c => tk e s' (L2N.XE.of_call I (fun _ _ _ h => h σ I.len) c)

/-- a def called while p's exception is handled -/
structure FnP (P : Program) (w : World) (K : PySem.W.Frag) (mg : Str → Option Value) (base : Heap) (k : Nat) (f : Addr) (fd : FuncData) (ps : List Str) (sp : Sp) (p : Addr × Obj) : Prop where
  len : ∀ vs H Q E, sp vs H Q E → vs.length = ps.length
  run : ∀ (A : Around) (outer : List Env) (s : Shared) (H : Hp) (args : Args) (us : List Value) (vs : List V) (Q : VK) (E : XK), L2H.RoomH k A → L2H.Hot1 A p → L2H.PinOk outer H s p → Env0 P w K mg base A outer s H →
    BindsTo s fd args (ps.zip us) → Vals vs us → sp vs H Q E → codeAny (model P w) A (.call (.ref f) args) (CR CX0 outer P w H s Q E) s
theorem okP {x qual : Str} {st : Stmt} {f : Addr} {fd : FuncData} {N ps : List Str} {k : Nat} {sp : Sp} {p : Addr × Obj} (F : Fun K x qual st f fd) (S : FnScope N ps (defScope st)) (len : ∀ vs H Q E, sp vs H Q E → vs.length = ps.length)
    (hb : ∀ (cdv : Value) (A : Around) (outer : List Env) (s : Shared) (H : Hp) (vs : List V) (Q : VK) (E : XK), L2H.Hot1 A p → sp vs H Q E →
      ∃ t, PSs (L2H.cxH CX0 P w K mg base N qual (defScope st) f cdv A outer s H E p) (defBody st) t ∧ t { nx := fun _ H' => Q .non H', rt := Q } (start N vs) H) : FnP P w K mg base (k + 1) f fd ps sp p := by
  obtain ⟨oc, od, kV, doc, pm, an, cdv, ct, osl, e, lk, hcd⟩ := F.ex
  subst e
  constructor
  · exact len
  intro A outer s H args us vs Q E hr hot hpin e0 hbd r hsp
  have hl := len _ _ _ _ hsp
  have KX : K.In s.heap := e0.mod.kin.keeps fun b o q => (e0.bs b o q).1
  have lim : s.heap.NoLimit := e0.mod.nolimit.keeps fun b o q => (e0.bs b o q).1
  have hkd : ∀ y ∈ ps.zip us, (defScope st).names.lookup y.1 = some .local ∨ ((defScope st).names.lookup y.1 = some .cell ∧ ((cellsFrom (s.heap.objs.size + 1) (defScope st).names []).lookup y.1).isSome = true) := by
    intro y hy
    have hy1 : y.1 ∈ ps := (List.of_mem_zip (show (y.1, y.2) ∈ ps.zip us from hy)).1
    rcases S.par y.1 hy1 with q | q
    · exact Or.inl q
    · exact Or.inr ⟨q, PySem.W.cellsFrom_some _ _ _ (Or.inl q)⟩
  refine codeAny_call_function hr.depth (KX _ _ lk) rfl S.co S.gen rfl (PySem.W.codeRec_of KX hcd) (hbd _ _ _ _ ?_)
  refine wpAny_newFunctionEnv_cells S.kind hkd fun env he s1 xc => ?_
  subst he
  refine ⟨lim.keeps xc.toInCall.keep, codeAny_func ?_⟩
  obtain ⟨t, ht, hq⟩ := hb cdv A outer s H vs Q E hot hsp
  have I := L2H.inv_startH (CX := CX0) (P := P) (w := w) (K := K) (mg := mg) (base := base) (qual := qual) (f := f) (cd := cdv) (A := A) (E := E) S hpin e0 hl r xc
  refine wpAny_mono (ht.run [] s1 (start N vs) H _ I hq) (fun fl s' hs => ?_) (fun _ _ hs => hs)
  cases fl with
  | ret u =>
    obtain ⟨v, σ', H', J, rv, q⟩ := hs
    exact ⟨v, H', J.os, J.bare, J.base, J.hok, rv, q⟩
  | next =>
    obtain ⟨σ', H', J, q⟩ := hs
    exact ⟨V.non, H', J.os, J.bare, J.base, J.hok, rfl, q⟩
  | brk =>
    obtain ⟨_, _, _, q⟩ := hs
    exact q.elim
  | cont =>
    obtain ⟨_, _, _, q⟩ := hs
    exact q.elim
end
section
variable {X : Cx} {k : Nat} {f : Addr} {fd : FuncData} {ps : List Str} {sp : Sp} {x : Str} {q pos : Pos} {e : Expr} {es : List Expr} {t : TA} {p : Addr × Obj}
theorem pe_callP (F : FnP X.prog X.w X.K X.mg X.base k f fd ps sp p) (hr : L2H.RoomH k X.A) (hot : L2H.Hot1 X.A p) (hp : p ∈ X.pn) (hg : Gl X x) (hm : X.mg x = some (.ref f)) (hk : PySem.W.keepIn X.K (.ref f) = true) (hb : Binds X.K fd ps [])
    (ha : PA X (e :: es) t) (hdb : (x == ("__debug__" : Str)) = false := by decide) (he : starEach (e :: es) X.env = (false, eval e X.env) :: starEach es X.env := by rfl) (hpl : (backTo pos (starEach es X.env)).any (·.1) = false := by rfl) :
    PE X (.Call (.Name x q) (e :: es) [] pos) (tCall sp [] E0 t) := by
  constructor
  intro pins s σ H Q I h
  refine wpAny_Call_Name_kw (ld_glob I hg hm ?_ hdb)
  refine PySem.W.callWith_K (h₀ := X.base) I.ok.mod.kin hk (thn (ha.run pos pins s σ H _ I h) fun us s1 ⟨vs, H1, I1, r, q1⟩ => ⟨I1.kIn, ?_⟩) he hpl
  have q1 : sp vs H1 Q E0 := by
    have z : sp (vs ++ []) H1 Q E0 := q1
    rwa [List.append_nil] at z
  have hl : us.length = ps.length := by rw [← r.length]; exact F.len _ _ _ _ q1
  have b := hb s1 us I1.kIn (by rw [List.append_nil]; exact hl)
  rw [List.append_nil] at b
  have P1 := I1.pin p (List.mem_append_left _ hp)
  have hpin : L2H.PinOk X.stack H1 s1 p := ⟨P1.1, P1.2.1, fun hm => (List.mem_cons.mp (I1.stkSub p.1 hm)).elim P1.2.2.1 P1.2.2.2.1, P1.2.2.2.2⟩
  refine wpAny_call (codeAny_mono (F.run X.A X.stack s1 H1 ⟨us, []⟩ us vs Q E0 hr hot hpin I1.env0 b r q1) fun r s' hq => ?_)
  cases r with
  | error e => exact hq.elim
  | ok fl =>
    cases fl with
    | ret u => exact I1.after hq
    | next => exact False.elim hq
    | brk => exact False.elim hq
    | cont => exact False.elim hq
end
end K57

/-! the text, the facts of the top, what stands on the heap; check_epoch and the register -/
namespace K57
open PySem L2
def top (i : Nat) : Stmt := PySem.Challenge.pw_cloak_k57_whole_purses.main.body.getD i (.Pass ⟨0, 0, 0, 0⟩)
abbrev sJoin : Stmt := top 1
abbrev sEp : Stmt := top 14
abbrev sRInit : Stmt := inClass (top 15) 0
abbrev sRCount : Stmt := inClass (top 15) 1
abbrev sRRaise : Stmt := inClass (top 15) 2
abbrev sRSup : Stmt := inClass (top 15) 3
abbrev sPInit : Stmt := inClass (top 16) 0
abbrev sPNext : Stmt := inClass (top 16) 1
abbrev sPPut : Stmt := inClass (top 16) 2
abbrev sPBack : Stmt := inClass (top 16) 3
abbrev sPUse : Stmt := inClass (top 16) 4
abbrev sPTake : Stmt := inClass (top 16) 5
abbrev sPLeft : Stmt := inClass (top 16) 6
abbrev sPSize : Stmt := inClass (top 16) 7
abbrev sPImg : Stmt := inClass (top 16) 8
abbrev sNums : Stmt := top 17
abbrev sItem : Stmt := top 18
abbrev sLoad : Stmt := top 19
abbrev sRow : Stmt := top 21
abbrev sAt : Stmt := top 22
abbrev sWord : Stmt := top 23
abbrev sTold : Stmt := top 24
abbrev sText : Stmt := top 25
abbrev sTaken : Stmt := top 26
abbrev sPut : Stmt := top 27
abbrev sGood : Stmt := top 28
abbrev sLaw : Stmt := top 29

/-! ### facts -/
abbrev veB : List Value := [.type "ValueError", .type "Exception", .type "BaseException", .type "object"]
structure ErrC (K : PySem.W.Frag) (mg : Str → Option Value) (x : Str) (C CE : Addr) : Prop where
  g : mg x = some (.ref C)
  q : PySem.W.excIn K C veB "ValueError.__new__" = true
  k : PySem.W.keepIn K (.ref C) = true
  b : PySem.W.subIn K (.ref C) (.type "BaseException") = some true
  t : PySem.W.typeIn K (.ref C) = some (.type "type")
  up : PySem.W.exmOne K (.ref C) (.ref CE) = some true
  ic : ExcC K C
/-- where things stand -/
structure Adr where
  ce : Addr
  na : Addr
  mi : Addr
  fu : Addr
  dn : Addr
  cr : Addr
  cp : Addr
/-- an exception of the class D, asked for each of the four -/
structure Kit (K : PySem.W.Frag) (a : Adr) (D : Addr) (b0 b1 b2 b3 : Bool) : Prop where
  k0 : PySem.W.kitOne K (.ref D) (.ref a.na) = some b0
  k1 : PySem.W.kitOne K (.ref D) (.ref a.mi) = some b1
  k2 : PySem.W.kitOne K (.ref D) (.ref a.fu) = some b2
  k3 : PySem.W.kitOne K (.ref D) (.ref a.dn) = some b3
structure Txt (K : PySem.W.Frag) (mg : Str → Option Value) (a : Adr) : Prop where
  na : ErrC K mg "NotAllowed" a.na a.ce
  mi : ErrC K mg "Missing" a.mi a.ce
  fu : ErrC K mg "Full" a.fu a.ce
  dn : ErrC K mg "Down" a.dn a.ce
  kn : Kit K a a.na true false false false
  km : Kit K a a.mi false true false false
  kf : Kit K a a.fu false false true false
  kd : Kit K a a.dn false false false true
  ce : mg "CloakError" = some (.ref a.ce)
  ep : ∃ t, mg "EPOCHS" = some (.int 3 t)
  mh : ∃ t, mg "MAX_HELD" = some (.int 12 t)
  md : ∃ t, mg "MAX_DIGITS" = some (.int 4 t)
  di : ∃ t, mg "DIGITS" = some (.str (Str.ofString "0123456789") t)
  cr : Cls K a.cr
  cp : Cls K a.cp
  nc : NoAttr K a.cr "_counts"
  np : NoAttr K a.cr "_power"
  no : NoAttr K a.cp "_counter"
  nh : NoAttr K a.cp "_held"
  gR : mg "Register" = some (.ref a.cr)
  gP : mg "Purse" = some (.ref a.cp)
  len : mg "len" = none
  max : mg "max" = none
  min : mg "min" = none
  all : mg "all" = none
  sum : mg "sum" = none
  int : mg "int" = none
  str : mg "str" = none
  abs : mg "abs" = none
  lst : mg "list" = none
  tup : mg "tuple" = none
  rng : mg "range" = none
  isi : mg "isinstance" = none

/-! ### the heap -/
/-- all but what stands at S is as it was -/
def Kp (S : List Addr) (H H' : Hp) : Prop := ∀ b o, H b = some o → (b ∉ S ∨ ∃ xs, o = .tup xs) → H' b = some o
theorem Kp.refl {S : List Addr} {H : Hp} : Kp S H H := fun _ _ e _ => e
theorem Kp.trans {S : List Addr} {H H1 H2 : Hp} (a : Kp S H H1) (b : Kp S H1 H2) : Kp S H H2 := fun c o e z => b c o (a c o e z) z
theorem Kp.of {S : List Addr} {H H1 : Hp} (a : Same H H1) : Kp S H H1 := fun c o e _ => a c o e
theorem Kp.more {S S' : List Addr} {H H1 : Hp} (a : Kp S H H1) (h : ∀ b ∈ S, b ∈ S') : Kp S' H H1 := fun c o e z => a c o e (z.imp (fun n m => n (h c m)) id)
theorem Kp.tup {S : List Addr} {H H1 : Hp} (a : Kp S H H1) {b : Addr} {xs : List V} (e : H b = some (.tup xs)) : H1 b = some (.tup xs) := a b _ e (.inr ⟨xs, rfl⟩)
theorem Kp.at {S : List Addr} {H H1 : Hp} (a : Kp S H H1) {b : Addr} {o : HO} (e : H b = some o) (n : b ∉ S) : H1 b = some o := a b _ e (.inl n)
theorem Same.new {H : Hp} {p : Addr} {o : HO} (h : H p = none) : Same H (upd H p o) := fun b u e => by
  rw [upd_ne (ne_of_none e h)]
  exact e
/-- a store at b, which holds no tuple -/
theorem Kp.put {S : List Addr} {H : Hp} {b : Addr} {o u : HO} (e : H b = some u) (nt : ∀ xs, u ≠ .tup xs) (hb : b ∈ S) : Kp S H (upd H b o) := fun c z h k => by
  have ne : c ≠ b := fun q => by
    rcases k with k | ⟨xs, k⟩
    · exact k (q ▸ hb)
    · rw [q, e] at h
      cases h
      exact nt xs k
  rw [upd_ne ne]
  exact h
def rf (l : Addr) (pw : Int) : List (Str × V) := [("_counts", .ref l), ("_power", .int pw)]
def pf (r l : Addr) : List (Str × V) := [("_counter", .ref r), ("_held", .ref l)]
theorem lk2 {a b f : Str} {x y : V} : List.lookup f [(a, x), (b, y)] = if f = a then some x else if f = b then some y else none := by
  by_cases h1 : f = a
  · subst h1
    simp [List.lookup]
  · have q1 : (f == a) = false := by simpa using h1
    by_cases h2 : f = b
    · subst h2
      simp [List.lookup, q1, h1]
    · have q2 : (f == b) = false := by simpa using h2
      simp [List.lookup, q1, q2, h1, h2]
theorem rf_c (l : Addr) (pw : Int) : (rf l pw).lookup ("_counts" : Str) = some (.ref l) := by
  unfold rf
  rw [lk2, if_pos rfl]
theorem rf_p (l : Addr) (pw : Int) : (rf l pw).lookup ("_power" : Str) = some (.int pw) := by
  unfold rf
  rw [lk2, if_neg (by decide +kernel), if_pos rfl]
theorem rf_no (l : Addr) (pw : Int) {m : Str} (h1 : ¬ m = "_counts") (h2 : ¬ m = "_power") : (rf l pw).lookup m = none := by
  unfold rf
  rw [lk2, if_neg h1, if_neg h2]
theorem pf_r (r l : Addr) : (pf r l).lookup ("_counter" : Str) = some (.ref r) := by
  unfold pf
  rw [lk2, if_pos rfl]
theorem pf_l (r l : Addr) : (pf r l).lookup ("_held" : Str) = some (.ref l) := by
  unfold pf
  rw [lk2, if_neg (by decide +kernel), if_pos rfl]
theorem pf_no (r l : Addr) {m : Str} (h1 : ¬ m = "_counter") (h2 : ¬ m = "_held") : (pf r l).lookup m = none := by
  unfold pf
  rw [lk2, if_neg h1, if_neg h2]
theorem pc_ne : ¬ (("_counts" : Str) = "_power") := by decide +kernel
theorem ch_ne : ¬ (("_counter" : Str) = "_held") := by decide +kernel
theorem rf_mk (l : Addr) (pw : Int) : putF "_power" (.int pw) (putF "_counts" (.ref l) []) = rf l pw := by
  show (if ("_counts" : Str) = "_power" then [(("_counts" : Str), V.int pw)] else (("_counts" : Str), V.ref l) :: putF "_power" (V.int pw) []) = rf l pw
  rw [if_neg pc_ne]
  all_goals rfl
theorem rf_put (l : Addr) (pw z : Int) : putF "_power" (.int z) (rf l pw) = rf l z := by
  show (if ("_counts" : Str) = "_power" then _ else (("_counts" : Str), V.ref l) :: (if ("_power" : Str) = "_power" then [(("_power" : Str), V.int z)] else _)) = rf l z
  rw [if_neg pc_ne, if_pos rfl]
  all_goals rfl
theorem pf_mk (r l : Addr) : putF "_held" (.ref l) (putF "_counter" (.ref r) []) = pf r l := by
  show (if ("_counter" : Str) = "_held" then [(("_counter" : Str), V.ref l)] else (("_counter" : Str), V.ref r) :: putF "_held" (V.ref l) []) = pf r l
  rw [if_neg ch_ne]
  all_goals rfl
/-- the register at r, its list at l -/
structure RegAt (C : Addr) (H : Hp) (r l : Addr) (cs : List Int) (pw : Int) : Prop where
  o : ∃ dx, H r = some (.ins C dx (rf l pw))
  c : H l = some (.lst (cs.map V.int))
  n : cs.length = 3
theorem RegAt.kp {C r l : Addr} {S : List Addr} {H H' : Hp} {cs : List Int} {pw : Int} (R : RegAt C H r l cs pw) (k : Kp S H H') (h1 : r ∉ S) (h2 : l ∉ S) : RegAt C H' r l cs pw :=
  ⟨R.o.imp fun _ e => k.at e h1, k.at R.c h2, R.n⟩
theorem cnt_at {cs : List Int} {e : Int} (hn : cs.length = 3) (he : OkE e) : atI (cs.map V.int) e = some (.int (cnt cs e)) := by
  have hlt : e.toNat < cs.length := by
    have h1 := he.1
    have h2 := he.2
    omega
  refine at_of (j := e.toNat) (by have := he.1; omega) ?_
  rw [List.getElem?_map]
  unfold cnt
  rw [List.getD_eq_getElem?_getD, List.getElem?_eq_getElem hlt]
  rfl

/-- items by place, where the context is a comprehension's -/
theorem ixT (K : PySem.W.Frag) {X : Cx} (h : X.K = K := by rfl) : IxR X (rIxT K) := h ▸ ix_tup
theorem ixL (K : PySem.W.Frag) {X : Cx} (h : X.K = K := by rfl) : IxR X (rIxL K) := h ▸ ix_list
/-! ### check_epoch -/
section
variable {P : Program} {w : World} {K : PySem.W.Frag} {mg : Str → Option Value} {base : Heap} {a : Adr}
def spEp (a : Adr) : Sp := fun vs H Q E => ∃ e : Int, vs = [.int e] ∧ (OkE e → Q .non H) ∧ (¬ OkE e → E (.ref a.na) none H)
theorem raisesC {X : Cx} {x : Str} {C CE : Addr} (h : ErrC X.K X.mg x C CE) : Raises X (.ref C) := raises_own h.b h.t
theorem scEp : FnScope ["epoch"] ["epoch"] (defScope sEp) := ⟨rfl, rfl, rfl, by decide +kernel, rfl, by decide +kernel, by decide +kernel⟩
theorem ok_ep {f : Addr} {fd : FuncData} (F : Fun K "check_epoch" "check_epoch" sEp f fd) (T : Txt K mg a) : FnOk P w K mg base (CN P w) 1 f fd ["epoch"] (spEp a) := by
  refine okN F scEp (fun vs H Q E h => ?_) (fun cdv A outer s H vs Q E hr h => ?_)
  · obtain ⟨e, rfl, _⟩ := h
    rfl
  · obtain ⟨e, rfl, k1, k2⟩ := h
    obtain ⟨te, mE⟩ := T.ep
    refine ⟨_, pss_one (ps_if (PW.pt (pw_or (pt_cmpR op_lt (pv 0) pe_int (nomark _)) (pw_or1 (pt_cmpR op_ge (pv 0) (pe_glob (v := .int 3) rfl mE ⟨_, rfl⟩) (nomark _)))))
      (pss_one (L2N.ps_raise rfl (L2N.takes_of rfl rfl rfl rfl) (L2N.pmk_own PySem.F.excBase_ValueError T.na.q T.na.g T.na.k (raisesC T.na) rfl))) pss_nil), ?_⟩
    refine ⟨_, rfl, _, _, rfl, rfl, _, rfl, ?_⟩
    by_cases h0 : e < 0
    · rw [decide_eq_true h0]
      refine iteT (iteT ?_)
      exact k2 fun z => by have := z.1; omega
    · rw [decide_eq_false h0]
      refine iteF ⟨_, rfl, _, _, rfl, rfl, _, rfl, ?_⟩
      by_cases h3 : 3 ≤ e
      · rw [decide_eq_true h3]
        refine iteT ?_
        exact k2 fun z => by have := z.2; omega
      · rw [decide_eq_false h3]
        refine iteF ?_
        exact k1 ⟨by omega, by omega⟩
end
end K57

/-! the register's methods -/
namespace K57
open PySem L2
section
variable {P : Program} {w : World} {K : PySem.W.Frag} {mg : Str → Option Value} {base : Heap} {a : Adr}
/-- a def of the module, a method -/
structure Df (K : PySem.W.Frag) (mg : Str → Option Value) (x : Str) (st : Stmt) (f : Addr) (fd : FuncData) (ps : List Str) : Prop where
  F : Fun K x x st f fd
  b : Binds K fd ps []
  m : mg x = some (.ref f)
structure Mt (K : PySem.W.Frag) (C : Addr) (x q : Str) (st : Stmt) (f : Addr) (fd : FuncData) (ps : List Str) : Prop where
  F : Fun K x q st f fd
  b : Binds K fd ps []
  m : Meth K C x f

/-! ### Register.__init__ -/
def spRI (a : Adr) : Sp := fun vs H Q _ => ∃ (r dx : Addr), vs = [.ref r] ∧ H r = some (.ins a.cr dx []) ∧
  ∀ (H' : Hp) (l : Addr), H l = none → Kp [r] H H' → RegAt a.cr H' r l [0, 0, 0] (-1) → Q .non H'
theorem scRI : FnScope ["self", "_"] ["self"] (defScope sRInit) := ⟨rfl, rfl, rfl, by decide +kernel, rfl, by decide +kernel, by decide +kernel⟩
theorem ok_rinit {f : Addr} {fd : FuncData} (F : Fun K "__init__" "Register.__init__" sRInit f fd) (T : Txt K mg a) : FnOk P w K mg base CX0 1 f fd ["self"] (spRI a) := by
  refine F.ok scRI (fun vs H Q E h => ?_) (fun cdv A outer s H vs Q E hr h => ?_)
  · obtain ⟨r, dx, rfl, _⟩ := h
    rfl
  · obtain ⟨r, dx, rfl, hR, k⟩ := h
    obtain ⟨te, mE⟩ := T.ep
    refine ⟨_, pss_cons (ps_fld (pv 0) (pe_lc (own := [("_", 1)]) (g := gName 1) (tt := tYes) rfl scRI.nd (pi_range1 rfl T.rng (pa_cons (pe_glob (v := .int 3) rfl mE ⟨_, rfl⟩) pa_nil))
        (blkOk_by (own := [("_", 1)]) (N := ["self", "_"]) (sc := defScope sRInit) (by decide +kernel)) (fun _ _ _ _ _ => pg_name (i := 1) scRI.nd rfl (Or.inl rfl)) (fun _ _ _ _ _ => pts_nil) (fun _ _ _ _ _ => pe_int)) rfl)
      (pss_one (ps_fld (pv 0) (pe_un un_neg pe_int) rfl)), ?_⟩
    refine ⟨3, rfl, by decide, by decide, fun D hD => lc_range (lo := 0) (n := 3) (fun i H' => H' = upd H D (.lst (List.replicate i (V.int 0)))) rfl ?_ ?_⟩
    · rintro i H' hi rfl
      refine ⟨rfl, _, upd_same, by rw [List.length_replicate]; exact Nat.lt_trans hi (by decide), ?_⟩
      show upd (upd H D _) D _ = _
      rw [upd_upd]
      exact congrArg (fun z => upd H D (.lst z)) (List.replicate_succ').symm
    · rintro H' rfl
      have nrD : r ≠ D := ne_of_none hR hD
      refine ⟨_, rfl, r, a.cr, dx, [], rfl, (by rw [upd_ne nrD]; exact hR), T.cr, T.nc, by show 0 < 1000; decide, ?_⟩
      refine ⟨_, rfl, _, rfl, r, a.cr, dx, _, rfl, upd_same, T.cr, T.np, by show 1 < 1000; decide, ?_⟩
      refine k _ D hD ?_ ⟨⟨dx, by rw [upd_same, rf_mk]⟩, by rw [upd_ne nrD.symm, upd_ne nrD.symm, upd_same]; rfl, rfl⟩
      rw [upd_upd]
      exact Kp.trans (Kp.of (Same.new hD)) (Kp.put (by rw [upd_ne nrD]; exact hR) (fun xs z => by cases z) (by simp))

/-! ### count -/
def spRC (a : Adr) : Sp := fun vs H Q _ => ∃ (r l : Addr) (cs : List Int) (pw e : Int), vs = [.ref r, .int e] ∧ RegAt a.cr H r l cs pw ∧ OkE e ∧ Q (.int (cnt cs e)) H
theorem scRC : FnScope ["self", "epoch"] ["self", "epoch"] (defScope sRCount) := ⟨rfl, rfl, rfl, by decide +kernel, rfl, by decide +kernel, by decide +kernel⟩
theorem ok_rcount {f fE : Addr} {fd fdE : FuncData} (F : Fun K "count" "Register.count" sRCount f fd) (T : Txt K mg a) (DE : Df K mg "check_epoch" sEp fE fdE ["epoch"]) : FnOk P w K mg base CX0 2 f fd ["self", "epoch"] (spRC a) := by
  have GE : FnOk P w K mg base (CN P w) 1 fE fdE ["epoch"] (spEp a) := ok_ep DE.F T
  refine F.ok scRC (fun vs H Q E h => ?_) (fun cdv A outer s H vs Q E hr h => ?_)
  · obtain ⟨r, l, cs, pw, e, rfl, _⟩ := h
    rfl
  · obtain ⟨r, l, cs, pw, e, rfl, R, he, k⟩ := h
    obtain ⟨dx, hR⟩ := R.o
    refine ⟨_, pss_cons (ps_expr (pe_call GE hr rfl DE.m DE.F.kp DE.b .nil passN0 (pa_cons (pv 1) pa_nil))) (pss_one (ps_ret (pe_ix ix_list (pe_fld (pv 0) rfl) (pv 1) (fun _ _ => rfl)))), ?_⟩
    refine ⟨_, rfl, e, rfl, fun _ => ?_, fun z => absurd he z⟩
    exact ⟨_, rfl, r, a.cr, dx, _, _, rfl, hR, T.cr, T.nc, rf_c _ _, _, rfl, l, _, _, _, rfl, rfl, SqL.of R.c, cnt_at R.n he, k⟩

/-! ### raise_to -/
def spRR (a : Adr) : Sp := fun vs H Q E => ∃ (r l : Addr) (cs : List Int) (pw e n : Int), vs = [.ref r, .int e, .int n] ∧ RegAt a.cr H r l cs pw ∧ OkE e ∧ cnt cs e < n ∧ (pw = 0 → E (.ref a.dn) none H) ∧
  (pw ≠ 0 → ∀ H', Kp [r, l] H H' → RegAt a.cr H' r l (cs.set e.toNat n) (pwNext pw) → Q .non H')
theorem scRR : FnScope ["self", "epoch", "count"] ["self", "epoch", "count"] (defScope sRRaise) := ⟨rfl, rfl, rfl, by decide +kernel, rfl, by decide +kernel, by decide +kernel⟩
theorem set_at {n : Nat} {e : Int} (hn : n = 3) (he : OkE e) : ixN n e = some e.toNat := by
  have h1 := he.1
  have h2 := he.2
  unfold ixN
  rw [if_pos h1, if_pos (by omega)]
theorem map_set (cs : List Int) (j : Nat) (n : Int) : (cs.map V.int).set j (.int n) = (cs.set j n).map V.int := by
  rw [List.map_set]
theorem ok_rraise {f fE : Addr} {fd fdE : FuncData} (F : Fun K "raise_to" "Register.raise_to" sRRaise f fd) (T : Txt K mg a) (DE : Df K mg "check_epoch" sEp fE fdE ["epoch"]) : FnOk P w K mg base (CN P w) 2 f fd ["self", "epoch", "count"] (spRR a) := by
  have GE : FnOk P w K mg base (CN P w) 1 fE fdE ["epoch"] (spEp a) := ok_ep DE.F T
  refine okN F scRR (fun vs H Q E h => ?_) (fun cdv A outer s H vs Q E hr h => ?_)
  · obtain ⟨r, l, cs, pw, e, n, rfl, _⟩ := h
    rfl
  · obtain ⟨r, l, cs, pw, e, n, rfl, R, he, hn, kd, k⟩ := h
    obtain ⟨dx, hR⟩ := R.o
    refine ⟨_, pss_cons (ps_expr (pe_call GE hr rfl DE.m DE.F.kp DE.b .nil passN0 (pa_cons (pv 1) pa_nil)))
      (pss_cons (ps_if (pt_cmpR op_le (pv 2) (pe_ix ix_list (pe_fld (pv 0) rfl) (pv 1) (fun _ _ => rfl)) (nomark _)) (pss_one ps_never) pss_nil)
      (pss_cons (ps_if (pt_cmpR op_eq (pe_fld (pv 0) rfl) pe_int (nomark _)) (pss_one (L2N.ps_raise rfl (L2N.takes_of rfl rfl rfl rfl) (L2N.pmk_own PySem.F.excBase_ValueError T.dn.q T.dn.g T.dn.k (raisesC T.dn) rfl))) pss_nil)
      (pss_cons (ps_if (pt_cmpR op_gt (pe_fld (pv 0) rfl) pe_int (nomark _)) (pss_one (ps_fldaug (pv 0) pe_int in_sub)) pss_nil)
      (pss_one (ps_asg (pv 2) (pg_sub (pe_fld (pv 0) rfl) (pv 1) set_list)))))), ?_⟩
    refine ⟨_, rfl, e, rfl, fun _ => ?_, fun z => absurd he z⟩
    refine ⟨_, rfl, _, rfl, r, a.cr, dx, _, _, rfl, hR, T.cr, T.nc, rf_c _ _, _, rfl, l, _, _, _, rfl, rfl, SqL.of R.c, cnt_at R.n he, _, _, rfl, rfl, _, rfl, ?_⟩
    rw [decide_eq_false (by omega)]
    refine iteF ⟨_, rfl, r, a.cr, dx, _, _, rfl, hR, T.cr, T.np, rf_p _ _, rfl, _, rfl, ?_⟩
    by_cases h0 : pw = 0
    · rw [decide_eq_true (by rw [h0])]
      exact iteT (kd h0)
    · rw [decide_eq_false (fun z => h0 (V.int.inj z))]
      refine iteF ⟨_, rfl, r, a.cr, dx, _, _, rfl, hR, T.cr, T.np, rf_p _ _, _, _, rfl, rfl, _, rfl, ?_⟩
      have nlr : l ≠ r := ne_of R.c hR (by intro z; cases z)
      have fin : ∀ pw2 (H2 : Hp), Kp [r, l] H H2 → H2 r = some (.ins a.cr dx (rf l pw2)) → H2 l = some (.lst (cs.map V.int)) → pw2 = pwNext pw →
          ∃ v, ([some (V.ref r), some (V.int e), some (V.int n)] : L2.St)[2]? = some (some v) ∧ gSub (tFld K (tVar 0) "_counts") (tVar 1) rSetL v [some (V.ref r), some (V.int e), some (V.int n)] H2 fun _ H' => Q .non H' := fun pw2 H2 s1 h1 h2 e2 => by
        refine ⟨_, rfl, _, rfl, r, a.cr, dx, _, _, rfl, h1, T.cr, T.nc, rf_c _ _, _, rfl, l, _, _, e.toNat, rfl, rfl, h2, set_at (by rw [List.length_map]; exact R.n) he, ?_⟩
        refine k h0 _ (s1.trans (Kp.put h2 (fun xs z => by cases z) (by simp))) ⟨⟨dx, by rw [upd_ne nlr.symm, h1, e2]⟩, by rw [upd_same, map_set], by rw [List.length_set]; exact R.n⟩
      by_cases hp : 0 < pw
      · rw [decide_eq_true hp]
        refine iteT ⟨_, rfl, r, a.cr, dx, _, _, rfl, hR, T.cr, T.np, rf_p _ _, _, _, rfl, rfl, dx, _, hR, by show 2 < 1000; decide, ?_⟩
        exact fin (pw - 1) _ (Kp.put hR (fun xs z => by cases z) (by simp)) (by rw [upd_same, rf_put]) (by rw [upd_ne nlr]; exact R.c) (if_pos hp).symm
      · rw [decide_eq_false hp]
        exact iteF (fin pw H Kp.refl hR R.c (if_neg hp).symm)

/-! ### supply -/
def spRS (a : Adr) : Sp := fun vs H Q _ => ∃ (r l : Addr) (cs : List Int) (pw z : Int), vs = [.ref r, .int z] ∧ RegAt a.cr H r l cs pw ∧ -1 ≤ z ∧ ∀ H', Kp [r] H H' → RegAt a.cr H' r l cs z → Q .non H'
theorem scRS : FnScope ["self", "raises"] ["self", "raises"] (defScope sRSup) := ⟨rfl, rfl, rfl, by decide +kernel, rfl, by decide +kernel, by decide +kernel⟩
theorem ok_rsup {f : Addr} {fd : FuncData} (F : Fun K "supply" "Register.supply" sRSup f fd) (T : Txt K mg a) : FnOk P w K mg base CX0 1 f fd ["self", "raises"] (spRS a) := by
  refine F.ok scRS (fun vs H Q E h => ?_) (fun cdv A outer s H vs Q E hr h => ?_)
  · obtain ⟨r, l, cs, pw, z, rfl, _⟩ := h
    rfl
  · obtain ⟨r, l, cs, pw, z, rfl, R, hz, k⟩ := h
    obtain ⟨dx, hR⟩ := R.o
    have nlr : l ≠ r := ne_of R.c hR (by intro z; cases z)
    refine ⟨_, pss_cons (ps_if (pt_cmpR op_lt (pv 1) (pe_un un_neg pe_int) (nomark _)) (pss_one ps_never) pss_nil) (pss_one (ps_fld (pv 0) (pv 1) rfl)), ?_⟩
    refine ⟨_, rfl, _, rfl, _, _, rfl, rfl, _, rfl, ?_⟩
    rw [decide_eq_false (by omega)]
    refine iteF ⟨_, rfl, _, rfl, r, a.cr, dx, _, rfl, hR, T.cr, T.np, by show 2 < 1000; decide, ?_⟩
    exact k _ (Kp.put hR (fun xs z => by cases z) (by simp)) ⟨⟨dx, by rw [upd_same, rf_put]⟩, by rw [upd_ne nlr]; exact R.c, R.n⟩
end
end K57

/-! the purse: what it holds; the small methods *-/
namespace K57
open PySem L2
def TkAt (H : Hp) (T : Addr) (t : List Int) : Prop := H T = some (.tup (t.map V.int))
def BlAt (H : Hp) (B : Addr) (s u v : Int) (x : List Int) : Prop := ∃ C, H B = some (.tup [.int s, .int u, .int v, .ref C]) ∧ TkAt H C x
def ItemAt (H : Hp) (z : V) (i : It) : Prop := ∃ p T B, z = .ref p ∧ H p = some (.tup [.int i.e, .int i.n, .ref T, .ref B]) ∧ TkAt H T i.t ∧ BlAt H B i.s i.u i.v i.x
abbrev ItemsAt (H : Hp) : List V → List It → Prop := Paired (ItemAt H)
def HeldAt (H : Hp) (l : Addr) (its : List It) : Prop := ∃ vs, H l = some (.lst vs) ∧ ItemsAt H vs its
structure PurAt (C : Addr) (H : Hp) (p r l : Addr) (its : List It) : Prop where
  o : ∃ dx, H p = some (.ins C dx (pf r l))
  h : HeldAt H l its
theorem TkAt.kp {S : List Addr} {H H' : Hp} {T : Addr} {t : List Int} (h : TkAt H T t) (k : Kp S H H') : TkAt H' T t := k.tup h
theorem BlAt.kp {S : List Addr} {H H' : Hp} {B : Addr} {s u v : Int} {x : List Int} (h : BlAt H B s u v x) (k : Kp S H H') : BlAt H' B s u v x := h.imp fun _ e => ⟨k.tup e.1, e.2.kp k⟩
theorem ItemAt.kp {S : List Addr} {H H' : Hp} {z : V} {i : It} (h : ItemAt H z i) (k : Kp S H H') : ItemAt H' z i := by
  obtain ⟨p, T, B, e, h1, h2, h3⟩ := h
  exact ⟨p, T, B, e, k.tup h1, h2.kp k, h3.kp k⟩
theorem ItemsAt.kp {S : List Addr} {H H' : Hp} {vs : List V} {its : List It} (h : ItemsAt H vs its) (k : Kp S H H') : ItemsAt H' vs its := Paired.mapP h fun _ _ q => q.kp k
theorem HeldAt.kp {S : List Addr} {H H' : Hp} {l : Addr} {its : List It} (h : HeldAt H l its) (k : Kp S H H') (n : l ∉ S) : HeldAt H' l its := h.imp fun _ e => ⟨k.at e.1 n, e.2.kp k⟩
theorem PurAt.kp {C : Addr} {S : List Addr} {H H' : Hp} {p r l : Addr} {its : List It} (h : PurAt C H p r l its) (k : Kp S H H') (n1 : p ∉ S) (n2 : l ∉ S) : PurAt C H' p r l its := ⟨h.o.imp fun _ e => k.at e n1, h.h.kp k n2⟩
theorem paired_at {α β : Type} {F : α → β → Prop} : ∀ {xs : List α} {ys : List β} {i : Nat} {x : α}, Paired F xs ys → xs[i]? = some x → ∃ y, ys[i]? = some y ∧ F x y
  | _, _, _, _, .nil, e => by simp at e
  | _, _, 0, _, .cons r _, e => by
    simp at e
    subst e
    exact ⟨_, rfl, r⟩
  | _, _, i + 1, x, .cons _ t, e => by
    obtain ⟨y, h1, h2⟩ := paired_at (i := i) (x := x) t (by simpa using e)
    exact ⟨y, by simpa using h1, h2⟩
theorem paired_len {α β : Type} {F : α → β → Prop} : ∀ {xs : List α} {ys : List β}, Paired F xs ys → xs.length = ys.length
  | _, _, .nil => rfl
  | _, _, .cons _ t => by simp [paired_len t]
theorem paired_app {α β : Type} {F : α → β → Prop} : ∀ {xs as : List α} {ys bs : List β}, Paired F xs ys → Paired F as bs → Paired F (xs ++ as) (ys ++ bs)
  | _, _, _, _, .nil, s => s
  | _, _, _, _, .cons r t, s => .cons r (paired_app t s)
theorem small_sz {n : Nat} (h : n ≤ 1000) : n ≤ sizeLine := Nat.le_of_lt (small1000 h)

section
variable {P : Program} {w : World} {K : PySem.W.Frag} {mg : Str → Option Value} {base : Heap} {a : Adr}
/-! ### Purse.__init__ -/
def spPI (a : Adr) : Sp := fun vs H Q _ => ∃ (p dx r : Addr), vs = [.ref p, .ref r] ∧ H p = some (.ins a.cp dx []) ∧
  ∀ (H' : Hp) (l : Addr), H l = none → Kp [p] H H' → PurAt a.cp H' p r l [] → Q .non H'
theorem scPI : FnScope ["self", "counter"] ["self", "counter"] (defScope sPInit) := ⟨rfl, rfl, rfl, by decide +kernel, rfl, by decide +kernel, by decide +kernel⟩
theorem ok_pinit {f : Addr} {fd : FuncData} (F : Fun K "__init__" "Purse.__init__" sPInit f fd) (T : Txt K mg a) : FnOk P w K mg base CX0 1 f fd ["self", "counter"] (spPI a) := by
  refine F.ok scPI (fun vs H Q E h => ?_) (fun cdv A outer s H vs Q E hr h => ?_)
  · obtain ⟨p, dx, r, rfl, _⟩ := h
    rfl
  · obtain ⟨p, dx, r, rfl, hp, k⟩ := h
    refine ⟨_, pss_cons (ps_fld (pv 0) (pv 1) rfl) (pss_one (ps_fld (pv 0) (pe_lst pa_nil) rfl)), ?_⟩
    refine ⟨_, rfl, _, rfl, p, a.cp, dx, [], rfl, hp, T.cp, T.no, by show 0 < 1000; decide, ?_⟩
    refine ⟨Nat.zero_le _, fun l hl => ?_⟩
    have npl : p ≠ l := fun q => by
      rw [← q, upd_same] at hl
      cases hl
    have hl0 : H l = none := by
      rw [upd_ne npl.symm] at hl
      exact hl
    refine ⟨_, rfl, p, a.cp, dx, _, rfl, by rw [upd_ne npl]; exact upd_same, T.cp, T.nh, by show 1 < 1000; decide, ?_⟩
    refine k _ l hl0 ?_ ⟨⟨dx, by rw [upd_same, pf_mk]⟩, [], by rw [upd_ne npl.symm, upd_same], .nil⟩
    have k1 : Kp [p] H (upd H p (.ins a.cp dx (putF "_counter" (.ref r) []))) := Kp.put hp (fun xs z => by cases z) (by simp)
    refine (k1.trans (Kp.of (Same.new (o := .lst []) hl))).trans ?_
    exact Kp.put (u := .ins a.cp dx (putF "_counter" (.ref r) [])) (by rw [upd_ne npl]; exact upd_same) (fun xs z => by cases z) (by simp)

/-! ### size, put_back -/
def spPS (a : Adr) : Sp := fun vs H Q _ => ∃ (p r l : Addr) (its : List It), vs = [.ref p] ∧ PurAt a.cp H p r l its ∧ Q (.int its.length) H
theorem scPS : FnScope ["self"] ["self"] (defScope sPSize) := ⟨rfl, rfl, rfl, by decide +kernel, rfl, by decide +kernel, by decide +kernel⟩
theorem ok_psize {f : Addr} {fd : FuncData} (F : Fun K "size" "Purse.size" sPSize f fd) (T : Txt K mg a) : FnOk P w K mg base CX0 1 f fd ["self"] (spPS a) := by
  refine F.ok scPS (fun vs H Q E h => ?_) (fun cdv A outer s H vs Q E hr h => ?_)
  · obtain ⟨p, r, l, its, rfl, _⟩ := h
    rfl
  · obtain ⟨p, r, l, its, rfl, ⟨⟨dx, hp⟩, vs, hl, hi⟩, k⟩ := h
    refine ⟨_, pss_one (ps_ret (pe_callB call_len_seq (by rfl) T.len PySem.boot_len (pa_cons (pe_fld (pv 0) rfl) pa_nil))), ?_⟩
    refine ⟨_, rfl, p, a.cp, dx, _, _, rfl, hp, T.cp, T.nh, pf_l _ _, l, _, rfl, .inl (SqL.of hl), ?_⟩
    rw [paired_len hi]
    exact k
def spPB (a : Adr) : Sp := fun vs H Q _ => ∃ (p r l : Addr) (its : List It) (z : V) (i : It), vs = [.ref p, z] ∧ PurAt a.cp H p r l its ∧ ItemAt H z i ∧ its.length ≤ 1000 ∧ ∀ H', Kp [l] H H' → PurAt a.cp H' p r l (its ++ [i]) → Q .non H'
theorem scPB : FnScope ["self", "item"] ["self", "item"] (defScope sPBack) := ⟨rfl, rfl, rfl, by decide +kernel, rfl, by decide +kernel, by decide +kernel⟩
theorem PurAt.app {C : Addr} {H H1 : Hp} {p r l : Addr} {its : List It} {z : V} {i : It} {dx : Addr} {vs : List V} (hp : H p = some (.ins C dx (pf r l))) (hl : H l = some (.lst vs)) (hi : ItemsAt H vs its) (k : Same H H1) (hz : ItemAt H1 z i) :
    Kp [l] H (upd H1 l (.lst (vs ++ [z]))) ∧ PurAt C (upd H1 l (.lst (vs ++ [z]))) p r l (its ++ [i]) := by
  have k2 : Kp [l] H1 (upd H1 l (.lst (vs ++ [z]))) := Kp.put (k _ _ hl) (fun xs q => by cases q) (by simp)
  have k1 : Kp [l] H H1 := Kp.of k
  refine ⟨k1.trans k2, ⟨⟨dx, ?_⟩, _, upd_same, paired_app (hi.kp (k1.trans k2)) (.cons (hz.kp k2) .nil)⟩⟩
  have nlp : p ≠ l := (ne_of hl hp (by intro q; cases q)).symm
  rw [upd_ne nlp]
  exact k _ _ hp
theorem ok_pback {f : Addr} {fd : FuncData} (F : Fun K "put_back" "Purse.put_back" sPBack f fd) (T : Txt K mg a) : FnOk P w K mg base CX0 1 f fd ["self", "item"] (spPB a) := by
  refine F.ok scPB (fun vs H Q E h => ?_) (fun cdv A outer s H vs Q E hr h => ?_)
  · obtain ⟨p, r, l, its, z, i, rfl, _⟩ := h
    rfl
  · obtain ⟨p, r, l, its, z, i, rfl, ⟨⟨dx, hp⟩, vs, hl, hi⟩, hz, hs, k⟩ := h
    refine ⟨_, pss_one (ps_expr (pe_bm PySem.F.plainAttrs_list PySem.F.slot_list_append PySem.F.type_list_append mt_append (pe_fld (pv 0) rfl) (pa_cons (pv 1) pa_nil))), ?_⟩
    have q := PurAt.app (H1 := H) (C := a.cp) hp hl hi (Same.refl H) hz
    exact ⟨_, rfl, p, a.cp, dx, _, _, rfl, hp, T.cp, T.nh, pf_l _ _, .inl ⟨rfl, _, SqL.of hl⟩, _, rfl, l, _, _, rfl, rfl, hl, by rw [paired_len hi]; exact small1000 hs, k _ q.1 q.2⟩

/-! ### _next_number -/
def spPN (a : Adr) : Sp := fun vs H Q _ => ∃ (p r l lc : Addr) (cs : List Int) (pw : Int) (its : List It) (e : Int), vs = [.ref p, .int e] ∧ RegAt a.cr H r lc cs pw ∧ PurAt a.cp H p r l its ∧ OkE e ∧ its.length ≤ 100 ∧
  ∀ H', Same H H' → Q (.int (nextN cs its e)) H'
theorem scPN : FnScope ["self", "epoch", "numbers", "item"] ["self", "epoch"] (defScope sPNext) := ⟨rfl, rfl, rfl, by decide +kernel, rfl, by decide +kernel, by decide +kernel⟩
theorem nums1_len (its : List It) (e : Int) : (nums1 its e).length ≤ its.length := by
  unfold nums1
  rw [List.length_map]
  exact List.length_filter_le _ _
theorem ok_pnext {f fC fE : Addr} {fd fdC fdE : FuncData} (F : Fun K "_next_number" "Purse._next_number" sPNext f fd) (T : Txt K mg a) (MC : Mt K a.cr "count" "Register.count" sRCount fC fdC ["self", "epoch"]) (DE : Df K mg "check_epoch" sEp fE fdE ["epoch"]) :
    FnOk P w K mg base CX0 3 f fd ["self", "epoch"] (spPN a) := by
  have GC : FnOk P w K mg base CX0 2 fC fdC ["self", "epoch"] (spRC a) := ok_rcount MC.F T DE
  refine F.ok scPN (fun vs H Q E h => ?_) (fun cdv A outer s H vs Q E hr h => ?_)
  · obtain ⟨p, r, l, lc, cs, pw, its, e, rfl, _⟩ := h
    rfl
  · obtain ⟨p, r, l, lc, cs, pw, its, e, rfl, R, ⟨⟨dx, hp⟩, vs, hl, hi⟩, he, hs, k⟩ := h
    refine ⟨_, pss_cons (ps_setLc (i := 2) (own := [("item", 3)]) (g := gName 3) rfl scPN.nd rfl rfl (sw_true rfl rfl rfl (by decide +kernel)) (pi_list (pe_fld (pv 0) rfl))
        (blkOk_by (own := [("item", 3)]) (N := ["self", "epoch", "numbers", "item"]) (sc := defScope sPNext) (by decide +kernel)) (fun _ _ _ _ _ => pg_name (i := 3) scPN.nd rfl (Or.inl rfl))
        (fun _ _ _ _ _ => pts_one (pt_cmpR op_eq (pe_ix (ixT K) (pv 3) pe_int (fun _ _ => rfl)) (pv 1) (nomark _)))
        (fun _ _ _ _ _ => pe_op op_add (pe_ix (ixT K) (pv 3) pe_int (fun _ _ => rfl)) pe_int))
      (pss_one (ps_ret (pe_callB (cr_max rfl) (by rfl) T.max (by decide +kernel) (pa_cons (pe_op op_cat (pe_lst (pa_cons (pe_meth (pe_fld (pv 0) rfl) T.cr MC.m GC hr MC.b .nil pass0 (pa_cons (pv 1) pa_nil)) pa_nil)) (pv 2)) pa_nil)))), ?_⟩
    refine ⟨_, rfl, p, a.cp, dx, _, _, rfl, hp, T.cp, T.nh, pf_l _ _, l, rfl, ⟨_, SqL.of hl⟩, fun D hD => ?_⟩
    have kp : ∀ xs, Same H (upd H D (.lst xs)) := fun xs => Same.new hD
    refine lc_list (K := K) (a := l) (xs := vs) (fun i H' => H' = upd H D (.lst ((nums1 (its.take i) e).map V.int))) rfl (fun i H' _ q => by rw [q]; exact SqL.of (kp _ _ _ hl)) ?_ ?_
    · rintro i z H' hz rfl
      obtain ⟨it, hit, q⟩ := paired_at hi hz
      obtain ⟨pi, Ti, Bi, rfl, g1, g2, g3⟩ := q.kp (Kp.of (S := []) (kp ((nums1 (its.take i) e).map V.int)))
      refine ⟨rfl, _, rfl, pi, _, _, _, rfl, rfl, SqT.of g1, rfl, _, rfl, rfl, _, rfl, ?_⟩
      by_cases c : it.e = e
      · rw [decide_eq_true (by rw [c])]
        have e1 : nums1 (its.take (i + 1)) e = nums1 (its.take i) e ++ [it.n + 1] := by
          unfold nums1
          rw [filt_yes hit (by unfold isE; exact decide_eq_true c), List.map_append]
          rfl
        refine iteT ⟨_, rfl, pi, _, _, _, rfl, rfl, SqT.of g1, rfl, _, _, rfl, rfl, _, upd_same, ?_, ?_⟩
        · rw [List.length_map]
          refine small1000 (Nat.le_trans (nums1_len _ _) ?_)
          rw [List.length_take]
          omega
        · rw [upd_upd, e1, List.map_append]
          rfl
      · rw [decide_eq_false (fun z => c (V.int.inj z))]
        have e1 : nums1 (its.take (i + 1)) e = nums1 (its.take i) e := by
          unfold nums1
          rw [filt_no hit (by unfold isE; exact decide_eq_false c)]
        refine iteF ?_
        rw [e1]
    · rintro H' rfl
      rw [paired_len hi, List.take_length]
      have kS := kp ((nums1 its e).map V.int)
      refine ⟨_, rfl, p, a.cp, dx, _, _, rfl, kS _ _ hp, T.cp, T.no, pf_r _ _, r, R.o.choose, _, rfl, kS _ _ R.o.choose_spec, rf_no _ _ (by decide +kernel) (by decide +kernel), _, rfl, ?_⟩
      refine ⟨r, lc, cs, pw, e, rfl, R.kp (Kp.of (S := []) kS) (by simp) (by simp), he, ?_⟩
      refine ⟨by show 1 ≤ sizeLine; decide, fun q hq => ?_⟩
      have nD : D ≠ q := fun z => by
        rw [← z, upd_same] at hq
        cases hq
      refine ⟨_, rfl, q, D, _, _, rfl, rfl, upd_same, by rw [upd_ne nD]; exact upd_same, ?_, fun q2 hq2 => ?_⟩
      · rw [List.length_map]
        refine small_sz (n := 1 + (nums1 its e).length) ?_
        have := nums1_len its e
        omega
      · refine ⟨q2, cnt cs e :: nums1 its e, rfl, SqL.of upd_same, Nat.succ_pos _, fun m h1 h2 => ?_⟩
        rw [fold_max h1 h2]
        exact k _ ((kS.trans (Same.new hq)).trans (Same.new hq2))
end
end K57

/-! the purse: put, what is usable, take, left *-/
namespace K57
open PySem L2
section
variable {P : Program} {w : World} {K : PySem.W.Frag} {mg : Str → Option Value} {base : Heap} {a : Adr}
/-! ### put -/
def spPP (a : Adr) : Sp := fun vs H Q E => ∃ (p r l lc : Addr) (cs : List Int) (pw : Int) (its : List It) (e : Int) (x y : V), vs = [.ref p, .int e, x, y] ∧ RegAt a.cr H r lc cs pw ∧ PurAt a.cp H p r l its ∧ its.length ≤ 100 ∧
  (¬ OkE e → E (.ref a.na) none H) ∧
  (OkE e → (12 ≤ its.length → E (.ref a.fu) none H) ∧ (its.length < 12 → ∃ (T B : Addr) (t : List Int) (s u v : Int) (z : List Int), x = .ref T ∧ y = .ref B ∧ TkAt H T t ∧ BlAt H B s u v z ∧
    ∀ H', Kp [l] H H' → PurAt a.cp H' p r l (its ++ [⟨e, nextN cs its e, t, s, u, v, z⟩]) → Q .non H'))
theorem scPP : FnScope ["self", "epoch", "ticket", "blinding"] ["self", "epoch", "ticket", "blinding"] (defScope sPPut) := ⟨rfl, rfl, rfl, by decide +kernel, rfl, by decide +kernel, by decide +kernel⟩
theorem ok_pput {f fN fC fE : Addr} {fd fdN fdC fdE : FuncData} (F : Fun K "put" "Purse.put" sPPut f fd) (T : Txt K mg a) (MN : Mt K a.cp "_next_number" "Purse._next_number" sPNext fN fdN ["self", "epoch"])
    (MC : Mt K a.cr "count" "Register.count" sRCount fC fdC ["self", "epoch"]) (DE : Df K mg "check_epoch" sEp fE fdE ["epoch"]) : FnOk P w K mg base (CN P w) 4 f fd ["self", "epoch", "ticket", "blinding"] (spPP a) := by
  have GE : FnOk P w K mg base (CN P w) 1 fE fdE ["epoch"] (spEp a) := ok_ep DE.F T
  have GN : FnOk P w K mg base CX0 3 fN fdN ["self", "epoch"] (spPN a) := ok_pnext MN.F T MC DE
  refine okN F scPP (fun vs H Q E h => ?_) (fun cdv A outer s H vs Q E hr h => ?_)
  · obtain ⟨p, r, l, lc, cs, pw, its, e, x, y, rfl, _⟩ := h
    rfl
  · obtain ⟨p, r, l, lc, cs, pw, its, e, x, y, rfl, R, U, hs, kn, ky⟩ := h
    obtain ⟨⟨dx, hp⟩, vs, hl, hi⟩ := id U
    obtain ⟨tm, mM⟩ := T.mh
    have hr1 : Room 1 _ := hr.mono (by decide)
    refine ⟨_, pss_cons (ps_expr (pe_call GE hr1 rfl DE.m DE.F.kp DE.b .nil (passN (L2N.takes_of rfl rfl rfl rfl) fun _ _ _ _ z => z) (pa_cons (pv 1) pa_nil)))
      (pss_cons (ps_if (pt_cmpR op_ge (pe_callB call_len_seq (by rfl) T.len PySem.boot_len (pa_cons (pe_fld (pv 0) rfl) pa_nil)) (pe_glob (v := .int 12) rfl mM ⟨_, rfl⟩) (nomark _))
        (pss_one (L2N.ps_raise rfl (L2N.takes_of rfl rfl rfl rfl) (L2N.pmk_own PySem.F.excBase_ValueError T.fu.q T.fu.g T.fu.k (raisesC T.fu) rfl))) pss_nil)
      (pss_one (ps_expr (pe_bm PySem.F.plainAttrs_list PySem.F.slot_list_append PySem.F.type_list_append mt_append (pe_fld (pv 0) rfl)
        (pa_cons (pe_tup (pa_cons (pv 1) (pa_cons (pe_meth (pv 0) T.cp MN.m GN hr MN.b .nil pass0 (pa_cons (pv 1) pa_nil)) (pa_cons (pv 2) (pa_cons (pv 3) pa_nil))))) pa_nil))))), ?_⟩
    refine ⟨_, rfl, e, rfl, fun he => ?_, kn⟩
    obtain ⟨kf, kk⟩ := ky he
    refine ⟨_, rfl, p, a.cp, dx, _, _, rfl, hp, T.cp, T.nh, pf_l _ _, l, _, rfl, .inl (SqL.of hl), _, _, rfl, rfl, _, rfl, ?_⟩
    rw [paired_len hi]
    by_cases c : 12 ≤ its.length
    · rw [decide_eq_true (show (12 : Int) ≤ (its.length : Int) by omega)]
      exact iteT (kf c)
    · rw [decide_eq_false (show ¬ (12 : Int) ≤ (its.length : Int) by omega)]
      obtain ⟨Tk, B, t, sv, u, v, z, rfl, rfl, hT, hB, k⟩ := kk (by omega)
      refine iteF ⟨_, rfl, p, a.cp, dx, _, _, rfl, hp, T.cp, T.nh, pf_l _ _, .inl ⟨rfl, _, SqL.of hl⟩, _, rfl, _, rfl, p, dx, _, rfl, hp, pf_no _ _ (by decide +kernel) (by decide +kernel), _, rfl, ?_⟩
      refine ⟨p, r, l, lc, cs, pw, its, e, rfl, R, U, he, hs, fun H1 s1 => ?_⟩
      refine ⟨_, rfl, _, rfl, by show 4 ≤ sizeLine; decide, fun q hq => ?_⟩
      have s2 : Same H (upd H1 q (.tup [.int e, .int (nextN cs its e), .ref Tk, .ref B])) := s1.trans (Same.new hq)
      have k2 : Kp [] H (upd H1 q (.tup [.int e, .int (nextN cs its e), .ref Tk, .ref B])) := Kp.of s2
      have hz : ItemAt (upd H1 q (.tup [.int e, .int (nextN cs its e), .ref Tk, .ref B])) (.ref q) ⟨e, nextN cs its e, t, sv, u, v, z⟩ := ⟨q, Tk, B, rfl, upd_same, hT.kp k2, hB.kp k2⟩
      have g := PurAt.app (C := a.cp) hp hl hi s2 hz
      refine ⟨l, _, _, rfl, rfl, s2 _ _ hl, by rw [paired_len hi]; exact small1000 (by omega), ?_⟩
      exact k _ g.1 g.2

/-! ### what is usable -/
def spPU (a : Adr) : Sp := fun vs H Q E => ∃ (p r l lc : Addr) (cs : List Int) (pw : Int) (its : List It) (e : Int), vs = [.ref p, .int e] ∧ RegAt a.cr H r lc cs pw ∧ PurAt a.cp H p r l its ∧ its.length ≤ 100 ∧
  (¬ OkE e → E (.ref a.na) none H) ∧ (OkE e → ∀ (H' : Hp) (D : Addr), Same H H' → H D = none → HeldAt H' D (usab cs its e) → Q (.ref D) H')
theorem scPU : FnScope ["self", "epoch", "count", "item"] ["self", "epoch"] (defScope sPUse) := ⟨rfl, rfl, rfl, by decide +kernel, rfl, by decide +kernel, by decide +kernel⟩
theorem usab_len (cs : List Int) (its : List It) (e : Int) : (usab cs its e).length ≤ its.length := List.length_filter_le _ _
theorem ok_puse {f fC fE : Addr} {fd fdC fdE : FuncData} (F : Fun K "_usable" "Purse._usable" sPUse f fd) (T : Txt K mg a) (MC : Mt K a.cr "count" "Register.count" sRCount fC fdC ["self", "epoch"]) (DE : Df K mg "check_epoch" sEp fE fdE ["epoch"]) :
    FnOk P w K mg base (CN P w) 3 f fd ["self", "epoch"] (spPU a) := by
  have GE : FnOk P w K mg base (CN P w) 1 fE fdE ["epoch"] (spEp a) := ok_ep DE.F T
  have GC : FnOk P w K mg base CX0 2 fC fdC ["self", "epoch"] (spRC a) := ok_rcount MC.F T DE
  refine okN F scPU (fun vs H Q E h => ?_) (fun cdv A outer s H vs Q E hr h => ?_)
  · obtain ⟨p, r, l, lc, cs, pw, its, e, rfl, _⟩ := h
    rfl
  · obtain ⟨p, r, l, lc, cs, pw, its, e, rfl, R, ⟨⟨dx, hp⟩, vs, hl, hi⟩, hs, kn, k⟩ := h
    obtain ⟨dr, hR⟩ := R.o
    have hr1 : Room 1 _ := hr.mono (by decide)
    refine ⟨_, pss_cons (ps_expr (pe_call GE hr1 rfl DE.m DE.F.kp DE.b .nil (passN (L2N.takes_of rfl rfl rfl rfl) fun _ _ _ _ z => z) (pa_cons (pv 1) pa_nil)))
      (pss_cons (ps_set (i := 2) scPU.nd rfl (Or.inr rfl) (pe_meth (pe_fld (pv 0) rfl) T.cr MC.m GC hr MC.b .nil pass0 (pa_cons (pv 1) pa_nil)))
      (pss_one (ps_ret (pe_lc (own := [("item", 3)]) (g := gName 3) rfl scPU.nd (pi_list (pe_fld (pv 0) rfl)) (blkOk_by (own := [("item", 3)]) (N := ["self", "epoch", "count", "item"]) (sc := defScope sPUse) (by decide +kernel))
        (fun _ _ _ _ _ => pg_name (i := 3) scPU.nd rfl (Or.inl rfl))
        (fun _ _ _ _ _ => pts_one (PW.pt (pw_and (pt_cmpR op_eq (pe_ix (ixT K) (pv 3) pe_int (fun _ _ => rfl)) (pv 1) (nomark _)) (pw_and1 (pt_cmpR op_ge (pe_ix (ixT K) (pv 3) pe_int (fun _ _ => rfl)) (pv 2) (nomark _))))))
        (fun _ _ _ _ _ => pv 3))))), ?_⟩
    refine ⟨_, rfl, e, rfl, fun he => ?_, kn⟩
    refine ⟨_, rfl, p, a.cp, dx, _, _, rfl, hp, T.cp, T.no, pf_r _ _, r, dr, _, rfl, hR, rf_no _ _ (by decide +kernel) (by decide +kernel), _, rfl, r, lc, cs, pw, e, rfl, R, he, ?_⟩
    refine ⟨_, rfl, p, a.cp, dx, _, _, rfl, hp, T.cp, T.nh, pf_l _ _, l, rfl, ⟨_, SqL.of hl⟩, fun D hD => ?_⟩
    have kp : ∀ xs, Same H (upd H D (.lst xs)) := fun xs => Same.new hD
    refine lc_list (K := K) (a := l) (xs := vs) (fun i H' => ∃ us, H' = upd H D (.lst us) ∧ ItemsAt H us (usab cs (its.take i) e)) ⟨[], rfl, .nil⟩ (fun i H' _ ⟨us, q, _⟩ => by rw [q]; exact SqL.of (kp _ _ _ hl)) ?_ ?_
    · rintro i z H' hz ⟨us, rfl, hu⟩
      obtain ⟨it, hit, q⟩ := paired_at hi hz
      obtain ⟨pi, Ti, Bi, rfl, g1, g2, g3⟩ := id (q.kp (Kp.of (S := []) (kp us)))
      refine ⟨rfl, _, rfl, pi, _, _, _, rfl, rfl, SqT.of g1, rfl, _, rfl, rfl, _, rfl, ?_⟩
      have no : isU cs e it = false → ItemsAt H us (usab cs (its.take (i + 1)) e) := fun h => by
        unfold usab
        rw [filt_no hit h]
        exact hu
      by_cases c : it.e = e
      · rw [decide_eq_true (by rw [c])]
        refine iteT ⟨_, rfl, pi, _, _, _, rfl, rfl, SqT.of g1, rfl, _, rfl, _, _, rfl, rfl, _, rfl, ?_⟩
        by_cases c2 : cnt cs e ≤ it.n
        · rw [decide_eq_true c2]
          refine iteT ⟨_, rfl, _, upd_same, ?_, us ++ [.ref pi], by rw [upd_upd], ?_⟩
          · rw [paired_len hu]
            refine small1000 (Nat.le_trans (usab_len _ _ _) ?_)
            rw [List.length_take]
            omega
          · unfold usab
            rw [filt_yes hit (by unfold isU; simp [c, c2])]
            exact paired_app hu (.cons q .nil)
        · rw [decide_eq_false c2]
          exact iteF ⟨us, rfl, no (by unfold isU; simp [c2])⟩
      · rw [decide_eq_false (fun z => c (V.int.inj z))]
        refine iteF ?_
        exact iteF ⟨us, rfl, no (by unfold isU; simp [c])⟩
    · rintro H' ⟨us, rfl, hu⟩
      rw [paired_len hi, List.take_length] at hu
      exact k he _ D (kp us) hD ⟨us, upd_same, hu.kp (Kp.of (S := []) (kp us))⟩

/-! ### left -/
def spPL (a : Adr) : Sp := fun vs H Q E => ∃ (p r l lc : Addr) (cs : List Int) (pw : Int) (its : List It) (e : Int), vs = [.ref p, .int e] ∧ RegAt a.cr H r lc cs pw ∧ PurAt a.cp H p r l its ∧ its.length ≤ 100 ∧
  (¬ OkE e → E (.ref a.na) none H) ∧ (OkE e → ∀ (H' : Hp), Same H H' → Q (.int (usab cs its e).length) H')
theorem scPL : FnScope ["self", "epoch"] ["self", "epoch"] (defScope sPLeft) := ⟨rfl, rfl, rfl, by decide +kernel, rfl, by decide +kernel, by decide +kernel⟩
theorem ok_pleft {f fU fC fE : Addr} {fd fdU fdC fdE : FuncData} (F : Fun K "left" "Purse.left" sPLeft f fd) (T : Txt K mg a) (MU : Mt K a.cp "_usable" "Purse._usable" sPUse fU fdU ["self", "epoch"])
    (MC : Mt K a.cr "count" "Register.count" sRCount fC fdC ["self", "epoch"]) (DE : Df K mg "check_epoch" sEp fE fdE ["epoch"]) : FnOk P w K mg base (CN P w) 4 f fd ["self", "epoch"] (spPL a) := by
  have GU : FnOk P w K mg base (CN P w) 3 fU fdU ["self", "epoch"] (spPU a) := ok_puse MU.F T MC DE
  refine okN F scPL (fun vs H Q E h => ?_) (fun cdv A outer s H vs Q E hr h => ?_)
  · obtain ⟨p, r, l, lc, cs, pw, its, e, rfl, _⟩ := h
    rfl
  · obtain ⟨p, r, l, lc, cs, pw, its, e, rfl, R, U, hs, kn, k⟩ := h
    obtain ⟨⟨dx, hp⟩, _⟩ := id U
    refine ⟨_, pss_one (ps_ret (pe_callB call_len_seq (by rfl) T.len PySem.boot_len (pa_cons (pe_meth (pv 0) T.cp MU.m GU hr MU.b .nil (passN (L2N.takes_of rfl rfl rfl rfl) fun _ _ _ _ z => z) (pa_cons (pv 1) pa_nil)) pa_nil))), ?_⟩
    refine ⟨_, rfl, p, dx, _, rfl, hp, pf_no _ _ (by decide +kernel) (by decide +kernel), _, rfl, p, r, l, lc, cs, pw, its, e, rfl, R, U, hs, kn, fun he H' D s1 hD ⟨us, h1, h2⟩ => ?_⟩
    refine ⟨D, _, rfl, .inl (SqL.of h1), ?_⟩
    rw [paired_len h2]
    exact k he H' s1
end
end K57

/-! take *-/
namespace K57
open PySem L2
section
variable {P : Program} {w : World} {K : PySem.W.Frag} {mg : Str → Option Value} {base : Heap} {a : Adr}
def spPT (a : Adr) : Sp := fun vs H Q E => ∃ (p r l lc : Addr) (cs : List Int) (pw : Int) (its : List It) (e : Int), vs = [.ref p, .int e] ∧ RegAt a.cr H r lc cs pw ∧ PurAt a.cp H p r l its ∧ its.length ≤ 100 ∧ Inc its ∧
  (¬ OkE e → E (.ref a.na) none H) ∧
  (OkE e → (usab cs its e = [] → ∀ H', Same H H' → E (.ref a.mi) none H') ∧
    (∀ i rest, usab cs its e = i :: rest → (pw = 0 → ∀ H', Same H H' → E (.ref a.dn) none H') ∧
      (pw ≠ 0 → ∀ (H' : Hp) (q T B : Addr), Kp [r, lc] H H' → H q = none → RegAt a.cr H' r lc (cs.set e.toNat (i.n + 1)) (pwNext pw) → H' q = some (.tup [.ref T, .ref B]) → TkAt H' T i.t → BlAt H' B i.s i.u i.v i.x → Q (.ref q) H')))
theorem scPT : FnScope ["self", "epoch", "usable", "least", "item", "one"] ["self", "epoch"] (defScope sPTake) := ⟨rfl, rfl, rfl, by decide +kernel, rfl, by decide +kernel, by decide +kernel⟩
theorem least_is {l : List Int} {c m : Int} (h1 : m ∈ c :: l) (h2 : ∀ y, y ∈ c :: l → m ≤ y) (h : ∀ y ∈ l, c < y) : m = c := by
  rcases List.mem_cons.mp h1 with e | h1
  · exact e
  · have q1 := h m h1
    have q2 := h2 c (List.mem_cons_self ..)
    omega
theorem ok_ptake {f fU fC fR fE : Addr} {fd fdU fdC fdR fdE : FuncData} (F : Fun K "take" "Purse.take" sPTake f fd) (T : Txt K mg a) (MU : Mt K a.cp "_usable" "Purse._usable" sPUse fU fdU ["self", "epoch"])
    (MC : Mt K a.cr "count" "Register.count" sRCount fC fdC ["self", "epoch"]) (MR : Mt K a.cr "raise_to" "Register.raise_to" sRRaise fR fdR ["self", "epoch", "count"]) (DE : Df K mg "check_epoch" sEp fE fdE ["epoch"]) :
    FnOk P w K mg base (CN P w) 4 f fd ["self", "epoch"] (spPT a) := by
  have GU : FnOk P w K mg base (CN P w) 3 fU fdU ["self", "epoch"] (spPU a) := ok_puse MU.F T MC DE
  have GR : FnOk P w K mg base (CN P w) 2 fR fdR ["self", "epoch", "count"] (spRR a) := ok_rraise MR.F T DE
  refine okN F scPT (fun vs H Q E h => ?_) (fun cdv A outer s H vs Q E hr h => ?_)
  · obtain ⟨p, r, l, lc, cs, pw, its, e, rfl, _⟩ := h
    rfl
  · obtain ⟨p, r, l, lc, cs, pw, its, e, rfl, R, U, hs, hinc, kn, ky⟩ := h
    obtain ⟨⟨dx, hp⟩, _⟩ := id U
    have hr2 : Room 2 _ := hr.mono (by decide)
    refine ⟨_, pss_cons (ps_set (i := 2) scPT.nd rfl (Or.inl rfl) (pe_meth (pv 0) T.cp MU.m GU hr MU.b .nil (passN (L2N.takes_of rfl rfl rfl rfl) fun _ _ _ _ z => z) (pa_cons (pv 1) pa_nil)))
      (pss_cons (ps_if (pt_cmpR op_eq (pe_callB call_len_seq (by rfl) T.len PySem.boot_len (pa_cons (pv 2) pa_nil)) pe_int (nomark _))
        (pss_one (L2N.ps_raise rfl (L2N.takes_of rfl rfl rfl rfl) (L2N.pmk_own PySem.F.excBase_ValueError T.mi.q T.mi.g T.mi.k (raisesC T.mi) rfl))) pss_nil)
      (pss_cons (ps_set (i := 3) scPT.nd rfl (Or.inr rfl) (pe_callB (cr_min rfl) (by rfl) T.min (by decide +kernel) (pa_cons
        (pe_lc (own := [("item", 4)]) (g := gName 4) (tt := tYes) rfl scPT.nd (pi_list (pv 2)) (blkOk_by (own := [("item", 4)]) (N := ["self", "epoch", "usable", "least", "item", "one"]) (sc := defScope sPTake) (by decide +kernel))
          (fun _ _ _ _ _ => pg_name (i := 4) scPT.nd rfl (Or.inl rfl)) (fun _ _ _ _ _ => pts_nil) (fun _ _ _ _ _ => pe_ix (ixT K) (pv 4) pe_int (fun _ _ => rfl))) pa_nil)))
      (pss_cons (ps_set (i := 4) scPT.nd rfl (Or.inl rfl) (pe_ix ix_list
        (pe_lc (own := [("one", 5)]) (g := gName 5) rfl scPT.nd (pi_list (pv 2)) (blkOk_by (own := [("one", 5)]) (N := ["self", "epoch", "usable", "least", "item", "one"]) (sc := defScope sPTake) (by decide +kernel))
          (fun _ _ _ _ _ => pg_name (i := 5) scPT.nd rfl (Or.inl rfl)) (fun _ _ _ _ _ => pts_one (pt_cmpR op_eq (pe_ix (ixT K) (pv 5) pe_int (fun _ _ => rfl)) (pv 3) (nomark _))) (fun _ _ _ _ _ => pv 5)) pe_int (fun _ _ => rfl)))
      (pss_cons (ps_expr (pe_meth (pe_fld (pv 0) rfl) T.cr MR.m GR hr2 MR.b .nil (passN (L2N.takes_of rfl rfl rfl rfl) fun _ _ _ _ z => z) (pa_cons (pv 1) (pa_cons (pe_op op_add (pv 3) pe_int) pa_nil))))
      (pss_one (ps_ret (pe_tup (pa_cons (pe_ix ix_tup (pv 4) pe_int (fun _ _ => rfl)) (pa_cons (pe_ix ix_tup (pv 4) pe_int (fun _ _ => rfl)) pa_nil))))))))), ?_⟩
    refine ⟨_, rfl, p, dx, _, rfl, hp, pf_no _ _ (by decide +kernel) (by decide +kernel), _, rfl, p, r, l, lc, cs, pw, its, e, rfl, R, U, hs, kn, fun he H1 u s1 hu ⟨us, h1, h2⟩ => ?_⟩
    obtain ⟨km, kk⟩ := ky he
    refine ⟨_, rfl, u, _, rfl, .inl (SqL.of h1), rfl, _, rfl, ?_⟩
    rw [paired_len h2]
    cases eu : usab cs its e with
    | nil =>
      rw [decide_eq_true (by simp)]
      exact iteT (km eu _ s1)
    | cons i rest =>
      rw [decide_eq_false (by simp only [List.length_cons]; intro z; have := V.int.inj z; omega)]
      rw [eu] at h2
      obtain ⟨kd, k⟩ := kk i rest eu
      have hul : us.length ≤ 100 := by
        rw [paired_len h2, ← eu]
        exact Nat.le_trans (usab_len _ _ _) hs
      refine iteF ⟨_, rfl, u, rfl, ⟨_, SqL.of h1⟩, fun D hD => ?_⟩
      have kp : ∀ xs, Same H1 (upd H1 D (.lst xs)) := fun xs => Same.new hD
      refine lc_list (K := K) (a := u) (xs := us) (fun j H' => H' = upd H1 D (.lst ((((i :: rest).take j).map fun i => i.n).map V.int))) rfl (fun j H' _ q => by rw [q]; exact SqL.of (kp _ _ _ h1)) ?_ ?_
      · rintro j z H' hz rfl
        obtain ⟨it, hit, q⟩ := paired_at h2 hz
        obtain ⟨pi, Ti, Bi, rfl, g1, g2, g3⟩ := q.kp (Kp.of (S := []) (kp ((((i :: rest).take j).map fun i => i.n).map V.int)))
        refine ⟨rfl, _, rfl, pi, _, _, _, rfl, rfl, SqT.of g1, rfl, _, upd_same, ?_, ?_⟩
        · rw [List.length_map, List.length_map, List.length_take, ← paired_len h2]
          exact small1000 (by omega)
        · rw [upd_upd, take_snoc hit, List.map_append, List.map_append]
          rfl
      · rintro H' rfl
        rw [paired_len h2, List.take_length]
        refine ⟨D, (i :: rest).map fun i => i.n, rfl, SqL.of upd_same, by simp, fun m m1 m2 => ?_⟩
        have em : m = i.n := least_is (c := i.n) (l := rest.map fun j : It => j.n) m1 m2 fun y hy => by
          obtain ⟨j, hj, rfl⟩ := List.mem_map.mp hy
          exact usab_head hinc eu j hj
        subst em
        generalize hH2 : upd H1 D (.lst (((i :: rest).map fun i => i.n).map V.int)) = H2
        have s2 : Same H1 H2 := by rw [← hH2]; exact kp _
        have u2 := s2 _ _ h1
        refine ⟨_, rfl, u, rfl, ⟨_, SqL.of u2⟩, fun D2 hD2 => ?_⟩
        obtain ⟨z0, us', eus⟩ : ∃ z0 us', us = z0 :: us' := by
          cases us with
          | nil => cases h2
          | cons z0 us' => exact ⟨z0, us', rfl⟩
        have hz0 : ItemAt H1 z0 i := by
          rw [eus] at h2
          cases h2 with
          | cons q _ => exact q
        have kp2 : ∀ xs, Same H2 (upd H2 D2 (.lst xs)) := fun xs => Same.new hD2
        refine lc_list (K := K) (a := u) (xs := us) (fun j H' => H' = upd H2 D2 (.lst (if j = 0 then [] else [z0]))) rfl (fun j H' _ q => by rw [q]; exact SqL.of (kp2 _ _ _ u2)) ?_ ?_
        · rintro j z H' hz rfl
          obtain ⟨it, hit, q⟩ := paired_at h2 hz
          obtain ⟨pi, Ti, Bi, ez, g1, g2, g3⟩ := (q.kp (Kp.of (S := []) s2)).kp (Kp.of (S := []) (kp2 (if j = 0 then [] else [z0])))
          refine ⟨rfl, _, rfl, pi, _, _, _, ez, rfl, SqT.of g1, rfl, _, rfl, rfl, _, rfl, ?_⟩
          cases j with
          | zero =>
            have e1 : i = it := by simpa using hit
            have e2 : z0 = z := by
              rw [eus] at hz
              simpa using hz
            subst e1
            subst e2
            rw [decide_eq_true rfl]
            refine iteT ⟨_, rfl, _, upd_same, by show 0 < sizeLine; decide, ?_⟩
            rw [upd_upd]
            rfl
          | succ j =>
            have hr : it ∈ rest := List.mem_of_getElem? (by simpa using hit)
            have hlt := usab_head hinc eu it hr
            rw [decide_eq_false (fun z => by have := V.int.inj z; omega)]
            exact iteF rfl
        · rintro H' rfl
          have hne : us.length ≠ 0 := by rw [eus]; simp
          rw [if_neg hne]
          have s3 : Same H1 (upd H2 D2 (.lst [z0])) := s2.trans (kp2 _)
          have s03 : Same H (upd H2 D2 (.lst [z0])) := s1.trans s3
          have k03 : Kp [] H (upd H2 D2 (.lst [z0])) := Kp.of s03
          obtain ⟨dr, hR⟩ := (R.kp k03 (by simp) (by simp)).o
          have uiu := usab_mem (cs := cs) (its := its) (e := e) (i := i) (by rw [eu]; exact List.mem_cons_self ..)
          refine ⟨D2, _, _, z0, rfl, rfl, SqL.of upd_same, rfl, ?_⟩
          refine ⟨_, rfl, p, a.cp, dx, _, _, rfl, s03 _ _ hp, T.cp, T.no, pf_r _ _, r, dr, _, rfl, hR, rf_no _ _ (by decide +kernel) (by decide +kernel), _, rfl, _, rfl, _, _, rfl, rfl, ?_⟩
          refine ⟨r, lc, cs, pw, e, i.n + 1, rfl, R.kp k03 (by simp) (by simp), he, by have := uiu.2.2; omega, fun z => kd z _ s03, fun z H4 k4 R4 => ?_⟩
          obtain ⟨pi, Ti, Bi, ez, g1, g2, g3⟩ := (hz0.kp (Kp.of (S := []) s3)).kp k4
          refine ⟨_, rfl, pi, _, _, _, ez, rfl, SqT.of g1, rfl, _, rfl, pi, _, _, _, ez, rfl, SqT.of g1, rfl, by show 2 ≤ sizeLine; decide, fun q hq => ?_⟩
          have k5 : Kp [r, lc] H4 (upd H4 q (.tup [.ref Ti, .ref Bi])) := Kp.of (Same.new hq)
          have kT : Kp [r, lc] H (upd H4 q (.tup [.ref Ti, .ref Bi])) := ((Kp.of s03).trans k4).trans k5
          have nq : H q = none := by
            cases e0 : H q with
            | none => rfl
            | some o =>
              by_cases hm : q ∈ [r, lc]
              · rcases List.mem_cons.mp hm with z1 | hm
                · obtain ⟨d4, h4⟩ := R4.o
                  rw [← z1, hq] at h4
                  cases h4
                · have h4 := R4.c
                  rw [← List.mem_singleton.mp hm, hq] at h4
                  cases h4
              · have h5 := ((Kp.of s03).trans k4).at e0 hm
                rw [hq] at h5
                cases h5
          have nr : r ≠ q := fun z1 => by
            obtain ⟨d4, h4⟩ := R4.o
            rw [z1, hq] at h4
            cases h4
          have nl : lc ≠ q := fun z1 => by
            have h4 := R4.c
            rw [z1, hq] at h4
            cases h4
          refine k z _ q Ti Bi kT nq (R4.kp (Kp.of (S := []) (Same.new hq)) (by simp) (by simp)) upd_same (g2.kp k5) (g3.kp k5)
end
end K57

/-! texts: joined_text, the image, the law's own text *-/
namespace K57
open PySem L2
section
variable {P : Program} {w : World} {K : PySem.W.Frag} {mg : Str → Option Value} {base : Heap} {a : Adr}
/-! ### joined_text -/
def spJ (K : PySem.W.Frag) : Sp := fun vs H Q _ => ∃ (wd : Str) (l : Addr) (ns : List Int), vs = [.str wd, .ref l] ∧ SqL K H l (ns.map V.int) ∧ ns.length ≤ 100 ∧ wd.length ≤ 100 ∧ (∀ z ∈ ns, Dig z) ∧
  ∀ H', Same H H' → Q (.str (joined wd ns)) H'
theorem scJ : FnScope ["word", "numbers", "number"] ["word", "numbers"] (defScope sJoin) := ⟨rfl, rfl, rfl, by decide +kernel, rfl, by decide +kernel, by decide +kernel⟩
theorem map_num (ns : List Int) (i : Nat) : ((ns.take i).map num).map V.str = ((ns.map num).take i).map V.str := by rw [List.map_take]
theorem ok_join {f : Addr} {fd : FuncData} (F : Fun K "joined_text" "joined_text" sJoin f fd) (T : Txt K mg a) : FnOk P w K mg base CX0 1 f fd ["word", "numbers"] (spJ K) := by
  refine F.ok scJ (fun vs H Q E h => ?_) (fun cdv A outer s H vs Q E hr h => ?_)
  · obtain ⟨wd, l, ns, rfl, _⟩ := h
    rfl
  · obtain ⟨wd, l, ns, rfl, hl, hn, hw, hd, k⟩ := h
    refine ⟨_, pss_one (ps_ret (pe_join pe_str (pe_op op_cat (pe_lst (pa_cons (pv 0) pa_nil))
      (pe_lc (own := [("number", 2)]) (g := gName 2) (tt := tYes) rfl scJ.nd (pi_list (pv 1)) (blkOk_by (own := [("number", 2)]) (N := ["word", "numbers", "number"]) (sc := defScope sJoin) (by decide +kernel))
        (fun _ _ _ _ _ => pg_name (i := 2) scJ.nd rfl (Or.inl rfl)) (fun _ _ _ _ _ => pts_nil) (fun _ _ _ _ _ => pe_callTy call_str_int (by rfl) T.str (by decide +kernel) (pa_cons (pv 2) pa_nil)))))), ?_⟩
    refine ⟨⟨_, rfl⟩, _, rfl, by show 1 ≤ sizeLine; decide, fun p hp => ?_⟩
    have s1 : Same H (upd H p (.lst [.str wd])) := Same.new hp
    refine ⟨_, rfl, l, rfl, ⟨_, s1.seq hl⟩, fun D hD => ?_⟩
    have npD : p ≠ D := fun z => by
      rw [← z, upd_same] at hD
      cases hD
    have kp : ∀ xs, Same (upd H p (.lst [.str wd])) (upd (upd H p (.lst [.str wd])) D (.lst xs)) := fun xs => Same.new hD
    refine lc_list (K := K) (a := l) (xs := ns.map V.int) (fun j H' => H' = upd (upd H p (.lst [.str wd])) D (.lst (((ns.take j).map num).map V.str))) rfl (fun j H' _ q => by rw [q]; exact (s1.trans (kp _)).seq hl) ?_ ?_
    · rintro j z H' hz rfl
      rw [List.getElem?_map] at hz
      obtain ⟨n, hn1, rfl⟩ : ∃ n, ns[j]? = some n ∧ z = .int n := by
        cases e : ns[j]? with
        | none => rw [e] at hz; cases hz
        | some n => rw [e] at hz; exact ⟨n, rfl, (Option.some.inj hz).symm⟩
      refine ⟨rfl, _, rfl, n, rfl, num_log (hd n (List.mem_of_getElem? hn1)), _, upd_same, ?_, ?_⟩
      · rw [List.length_map, List.length_map, List.length_take]
        exact small1000 (by omega)
      · rw [upd_upd, take_snoc hn1, List.map_append, List.map_append]
        rfl
    · rintro H' rfl
      rw [List.length_map, List.take_length]
      refine ⟨p, D, _, _, rfl, rfl, by rw [upd_ne npD]; exact upd_same, upd_same, ?_, fun q hq => ?_⟩
      · rw [List.length_map, List.length_map]
        exact small_sz (n := 1 + ns.length) (by omega)
      · have room := nums_room hw hn hd
        refine ⟨_, q, wd :: ns.map num, rfl, rfl, .inl (SqL.of upd_same), by omega, ?_⟩
        exact k _ ((s1.trans (kp _)).trans (Same.new hq))

/-! ### the numbers of an item -/
theorem cut3 (s u v : Int) (C : Addr) : cutV [.int s, .int u, .int v, .ref C] none (some 3) = [.int s, .int u, .int v] := rfl
/-- what [e, n] + list(t) + list(b[:3]) + list(b[3]) gives -/
def numsV (i : It) : List V := i.nums.map V.int
theorem numsV_eq (i : It) : ((([V.int i.e, V.int i.n] ++ i.t.map V.int) ++ [V.int i.s, V.int i.u, V.int i.v]) ++ i.x.map V.int) = i.nums.map V.int := by
  unfold It.nums
  rw [List.map_append, List.map_append, List.map_append]
  rfl

/-! ### image -/
def spIm (a : Adr) : Sp := fun vs H Q _ => ∃ (p r l : Addr) (its : List It), vs = [.ref p] ∧ PurAt a.cp H p r l its ∧ its.length ≤ 12 ∧ (∀ i ∈ its, i.Ok) ∧ ∀ H', Same H H' → Q (.str (img its)) H'
theorem scIm : FnScope ["self", "texts", "epoch", "number", "ticket", "blinding", "numbers"] ["self"] (defScope sPImg) := ⟨rfl, rfl, rfl, by decide +kernel, rfl, by decide +kernel, by decide +kernel⟩
theorem ok_image {f fJ : Addr} {fd fdJ : FuncData} (F : Fun K "image" "Purse.image" sPImg f fd) (T : Txt K mg a) (DJ : Df K mg "joined_text" sJoin fJ fdJ ["word", "numbers"]) : FnOk P w K mg base CX0 2 f fd ["self"] (spIm a) := by
  have GJ : FnOk P w K mg base CX0 1 fJ fdJ ["word", "numbers"] (spJ K) := ok_join DJ.F T
  refine F.ok scIm (fun vs H Q E h => ?_) (fun cdv A outer s H vs Q E hr h => ?_)
  · obtain ⟨p, r, l, its, rfl, _⟩ := h
    rfl
  · obtain ⟨p, r, l, its, rfl, ⟨⟨dx, hp⟩, vs, hl, hi⟩, hs, hok, k⟩ := h
    refine ⟨_, pss_cons (ps_set (i := 1) scIm.nd rfl (Or.inl rfl) (pe_lst pa_nil))
      (pss_cons (ps_for PassesOwn.never rfl (pi_list (pe_fld (pv 0) rfl)) (pg_tup rfl (pgs_cons (pg_name (i := 2) scIm.nd rfl (Or.inl rfl)) (pgs_cons (pg_name (i := 3) scIm.nd rfl (Or.inl rfl)) (pgs_cons (pg_name (i := 4) scIm.nd rfl (Or.inl rfl)) (pgs_cons (pg_name (i := 5) scIm.nd rfl (Or.inl rfl)) pgs_nil)))))
        (pss_cons (ps_set (i := 6) scIm.nd rfl (Or.inl rfl) (pe_op op_cat (pe_op op_cat (pe_op op_cat (pe_lst (pa_cons (pv 2) (pa_cons (pv 3) pa_nil))) (pe_callTy call_list_of (by rfl) T.lst (by decide +kernel) (pa_cons (pv 4) pa_nil)))
            (pe_callTy call_list_of (by rfl) T.lst (by decide +kernel) (pa_cons (pe_slice sl_tup (pv 5) po_none (po_some pe_int)) pa_nil))) (pe_callTy call_list_of (by rfl) T.lst (by decide +kernel) (pa_cons (pe_ix ix_tup (pv 5) pe_int (fun _ _ => rfl)) pa_nil))))
          (pss_one (ps_expr (pe_bm PySem.F.plainAttrs_list PySem.F.slot_list_append PySem.F.type_list_append mt_append (pv 1) (pa_cons (pe_call GJ hr rfl DJ.m DJ.F.kp DJ.b .nil pass0 (pa_cons pe_str (pa_cons (pv 6) pa_nil))) pa_nil))))))
      (pss_one (ps_ret (pe_join pe_str (pv 1))))), ?_⟩
    refine ⟨Nat.zero_le _, fun tx ht => ?_⟩
    have s1 : Same H (upd H tx (.lst [])) := Same.new ht
    refine ⟨_, rfl, p, a.cp, dx, _, _, rfl, s1 _ _ hp, T.cp, T.nh, pf_l _ _, l, rfl, ⟨_, SqL.of (s1 _ _ hl)⟩, for_list (K := K) (a := l) (xs := vs)
      (fun j σ H' => ∃ (v2 v3 v4 v5 v6 : Option V), σ = [some (.ref p), some (.ref tx), v2, v3, v4, v5, v6] ∧ Same H H' ∧ H' tx = some (.lst (((its.take j).map It.txt).map V.str)))
      ⟨none, none, none, none, none, rfl, s1, upd_same⟩ (fun j σ H' _ ⟨_, _, _, _, _, _, q, _⟩ => SqL.of (q _ _ hl)) ?_ ?_⟩
    · rintro j z σ H1 hz ⟨v2, v3, v4, v5, v6, rfl, q1, q2⟩
      obtain ⟨it, hit, q⟩ := paired_at hi hz
      have iok := hok it (List.mem_of_getElem? hit)
      obtain ⟨pi, Ti, Bi, rfl, g1, g2, C, g3, g4⟩ := q.kp (Kp.of (S := []) q1)
      refine ⟨pi, _, rfl, SqT.of g1, rfl, _, _, rfl, _, _, rfl, _, _, rfl, _, _, rfl, rfl, ?_⟩
      refine ⟨_, rfl, _, rfl, by show 2 ≤ sizeLine; decide, fun l1 h1 => ?_⟩
      generalize hA : upd H1 l1 (.lst [.int it.e, .int it.n]) = A1
      have sA : Same H1 A1 := by rw [← hA]; exact Same.new h1
      have eA : A1 l1 = some (.lst [.int it.e, .int it.n]) := by rw [← hA]; exact upd_same
      refine ⟨_, rfl, Ti, _, rfl, .inr (SqT.of (sA _ _ g2)), fun l2 h2 => ?_⟩
      generalize hB : upd A1 l2 (.lst (it.t.map V.int)) = A2
      have sB : Same A1 A2 := by rw [← hB]; exact Same.new h2
      have eB : A2 l2 = some (.lst (it.t.map V.int)) := by rw [← hB]; exact upd_same
      refine ⟨l1, l2, _, _, rfl, rfl, sB _ _ eA, eB, ?_, fun l3 h3 => ?_⟩
      · rw [List.length_map, iok.t6]
        exact small_sz (n := 2 + 6) (by omega)
      generalize hC : upd A2 l3 (.lst ([.int it.e, .int it.n] ++ it.t.map V.int)) = A3
      have sC : Same A2 A3 := by rw [← hC]; exact Same.new h3
      have eC : A3 l3 = some (.lst ([.int it.e, .int it.n] ++ it.t.map V.int)) := by rw [← hC]; exact upd_same
      have s13 : Same H1 A3 := (sA.trans sB).trans sC
      refine ⟨_, rfl, _, rfl, Bi, _, rfl, SqT.of (s13 _ _ g3), (by show ¬ (HT.sIx 4 0 none = 0 ∧ HT.sIx 4 4 (some 3) = 4); decide), fun l4 h4 => ?_⟩
      rw [cut3]
      generalize hD : upd A3 l4 (.tup [.int it.s, .int it.u, .int it.v]) = A4
      have sD : Same A3 A4 := by rw [← hD]; exact Same.new h4
      have eD : A4 l4 = some (.tup [.int it.s, .int it.u, .int it.v]) := by rw [← hD]; exact upd_same
      refine ⟨l4, _, rfl, .inr (SqT.of eD), fun l5 h5 => ?_⟩
      generalize hE : upd A4 l5 (.lst [.int it.s, .int it.u, .int it.v]) = A5
      have sE : Same A4 A5 := by rw [← hE]; exact Same.new h5
      have eE : A5 l5 = some (.lst [.int it.s, .int it.u, .int it.v]) := by rw [← hE]; exact upd_same
      refine ⟨l3, l5, _, _, rfl, rfl, sE _ _ (sD _ _ eC), eE, ?_, fun l6 h6 => ?_⟩
      · rw [List.length_append, List.length_map, iok.t6]
        exact small_sz (n := 2 + 6 + 3) (by omega)
      generalize hF : upd A5 l6 (.lst ([.int it.e, .int it.n] ++ it.t.map V.int ++ [.int it.s, .int it.u, .int it.v])) = A6
      have sF : Same A5 A6 := by rw [← hF]; exact Same.new h6
      have eF : A6 l6 = some (.lst ([.int it.e, .int it.n] ++ it.t.map V.int ++ [.int it.s, .int it.u, .int it.v])) := by rw [← hF]; exact upd_same
      have s16 : Same H1 A6 := ((s13.trans sD).trans sE).trans sF
      refine ⟨_, rfl, Bi, _, _, _, rfl, rfl, SqT.of (s16 _ _ g3), rfl, ?_⟩
      refine ⟨C, _, rfl, .inr (SqT.of (s16 _ _ g4)), fun l7 h7 => ?_⟩
      generalize hG : upd A6 l7 (.lst (it.x.map V.int)) = A7
      have sG : Same A6 A7 := by rw [← hG]; exact Same.new h7
      have eG : A7 l7 = some (.lst (it.x.map V.int)) := by rw [← hG]; exact upd_same
      refine ⟨l6, l7, _, _, rfl, rfl, sG _ _ eF, eG, ?_, fun l8 h8 => ?_⟩
      · rw [List.length_append, List.length_append, List.length_map, List.length_map, iok.t6, iok.x4]
        exact small_sz (n := 2 + 6 + 3 + 4) (by omega)
      rw [numsV_eq]
      generalize hI : upd A7 l8 (.lst (it.nums.map V.int)) = A8
      have sI : Same A7 A8 := by rw [← hI]; exact Same.new h8
      have eI : A8 l8 = some (.lst (it.nums.map V.int)) := by rw [← hI]; exact upd_same
      have s18 : Same H1 A8 := (s16.trans sG).trans sI
      refine ⟨_, rfl, .inl ⟨rfl, _, SqL.of (s18 _ _ q2)⟩, _, rfl, Str.ofString "ticket", l8, it.nums, rfl, SqL.of eI, by rw [iok.len15]; decide, by rw [ticket_len]; decide, iok.dig, fun H9 s9 => ?_⟩
      have q9 := s9 _ _ (s18 _ _ q2)
      refine ⟨tx, _, _, rfl, rfl, q9, ?_, ?_⟩
      · rw [List.length_map, List.length_map, List.length_take]
        exact small1000 (by omega)
      · refine ⟨_, _, _, _, _, rfl, ?_, ?_⟩
        · intro b o e
          have nb : b ≠ tx := ne_of_none e ht
          rw [upd_ne nb]
          exact s9 _ _ (s18 _ _ (q1 _ _ e))
        · rw [upd_same, take_snoc hit, List.map_append, List.map_append]
          rfl
    · rintro σ H1 ⟨v2, v3, v4, v5, v6, rfl, q1, q2⟩
      rw [paired_len hi, List.take_length] at q2
      have room := img_room hs fun i hi => (hok i hi).room
      exact ⟨⟨_, rfl⟩, _, rfl, _, tx, its.map It.txt, rfl, rfl, .inl (SqL.of q2), by omega, k _ q1⟩

/-! ### _law_text -/
def spTx : Sp := fun vs H Q _ => ∃ (l : Addr) (its : List It), vs = [.ref l] ∧ HeldAt H l its ∧ its.length ≤ 12 ∧ (∀ i ∈ its, i.Ok) ∧ ∀ H', Same H H' → Q (.str (img its)) H'
theorem scTx : FnScope ["_law_held", "_law_texts", "_law_epoch", "_law_number", "_law_ticket", "_law_blinding", "_law_numbers", "_law_one"] ["_law_held"] (defScope sText) := ⟨rfl, rfl, rfl, by decide +kernel, rfl, by decide +kernel, by decide +kernel⟩
theorem ok_text {f : Addr} {fd : FuncData} (F : Fun K "_law_text" "_law_text" sText f fd) (T : Txt K mg a) : FnOk P w K mg base CX0 1 f fd ["_law_held"] spTx := by
  refine F.ok scTx (fun vs H Q E h => ?_) (fun cdv A outer s H vs Q E hr h => ?_)
  · obtain ⟨l, its, rfl, _⟩ := h
    rfl
  · obtain ⟨l, its, rfl, ⟨vs, hl, hi⟩, hs, hok, k⟩ := h
    refine ⟨_, pss_cons (ps_set (i := 1) scTx.nd rfl (Or.inl rfl) (pe_lst pa_nil))
      (pss_cons (ps_for PassesOwn.never rfl (pi_list (pv 0)) (pg_tup rfl (pgs_cons (pg_name (i := 2) scTx.nd rfl (Or.inl rfl)) (pgs_cons (pg_name (i := 3) scTx.nd rfl (Or.inl rfl)) (pgs_cons (pg_name (i := 4) scTx.nd rfl (Or.inl rfl)) (pgs_cons (pg_name (i := 5) scTx.nd rfl (Or.inl rfl)) pgs_nil)))))
        (pss_cons (ps_set (i := 6) scTx.nd rfl (Or.inl rfl) (pe_op op_cat (pe_op op_cat (pe_op op_cat (pe_lst (pa_cons (pv 2) (pa_cons (pv 3) pa_nil))) (pe_callTy call_list_of (by rfl) T.lst (by decide +kernel) (pa_cons (pv 4) pa_nil)))
            (pe_callTy call_list_of (by rfl) T.lst (by decide +kernel) (pa_cons (pe_slice sl_tup (pv 5) po_none (po_some pe_int)) pa_nil))) (pe_callTy call_list_of (by rfl) T.lst (by decide +kernel) (pa_cons (pe_ix ix_tup (pv 5) pe_int (fun _ _ => rfl)) pa_nil))))
          (pss_one (ps_expr (pe_bm PySem.F.plainAttrs_list PySem.F.slot_list_append PySem.F.type_list_append mt_append (pv 1) (pa_cons (pe_join pe_str (pe_op op_cat (pe_lst (pa_cons pe_str pa_nil))
            (pe_lc (own := [("_law_one", 7)]) (g := gName 7) (tt := tYes) rfl scTx.nd (pi_list (pv 6)) (blkOk_by (own := [("_law_one", 7)]) (N := ["_law_held", "_law_texts", "_law_epoch", "_law_number", "_law_ticket", "_law_blinding", "_law_numbers", "_law_one"]) (sc := defScope sText) (by decide +kernel))
              (fun _ _ _ _ _ => pg_name (i := 7) scTx.nd rfl (Or.inl rfl)) (fun _ _ _ _ _ => pts_nil) (fun _ _ _ _ _ => pe_callTy call_str_int (by rfl) T.str (by decide +kernel) (pa_cons (pv 7) pa_nil))))) pa_nil))))))
      (pss_one (ps_ret (pe_join pe_str (pv 1))))), ?_⟩
    refine ⟨Nat.zero_le _, fun tx ht => ?_⟩
    have s1 : Same H (upd H tx (.lst [])) := Same.new ht
    refine ⟨_, rfl, l, rfl, ⟨_, SqL.of (s1 _ _ hl)⟩, for_list (K := K) (a := l) (xs := vs)
      (fun j σ H' => ∃ (v2 v3 v4 v5 v6 : Option V), σ = [some (.ref l), some (.ref tx), v2, v3, v4, v5, v6, none] ∧ Same H H' ∧ H' tx = some (.lst (((its.take j).map It.txt).map V.str)))
      ⟨none, none, none, none, none, rfl, s1, upd_same⟩ (fun j σ H' _ ⟨_, _, _, _, _, _, q, _⟩ => SqL.of (q _ _ hl)) ?_ ?_⟩
    · rintro j z σ H1 hz ⟨v2, v3, v4, v5, v6, rfl, q1, q2⟩
      obtain ⟨it, hit, q⟩ := paired_at hi hz
      have iok := hok it (List.mem_of_getElem? hit)
      obtain ⟨pi, Ti, Bi, rfl, g1, g2, C, g3, g4⟩ := q.kp (Kp.of (S := []) q1)
      refine ⟨pi, _, rfl, SqT.of g1, rfl, _, _, rfl, _, _, rfl, _, _, rfl, _, _, rfl, rfl, ?_⟩
      refine ⟨_, rfl, _, rfl, by show 2 ≤ sizeLine; decide, fun l1 h1 => ?_⟩
      generalize hA : upd H1 l1 (.lst [.int it.e, .int it.n]) = A1
      have sA : Same H1 A1 := by rw [← hA]; exact Same.new h1
      have eA : A1 l1 = some (.lst [.int it.e, .int it.n]) := by rw [← hA]; exact upd_same
      refine ⟨_, rfl, Ti, _, rfl, .inr (SqT.of (sA _ _ g2)), fun l2 h2 => ?_⟩
      generalize hB : upd A1 l2 (.lst (it.t.map V.int)) = A2
      have sB : Same A1 A2 := by rw [← hB]; exact Same.new h2
      have eB : A2 l2 = some (.lst (it.t.map V.int)) := by rw [← hB]; exact upd_same
      refine ⟨l1, l2, _, _, rfl, rfl, sB _ _ eA, eB, ?_, fun l3 h3 => ?_⟩
      · rw [List.length_map, iok.t6]
        exact small_sz (n := 2 + 6) (by omega)
      generalize hC : upd A2 l3 (.lst ([.int it.e, .int it.n] ++ it.t.map V.int)) = A3
      have sC : Same A2 A3 := by rw [← hC]; exact Same.new h3
      have eC : A3 l3 = some (.lst ([.int it.e, .int it.n] ++ it.t.map V.int)) := by rw [← hC]; exact upd_same
      have s13 : Same H1 A3 := (sA.trans sB).trans sC
      refine ⟨_, rfl, _, rfl, Bi, _, rfl, SqT.of (s13 _ _ g3), (by show ¬ (HT.sIx 4 0 none = 0 ∧ HT.sIx 4 4 (some 3) = 4); decide), fun l4 h4 => ?_⟩
      rw [cut3]
      generalize hD : upd A3 l4 (.tup [.int it.s, .int it.u, .int it.v]) = A4
      have sD : Same A3 A4 := by rw [← hD]; exact Same.new h4
      have eD : A4 l4 = some (.tup [.int it.s, .int it.u, .int it.v]) := by rw [← hD]; exact upd_same
      refine ⟨l4, _, rfl, .inr (SqT.of eD), fun l5 h5 => ?_⟩
      generalize hE : upd A4 l5 (.lst [.int it.s, .int it.u, .int it.v]) = A5
      have sE : Same A4 A5 := by rw [← hE]; exact Same.new h5
      have eE : A5 l5 = some (.lst [.int it.s, .int it.u, .int it.v]) := by rw [← hE]; exact upd_same
      refine ⟨l3, l5, _, _, rfl, rfl, sE _ _ (sD _ _ eC), eE, ?_, fun l6 h6 => ?_⟩
      · rw [List.length_append, List.length_map, iok.t6]
        exact small_sz (n := 2 + 6 + 3) (by omega)
      generalize hF : upd A5 l6 (.lst ([.int it.e, .int it.n] ++ it.t.map V.int ++ [.int it.s, .int it.u, .int it.v])) = A6
      have sF : Same A5 A6 := by rw [← hF]; exact Same.new h6
      have eF : A6 l6 = some (.lst ([.int it.e, .int it.n] ++ it.t.map V.int ++ [.int it.s, .int it.u, .int it.v])) := by rw [← hF]; exact upd_same
      have s16 : Same H1 A6 := ((s13.trans sD).trans sE).trans sF
      refine ⟨_, rfl, Bi, _, _, _, rfl, rfl, SqT.of (s16 _ _ g3), rfl, ?_⟩
      refine ⟨C, _, rfl, .inr (SqT.of (s16 _ _ g4)), fun l7 h7 => ?_⟩
      generalize hG : upd A6 l7 (.lst (it.x.map V.int)) = A7
      have sG : Same A6 A7 := by rw [← hG]; exact Same.new h7
      have eG : A7 l7 = some (.lst (it.x.map V.int)) := by rw [← hG]; exact upd_same
      refine ⟨l6, l7, _, _, rfl, rfl, sG _ _ eF, eG, ?_, fun l8 h8 => ?_⟩
      · rw [List.length_append, List.length_append, List.length_map, List.length_map, iok.t6, iok.x4]
        exact small_sz (n := 2 + 6 + 3 + 4) (by omega)
      rw [numsV_eq]
      generalize hI : upd A7 l8 (.lst (it.nums.map V.int)) = A8
      have sI : Same A7 A8 := by rw [← hI]; exact Same.new h8
      have eI : A8 l8 = some (.lst (it.nums.map V.int)) := by rw [← hI]; exact upd_same
      have s18 : Same H1 A8 := (s16.trans sG).trans sI
      refine ⟨_, rfl, .inl ⟨rfl, _, SqL.of (s18 _ _ q2)⟩, ⟨_, rfl⟩, by show 1 ≤ sizeLine; decide, fun l9 h9 => ?_⟩
      generalize hJ : upd A8 l9 (.lst [.str (Str.ofString "ticket")]) = A9
      have sJ : Same A8 A9 := by rw [← hJ]; exact Same.new h9
      have eJ : A9 l9 = some (.lst [.str (Str.ofString "ticket")]) := by rw [← hJ]; exact upd_same
      have e8 := sJ _ _ eI
      refine ⟨_, rfl, l8, rfl, ⟨_, SqL.of e8⟩, fun D hD0 => ?_⟩
      have kp : ∀ xs, Same A9 (upd A9 D (.lst xs)) := fun xs => Same.new hD0
      refine lc_list (K := K) (a := l8) (xs := it.nums.map V.int) (fun j H' => H' = upd A9 D (.lst (((it.nums.take j).map num).map V.str))) rfl (fun j H' _ q => by rw [q]; exact SqL.of (kp _ _ _ e8)) ?_ ?_
      · rintro j2 z2 H' hz2 rfl
        rw [List.getElem?_map] at hz2
        obtain ⟨n, hn1, rfl⟩ : ∃ n, it.nums[j2]? = some n ∧ z2 = .int n := by
          cases e : it.nums[j2]? with
          | none => rw [e] at hz2; cases hz2
          | some n => rw [e] at hz2; exact ⟨n, rfl, (Option.some.inj hz2).symm⟩
        refine ⟨rfl, _, rfl, n, rfl, num_log (iok.dig n (List.mem_of_getElem? hn1)), _, upd_same, ?_, ?_⟩
        · rw [List.length_map, List.length_map, List.length_take, iok.len15]
          exact small1000 (by omega)
        · rw [upd_upd, take_snoc hn1, List.map_append, List.map_append]
          rfl
      · rintro H' rfl
        rw [List.length_map, List.take_length]
        refine ⟨l9, D, _, _, rfl, rfl, kp _ _ _ eJ, upd_same, ?_, fun q hq => ?_⟩
        · rw [List.length_map, List.length_map, iok.len15]
          exact small_sz (n := 1 + 15) (by omega)
        · have room := nums_room (w := Str.ofString "ticket") (by rw [ticket_len]; decide) (by rw [iok.len15]; decide) iok.dig
          have s9 : Same A8 (upd (upd A9 D (.lst ((it.nums.map num).map V.str))) q (.lst ([V.str (Str.ofString "ticket")] ++ (it.nums.map num).map V.str))) := (sJ.trans (kp _)).trans (Same.new hq)
          have q9 := s9 _ _ (s18 _ _ q2)
          refine ⟨_, q, Str.ofString "ticket" :: it.nums.map num, rfl, rfl, .inl (SqL.of upd_same), by omega, ?_⟩
          refine ⟨tx, _, _, rfl, rfl, q9, ?_, ?_⟩
          · rw [List.length_map, List.length_map, List.length_take]
            exact small1000 (by omega)
          · refine ⟨_, _, _, _, _, rfl, ?_, ?_⟩
            · intro b o e
              have nb : b ≠ tx := ne_of_none e ht
              rw [upd_ne nb]
              exact s9 _ _ (s18 _ _ (q1 _ _ e))
            · rw [upd_same, take_snoc hit, List.map_append, List.map_append]
              rfl
    · rintro σ H1 ⟨v2, v3, v4, v5, v6, rfl, q1, q2⟩
      rw [paired_len hi, List.take_length] at q2
      have room := img_room hs fun i hi => (hok i hi).room
      exact ⟨⟨_, rfl⟩, _, rfl, _, tx, its.map It.txt, rfl, rfl, .inl (SqL.of q2), by omega, k _ q1⟩
end
end K57

/-! reading an image: read_numbers, read_item, load_purse *-/
namespace K57
open PySem L2
/-! ### the last numbers -/
def lastOf (L : List It) (e : Int) : Int := L.foldl (fun c i => if i.e = e then i.n else c) (-1)
def lasts (L : List It) : List Int := [lastOf L 0, lastOf L 1, lastOf L 2]
theorem lastOf_snoc (L : List It) (i : It) (e : Int) : lastOf (L ++ [i]) e = if i.e = e then i.n else lastOf L e := by
  unfold lastOf
  rw [List.foldl_append]
  rfl
theorem lastOf_mem (e : Int) : ∀ (L : List It) (c : Int), L.foldl (fun c i => if i.e = e then i.n else c) c = c ∨ ∃ i ∈ L, i.e = e ∧ L.foldl (fun c i => if i.e = e then i.n else c) c = i.n
  | [], c => .inl rfl
  | b :: L, c => by
    rcases lastOf_mem e L (if b.e = e then b.n else c) with h | ⟨i, hi, h1, h2⟩
    · by_cases q : b.e = e
      · refine .inr ⟨b, List.mem_cons_self .., q, ?_⟩
        show L.foldl _ (if b.e = e then b.n else c) = b.n
        rw [h, if_pos q]
      · refine .inl ?_
        show L.foldl _ (if b.e = e then b.n else c) = c
        rw [h, if_neg q]
    · exact .inr ⟨i, List.mem_cons_of_mem _ hi, h1, h2⟩
theorem lasts_snoc {L : List It} {i : It} (he : OkE i.e) : (lasts L).set i.e.toNat i.n = lasts (L ++ [i]) := by
  unfold lasts
  rw [lastOf_snoc, lastOf_snoc, lastOf_snoc]
  have h1 := he.1
  have h2 := he.2
  rcases (show i.e = 0 ∨ i.e = 1 ∨ i.e = 2 by omega) with q | q | q <;> rw [q] <;> rfl
theorem lasts_at {L : List It} {e : Int} (he : OkE e) : atI ((lasts L).map V.int) e = some (.int (lastOf L e)) := by
  have h1 := he.1
  have h2 := he.2
  rcases (show e = 0 ∨ e = 1 ∨ e = 2 by omega) with q | q | q <;> rw [q] <;> rfl
theorem last_lt {its : List It} {j : Nat} {i : It} (hi : its[j]? = some i) (h : Inc its) (hn : 0 ≤ i.n) : lastOf (its.take j) i.e < i.n := by
  rcases lastOf_mem i.e (its.take j) (-1) with q | ⟨b, hb, h1, h2⟩
  · have q : lastOf (its.take j) i.e = -1 := q
    omega
  · have h2 : lastOf (its.take j) i.e = b.n := h2
    rw [h2]
    obtain ⟨k, hk⟩ := List.getElem?_of_mem hb
    rw [List.getElem?_take] at hk
    by_cases c : k < j
    · rw [if_pos c] at hk
      obtain ⟨k1, e1⟩ := List.getElem?_eq_some_iff.mp hk
      obtain ⟨j1, e2⟩ := List.getElem?_eq_some_iff.mp hi
      have := (List.pairwise_iff_getElem.mp h) k j k1 j1 c
      rw [e1, e2] at this
      exact this h1
    · rw [if_neg c] at hk
      cases hk

section
variable {P : Program} {w : World} {K : PySem.W.Frag} {mg : Str → Option Value} {base : Heap} {a : Adr}
/-! ### read_numbers -/
def spNu (K : PySem.W.Frag) : Sp := fun vs H Q _ => ∃ (l : Addr) (ns : List Int), vs = [.ref l, .int 4] ∧ SqL K H l ((ns.map num).map V.str) ∧ ns.length ≤ 100 ∧ (∀ z ∈ ns, Dig z) ∧
  ∀ (H' : Hp) (p : Addr), Same H H' → H' p = some (.lst (ns.map V.int)) → Q (.ref p) H'
theorem scNu : FnScope ["words", "most", "numbers", "word", "sign"] ["words", "most"] (defScope sNums) := ⟨rfl, rfl, rfl, by decide +kernel, rfl, by decide +kernel, by decide +kernel⟩
theorem digs : TL.tl (Str.ofString "0123456789") = [48, 49, 50, 51, 52, 53, 54, 55, 56, 57] := by decide +kernel
theorem dig_in {c : Nat} (h : 48 ≤ c ∧ c ≤ 57) : c ∈ (Str.ofString "0123456789").cps.toList := by
  have e : (Str.ofString "0123456789").cps.toList = [48, 49, 50, 51, 52, 53, 54, 55, 56, 57] := digs
  rw [e]
  obtain ⟨h1, h2⟩ := h
  rcases (show c = 48 ∨ c = 49 ∨ c = 50 ∨ c = 51 ∨ c = 52 ∨ c = 53 ∨ c = 54 ∨ c = 55 ∨ c = 56 ∨ c = 57 by omega) with q | q | q | q | q | q | q | q | q | q <;> rw [q] <;> decide
theorem all_rep (n : Nat) : (List.replicate n true).all id = true := by
  rw [List.all_eq_true]
  intro x hx
  rw [(List.mem_replicate.mp hx).2]
  rfl
theorem ok_nums {f : Addr} {fd : FuncData} (F : Fun K "read_numbers" "read_numbers" sNums f fd) (T : Txt K mg a) : FnOk P w K mg base CX0 1 f fd ["words", "most"] (spNu K) := by
  refine F.ok scNu (fun vs H Q E h => ?_) (fun cdv A outer s H vs Q E hr h => ?_)
  · obtain ⟨l, ns, rfl, _⟩ := h
    rfl
  · obtain ⟨l, ns, rfl, hl, hn, hd, k⟩ := h
    obtain ⟨td, mD⟩ := T.di
    refine ⟨_, pss_cons (ps_set (i := 2) scNu.nd rfl (Or.inl rfl) (pe_lst pa_nil))
      (pss_cons (ps_for PassesOwn.never rfl (pi_list (pv 0)) (pg_name (i := 3) scNu.nd rfl (Or.inl rfl))
        (pss_cons (ps_if (PW.pt (pw_or (pt_cmpR op_eq (pv 3) pe_str (nomark _)) (pw_or (pt_cmpR op_gt (pe_callB call_len_str (by rfl) T.len PySem.boot_len (pa_cons (pv 3) pa_nil)) (pv 1) (nomark _))
            (pw_or1 (pt_not (pt_val (pe_callB (cr_all rfl) (by rfl) T.all (by decide +kernel) (pa_cons
              (pe_lc (own := [("sign", 4)]) (g := gName 4) (tt := tYes) rfl scNu.nd (pi_str (pv 3)) (blkOk_by (own := [("sign", 4)]) (N := ["words", "most", "numbers", "word", "sign"]) (sc := defScope sNums) (by decide +kernel))
                (fun _ _ _ _ _ => pg_name (i := 4) scNu.nd rfl (Or.inl rfl)) (fun _ _ _ _ _ => pts_nil) (fun _ _ _ _ _ => pe_cmpR op_in_sign (pv 4) (pe_glob (v := .str (Str.ofString "0123456789")) rfl mD ⟨_, rfl⟩) rfl)) pa_nil)))))))) (pss_one ps_never) pss_nil)
        (pss_one (ps_expr (pe_bm PySem.F.plainAttrs_list PySem.F.slot_list_append PySem.F.type_list_append mt_append (pv 2) (pa_cons (pe_callTy call_int_str (by rfl) T.int (by decide +kernel) (pa_cons (pv 3) pa_nil)) pa_nil))))))
      (pss_one (ps_ret (pv 2)))), ?_⟩
    refine ⟨Nat.zero_le _, fun tx ht => ?_⟩
    have s1 : Same H (upd H tx (.lst [])) := Same.new ht
    refine ⟨_, rfl, l, rfl, ⟨_, s1.seq hl⟩, for_list (K := K) (a := l) (xs := (ns.map num).map V.str)
      (fun j σ H' => ∃ (v3 : Option V), σ = [some (.ref l), some (.int 4), some (.ref tx), v3, none] ∧ Same H H' ∧ H' tx = some (.lst ((ns.take j).map V.int)))
      ⟨none, rfl, s1, upd_same⟩ (fun j σ H' _ ⟨_, _, q, _⟩ => q.seq hl) ?_ ?_⟩
    · rintro j z σ H1 hz ⟨v3, rfl, q1, q2⟩
      rw [List.getElem?_map, List.getElem?_map] at hz
      obtain ⟨n, hn1, rfl⟩ : ∃ n, ns[j]? = some n ∧ z = .str (num n) := by
        cases e : ns[j]? with
        | none => rw [e] at hz; cases hz
        | some n => rw [e] at hz; exact ⟨n, rfl, (Option.some.inj hz).symm⟩
      have dn := hd n (List.mem_of_getElem? hn1)
      refine ⟨_, rfl, rfl, _, rfl, ?_⟩
      rw [decide_eq_false (fun q => by
        have e := V.str.inj q
        have l0 := num_pos dn
        rw [e] at l0
        exact absurd l0 (by decide +kernel))]
      refine iteF ⟨_, rfl, _, rfl, Nat.le_trans (num_len dn) (by decide), _, rfl, _, _, rfl, rfl, _, rfl, ?_⟩
      have h4 := num_len dn
      rw [decide_eq_false (by omega)]
      refine iteF ⟨_, rfl, _, rfl, fun D hD => ?_⟩
      have kp : ∀ xs, Same H1 (upd H1 D (.lst xs)) := fun xs => Same.new hD
      refine lc_it walk_str (fun j H' => H' = upd H1 D (.lst ((List.replicate j true).map V.bl))) rfl (fun _ _ _ _ => trivial) ?_ ?_
      · rintro j2 z2 H' H2 hj rfl ⟨rfl, c, hc, rfl⟩
        have hc2 : c ∈ TL.tl (num n) := by
          have q := Array.mem_of_getElem? hc
          exact Array.mem_toList_iff.mpr q
        have hin := dig_in (num_sign dn hc2)
        refine ⟨rfl, _, rfl, c, _, rfl, rfl, _, upd_same, ?_, ?_⟩
        · rw [List.length_map, List.length_replicate]
          refine small1000 ?_
          have : j2 < (num n).length := hj
          omega
        · show upd (upd H1 D _) D _ = _
          rw [upd_upd, decide_eq_true hin, List.replicate_succ', List.map_append]
          rfl
      · rintro H' rfl
        refine ⟨D, _, rfl, SqL.of upd_same, _, rfl, ?_⟩
        rw [all_rep]
        refine iteF ?_
        have q2' := kp ((List.replicate (num n).cps.size true).map V.bl) _ _ q2
        refine ⟨_, rfl, .inl ⟨rfl, _, SqL.of q2'⟩, _, rfl, _, n, rfl, num_int dn, by omega, tx, _, _, rfl, rfl, q2', ?_, ?_⟩
        · rw [List.length_map, List.length_take]
          exact small1000 (by omega)
        · refine ⟨_, rfl, ?_, ?_⟩
          · intro b o e
            have nb : b ≠ tx := ne_of_none e ht
            rw [upd_ne nb]
            exact kp _ _ _ (q1 _ _ e)
          · rw [upd_same, take_snoc hn1, List.map_append]
            rfl
    · rintro σ H1 ⟨v3, rfl, q1, q2⟩
      rw [List.length_map, List.length_map, List.take_length] at q2
      exact ⟨_, rfl, k _ tx q1 q2⟩

/-! ### read_item -/
theorem cut11 (b0 b1 b2 b3 b4 b5 b6 b7 b8 b9 b10 b11 b12 b13 b14 : V) : cutV [b0, b1, b2, b3, b4, b5, b6, b7, b8, b9, b10, b11, b12, b13, b14] (some 11) none = [b11, b12, b13, b14] := rfl
theorem cut28 (b0 b1 b2 b3 b4 b5 b6 b7 b8 b9 b10 b11 b12 b13 b14 : V) : cutV [b0, b1, b2, b3, b4, b5, b6, b7, b8, b9, b10, b11, b12, b13, b14] (some 2) (some 8) = [b2, b3, b4, b5, b6, b7] := rfl
def spIt : Sp := fun vs H Q _ => ∃ i : It, vs = [.str i.txt] ∧ i.Ok ∧ ∀ (H' : Hp) (z : V), Same H H' → ItemAt H' z i → Q z H'
theorem scIt : FnScope ["text", "words", "numbers", "blinding"] ["text"] (defScope sItem) := ⟨rfl, rfl, rfl, by decide +kernel, rfl, by decide +kernel, by decide +kernel⟩
theorem ok_item {f fN : Addr} {fd fdN : FuncData} (F : Fun K "read_item" "read_item" sItem f fd) (T : Txt K mg a) (DN : Df K mg "read_numbers" sNums fN fdN ["words", "most"]) : FnOk P w K mg base CX0 2 f fd ["text"] spIt := by
  have GN : FnOk P w K mg base CX0 1 fN fdN ["words", "most"] (spNu K) := ok_nums DN.F T
  refine F.ok scIt (fun vs H Q E h => ?_) (fun cdv A outer s H vs Q E hr h => ?_)
  · obtain ⟨i, rfl, _⟩ := h
    rfl
  · obtain ⟨i, rfl, ok, k⟩ := h
    obtain ⟨tm, mM⟩ := T.md
    refine ⟨_, pss_cons (ps_set (i := 1) scIt.nd rfl (Or.inl rfl) (pe_split (pv 0) pe_str))
      (pss_cons (ps_if (PW.pt (pw_or (pt_cmpR op_ne (pe_ix ix_list (pv 1) pe_int (fun _ _ => rfl)) pe_str (nomark _)) (pw_or1 (pt_cmpR op_ne (pe_callB call_len_seq (by rfl) T.len PySem.boot_len (pa_cons (pv 1) pa_nil)) pe_int (nomark _))))) (pss_one ps_never) pss_nil)
      (pss_cons (ps_set (i := 2) scIt.nd rfl (Or.inl rfl) (pe_call GN hr rfl DN.m DN.F.kp DN.b .nil pass0 (pa_cons (pe_slice sl_list (pv 1) (po_some pe_int) po_none) (pa_cons (pe_glob (v := .int 4) rfl mM ⟨_, rfl⟩) pa_nil))))
      (pss_cons (ps_set (i := 3) scIt.nd rfl (Or.inl rfl) (pe_tup (pa_cons (pe_ix ix_list (pv 2) pe_int (fun _ _ => rfl)) (pa_cons (pe_ix ix_list (pv 2) pe_int (fun _ _ => rfl)) (pa_cons (pe_ix ix_list (pv 2) pe_int (fun _ _ => rfl))
        (pa_cons (pe_callTy call_tuple_of (by rfl) T.tup (by decide +kernel) (pa_cons (pe_slice sl_list (pv 2) (po_some pe_int) po_none) pa_nil)) pa_nil))))))
      (pss_one (ps_ret (pe_tup (pa_cons (pe_ix ix_list (pv 2) pe_int (fun _ _ => rfl)) (pa_cons (pe_ix ix_list (pv 2) pe_int (fun _ _ => rfl)) (pa_cons (pe_callTy call_tuple_of (by rfl) T.tup (by decide +kernel) (pa_cons (pe_slice sl_list (pv 2) (po_some pe_int) (po_some pe_int)) pa_nil))
        (pa_cons (pv 3) pa_nil)))))))))), ?_⟩
    have room := ok.room
    have len : (i.txt).length + 2 ≤ sizeLine := by
      have : (100002 : Nat) ≤ sizeLine := by decide
      omega
    refine ⟨_, rfl, ⟨_, rfl⟩, _, _, rfl, rfl, by decide +kernel, len, fun wl hw => ?_⟩
    rw [split_txt ok]
    have s1 : Same H (upd H wl (.lst ((Str.ofString "ticket" :: i.nums.map num).map V.str))) := Same.new hw
    have ew : upd H wl (.lst ((Str.ofString "ticket" :: i.nums.map num).map V.str)) wl = some (.lst ((Str.ofString "ticket" :: i.nums.map num).map V.str)) := upd_same
    generalize upd H wl (.lst ((Str.ofString "ticket" :: i.nums.map num).map V.str)) = A1 at s1 ew ⊢
    refine ⟨_, rfl, wl, _, 0, .str (Str.ofString "ticket"), rfl, rfl, SqL.of ew, at_of (j := 0) rfl rfl, rfl, _, rfl, ?_⟩
    rw [decide_eq_true rfl]
    refine iteF ⟨_, rfl, wl, _, rfl, .inl (SqL.of ew), rfl, _, rfl, ?_⟩
    have e16 : ((Str.ofString "ticket" :: i.nums.map num).map V.str).length = 16 := by
      rw [List.length_map, List.length_cons, List.length_map, ok.len15]
    rw [e16, decide_eq_true (show V.int ((16 : Nat) : Int) = V.int 16 from rfl)]
    refine iteF ⟨_, rfl, _, rfl, wl, _, rfl, SqL.of ew, fun sl hs => ?_⟩
    have ec : cutV ((Str.ofString "ticket" :: i.nums.map num).map V.str) (some 1) none = (i.nums.map num).map V.str := by
      unfold cutV
      have h1 : HT.sIx ((Str.ofString "ticket" :: i.nums.map num).map V.str).length 0 (some 1) = 1 := by rw [e16]; rfl
      have h2 : HT.sIx ((Str.ofString "ticket" :: i.nums.map num).map V.str).length ((Str.ofString "ticket" :: i.nums.map num).map V.str).length none = 16 := by rw [e16]; rfl
      rw [h1, h2]
      show ((i.nums.map num).map V.str).take 15 = _
      exact List.take_of_length_le (by rw [List.length_map, List.length_map, ok.len15]; exact Nat.le_refl _)
    rw [ec]
    refine ⟨sl, i.nums, rfl, SqL.of upd_same, by rw [ok.len15]; decide, ok.dig, fun A2 nl s2 en => ?_⟩
    have s02 : Same H A2 := (s1.trans (Same.new hs)).trans s2
    obtain ⟨e, n, t, sv, u, v, x⟩ := i
    have t6 := ok.t6
    have x4 := ok.x4
    dsimp only at t6 x4
    match t, t6, x, x4 with
    | [t0, t1, t2, t3, t4, t5], _, [x0, x1, x2, x3], _ =>
      have en : A2 nl = some (.lst [.int e, .int n, .int t0, .int t1, .int t2, .int t3, .int t4, .int t5, .int sv, .int u, .int v, .int x0, .int x1, .int x2, .int x3]) := en
      refine ⟨_, rfl, nl, _, 8, .int sv, rfl, rfl, SqL.of en, rfl, _, rfl, nl, _, 9, .int u, rfl, rfl, SqL.of en, rfl, _, rfl, nl, _, 10, .int v, rfl, rfl, SqL.of en, rfl, ?_⟩
      refine ⟨_, rfl, _, rfl, nl, _, rfl, SqL.of en, fun l1 h1 => ?_⟩
      rw [cut11]
      generalize hA : upd A2 l1 (.lst [.int x0, .int x1, .int x2, .int x3]) = A3
      have s3 : Same A2 A3 := by rw [← hA]; exact Same.new h1
      have e3 : A3 l1 = some (.lst [.int x0, .int x1, .int x2, .int x3]) := by rw [← hA]; exact upd_same
      refine ⟨l1, _, rfl, .inl ⟨SqL.of e3, fun l2 h2 => ?_⟩⟩
      generalize hB : upd A3 l2 (.tup [.int x0, .int x1, .int x2, .int x3]) = A4
      have s4 : Same A3 A4 := by rw [← hB]; exact Same.new h2
      have e4 : A4 l2 = some (.tup [.int x0, .int x1, .int x2, .int x3]) := by rw [← hB]; exact upd_same
      refine ⟨by show 4 ≤ sizeLine; decide, fun l3 h3 => ?_⟩
      generalize hC : upd A4 l3 (.tup [.int sv, .int u, .int v, .ref l2]) = A5
      have s5 : Same A4 A5 := by rw [← hC]; exact Same.new h3
      have e5 : A5 l3 = some (.tup [.int sv, .int u, .int v, .ref l2]) := by rw [← hC]; exact upd_same
      have s25 := (s3.trans s4).trans s5
      have en5 := s25 _ _ en
      refine ⟨_, rfl, nl, _, 0, .int e, rfl, rfl, SqL.of en5, rfl, _, rfl, nl, _, 1, .int n, rfl, rfl, SqL.of en5, rfl, ?_⟩
      refine ⟨_, rfl, _, rfl, _, rfl, nl, _, rfl, SqL.of en5, fun l4 h4 => ?_⟩
      rw [cut28]
      generalize hD : upd A5 l4 (.lst [.int t0, .int t1, .int t2, .int t3, .int t4, .int t5]) = A6
      have s6 : Same A5 A6 := by rw [← hD]; exact Same.new h4
      have e6 : A6 l4 = some (.lst [.int t0, .int t1, .int t2, .int t3, .int t4, .int t5]) := by rw [← hD]; exact upd_same
      refine ⟨l4, _, rfl, .inl ⟨SqL.of e6, fun l5 h5 => ?_⟩⟩
      generalize hE : upd A6 l5 (.tup [.int t0, .int t1, .int t2, .int t3, .int t4, .int t5]) = A7
      have s7 : Same A6 A7 := by rw [← hE]; exact Same.new h5
      have e7 : A7 l5 = some (.tup [.int t0, .int t1, .int t2, .int t3, .int t4, .int t5]) := by rw [← hE]; exact upd_same
      refine ⟨_, rfl, by show 4 ≤ sizeLine; decide, fun l6 h6 => ?_⟩
      have s8 : Same A7 (upd A7 l6 (.tup [.int e, .int n, .ref l5, .ref l3])) := Same.new h6
      have s57 := s6.trans s7
      exact k _ _ ((s02.trans (s25.trans s57)).trans s8) ⟨l6, l5, l3, rfl, upd_same, s8 _ _ e7, l2, s8 _ _ (s57 _ _ e5), s8 _ _ (s57 _ _ (s5 _ _ e4))⟩
end
end K57

/-! load_purse *-/
namespace K57
open PySem L2
section
variable {P : Program} {w : World} {K : PySem.W.Frag} {mg : Str → Option Value} {base : Heap} {a : Adr}
def spLd (a : Adr) : Sp := fun vs H Q _ => ∃ (r : Addr) (its : List It), vs = [.ref r, .str (img its)] ∧ its.length ≤ 12 ∧ (∀ i ∈ its, i.Ok) ∧ Inc its ∧
  ∀ (H' : Hp) (p l : Addr), Same H H' → H p = none → H l = none → PurAt a.cp H' p r l its → Q (.ref p) H'
theorem scLd : FnScope ["counter", "text", "purse", "last", "_", "part", "item"] ["counter", "text"] (defScope sLoad) := ⟨rfl, rfl, rfl, by decide +kernel, rfl, by decide +kernel, by decide +kernel⟩
theorem It.Ok.dn {i : It} (h : i.Ok) : Dig i.n := h.dig _ (by unfold It.nums; simp)
theorem It.Ok.oke {i : It} (h : i.Ok) : OkE i.e := ⟨h.e0, h.e3⟩
/-- the methods of the purse -/
structure Ms (K : PySem.W.Frag) (mg : Str → Option Value) (a : Adr) (fE fC fN fU fI fS fB fM fJ : Addr) (dE dC dN dU dI dS dB dM dJ : FuncData) : Prop where
  E : Df K mg "check_epoch" sEp fE dE ["epoch"]
  C : Mt K a.cr "count" "Register.count" sRCount fC dC ["self", "epoch"]
  N : Mt K a.cp "_next_number" "Purse._next_number" sPNext fN dN ["self", "epoch"]
  U : Mt K a.cp "_usable" "Purse._usable" sPUse fU dU ["self", "epoch"]
  I : Fun K "__init__" "Purse.__init__" sPInit fI dI
  Ib : Binds K dI ["self", "counter"] []
  Im : Mk K a.cp fI
  S : Mt K a.cp "size" "Purse.size" sPSize fS dS ["self"]
  B : Mt K a.cp "put_back" "Purse.put_back" sPBack fB dB ["self", "item"]
  M : Mt K a.cp "image" "Purse.image" sPImg fM dM ["self"]
  J : Df K mg "joined_text" sJoin fJ dJ ["word", "numbers"]
section
variable {fE fC fN fU fI fS fB fM fJ : Addr} {dE dC dN dU dI dS dB dM dJ : FuncData}
theorem ok_load {f fR fT : Addr} {fd dR dT : FuncData} (F : Fun K "load_purse" "load_purse" sLoad f fd) (T : Txt K mg a) (M : Ms K mg a fE fC fN fU fI fS fB fM fJ dE dC dN dU dI dS dB dM dJ)
    (DR : Df K mg "read_numbers" sNums fR dR ["words", "most"]) (DT : Df K mg "read_item" sItem fT dT ["text"]) : FnOk P w K mg base CX0 3 f fd ["counter", "text"] (spLd a) := by
  have GI : FnOk P w K mg base CX0 1 fI dI ["self", "counter"] (spPI a) := ok_pinit M.I T
  have GT : FnOk P w K mg base CX0 2 fT dT ["text"] spIt := ok_item DT.F T DR
  have GS : FnOk P w K mg base CX0 1 fS dS ["self"] (spPS a) := ok_psize M.S.F T
  have GB : FnOk P w K mg base CX0 1 fB dB ["self", "item"] (spPB a) := ok_pback M.B.F T
  have GM : FnOk P w K mg base CX0 2 fM dM ["self"] (spIm a) := ok_image M.M.F T M.J
  refine F.ok scLd (fun vs H Q E h => ?_) (fun cdv A outer s H vs Q E hr h => ?_)
  · obtain ⟨r, its, rfl, _⟩ := h
    rfl
  · obtain ⟨r, its, rfl, hs, hok, hinc, k⟩ := h
    obtain ⟨te, mE⟩ := T.ep
    obtain ⟨tm, mM⟩ := T.mh
    have hr1 : Room 1 _ := hr.mono (by decide)
    refine ⟨_, pss_cons (ps_set (i := 2) scLd.nd rfl (Or.inl rfl) (pe_make M.Im GI hr rfl T.gP M.Ib .nil pass0 (pa_cons (pv 0) pa_nil)))
      (pss_cons (ps_setLc (i := 3) (own := [("_", 4)]) (g := gName 4) (tt := tYes) rfl scLd.nd rfl rfl (sw_true rfl rfl rfl (by decide +kernel)) (pi_range1 rfl T.rng (pa_cons (pe_glob (v := .int 3) rfl mE ⟨_, rfl⟩) pa_nil))
        (blkOk_by (own := [("_", 4)]) (N := ["counter", "text", "purse", "last", "_", "part", "item"]) (sc := defScope sLoad) (by decide +kernel)) (fun _ _ _ _ _ => pg_name (i := 4) scLd.nd rfl (Or.inl rfl)) (fun _ _ _ _ _ => pts_nil) (fun _ _ _ _ _ => pe_un un_neg pe_int))
      (pss_cons (ps_for PassesOwn.never rfl (pi_list (pe_split (pv 1) pe_str)) (pg_name (i := 5) scLd.nd rfl (Or.inl rfl))
        (pss_one (ps_if (pt_cmpR op_ne (pv 1) pe_str (nomark _))
          (pss_cons (ps_set (i := 6) scLd.nd rfl (Or.inl rfl) (pe_call GT hr rfl DT.m DT.F.kp DT.b .nil pass0 (pa_cons (pv 5) pa_nil)))
          (pss_cons (ps_if (PW.pt (pw_or (pt_cmpR op_ge (pe_ix ix_tup (pv 6) pe_int (fun _ _ => rfl)) (pe_glob (v := .int 3) rfl mE ⟨_, rfl⟩) (nomark _))
              (pw_or (pt_cmpR op_le (pe_ix ix_tup (pv 6) pe_int (fun _ _ => rfl)) (pe_ix ix_list (pv 3) (pe_ix ix_tup (pv 6) pe_int (fun _ _ => rfl)) (fun _ _ => rfl)) (nomark _))
                (pw_or1 (pt_cmpR op_ge (pe_meth0 (pv 2) T.cp M.S.m GS hr1 M.S.b .nil pass0) (pe_glob (v := .int 12) rfl mM ⟨_, rfl⟩) (nomark _)))))) (pss_one ps_never) pss_nil)
          (pss_cons (ps_asg (pe_ix ix_tup (pv 6) pe_int (fun _ _ => rfl)) (pg_sub (pv 3) (pe_ix ix_tup (pv 6) pe_int (fun _ _ => rfl)) set_list))
          (pss_one (ps_expr (pe_meth (pv 2) T.cp M.B.m GB hr1 M.B.b .nil pass0 (pa_cons (pv 6) pa_nil)))))))
          pss_nil)))
      (pss_cons (ps_if (pt_cmpR op_ne (pe_meth0 (pv 2) T.cp M.M.m GM hr M.M.b .nil pass0) (pv 1) (nomark _)) (pss_one ps_never) pss_nil)
      (pss_one (ps_ret (pv 2)))))), ?_⟩
    refine ⟨_, rfl, fun p dp np ndp nep => ?_⟩
    generalize hA : upd (upd H dp (.own p)) p (.ins a.cp dp []) = A0
    have s0 : Same H A0 := fun b o e => by
      rw [← hA, upd_ne (ne_of_none e np), upd_ne (ne_of_none e ndp)]
      exact e
    refine ⟨p, dp, r, rfl, by rw [← hA]; exact upd_same, fun A1 l hl0 k1 U1 => ⟨rfl, ?_⟩⟩
    have nl : H l = none := s0.free hl0
    have s1 : Same H A1 := fun b o e => k1.at (s0 b o e) (by
      intro m
      rw [List.mem_singleton.mp m, np] at e
      cases e)
    have nlA : A1 l ≠ none := by
      obtain ⟨_, q, _⟩ := U1.h
      rw [q]
      exact fun z => by cases z
    refine ⟨3, rfl, by decide, by decide, fun ll hll => lc_range (lo := 0) (n := 3) (fun i H' => H' = upd A1 ll (.lst (List.replicate i (V.int (-1))))) rfl ?_ ?_⟩
    · rintro i H' hi rfl
      refine ⟨rfl, _, rfl, _, upd_same, by rw [List.length_replicate]; exact Nat.lt_trans hi (by decide), ?_⟩
      show upd (upd A1 ll _) ll _ = _
      rw [upd_upd]
      exact congrArg (fun z => upd A1 ll (.lst z)) (List.replicate_succ').symm
    · rintro H' rfl
      have nll : ll ≠ l := fun z => nlA (z ▸ hll)
      have s2 : Same A1 (upd A1 ll (.lst (List.replicate 3 (V.int (-1))))) := Same.new hll
      have e2 : upd A1 ll (.lst (List.replicate 3 (V.int (-1)))) ll = some (.lst ((lasts []).map V.int)) := upd_same
      have U2 := U1.kp (Kp.of (S := []) s2) (by simp) (by simp)
      generalize upd A1 ll (.lst (List.replicate 3 (V.int (-1)))) = A2 at s2 e2 U2 ⊢
      have s02 := s1.trans s2
      have ilen := img_len hs hok
      have room : (img its).length + 2 ≤ sizeLine := by
        have : (1300002 : Nat) ≤ sizeLine := by decide
        omega
      refine ⟨_, rfl, ⟨_, rfl⟩, _, _, rfl, rfl, by decide +kernel, room, fun wl hw => ?_⟩
      have s3 : Same A2 (upd A2 wl (.lst ((Txt.split (img its) (Str.ofString ";")).map V.str))) := Same.new hw
      have e3 : upd A2 wl (.lst ((Txt.split (img its) (Str.ofString ";")).map V.str)) wl = some (.lst ((Txt.split (img its) (Str.ofString ";")).map V.str)) := upd_same
      have e2' := s3 _ _ e2
      have U3 := U2.kp (Kp.of (S := []) s3) (by simp) (by simp)
      have nwl : wl ≠ l := fun z => by
        obtain ⟨_, q, _⟩ := U2.h
        rw [← z, hw] at q
        cases q
      have nwll : wl ≠ ll := fun z => by
        rw [← z, hw] at e2
        cases e2
      generalize upd A2 wl (.lst ((Txt.split (img its) (Str.ofString ";")).map V.str)) = A3 at s3 e3 e2' U3 ⊢
      have s03 := s02.trans s3
      refine ⟨wl, rfl, ⟨_, SqL.of e3⟩, for_list (K := K) (a := wl) (xs := (Txt.split (img its) (Str.ofString ";")).map V.str)
        (fun j σ H' => ∃ (v5 v6 : Option V), σ = [some (.ref r), some (.str (img its)), some (.ref p), some (.ref ll), none, v5, v6] ∧ Same H H' ∧ PurAt a.cp H' p r l (its.take j) ∧ H' ll = some (.lst ((lasts (its.take j)).map V.int)) ∧ H' wl = some (.lst ((Txt.split (img its) (Str.ofString ";")).map V.str)))
        ⟨none, none, rfl, s03, U3, e2', e3⟩ (fun j σ H' _ ⟨_, _, _, _, _, _, q⟩ => SqL.of q) ?_ ?_⟩
      · rintro j z σ H1 hz ⟨v5, v6, rfl, q1, UU, q2, q3⟩
        by_cases hne : its = []
        · subst hne
          refine ⟨_, rfl, rfl, _, rfl, ?_⟩
          rw [img_nil, decide_eq_true rfl]
          refine iteF ⟨_, _, rfl, q1, ?_, ?_, by rw [img_nil] at q3; exact q3⟩
          · rw [List.take_nil] at UU ⊢
            exact UU
          · rw [List.take_nil] at q2 ⊢
            exact q2
        · rw [split_img hne hok, List.getElem?_map, List.getElem?_map] at hz
          obtain ⟨it, hit, rfl⟩ : ∃ it, its[j]? = some it ∧ z = .str it.txt := by
            cases e : its[j]? with
            | none => rw [e] at hz; cases hz
            | some it => rw [e] at hz; exact ⟨it, rfl, (Option.some.inj hz).symm⟩
          have iok := hok it (List.mem_of_getElem? hit)
          refine ⟨_, rfl, rfl, _, rfl, ?_⟩
          rw [decide_eq_false (fun q => img_ne hne (V.str.inj q))]
          refine iteT ⟨_, rfl, it, rfl, iok, fun H2 zi s12 hzi => ?_⟩
          obtain ⟨pi, Ti, Bi, rfl, g1, g2, g3⟩ := id hzi
          have UU2 := UU.kp (Kp.of (S := []) s12) (by simp) (by simp)
          have q22 := s12 _ _ q2
          have q32 := s12 _ _ q3
          obtain ⟨⟨dx, hp2⟩, _⟩ := id UU2
          refine ⟨_, rfl, pi, _, _, _, rfl, rfl, SqT.of g1, rfl, _, _, rfl, rfl, _, rfl, ?_⟩
          have e3' := iok.e3
          rw [decide_eq_false (show ¬ (3 : Int) ≤ it.e by omega)]
          refine iteF ⟨_, rfl, pi, _, _, _, rfl, rfl, SqT.of g1, rfl, _, rfl, _, rfl, pi, _, _, _, rfl, rfl, SqT.of g1, rfl, ll, _, _, _, rfl, rfl, SqL.of q22, lasts_at iok.oke, _, _, rfl, rfl, _, rfl, ?_⟩
          have hlt := last_lt hit hinc iok.dn.1
          rw [decide_eq_false (show ¬ it.n ≤ lastOf (its.take j) it.e by omega)]
          refine iteF ⟨_, rfl, p, dx, _, rfl, hp2, pf_no _ _ (by decide +kernel) (by decide +kernel), p, r, l, its.take j, rfl, UU2, _, _, rfl, rfl, _, rfl, ?_⟩
          have hj : j < its.length := (List.getElem?_eq_some_iff.mp hit).1
          have ltk : (its.take j).length = j := by rw [List.length_take]; omega
          rw [ltk, decide_eq_false (show ¬ (12 : Int) ≤ (j : Int) by omega)]
          refine iteF ⟨_, rfl, pi, _, _, _, rfl, rfl, SqT.of g1, rfl, _, rfl, _, rfl, pi, _, _, _, rfl, rfl, SqT.of g1, rfl, ll, _, _, it.e.toNat, rfl, rfl, q22, set_at (by rfl) iok.oke, ?_⟩
          rw [map_set, lasts_snoc iok.oke, ← take_snoc hit]
          have k4 : Kp [ll] H2 (upd H2 ll (.lst ((lasts (its.take (j + 1))).map V.int))) := Kp.put q22 (fun xs z => by cases z) (by simp)
          have npl : p ≠ ll := (ne_of q22 hp2 (by intro z; cases z)).symm
          have UU3 := UU2.kp k4 (by simpa using npl) (by simpa using nll.symm)
          have e4 : upd H2 ll (.lst ((lasts (its.take (j + 1))).map V.int)) ll = some (.lst ((lasts (its.take (j + 1))).map V.int)) := upd_same
          have e4w := k4.at q32 (by simpa using nwll)
          have hz4 := hzi.kp k4
          have s4 : Same H (upd H2 ll (.lst ((lasts (its.take (j + 1))).map V.int))) := fun b o e => by
            rw [upd_ne (fun z => by
              rw [z] at e
              have e' := s1 _ _ e
              rw [hll] at e'
              cases e')]
            exact s12 _ _ (q1 _ _ e)
          obtain ⟨⟨dx3, hp3⟩, _⟩ := id UU3
          refine ⟨_, rfl, p, dx3, _, rfl, hp3, pf_no _ _ (by decide +kernel) (by decide +kernel), _, rfl, p, r, l, its.take j, .ref pi, it, rfl, UU3, hz4, by omega, fun H5 k5 U5 => ?_⟩
          refine ⟨_, _, rfl, fun b o e => ?_, by rw [take_snoc hit]; exact U5, k5.at e4 (by simpa using nll), k5.at e4w (by simpa using nwl)⟩
          exact k5.at (s4 _ _ e) (by
            intro m
            rw [List.mem_singleton.mp m, nl] at e
            cases e)
      · rintro σ H1 ⟨v5, v6, rfl, q1, UU, q2, q3⟩
        have UU' : PurAt a.cp H1 p r l its := by
          by_cases hne : its = []
          · subst hne
            rw [List.take_nil] at UU
            exact UU
          · rw [split_img hne hok, List.length_map, List.length_map, List.take_length] at UU
            exact UU
        obtain ⟨⟨dx, hp2⟩, _⟩ := id UU'
        refine ⟨_, rfl, p, dx, _, rfl, hp2, pf_no _ _ (by decide +kernel) (by decide +kernel), p, r, l, its, rfl, UU', hs, hok, fun H2 s12 => ?_⟩
        refine ⟨_, rfl, rfl, _, rfl, ?_⟩
        rw [decide_eq_true rfl]
        exact iteF ⟨_, rfl, k _ p l (q1.trans s12) np nl (UU'.kp (Kp.of (S := []) s12) (by simp) (by simp))⟩
end
end
end K57

/-! the law's row of cells, a cell *-/
namespace K57
open PySem L2
section
variable {P : Program} {w : World} {K : PySem.W.Frag} {mg : Str → Option Value} {base : Heap} {a : Adr}
def Cells (rs : List Int) : Prop := ∀ z ∈ rs, 0 ≤ z ∧ z < 1009
theorem Cells.snoc {rs : List Int} {z : Int} (h : Cells rs) (h1 : 0 ≤ z ∧ z < 1009) : Cells (rs ++ [z]) := fun y hy => by
  rcases List.mem_append.mp hy with q | q
  · exact h y q
  · rw [List.mem_singleton.mp q]; exact h1
theorem Cells.nil : Cells [] := fun _ h => absurd h List.not_mem_nil
theorem small9 {n : Nat} (h : n ≤ 9000) : n < sizeLine := Nat.lt_of_le_of_lt h (by decide)
theorem mod1009 (c : Int) : 0 ≤ c % 1009 ∧ c % 1009 < 1009 := ⟨Int.emod_nonneg _ (by decide), Int.emod_lt_of_pos _ (by decide)⟩
def spRow (K : PySem.W.Frag) : Sp := fun vs H Q _ => ∃ (l : Addr) (ns : List Int), vs = [.ref l] ∧ SqL K H l (ns.map V.int) ∧ ns.length ≤ 63 ∧
  ∀ (H' : Hp) (p : Addr) (rs : List Int), Same H H' → H p = none → H' p = some (.lst (rs.map V.int)) → Cells rs → rs.length ≤ 2520 → Q (.ref p) H'
theorem scRow : FnScope ["_law_script", "_law_row_here", "_law_k", "_law_cell", "_law_turn", "_law_mixed"] ["_law_script"] (defScope sRow) := ⟨rfl, rfl, rfl, by decide +kernel, rfl, by decide +kernel, by decide +kernel⟩
theorem row_app {H H1 : Hp} {tx : Addr} {rs : List Int} {z : Int} (ht : H tx = none) (s1 : Same H H1) :
    Same H (upd H1 tx (.lst (rs.map V.int ++ [.int z]))) ∧ upd H1 tx (.lst (rs.map V.int ++ [.int z])) tx = some (.lst ((rs ++ [z]).map V.int)) := by
  refine ⟨fun b o e => ?_, ?_⟩
  · rw [upd_ne (ne_of_none e ht)]
    exact s1 _ _ e
  · rw [upd_same, List.map_append]
    rfl
theorem ok_row {f : Addr} {fd : FuncData} (F : Fun K "_law_row" "_law_row" sRow f fd) (T : Txt K mg a) : FnOk P w K mg base CX0 1 f fd ["_law_script"] (spRow K) := by
  refine F.ok scRow (fun vs H Q E h => ?_) (fun cdv A outer s H vs Q E hr h => ?_)
  · obtain ⟨l, ns, rfl, _⟩ := h
    rfl
  · obtain ⟨l, ns, rfl, hl, hn, k⟩ := h
    refine ⟨_, pss_cons (ps_set (i := 1) scRow.nd rfl (Or.inl rfl) (pe_lst pa_nil))
      (pss_cons (ps_for PassesOwn.never rfl (pi_range1 rfl T.rng (pa_cons (pe_callB call_len_seq (by rfl) T.len PySem.boot_len (pa_cons (pv 0) pa_nil)) pa_nil)) (pg_name (i := 2) scRow.nd rfl (Or.inl rfl))
        (pss_cons (ps_set (i := 3) scRow.nd rfl (Or.inl rfl) (pe_callB call_abs (by rfl) T.abs (by decide +kernel) (pa_cons (pe_callTy call_int1 (by rfl) T.int (by decide +kernel) (pa_cons (pe_ix ix_list (pv 0) (pv 2) (fun _ _ => rfl)) pa_nil)) pa_nil)))
        (pss_one (ps_if (pt_cmpR op_ge (pv 3) (pe_op op_pow pe_int pe_int) (nomark _))
          (pss_one (ps_for PassesOwn.never rfl (pi_range1 rfl T.rng (pa_cons pe_int pa_nil)) (pg_name (i := 4) scRow.nd rfl (Or.inl rfl))
            (pss_one (ps_if (pt_cmpR op_gt (pv 3) pe_int (nomark _))
              (pss_cons (ps_expr (pe_bm PySem.F.plainAttrs_list PySem.F.slot_list_append PySem.F.type_list_append mt_append (pv 1) (pa_cons (pe_op op_mod (pe_callTy call_int1 (by rfl) T.int (by decide +kernel) (pa_cons (pv 3) pa_nil)) pe_int) pa_nil)))
              (pss_one (ps_set (i := 3) scRow.nd rfl (Or.inl rfl) (pe_op op_fdiv (pv 3) pe_int)))) pss_nil))))
          (pss_cons (ps_set (i := 5) scRow.nd rfl (Or.inl rfl) (pe_op op_mod (pe_callTy call_int1 (by rfl) T.int (by decide +kernel) (pa_cons (pe_op op_add (pe_op op_add (pe_op op_mul (pv 3) pe_int) (pe_op op_mul (pv 2) pe_int)) pe_int) pa_nil)) pe_int))
          (pss_one (ps_for PassesOwn.never rfl (pi_range1 rfl T.rng (pa_cons pe_int pa_nil)) (pg_name (i := 4) scRow.nd rfl (Or.inl rfl))
            (pss_cons (ps_set (i := 5) scRow.nd rfl (Or.inl rfl) (pe_op op_mod (pe_callTy call_int1 (by rfl) T.int (by decide +kernel) (pa_cons (pe_op op_add (pe_op op_add (pe_op op_mul (pv 5) pe_int) (pe_op op_mul pe_int (pv 4))) pe_int) pa_nil)) pe_int))
            (pss_one (ps_expr (pe_bm PySem.F.plainAttrs_list PySem.F.slot_list_append PySem.F.type_list_append mt_append (pv 1) (pa_cons (pe_op op_mod (pe_callTy call_int1 (by rfl) T.int (by decide +kernel) (pa_cons (pe_op op_fdiv (pv 5) pe_int) pa_nil)) pe_int) pa_nil))))))))))))
      (pss_one (ps_ret (pv 1)))), ?_⟩
    refine ⟨Nat.zero_le _, fun tx ht => ?_⟩
    have s1 : Same H (upd H tx (.lst [])) := Same.new ht
    have hb : ((ns.map V.int).length : Int) < 2 ^ 62 := by
      have q : (63 : Int) < 2 ^ 62 := by decide
      rw [List.length_map]
      omega
    have hb0 : -(2 ^ 62) ≤ ((ns.map V.int).length : Int) := by
      have q : (0 : Int) < 2 ^ 62 := by decide
      omega
    refine ⟨_, rfl, l, _, rfl, .inl (s1.seq hl), _, rfl, hb0, hb, ?_⟩
    rw [List.length_map, Int.toNat_natCast]
    refine for_range (n := ns.length) (fun j σ H' => ∃ (v2 v3 v4 v5 : Option V) (rs : List Int), σ = [some (.ref l), some (.ref tx), v2, v3, v4, v5] ∧ Same H H' ∧ H' tx = some (.lst (rs.map V.int)) ∧ Cells rs ∧ rs.length ≤ 40 * j)
      ⟨none, none, none, none, [], rfl, s1, upd_same, Cells.nil, Nat.le_refl _⟩ ?_ ?_
    · rintro j σ H1 hj ⟨v2, v3, v4, v5, rs, rfl, q1, q2, q3, q4⟩
      have hz : (ns.map V.int)[j]? = some (.int ns[j]) := by rw [List.getElem?_map, List.getElem?_eq_getElem hj]; rfl
      refine ⟨_, rfl, _, rfl, l, _, _, _, rfl, rfl, q1.seq hl, at_of (j := j) (by omega) hz, .inl ⟨_, rfl, _, rfl, ?_⟩⟩
      generalize (if ns[j] < 0 then -ns[j] else ns[j]) = c
      refine ⟨_, rfl, _, _, rfl, rfl, ⟨by decide, by decide, by decide⟩, _, _, rfl, rfl, _, rfl, ?_⟩
      refine ite2 (fun _ => ?_) (fun _ => ?_)
      · refine ⟨40, rfl, by decide, by decide, for_range (n := 40) (fun t σ H' => ∃ (c : Int) (v4 v5 : Option V) (rs : List Int), σ = [some (.ref l), some (.ref tx), some (.int (0 + (j : Int))), some (.int c), v4, v5] ∧ Same H H' ∧ H' tx = some (.lst (rs.map V.int)) ∧ Cells rs ∧ rs.length ≤ 40 * j + t)
          ⟨c, v4, v5, rs, rfl, q1, q2, q3, q4⟩ ?_ ?_⟩
        · rintro t σ H2 ht2 ⟨c, v4, v5, rs, rfl, q1, q2, q3, q4⟩
          refine ⟨_, rfl, _, _, rfl, rfl, _, rfl, ?_⟩
          refine ite2 (fun _ => ?_) (fun _ => ?_)
          · have g := row_app (rs := rs) (z := c % 1009) ht q1
            refine ⟨_, rfl, .inl ⟨rfl, _, SqL.of q2⟩, _, rfl, .inl ⟨_, rfl, _, _, rfl, rfl, (by show (0 : Int) < 1009; decide), tx, _, _, rfl, rfl, q2, by rw [List.length_map]; exact small9 (by omega), ?_⟩⟩
            refine ⟨_, rfl, _, _, rfl, rfl, ⟨by decide, by decide⟩, ?_⟩
            exact ⟨_, _, _, rs ++ [c % 1009], rfl, g.1, g.2, q3.snoc (mod1009 c), by rw [List.length_append, List.length_singleton]; omega⟩
          · exact ⟨c, _, _, rs, rfl, q1, q2, q3, by omega⟩
        · rintro σ H2 ⟨c, v4, v5, rs, rfl, q1, q2, q3, q4⟩
          exact ⟨_, _, _, _, rs, rfl, q1, q2, q3, by omega⟩
      · refine ⟨_, rfl, _, _, rfl, rfl, .inr ⟨by decide, by decide⟩, _, rfl, _, _, rfl, rfl, .inr ⟨by decide, by decide⟩, _, _, rfl, rfl, _, _, rfl, rfl, .inl ⟨_, rfl, _, _, rfl, rfl, (by show (0 : Int) < 2147483647; decide), ?_⟩⟩
        refine ⟨6, rfl, by decide, by decide, for_range (n := 6) (fun t σ H' => ∃ (m : Int) (v4 : Option V) (rs : List Int), σ = [some (.ref l), some (.ref tx), some (.int (0 + (j : Int))), some (.int c), v4, some (.int m)] ∧ Same H H' ∧ H' tx = some (.lst (rs.map V.int)) ∧ Cells rs ∧ rs.length ≤ 40 * j + t)
          ⟨(c * 48271 + (0 + (j : Int)) * 69621 + 12345) % 2147483647, v4, rs, rfl, q1, q2, q3, q4⟩ ?_ ?_⟩
        · rintro t σ H2 ht2 ⟨m, v4, rs, rfl, q1, q2, q3, q4⟩
          refine ⟨_, rfl, _, _, rfl, rfl, .inr ⟨by decide, by decide⟩, _, rfl, _, _, rfl, rfl, .inl ⟨by decide, by decide⟩, _, _, rfl, rfl, _, _, rfl, rfl, .inl ⟨_, rfl, _, _, rfl, rfl, (by show (0 : Int) < 2147483647; decide), ?_⟩⟩
          obtain ⟨m1, hm1⟩ : ∃ m1, m1 = (m * 16807 + 11 * (0 + (t : Int)) + 1) % 2147483647 := ⟨_, rfl⟩
          have g := row_app (rs := rs) (z := m1 / 7 % 1009) ht q1
          refine ⟨_, rfl, .inl ⟨rfl, _, SqL.of q2⟩, _, rfl, _, _, rfl, rfl, ⟨by decide, by decide⟩, .inl ⟨_, rfl, _, _, rfl, rfl, (by show (0 : Int) < 1009; decide), tx, _, _, rfl, rfl, q2, by rw [List.length_map]; exact small9 (by omega), ?_⟩⟩
          subst hm1
          exact ⟨_, _, _, rfl, g.1, g.2, q3.snoc (mod1009 _), by rw [List.length_append, List.length_singleton]; omega⟩
        · rintro σ H2 ⟨m, v4, rs, rfl, q1, q2, q3, q4⟩
          exact ⟨_, _, _, _, rs, rfl, q1, q2, q3, by omega⟩
    · rintro σ H1 ⟨v2, v3, v4, v5, rs, rfl, q1, q2, q3, q4⟩
      exact ⟨_, rfl, k _ tx rs q1 ht q2 q3 (by omega)⟩

/-! ### _law_at -/
def spAt (K : PySem.W.Frag) : Sp := fun vs H Q _ => ∃ (l : Addr) (rs : List Int) (i : Int), vs = [.ref l, .int i] ∧ SqL K H l (rs.map V.int) ∧ 0 ≤ i ∧ Q (.int (rs.getD i.toNat 0)) H
theorem scAt : FnScope ["_law_row_here", "_law_at_here"] ["_law_row_here", "_law_at_here"] (defScope sAt) := ⟨rfl, rfl, rfl, by decide +kernel, rfl, by decide +kernel, by decide +kernel⟩
theorem ok_at {f : Addr} {fd : FuncData} (F : Fun K "_law_at" "_law_at" sAt f fd) (T : Txt K mg a) : FnOk P w K mg base CX0 1 f fd ["_law_row_here", "_law_at_here"] (spAt K) := by
  refine F.ok scAt (fun vs H Q E h => ?_) (fun cdv A outer s H vs Q E hr h => ?_)
  · obtain ⟨l, rs, i, rfl, _⟩ := h
    rfl
  · obtain ⟨l, rs, i, rfl, hl, h0, k⟩ := h
    refine ⟨_, pss_cons (ps_if (pt_chain op_le op_lt pe_int (pv 1) (pe_callB call_len_seq (by rfl) T.len PySem.boot_len (pa_cons (pv 0) pa_nil))) (pss_one (ps_ret (pe_ix ix_list (pv 0) (pv 1) (fun _ _ => rfl)))) pss_nil)
      (pss_one (ps_ret pe_int)), ?_⟩
    refine ⟨_, rfl, _, _, rfl, rfl, _, rfl, ?_⟩
    rw [decide_eq_true h0]
    refine iteT ⟨_, rfl, l, _, rfl, .inl hl, _, _, rfl, rfl, _, rfl, ?_⟩
    rw [List.length_map]
    by_cases c : i < (rs.length : Int)
    · rw [decide_eq_true c]
      have hlt : i.toNat < rs.length := by omega
      refine iteT ⟨_, rfl, _, rfl, l, _, _, .int (rs.getD i.toNat 0), rfl, rfl, hl, at_of (j := i.toNat) (by omega) ?_, k⟩
      rw [List.getElem?_map, List.getElem?_eq_getElem hlt, List.getD_eq_getElem?_getD, List.getElem?_eq_getElem hlt]
      rfl
    · rw [decide_eq_false c]
      refine iteF ?_
      have e : rs.getD i.toNat 0 = 0 := by
        rw [List.getD_eq_getElem?_getD, List.getElem?_eq_none (by omega)]
        rfl
      rw [e] at k
      exact k
end
end K57

/-! _law_word: what an error is called, asked while it is handled *-/
namespace K57
open PySem L2
section
variable {P : Program} {w : World} {K : PySem.W.Frag} {mg : Str → Option Value} {base : Heap} {a : Adr}
def spWord (pa : Addr) (nm : Str) : Sp := fun vs H Q _ => vs = [.ref pa] ∧ ∀ H', Same H H' → Q (.str nm) H'
theorem scWord : FnScope ["_law_why", "_law_kinds", "_law_one"] ["_law_why"] (defScope sWord) := ⟨rfl, rfl, rfl, by decide +kernel, rfl, by decide +kernel, by decide +kernel⟩
def names4 : List V := [.str (Str.ofString "not allowed"), .str (Str.ofString "missing"), .str (Str.ofString "full"), .str (Str.ofString "down")]
theorem ok_word {f : Addr} {fd : FuncData} {p : Addr × Obj} {D : Addr} {b0 b1 b2 b3 : Bool} {nm : Str} (j : Nat) (F : Fun K "_law_word" "_law_word" sWord f fd) (T : Txt K mg a) (C : ExcC K D) (kt : Kit K a D b0 b1 b2 b3)
    (hz : L2N.Zn (.ref D) none p.2) (hf : ∃ vs, p.2.data = .fields vs)
    (hsum : (([b0, b1, b2, b3] : List Bool).map fun b => if b = true then (1 : Int) else 0).sum = 1)
    (hj : (([b0, b1, b2, b3] : List Bool).map V.bl)[j]? = some (.bl true)) (hno : ∀ (m : Nat) (z' : V), m < j → (([b0, b1, b2, b3] : List Bool).map V.bl)[m]? = some z' → eqV z' (.bl true) = false)
    (hnm : names4[j]? = some (.str nm)) : FnP P w K mg base 1 f fd ["_law_why"] (spWord p.1 nm) p := by
  refine okP F scWord (fun vs H Q E h => ?_) (fun cdv A outer s H vs Q E hot h => ?_)
  · obtain ⟨rfl, _⟩ := h
    rfl
  · obtain ⟨rfl, k⟩ := h
    have hc : L2H.HotC (L2H.cxH CX0 P w K mg base ["_law_why", "_law_kinds", "_law_one"] "_law_word" (defScope sWord) f cdv A outer s H E p) := ⟨p, hot, List.mem_cons_self ..⟩
    have hin : (p.1, p.2) ∈ (L2H.cxH CX0 P w K mg base ["_law_why", "_law_kinds", "_law_one"] "_law_word" (defScope sWord) f cdv A outer s H E p).pn := List.mem_cons_self ..
    have isP := call_isP (X := L2H.cxH CX0 P w K mg base ["_law_why", "_law_kinds", "_law_one"] "_law_word" (defScope sWord) f cdv A outer s H E p) (a := p.1) (oe := p.2) C hin hz.zc hf
    refine ⟨_, pss_cons (ps_set (i := 1) scWord.nd rfl (Or.inl rfl) (pe_lst
        (pa_cons (pe_callB isP (by rfl) T.isi (by decide +kernel) (pa_cons (pv 0) (pa_cons (pe_glob (v := .ref a.na) rfl T.na.g rfl) pa_nil)))
        (pa_cons (pe_callB isP (by rfl) T.isi (by decide +kernel) (pa_cons (pv 0) (pa_cons (pe_glob (v := .ref a.mi) rfl T.mi.g rfl) pa_nil)))
        (pa_cons (pe_callB isP (by rfl) T.isi (by decide +kernel) (pa_cons (pv 0) (pa_cons (pe_glob (v := .ref a.fu) rfl T.fu.g rfl) pa_nil)))
        (pa_cons (pe_callB isP (by rfl) T.isi (by decide +kernel) (pa_cons (pv 0) (pa_cons (pe_glob (v := .ref a.dn) rfl T.dn.g rfl) pa_nil))) pa_nil))))))
      (pss_cons (ps_if (pt_cmpR op_ne (pe_callB (cr_sumH hc) (by rfl) T.sum (by decide +kernel) (pa_cons
          (pe_intsH hc (pv 1) T.int (by decide +kernel) (by decide +kernel) rfl (by decide +kernel) (by decide +kernel) (by decide) (fun _ _ => rfl) (fun _ _ => rfl)) pa_nil)) pe_int (nomark _)) (pss_one (ps_ret pe_str)) pss_nil)
      (pss_one (ps_ret (pe_ix ix_list (pe_lst (pa_cons pe_str (pa_cons pe_str (pa_cons pe_str (pa_cons pe_str pa_nil)))))
        (pe_bm PySem.F.plainAttrs_list PySem.F.slot_list_index PySem.F.type_list_index mt_index (pv 1) (pa_cons pe_bl pa_nil)) (fun _ _ => rfl))))), ?_⟩
    refine ⟨_, rfl, .ref a.na, .ref a.na, b0, rfl, fun u h => h, kt.k0, _, rfl, .ref a.mi, .ref a.mi, b1, rfl, fun u h => h, kt.k1, _, rfl, .ref a.fu, .ref a.fu, b2, rfl, fun u h => h, kt.k2,
      _, rfl, .ref a.dn, .ref a.dn, b3, rfl, fun u h => h, kt.k3, by show 4 ≤ sizeLine; decide, fun l hl => ?_⟩
    have s1 : Same H (upd H l (.lst (([b0, b1, b2, b3] : List Bool).map V.bl))) := Same.new hl
    have e1 : upd H l (.lst (([b0, b1, b2, b3] : List Bool).map V.bl)) l = some (.lst (([b0, b1, b2, b3] : List Bool).map V.bl)) := upd_same
    refine ⟨_, rfl, l, [b0, b1, b2, b3], rfl, SqL.of e1, fun l2 hl2 => ?_⟩
    have s2 : Same (upd H l (.lst (([b0, b1, b2, b3] : List Bool).map V.bl))) (upd (upd H l (.lst (([b0, b1, b2, b3] : List Bool).map V.bl))) l2 (.lst (([b0, b1, b2, b3] : List Bool).map fun b => V.int (if b = true then 1 else 0)))) := Same.new hl2
    refine ⟨l2, ([b0, b1, b2, b3] : List Bool).map fun b => if b = true then (1 : Int) else 0, rfl, SqL.of upd_same, rfl, _, rfl, ?_⟩
    rw [hsum, decide_eq_true rfl]
    refine iteF ⟨by show 4 ≤ sizeLine; decide, fun l3 hl3 => ?_⟩
    have s3 : Same (upd (upd H l (.lst (([b0, b1, b2, b3] : List Bool).map V.bl))) l2 (.lst (([b0, b1, b2, b3] : List Bool).map fun b => V.int (if b = true then 1 else 0))))
      (upd (upd (upd H l (.lst (([b0, b1, b2, b3] : List Bool).map V.bl))) l2 (.lst (([b0, b1, b2, b3] : List Bool).map fun b => V.int (if b = true then 1 else 0)))) l3 (.lst names4)) := Same.new hl3
    have e3 := s3 _ _ (s2 _ _ e1)
    refine ⟨_, rfl, .inl ⟨rfl, _, SqL.of e3⟩, l, _, .bl true, j, .bl true, rfl, rfl, SqL.of e3, rfl, by rfl, hj, rfl, hno, ?_⟩
    exact ⟨l3, names4, (j : Int), .str nm, rfl, rfl, SqL.of upd_same, atI_nat hnm, k _ ((s1.trans s2).trans s3)⟩
end
end K57

/-! _law_told: what a purse answers, errors told by their words *-/
namespace K57
open PySem L2
/-- a reading with a fact -/
theorem pss_fact {X : Cx} {st : List Stmt} {C : Prop} {t : TS} (h : C → PSs X st t) : PSs X st (fun D σ H => C ∧ t D σ H) := ⟨fun pins s σ H D I q => (h q.1).run pins s σ H D I q.2⟩
theorem pss_ex {X : Cx} {st : List Stmt} {α : Type} {t : α → TS} (h : ∀ x, PSs X st (t x)) : PSs X st (fun D σ H => ∃ x, t x D σ H) := ⟨fun pins s σ H D I ⟨x, q⟩ => (h x).run pins s σ H D I q⟩
theorem passTn {X : Cx} {W : WX} (n : Nat) (tk : L2N.Takes X W) (hn : X.N.length = n) : Passes (CN X.prog X.w) X (fun cls d H => ∀ σ : L2.St, σ.length = n → W cls d σ H) := by
  subst hn
  exact passT tk
section
variable {P : Program} {w : World} {K : PySem.W.Frag} {mg : Str → Option Value} {base : Heap} {a : Adr}
/-- the error of the class cls is called nm -/
def Named (a : Adr) (cls : Value) (nm : Str) : Prop := (cls = .ref a.na ∧ nm = Str.ofString "not allowed") ∨ (cls = .ref a.mi ∧ nm = Str.ofString "missing") ∨ (cls = .ref a.fu ∧ nm = Str.ofString "full") ∨ (cls = .ref a.dn ∧ nm = Str.ofString "down")
theorem ok_named {f : Addr} {fd : FuncData} {p : Addr × Obj} {cls : Value} {nm : Str} (F : Fun K "_law_word" "_law_word" sWord f fd) (T : Txt K mg a) (hn : Named a cls nm) (hz : L2N.Zn cls none p.2) (hf : ∃ vs, p.2.data = .fields vs) :
    FnP P w K mg base 1 f fd ["_law_why"] (spWord p.1 nm) p := by
  rcases hn with ⟨rfl, rfl⟩ | ⟨rfl, rfl⟩ | ⟨rfl, rfl⟩ | ⟨rfl, rfl⟩
  · exact ok_word 0 F T T.na.ic T.kn hz hf (by decide) rfl (fun m z hm _ => absurd hm (Nat.not_lt_zero _)) rfl
  · refine ok_word 1 F T T.mi.ic T.km hz hf (by decide) rfl (fun m z hm hz => ?_) rfl
    obtain rfl : m = 0 := by omega
    cases hz
    rfl
  · refine ok_word 2 F T T.fu.ic T.kf hz hf (by decide) rfl (fun m z hm hz => ?_) rfl
    rcases (show m = 0 ∨ m = 1 by omega) with rfl | rfl
    · cases hz
      rfl
    · cases hz
      rfl
  · refine ok_word 3 F T T.dn.ic T.kd hz hf (by decide) rfl (fun m z hm hz => ?_) rfl
    rcases (show m = 0 ∨ m = 1 ∨ m = 2 by omega) with rfl | rfl | rfl
    · cases hz
      rfl
    · cases hz
      rfl
    · cases hz
      rfl
def spTold (a : Adr) : Sp := fun vs H Q _ => ∃ (p r l lc : Addr) (cs : List Int) (pw : Int) (its : List It) (kd : Str) (e : Int) (x y : V), vs = [.ref p, .str kd, .int e, x, y] ∧ RegAt a.cr H r lc cs pw ∧ PurAt a.cp H p r l its ∧ its.length ≤ 100 ∧ Inc its ∧
  (kd = Str.ofString "put" ∨ kd = Str.ofString "take" ∨ kd = Str.ofString "left") ∧
  (¬ OkE e → ∀ H', Same H H' → Q (.str (Str.ofString "not allowed")) H') ∧
  (OkE e →
    (kd = Str.ofString "put" → (12 ≤ its.length → ∀ H', Same H H' → Q (.str (Str.ofString "full")) H') ∧ (its.length < 12 → ∃ (T B : Addr) (t : List Int) (s u v : Int) (z : List Int), x = .ref T ∧ y = .ref B ∧ TkAt H T t ∧ BlAt H B s u v z ∧
      ∀ H', Kp [l] H H' → PurAt a.cp H' p r l (its ++ [⟨e, nextN cs its e, t, s, u, v, z⟩]) → Q .non H')) ∧
    (kd = Str.ofString "take" → (usab cs its e = [] → ∀ H', Same H H' → Q (.str (Str.ofString "missing")) H') ∧
      (∀ i rest, usab cs its e = i :: rest → (pw = 0 → ∀ H', Same H H' → Q (.str (Str.ofString "down")) H') ∧
        (pw ≠ 0 → ∀ (H' : Hp) (q T B : Addr), Kp [r, lc] H H' → H q = none → RegAt a.cr H' r lc (cs.set e.toNat (i.n + 1)) (pwNext pw) → H' q = some (.tup [.ref T, .ref B]) → TkAt H' T i.t → BlAt H' B i.s i.u i.v i.x → Q (.ref q) H'))) ∧
    (kd = Str.ofString "left" → ∀ (H' : Hp), Same H H' → Q (.int (usab cs its e).length) H'))
theorem takesN0 {X : Cx} : L2N.Takes X (fun _ _ _ _ => False) := fun _ _ x => by
  obtain ⟨_, _, _, _, _, _, _, _, _, _, _, _, _, _, _, _, z⟩ := x
  exact z.elim
theorem scTold : FnScope ["_law_purse", "_law_kind", "_law_epoch", "_law_ticket", "_law_blinding", "_law_why"] ["_law_purse", "_law_kind", "_law_epoch", "_law_ticket", "_law_blinding"] (defScope sTold) := ⟨rfl, rfl, rfl, by decide +kernel, rfl, by decide +kernel, by decide +kernel⟩
theorem room_mark {A : Around} {k : Nat} {x : Option Value} (h : Room k A) : L2H.RoomH k (A.mark x) := ⟨h.dp, h.un⟩
/-- what the except suite does -/
def tsTold (a : Adr) : Addr → Value → Option Addr → TS := fun pa cls d D σ H => ∃ nm, (d = none ∧ Named a cls nm) ∧ tRet (tCall (spWord pa nm) [] E0 (tCons (tVar 5) tNil)) D σ H
theorem wish_told {Q : VK} {cls : Addr} {nm : Str} {D : Ends} {H : Hp} (hup : PySem.W.exmOne K (.ref cls) (.ref a.ce) = some true) (hn : Named a (.ref cls) nm) (hD : D.rt = Q) (k : ∀ H', Same H H' → Q (.str nm) H') :
    ∀ σ : L2.St, σ.length = 6 → wAs K (.ref a.ce) 5 (tsTold a) (fun _ _ _ _ => False) D (.ref cls) none σ H := fun σ hl => by
  refine ⟨true, hup, fun _ pa _ => ⟨nm, ⟨rfl, hn⟩, _, List.getElem?_set_self (by omega), ?_⟩, fun q => Bool.noConfusion q⟩
  subst hD
  exact ⟨rfl, k⟩
section
variable {fE fC fN fU fR fP fT fL fW : Addr} {dE dC dN dU dR dP dT dL dW : FuncData}
structure Mq (K : PySem.W.Frag) (mg : Str → Option Value) (a : Adr) (fR fP fT fL fW : Addr) (dR dP dT dL dW : FuncData) : Prop where
  R : Mt K a.cr "raise_to" "Register.raise_to" sRRaise fR dR ["self", "epoch", "count"]
  P : Mt K a.cp "put" "Purse.put" sPPut fP dP ["self", "epoch", "ticket", "blinding"]
  T : Mt K a.cp "take" "Purse.take" sPTake fT dT ["self", "epoch"]
  L : Mt K a.cp "left" "Purse.left" sPLeft fL dL ["self", "epoch"]
  W : Df K mg "_law_word" sWord fW dW ["_law_why"]
theorem ok_told {f : Addr} {fd : FuncData} (F : Fun K "_law_told" "_law_told" sTold f fd) (T : Txt K mg a) (ME : Df K mg "check_epoch" sEp fE dE ["epoch"]) (MC : Mt K a.cr "count" "Register.count" sRCount fC dC ["self", "epoch"])
    (MN : Mt K a.cp "_next_number" "Purse._next_number" sPNext fN dN ["self", "epoch"]) (MU : Mt K a.cp "_usable" "Purse._usable" sPUse fU dU ["self", "epoch"]) (M : Mq K mg a fR fP fT fL fW dR dP dT dL dW) :
    FnOk P w K mg base CX0 5 f fd ["_law_purse", "_law_kind", "_law_epoch", "_law_ticket", "_law_blinding"] (spTold a) := by
  have GP : FnOk P w K mg base (CN P w) 4 fP dP ["self", "epoch", "ticket", "blinding"] (spPP a) := ok_pput M.P.F T MN MC ME
  have GT : FnOk P w K mg base (CN P w) 4 fT dT ["self", "epoch"] (spPT a) := ok_ptake M.T.F T MU MC M.R ME
  have GL : FnOk P w K mg base (CN P w) 4 fL dL ["self", "epoch"] (spPL a) := ok_pleft M.L.F T MU MC ME
  refine F.ok scTold (fun vs H Q E h => ?_) (fun cdv A outer s H vs Q E hr h => ?_)
  · obtain ⟨p, r, l, lc, cs, pw, its, kd, e, x, y, rfl, _⟩ := h
    rfl
  · obtain ⟨p, r, l, lc, cs, pw, its, kd, e, x, y, rfl, R, U, hs, hinc, hkd, kn, ky⟩ := h
    obtain ⟨⟨dx, hp⟩, _⟩ := id U
    refine ⟨_, pss_one (L2N.ps_try_as (i := 5) (ts := tsTold a) (Wout := fun _ _ _ _ => False) rfl rfl scTold.nd rfl rfl ⟨rfl, by decide, Or.inl T.ce⟩ takesN0
      (fun W pn xe tk _ => pss_cons (ps_if (pt_cmpR op_eq (pv 1) pe_str (nomark _)) (pss_one (ps_ret (pe_meth (pv 0) T.cp M.P.m GP hr M.P.b .nil (passTn 6 tk rfl) (pa_cons (pv 2) (pa_cons (pv 3) (pa_cons (pv 4) pa_nil)))))) pss_nil)
        (pss_cons (ps_if (pt_cmpR op_eq (pv 1) pe_str (nomark _)) (pss_one (ps_ret (pe_meth (pv 0) T.cp M.T.m GT hr M.T.b .nil (passTn 6 tk rfl) (pa_cons (pv 2) pa_nil)))) pss_nil)
        (pss_one (ps_ret (pe_meth (pv 0) T.cp M.L.m GL hr M.L.b .nil (passTn 6 tk rfl) (pa_cons (pv 2) pa_nil))))))
      (fun pa oe cls d pn hz hf => pss_ex fun nm => pss_fact fun ⟨hd, hn⟩ => by
        subst hd
        obtain ⟨vs, hv⟩ := hf
        have FW : FnP P w K mg base 1 fW dW ["_law_why"] (spWord pa nm) (pa, oe) := ok_named (p := (pa, oe)) M.W.F T hn hz ⟨vs, hv⟩
        exact pss_one (ps_ret (pe_callP FW (room_mark (k := 1) (hr.mono (by decide))) ⟨rfl, vs, hv, hz.2.2 vs hv⟩ (List.mem_cons_self ..) rfl M.W.m M.W.F.kp M.W.b (pa_cons (pv 5) pa_nil))))), ?_⟩
    refine ⟨_, rfl, rfl, _, rfl, ?_⟩
    rcases hkd with rfl | rfl | rfl
    · rw [decide_eq_true rfl]
      refine iteT ⟨_, rfl, p, dx, _, rfl, hp, pf_no _ _ (by decide +kernel) (by decide +kernel), _, rfl, _, rfl, _, rfl, ?_⟩
      refine ⟨p, r, l, lc, cs, pw, its, e, x, y, rfl, R, U, hs, fun he => wish_told T.na.up (.inl ⟨rfl, rfl⟩) rfl (kn he), fun he => ⟨fun hlen => wish_told T.fu.up (.inr (.inr (.inl ⟨rfl, rfl⟩))) rfl (((ky he).1 rfl).1 hlen), fun hlen => ((ky he).1 rfl).2 hlen⟩⟩
    · rw [decide_eq_false (fun q => absurd (V.str.inj q) (by decide +kernel))]
      refine iteF ⟨_, rfl, rfl, _, rfl, ?_⟩
      rw [decide_eq_true rfl]
      refine iteT ⟨_, rfl, p, dx, _, rfl, hp, pf_no _ _ (by decide +kernel) (by decide +kernel), _, rfl, ?_⟩
      refine ⟨p, r, l, lc, cs, pw, its, e, rfl, R, U, hs, hinc, fun he => wish_told T.na.up (.inl ⟨rfl, rfl⟩) rfl (kn he), fun he => ⟨fun hu H1 s1 => wish_told T.mi.up (.inr (.inl ⟨rfl, rfl⟩)) rfl (fun H2 s2 => ((ky he).2.1 rfl).1 hu H2 (s1.trans s2)),
        fun i rest hu => ⟨fun h0 H1 s1 => wish_told T.dn.up (.inr (.inr (.inr ⟨rfl, rfl⟩))) rfl (fun H2 s2 => (((ky he).2.1 rfl).2 i rest hu).1 h0 H2 (s1.trans s2)), fun h0 => (((ky he).2.1 rfl).2 i rest hu).2 h0⟩⟩⟩
    · rw [decide_eq_false (fun q => absurd (V.str.inj q) (by decide +kernel))]
      refine iteF ⟨_, rfl, rfl, _, rfl, ?_⟩
      rw [decide_eq_false (fun q => absurd (V.str.inj q) (by decide +kernel))]
      refine iteF ⟨_, rfl, p, dx, _, rfl, hp, pf_no _ _ (by decide +kernel) (by decide +kernel), _, rfl, ?_⟩
      exact ⟨p, r, l, lc, cs, pw, its, e, rfl, R, U, hs, fun he => wish_told T.na.up (.inl ⟨rfl, rfl⟩) rfl (kn he), fun he => (ky he).2.2 rfl⟩
end
end
end K57

/-! the law's own state: a dict; _law_taken, _law_put *-/
namespace K57
open PySem L2
def kh : Key := Sum.inr (Str.ofString "held")
def kc : Key := Sum.inr (Str.ofString "counts")
def kp : Key := Sum.inr (Str.ofString "power")
theorem kh_kc : ¬ kh = kc := fun z => absurd (Sum.inr.inj z) (by decide +kernel)
theorem kh_kp : ¬ kh = kp := fun z => absurd (Sum.inr.inj z) (by decide +kernel)
theorem kc_kp : ¬ kc = kp := fun z => absurd (Sum.inr.inj z) (by decide +kernel)
def sd (lh lc : Addr) (pw : Int) : List (Key × V) := [(kh, .ref lh), (kc, .ref lc), (kp, .int pw)]
theorem sd_h (lh lc : Addr) (pw : Int) : valV (sd lh lc pw) kh = some (.ref lh) := by simp [valV, sd]
theorem sd_c (lh lc : Addr) (pw : Int) : valV (sd lh lc pw) kc = some (.ref lc) := by simp [valV, sd, kh_kc]
theorem sd_p (lh lc : Addr) (pw : Int) : valV (sd lh lc pw) kp = some (.int pw) := by simp [valV, sd, kh_kp, kc_kp]
theorem sd_put_p (lh lc : Addr) (pw z : Int) : putK (sd lh lc pw) kp (.int z) = sd lh lc z := by simp [putK, sd, kh_kp, kc_kp]
theorem sd_put_h (lh lc l2 : Addr) (pw : Int) : putK (sd lh lc pw) kh (.ref l2) = sd l2 lc pw := by
  have e1 : ¬ kc = kh := fun z => kh_kc z.symm
  have e2 : ¬ kp = kh := fun z => kh_kp z.symm
  simp [putK, sd, e1, e2]
theorem sd_make (lh lc : Addr) (pw : Int) : mergeK [] (sd lh lc pw) = sd lh lc pw := by
  have e1 : ¬ kc = kh := fun z => kh_kc z.symm
  have e2 : ¬ kp = kh := fun z => kh_kp z.symm
  have e3 : ¬ kp = kc := fun z => kc_kp z.symm
  simp [mergeK, putK, sd, kh_kc, kh_kp, kc_kp, e1, e2, e3]
section
variable {H : Hp} {d lh lc : Addr} {pw : Int}
theorem dg_h (e : H d = some (.dK (sd lh lc pw))) : DGet H d (.str (Str.ofString "held")) (some (.ref lh)) := by
  have q := DGet.k (k := kh) e
  rw [sd_h] at q
  exact q
theorem dg_c (e : H d = some (.dK (sd lh lc pw))) : DGet H d (.str (Str.ofString "counts")) (some (.ref lc)) := by
  have q := DGet.k (k := kc) e
  rw [sd_c] at q
  exact q
theorem dg_p (e : H d = some (.dK (sd lh lc pw))) : DGet H d (.str (Str.ofString "power")) (some (.int pw)) := by
  have q := DGet.k (k := kp) e
  rw [sd_p] at q
  exact q
theorem dp_p (e : H d = some (.dK (sd lh lc pw))) (z : Int) : DPut H d (.str (Str.ofString "power")) (.int z) (upd H d (.dK (sd lh lc z))) := by
  have q := DPut.k (k := kp) (v := .int z) e (by show 3 < sizeLine; decide)
  rw [sd_put_p] at q
  exact q
theorem dp_h (e : H d = some (.dK (sd lh lc pw))) (l2 : Addr) : DPut H d (.str (Str.ofString "held")) (.ref l2) (upd H d (.dK (sd l2 lc pw))) := by
  have q := DPut.k (k := kh) (v := .ref l2) e (by show 3 < sizeLine; decide)
  rw [sd_put_h] at q
  exact q
end
/-- the law's state -/
structure StAt (H : Hp) (d lh lc : Addr) (its : List It) (cs : List Int) (pw : Int) : Prop where
  d : H d = some (.dK (sd lh lc pw))
  h : HeldAt H lh its
  c : H lc = some (.lst (cs.map V.int))
  n : cs.length = 3
theorem StAt.kp {S : List Addr} {H H' : Hp} {d lh lc : Addr} {its : List It} {cs : List Int} {pw : Int} (h : StAt H d lh lc its cs pw) (k : Kp S H H') (n1 : d ∉ S) (n2 : lh ∉ S) (n3 : lc ∉ S) : StAt H' d lh lc its cs pw :=
  ⟨k.at h.d n1, h.h.kp k n2, k.at h.c n3, h.n⟩

section
variable {P : Program} {w : World} {K : PySem.W.Frag} {mg : Str → Option Value} {base : Heap} {a : Adr}
theorem pw_next (pw : Int) : pw - (if decide (0 < pw) = true then 1 else 0) = pwNext pw := by
  unfold pwNext
  by_cases h : 0 < pw
  · rw [if_pos h, if_pos (decide_eq_true h)]
  · rw [if_neg h, if_neg (by simpa using h)]
    omega
def spTkn : Sp := fun vs H Q _ => ∃ (d lh lc : Addr) (cs : List Int) (pw : Int) (its : List It) (e : Int), vs = [.ref d, .int e] ∧ StAt H d lh lc its cs pw ∧ OkE e ∧ Inc its ∧ its.length ≤ 100 ∧ lh ≠ lc ∧
  (usab cs its e = [] → ∀ H', Same H H' → Q (.str (Str.ofString "missing")) H') ∧
  (∀ i rest, usab cs its e = i :: rest → (pw = 0 → ∀ H', Same H H' → Q (.str (Str.ofString "down")) H') ∧
    (pw ≠ 0 → ∀ (H' : Hp) (q T B : Addr), Kp [d, lc] H H' → H q = none → StAt H' d lh lc its (cs.set e.toNat (i.n + 1)) (pwNext pw) → H' q = some (.tup [.ref T, .ref B]) → TkAt H' T i.t → BlAt H' B i.s i.u i.v i.x → Q (.ref q) H'))
theorem scTkn : FnScope ["_law_state", "_law_epoch", "_law_usable", "_law_item", "_law_one"] ["_law_state", "_law_epoch"] (defScope sTaken) := ⟨rfl, rfl, rfl, by decide +kernel, rfl, by decide +kernel, by decide +kernel⟩
theorem ok_taken {f : Addr} {fd : FuncData} (F : Fun K "_law_taken" "_law_taken" sTaken f fd) (T : Txt K mg a) : FnOk P w K mg base CX0 1 f fd ["_law_state", "_law_epoch"] spTkn := by
  refine F.ok scTkn (fun vs H Q E h => ?_) (fun cdv A outer s H vs Q E hr h => ?_)
  · obtain ⟨d, lh, lc, cs, pw, its, e, rfl, _⟩ := h
    rfl
  · obtain ⟨d, lh, lc, cs, pw, its, e, rfl, S, he, hinc, hs, nhc, km, kk⟩ := h
    obtain ⟨vs, hl, hi⟩ := S.h
    have hu := hu_of hr
    refine ⟨_, pss_cons (ps_setLc (i := 2) (own := [("_law_item", 3)]) (g := gName 3) rfl scTkn.nd rfl rfl (sw_true rfl rfl rfl (by decide +kernel)) (pi_list (pe_dget hu (pv 0) pe_str (fun _ _ => rfl)))
        (blkOk_by (own := [("_law_item", 3)]) (N := ["_law_state", "_law_epoch", "_law_usable", "_law_item", "_law_one"]) (sc := defScope sTaken) (by decide +kernel)) (fun _ _ _ _ _ => pg_name (i := 3) scTkn.nd rfl (Or.inl rfl))
        (fun _ _ _ _ _ => pts_one (PW.pt (pw_and (pt_cmpR op_eq (pe_ix (ixT K) (pv 3) pe_int (fun _ _ => rfl)) (pv 1) (nomark _))
          (pw_and1 (pt_cmpR op_ge (pe_ix (ixT K) (pv 3) pe_int (fun _ _ => rfl)) (pe_ix (ixL K) (pe_dget hu (pv 0) pe_str (fun _ _ => rfl)) (pv 1) (fun _ _ => rfl)) (nomark _))))))
        (fun _ _ _ _ _ => pv 3))
      (pss_cons (ps_if (pt_cmpR op_eq (pe_callB call_len_seq (by rfl) T.len PySem.boot_len (pa_cons (pv 2) pa_nil)) pe_int (nomark _)) (pss_one (ps_ret pe_str)) pss_nil)
      (pss_cons (ps_if (pt_cmpR op_eq (pe_dget hu (pv 0) pe_str (fun _ _ => rfl)) pe_int (nomark _)) (pss_one (ps_ret pe_str)) pss_nil)
      (pss_cons (ps_dput hu (pv 0) pe_str (pe_op op_sub (pe_dget hu (pv 0) pe_str (fun _ _ => rfl)) (pe_callTy call_int1 (by rfl) T.int (by decide +kernel) (pa_cons (pe_cmpR op_gt (pe_dget hu (pv 0) pe_str (fun _ _ => rfl)) pe_int (nomark _)) pa_nil))) rfl)
      (pss_cons (ps_set (i := 3) scTkn.nd rfl (Or.inl rfl) (pe_ix ix_list (pv 2) pe_int (fun _ _ => rfl)))
      (pss_cons (ps_for PassesOwn.never rfl (pi_list (pv 2)) (pg_name (i := 4) scTkn.nd rfl (Or.inl rfl))
        (pss_one (ps_if (pt_cmpR op_lt (pe_ix ix_tup (pv 4) pe_int (fun _ _ => rfl)) (pe_ix ix_tup (pv 3) pe_int (fun _ _ => rfl)) (nomark _)) (pss_one (ps_set (i := 3) scTkn.nd rfl (Or.inl rfl) (pv 4))) pss_nil)))
      (pss_cons (ps_asg (pe_op op_add (pe_ix ix_tup (pv 3) pe_int (fun _ _ => rfl)) pe_int) (pg_sub (pe_dget hu (pv 0) pe_str (fun _ _ => rfl)) (pv 1) set_list))
      (pss_one (ps_ret (pe_tup (pa_cons (pe_ix ix_tup (pv 3) pe_int (fun _ _ => rfl)) (pa_cons (pe_ix ix_tup (pv 3) pe_int (fun _ _ => rfl)) pa_nil))))))))))), ?_⟩
    refine ⟨_, rfl, d, _, rfl, dg_h S.d, lh, rfl, ⟨_, SqL.of hl⟩, fun D hD => ?_⟩
    have kp : ∀ xs, Same H (upd H D (.lst xs)) := fun xs => Same.new hD
    refine lc_list (K := K) (a := lh) (xs := vs) (fun i H' => ∃ us, H' = upd H D (.lst us) ∧ ItemsAt H us (usab cs (its.take i) e)) ⟨[], rfl, .nil⟩ (fun i H' _ ⟨us, q, _⟩ => by rw [q]; exact SqL.of (kp _ _ _ hl)) ?_ ?_
    · rintro i z H' hz ⟨us, rfl, hu⟩
      obtain ⟨it, hit, q⟩ := paired_at hi hz
      obtain ⟨pi, Ti, Bi, rfl, g1, g2, g3⟩ := id (q.kp (Kp.of (S := []) (kp us)))
      refine ⟨rfl, _, rfl, pi, _, _, _, rfl, rfl, SqT.of g1, rfl, _, rfl, rfl, _, rfl, ?_⟩
      have no : isU cs e it = false → ItemsAt H us (usab cs (its.take (i + 1)) e) := fun h => by
        unfold usab
        rw [filt_no hit h]
        exact hu
      by_cases c : it.e = e
      · rw [decide_eq_true (by rw [c])]
        refine iteT ⟨_, rfl, pi, _, _, _, rfl, rfl, SqT.of g1, rfl, _, rfl, d, _, rfl, dg_c (kp us _ _ S.d), _, rfl, lc, _, _, _, rfl, rfl, SqL.of (kp us _ _ S.c), cnt_at S.n he, _, _, rfl, rfl, _, rfl, ?_⟩
        by_cases c2 : cnt cs e ≤ it.n
        · rw [decide_eq_true c2]
          refine iteT ⟨_, rfl, _, upd_same, ?_, us ++ [.ref pi], by rw [upd_upd], ?_⟩
          · rw [paired_len hu]
            refine small1000 (Nat.le_trans (usab_len _ _ _) ?_)
            rw [List.length_take]
            omega
          · unfold usab
            rw [filt_yes hit (by unfold isU; simp [c, c2])]
            exact paired_app hu (.cons q .nil)
        · rw [decide_eq_false c2]
          exact iteF ⟨us, rfl, no (by unfold isU; simp [c2])⟩
      · rw [decide_eq_false (fun z => c (V.int.inj z))]
        refine iteF ?_
        exact iteF ⟨us, rfl, no (by unfold isU; simp [c])⟩
    · rintro H' ⟨us, rfl, hu⟩
      rw [paired_len hi, List.take_length] at hu
      have s1 := kp us
      have k1 : Kp [] H (upd H D (.lst us)) := Kp.of s1
      have S1 := S.kp k1 (by simp) (by simp) (by simp)
      have h1 : upd H D (.lst us) D = some (.lst us) := upd_same
      have hu1 := hu.kp k1
      generalize upd H D (.lst us) = H1 at s1 k1 S1 h1 hu1 ⊢
      refine ⟨_, rfl, D, _, rfl, .inl (SqL.of h1), rfl, _, rfl, ?_⟩
      rw [paired_len hu]
      cases eu : usab cs its e with
      | nil =>
        rw [decide_eq_true (by simp)]
        exact iteT (km eu _ s1)
      | cons i rest =>
        rw [decide_eq_false (by simp only [List.length_cons]; intro z; have := V.int.inj z; omega)]
        rw [eu] at hu hu1
        obtain ⟨kd, k⟩ := kk i rest eu
        refine iteF ⟨_, rfl, d, _, rfl, dg_p S1.d, rfl, _, rfl, ?_⟩
        by_cases h0 : pw = 0
        · rw [decide_eq_true (by rw [h0])]
          exact iteT (kd h0 _ s1)
        · rw [decide_eq_false (fun z => h0 (V.int.inj z))]
          refine iteF ⟨_, rfl, d, _, rfl, dg_p S1.d, _, rfl, d, _, rfl, dg_p S1.d, _, _, rfl, rfl, .inr ⟨_, rfl, _, _, rfl, rfl, ?_⟩⟩
          refine ⟨_, rfl, d, _, rfl, dp_p S1.d _, ?_⟩
          rw [pw_next]
          have nDd : D ≠ d := ne_of h1 S1.d (by intro z; cases z)
          have k2 : Kp [d, lc] H1 (upd H1 d (.dK (sd lh lc (pwNext pw)))) := Kp.put S1.d (fun xs z => by cases z) (by simp)
          have ed : upd H1 d (.dK (sd lh lc (pwNext pw))) d = some (.dK (sd lh lc (pwNext pw))) := upd_same
          have h2 : upd H1 d (.dK (sd lh lc (pwNext pw))) D = some (.lst us) := by rw [upd_ne nDd]; exact h1
          have ncd : lc ≠ d := ne_of S1.c S1.d (by intro z; cases z)
          have ec : upd H1 d (.dK (sd lh lc (pwNext pw))) lc = some (.lst (cs.map V.int)) := by rw [upd_ne ncd]; exact S1.c
          have nhd : lh ≠ d := by
            obtain ⟨_, q, _⟩ := S1.h
            exact ne_of q S1.d (by intro z; cases z)
          have eh : HeldAt (upd H1 d (.dK (sd lh lc (pwNext pw)))) lh its := by
            obtain ⟨w1, q1, q2⟩ := S1.h
            exact ⟨w1, by rw [upd_ne nhd]; exact q1, q2.kp k2⟩
          have hu2 := hu1.kp k2
          generalize upd H1 d (.dK (sd lh lc (pwNext pw))) = H2 at k2 ed h2 ec eh hu2 ⊢
          obtain ⟨z0, us', rfl⟩ : ∃ z0 us', us = z0 :: us' := by
            cases us with
            | nil => cases hu
            | cons z0 us' => exact ⟨z0, us', rfl⟩
          have hz0 : ItemAt H2 z0 i := by
            cases hu2 with
            | cons q _ => exact q
          obtain ⟨p0, T0, B0, rfl, f1, f2, f3⟩ := id hz0
          refine ⟨_, rfl, D, _, 0, .ref p0, rfl, rfl, SqL.of h2, at_of (j := 0) rfl rfl, ?_⟩
          refine ⟨_, rfl, D, rfl, ⟨_, SqL.of h2⟩, for_list (K := K) (a := D) (xs := .ref p0 :: us') (fun j σ H' => ∃ v4 : Option V, σ = [some (.ref d), some (.int e), some (.ref D), some (.ref p0), v4] ∧ H' = H2) ⟨_, rfl, rfl⟩ (fun j σ H' _ ⟨_, _, q⟩ => by rw [q]; exact SqL.of h2) ?_ ?_⟩
          · rintro j z σ H' hz ⟨v4, rfl, rfl⟩
            obtain ⟨it, hit, q⟩ := paired_at hu2 hz
            obtain ⟨pi, Ti, Bi, rfl, g1, g2, g3⟩ := q
            refine ⟨_, rfl, pi, _, _, _, rfl, rfl, SqT.of g1, rfl, _, rfl, p0, _, _, _, rfl, rfl, SqT.of f1, rfl, _, _, rfl, rfl, _, rfl, ?_⟩
            have hle : ¬ it.n < i.n := by
              cases j with
              | zero =>
                have e1 : i = it := by simpa using hit
                rw [e1]
                omega
              | succ j =>
                have hr : it ∈ rest := List.mem_of_getElem? (by simpa using hit)
                have hlt := usab_head hinc eu it hr
                omega
            rw [decide_eq_false hle]
            exact iteF ⟨_, rfl, rfl⟩
          · rintro σ H' ⟨v4, rfl, rfl⟩
            refine ⟨_, rfl, p0, _, _, _, rfl, rfl, SqT.of f1, rfl, _, _, rfl, rfl, _, rfl, d, _, rfl, dg_c ed, _, rfl, lc, _, _, e.toNat, rfl, rfl, ec, set_at (by rw [List.length_map]; exact S.n) he, ?_⟩
            rw [map_set]
            have k3 : Kp [d, lc] H' (upd H' lc (.lst ((cs.set e.toNat (i.n + 1)).map V.int))) := Kp.put ec (fun xs z => by cases z) (by simp)
            have ed3 : upd H' lc (.lst ((cs.set e.toNat (i.n + 1)).map V.int)) d = some (.dK (sd lh lc (pwNext pw))) := by rw [upd_ne ncd.symm]; exact ed
            have ec3 : upd H' lc (.lst ((cs.set e.toNat (i.n + 1)).map V.int)) lc = some (.lst ((cs.set e.toNat (i.n + 1)).map V.int)) := upd_same
            have eh3 : HeldAt (upd H' lc (.lst ((cs.set e.toNat (i.n + 1)).map V.int))) lh its := by
              obtain ⟨w1, q1, q2⟩ := eh
              exact ⟨w1, by rw [upd_ne nhc]; exact q1, q2.kp k3⟩
            have hz3 := hz0.kp k3
            have kT : Kp [d, lc] H (upd H' lc (.lst ((cs.set e.toNat (i.n + 1)).map V.int))) := ((Kp.of s1).trans k2).trans k3
            generalize upd H' lc (.lst ((cs.set e.toNat (i.n + 1)).map V.int)) = H3 at k3 ed3 ec3 eh3 hz3 kT ⊢
            obtain ⟨p0', T0', B0', ep, f1', f2', f3'⟩ := hz3
            cases ep
            refine ⟨_, rfl, p0, _, _, _, rfl, rfl, SqT.of f1', rfl, _, rfl, p0, _, _, _, rfl, rfl, SqT.of f1', rfl, by show 2 ≤ sizeLine; decide, fun q hq => ?_⟩
            have s4 : Same H3 (upd H3 q (.tup [.ref T0', .ref B0'])) := Same.new hq
            have k4 : Kp [] H3 (upd H3 q (.tup [.ref T0', .ref B0'])) := Kp.of s4
            have nq : H q = none := by
              cases e0 : H q with
              | none => rfl
              | some o =>
                by_cases hm : q ∈ [d, lc]
                · rcases List.mem_cons.mp hm with z1 | hm
                  · rw [← z1, hq] at ed3
                    cases ed3
                  · rw [← List.mem_singleton.mp hm, hq] at ec3
                    cases ec3
                · have h5 := kT.at e0 hm
                  rw [hq] at h5
                  cases h5
            exact k h0 _ q T0' B0' (kT.trans (Kp.of s4)) nq ⟨s4 _ _ ed3, eh3.kp k4 (by simp), s4 _ _ ec3, by rw [List.length_set]; exact S.n⟩ upd_same (f2'.kp k4) (f3'.kp k4)

/-! ### _law_put -/
def spPtL : Sp := fun vs H Q _ => ∃ (d lh lc : Addr) (cs : List Int) (pw : Int) (its : List It) (e : Int) (Tk B : Addr) (t : List Int) (s u v : Int) (z : List Int), vs = [.ref d, .int e, .ref Tk, .ref B] ∧ StAt H d lh lc its cs pw ∧ OkE e ∧ its.length ≤ 100 ∧ TkAt H Tk t ∧ BlAt H B s u v z ∧
  (12 ≤ its.length → Q (.str (Str.ofString "full")) H) ∧ (its.length < 12 → ∀ (H' : Hp) (l2 : Addr), Kp [d] H H' → H l2 = none → StAt H' d l2 lc (its ++ [⟨e, nextN cs its e, t, s, u, v, z⟩]) cs pw → Q .non H')
theorem scPtL : FnScope ["_law_state", "_law_epoch", "_law_ticket", "_law_blinding", "_law_number", "_law_item"] ["_law_state", "_law_epoch", "_law_ticket", "_law_blinding"] (defScope sPut) := ⟨rfl, rfl, rfl, by decide +kernel, rfl, by decide +kernel, by decide +kernel⟩
theorem nums1_yes {its : List It} {e : Int} {i : Nat} {it : It} (h : its[i]? = some it) (c : it.e = e) : nums1 (its.take (i + 1)) e = nums1 (its.take i) e ++ [it.n + 1] := by
  unfold nums1
  rw [filt_yes h (by unfold isE; exact decide_eq_true c), List.map_append]
  rfl
theorem nums1_no {its : List It} {e : Int} {i : Nat} {it : It} (h : its[i]? = some it) (c : ¬ it.e = e) : nums1 (its.take (i + 1)) e = nums1 (its.take i) e := by
  unfold nums1
  rw [filt_no h (by unfold isE; exact decide_eq_false c)]
theorem ok_putL {f : Addr} {fd : FuncData} (F : Fun K "_law_put" "_law_put" sPut f fd) (T : Txt K mg a) : FnOk P w K mg base CX0 1 f fd ["_law_state", "_law_epoch", "_law_ticket", "_law_blinding"] spPtL := by
  refine F.ok scPtL (fun vs H Q E h => ?_) (fun cdv A outer s H vs Q E hr h => ?_)
  · obtain ⟨d, lh, lc, cs, pw, its, e, Tk, B, t, sv, u, v, z, rfl, _⟩ := h
    rfl
  · obtain ⟨d, lh, lc, cs, pw, its, e, Tk, B, t, sv, u, v, z, rfl, S, he, hs, hT, hB, kf, k⟩ := h
    obtain ⟨vs, hl, hi⟩ := S.h
    have hu := hu_of hr
    refine ⟨_, pss_cons (ps_if (pt_cmpR op_ge (pe_callB call_len_seq (by rfl) T.len PySem.boot_len (pa_cons (pe_dget hu (pv 0) pe_str (fun _ _ => rfl)) pa_nil)) pe_int (nomark _)) (pss_one (ps_ret pe_str)) pss_nil)
      (pss_cons (ps_set (i := 4) scPtL.nd rfl (Or.inl rfl) (pe_ix ix_list (pe_dget hu (pv 0) pe_str (fun _ _ => rfl)) (pv 1) (fun _ _ => rfl)))
      (pss_cons (ps_for PassesOwn.never rfl (pi_list (pe_dget hu (pv 0) pe_str (fun _ _ => rfl))) (pg_name (i := 5) scPtL.nd rfl (Or.inl rfl))
        (pss_one (ps_if (pt_cmpR op_eq (pe_ix ix_tup (pv 5) pe_int (fun _ _ => rfl)) (pv 1) (nomark _))
          (pss_one (ps_set (i := 4) scPtL.nd rfl (Or.inl rfl) (pe_callB (call_max2 rfl) (by rfl) T.max (by decide +kernel) (pa_cons (pv 4) (pa_cons (pe_op op_add (pe_ix ix_tup (pv 5) pe_int (fun _ _ => rfl)) pe_int) pa_nil))))) pss_nil)))
      (pss_cons (ps_dput hu (pv 0) pe_str (pe_op op_cat (pe_dget hu (pv 0) pe_str (fun _ _ => rfl)) (pe_lst (pa_cons (pe_tup (pa_cons (pv 1) (pa_cons (pv 4) (pa_cons (pv 2) (pa_cons (pv 3) pa_nil))))) pa_nil))) rfl)
      (pss_one (ps_ret pe_non))))), ?_⟩
    refine ⟨_, rfl, d, _, rfl, dg_h S.d, lh, _, rfl, .inl (SqL.of hl), _, _, rfl, rfl, _, rfl, ?_⟩
    rw [paired_len hi]
    by_cases c : 12 ≤ its.length
    · rw [decide_eq_true (show (12 : Int) ≤ (its.length : Int) by omega)]
      exact iteT (kf c)
    · rw [decide_eq_false (show ¬ (12 : Int) ≤ (its.length : Int) by omega)]
      refine iteF ⟨_, rfl, d, _, rfl, dg_c S.d, _, rfl, lc, _, _, _, rfl, rfl, SqL.of S.c, cnt_at S.n he, ?_⟩
      refine ⟨_, rfl, d, _, rfl, dg_h S.d, lh, rfl, ⟨_, SqL.of hl⟩, for_list (K := K) (a := lh) (xs := vs)
        (fun j σ H' => ∃ v5 : Option V, σ = [some (.ref d), some (.int e), some (.ref Tk), some (.ref B), some (.int ((nums1 (its.take j) e).foldl mx (cnt cs e))), v5] ∧ H' = H) ⟨_, rfl, rfl⟩ (fun j σ H' _ ⟨_, _, q⟩ => by rw [q]; exact SqL.of hl) ?_ ?_⟩
      · rintro j z2 σ H' hz ⟨v5, rfl, rfl⟩
        obtain ⟨it, hit, q⟩ := paired_at hi hz
        obtain ⟨pi, Ti, Bi, rfl, g1, g2, g3⟩ := q
        refine ⟨_, rfl, pi, _, _, _, rfl, rfl, SqT.of g1, rfl, _, rfl, rfl, _, rfl, ?_⟩
        by_cases c2 : it.e = e
        · rw [decide_eq_true (by rw [c2])]
          refine iteT ⟨_, rfl, _, rfl, pi, _, _, _, rfl, rfl, SqT.of g1, rfl, _, _, rfl, rfl, _, _, rfl, ?_⟩
          refine ⟨some (.ref pi), ?_, rfl⟩
          rw [nums1_yes hit c2, List.foldl_append]
          rfl
        · rw [decide_eq_false (fun z => c2 (V.int.inj z))]
          refine iteF ⟨some (.ref pi), ?_, rfl⟩
          rw [nums1_no hit c2]
          rfl
      · rintro σ H' ⟨v5, rfl, rfl⟩
        rw [paired_len hi, List.take_length]
        refine ⟨_, rfl, d, _, rfl, dg_h S.d, _, rfl, _, rfl, _, rfl, _, rfl, by show 4 ≤ sizeLine; decide, fun q hq => ?_⟩
        have s1 : Same H' (upd H' q (.tup [.int e, .int (nextN cs its e), .ref Tk, .ref B])) := Same.new hq
        have eq1 : upd H' q (.tup [.int e, .int (nextN cs its e), .ref Tk, .ref B]) q = some (.tup [.int e, .int (nextN cs its e), .ref Tk, .ref B]) := upd_same
        show _ ∧ _
        refine ⟨by show 1 ≤ sizeLine; decide, fun q2 hq2 => ?_⟩
        have hq2 : upd H' q (.tup [.int e, .int (nextN cs its e), .ref Tk, .ref B]) q2 = none := hq2
        have s2 : Same (upd H' q (.tup [.int e, .int (nextN cs its e), .ref Tk, .ref B])) (upd (upd H' q (.tup [.int e, .int (nextN cs its e), .ref Tk, .ref B])) q2 (.lst [.ref q])) := Same.new hq2
        refine ⟨lh, q2, _, _, rfl, rfl, s2 _ _ (s1 _ _ hl), upd_same, ?_, fun l2 hl2 => ?_⟩
        · rw [paired_len hi]
          exact small_sz (n := its.length + 1) (by omega)
        have hl2 : upd (upd H' q (.tup [.int e, .int (nextN cs its e), .ref Tk, .ref B])) q2 (.lst [.ref q]) l2 = none := hl2
        have s3 : Same (upd (upd H' q (.tup [.int e, .int (nextN cs its e), .ref Tk, .ref B])) q2 (.lst [.ref q]))
          (upd (upd (upd H' q (.tup [.int e, .int (nextN cs its e), .ref Tk, .ref B])) q2 (.lst [.ref q])) l2 (.lst (vs ++ [.ref q]))) := Same.new hl2
        have s13 := (s1.trans s2).trans s3
        have eq3 := s3 _ _ (s2 _ _ eq1)
        have el : upd (upd (upd H' q (.tup [.int e, .int (nextN cs its e), .ref Tk, .ref B])) q2 (.lst [.ref q])) l2 (.lst (vs ++ [.ref q])) l2 = some (.lst (vs ++ [.ref q])) := upd_same
        show ∃ v, _ ∧ _
        refine ⟨_, rfl, d, _, rfl, dp_h (s13 _ _ S.d) l2, ?_⟩
        have nl : H' l2 = none := (s1.trans s2).free hl2
        have nld : l2 ≠ d := fun z => by
          rw [z, S.d] at nl
          cases nl
        generalize upd (upd (upd H' q (.tup [.int e, .int (nextN cs its e), .ref Tk, .ref B])) q2 (.lst [.ref q])) l2 (.lst (vs ++ [.ref q])) = H3 at s13 eq3 el ⊢
        have k4 : Kp [d] H3 (upd H3 d (.dK (sd l2 lc pw))) := Kp.put (s13 _ _ S.d) (fun xs z => by cases z) (by simp)
        have kT : Kp [d] H' (upd H3 d (.dK (sd l2 lc pw))) := (Kp.of s13).trans k4
        have ncd : lc ≠ d := ne_of S.c S.d (by intro z; cases z)
        refine k (by omega) _ l2 kT nl ⟨upd_same, ⟨_, by rw [upd_ne nld]; exact el, ?_⟩, by rw [upd_ne ncd]; exact s13 _ _ S.c, S.n⟩
        exact paired_app (hi.kp kT) (.cons ⟨q, Tk, B, rfl, k4.tup eq3, hT.kp kT, hB.kp kT⟩ .nil)
end
end K57

/-! _law_good *-/
namespace K57
open PySem L2
section
variable {P : Program} {w : World} {K : PySem.W.Frag} {mg : Str → Option Value} {base : Heap} {a : Adr}
variable {fE fC fN fU fI fS fB fM fJ fR fP fT fL fW fTo fTx : Addr} {dE dC dN dU dI dS dB dM dJ dR dP dT dL dW dTo dTx : FuncData}
theorem isU_yes {cs : List Int} {e : Int} {i : It} (c : i.e = e) (c2 : cnt cs e ≤ i.n) : isU cs e i = true := by
  unfold isU
  rw [decide_eq_true c, decide_eq_true c2]
  rfl
theorem isU_no1 {cs : List Int} {e : Int} {i : It} (c : ¬ i.e = e) : isU cs e i = false := by
  unfold isU
  rw [decide_eq_false c]
  rfl
theorem isU_no2 {cs : List Int} {e : Int} {i : It} (c : ¬ cnt cs e ≤ i.n) : isU cs e i = false := by
  unfold isU
  rw [decide_eq_false c, Bool.and_false]
def spGood (a : Adr) : Sp := fun vs H Q _ => ∃ (p d r l lr lh lc : Addr) (cs : List Int) (pw pw2 : Int) (its : List It), vs = [.ref p, .ref d] ∧ RegAt a.cr H r lr cs pw ∧ PurAt a.cp H p r l its ∧ StAt H d lh lc its cs pw2 ∧ its.length ≤ 12 ∧ Inc its ∧ (∀ i ∈ its, i.Ok) ∧
  ∀ H', Same H H' → Q (.bl true) H'
theorem scGood : FnScope ["_law_purse", "_law_state", "_law_epoch", "_law_usable", "_law_item", "_law_kind"] ["_law_purse", "_law_state"] (defScope sGood) := ⟨rfl, rfl, rfl, by decide +kernel, rfl, by decide +kernel, by decide +kernel⟩
theorem ok_good {f : Addr} {fd : FuncData} (F : Fun K "_law_good" "_law_good" sGood f fd) (T : Txt K mg a) (M : Ms K mg a fE fC fN fU fI fS fB fM fJ dE dC dN dU dI dS dB dM dJ) (M2 : Mq K mg a fR fP fT fL fW dR dP dT dL dW)
    (DT : Df K mg "_law_told" sTold fTo dTo ["_law_purse", "_law_kind", "_law_epoch", "_law_ticket", "_law_blinding"]) (DX : Df K mg "_law_text" sText fTx dTx ["_law_held"]) :
    FnOk P w K mg base CX0 6 f fd ["_law_purse", "_law_state"] (spGood a) := by
  have GT : FnOk P w K mg base CX0 5 fTo dTo ["_law_purse", "_law_kind", "_law_epoch", "_law_ticket", "_law_blinding"] (spTold a) := ok_told DT.F T M.E M.C M.N M.U M2
  have GX : FnOk P w K mg base CX0 1 fTx dTx ["_law_held"] spTx := ok_text DX.F T
  have GS : FnOk P w K mg base CX0 1 fS dS ["self"] (spPS a) := ok_psize M.S.F T
  have GM : FnOk P w K mg base CX0 2 fM dM ["self"] (spIm a) := ok_image M.M.F T M.J
  refine F.ok scGood (fun vs H Q E h => ?_) (fun cdv A outer s H vs Q E hr h => ?_)
  · obtain ⟨p, d, r, l, lr, lh, lc, cs, pw, pw2, its, rfl, _⟩ := h
    rfl
  · obtain ⟨p, d, r, l, lr, lh, lc, cs, pw, pw2, its, rfl, R, U, S, hs, hinc, hok, k⟩ := h
    obtain ⟨vs, hl, hi⟩ := S.h
    obtain ⟨⟨dx, hp⟩, _⟩ := id U
    have hu := hu_of hr
    have hr1 : Room 1 _ := hr.mono (by decide)
    have hr2 : Room 2 _ := hr.mono (by decide)
    refine ⟨_, pss_cons (ps_if (PW.pt (pw_or (pt_cmpR op_ne (pe_meth0 (pv 0) T.cp M.S.m GS hr1 M.S.b .nil pass0) (pe_callB call_len_seq (by rfl) T.len PySem.boot_len (pa_cons (pe_dget hu (pv 1) pe_str (fun _ _ => rfl)) pa_nil)) (nomark _))
        (pw_or1 (pt_cmpR op_ne (pe_meth0 (pv 0) T.cp M.M.m GM hr2 M.M.b .nil pass0) (pe_call GX hr1 rfl DX.m DX.F.kp DX.b .nil pass0 (pa_cons (pe_dget hu (pv 1) pe_str (fun _ _ => rfl)) pa_nil)) (nomark _))))) (pss_one (ps_ret pe_bl)) pss_nil)
      (pss_cons (ps_for PassesOwn.never rfl (pi_range1 rfl T.rng (pa_cons pe_int pa_nil)) (pg_name (i := 2) scGood.nd rfl (Or.inr rfl))
        (pss_cons (ps_setLc (i := 3) (own := [("_law_item", 4)]) (g := gName 4) rfl scGood.nd rfl rfl (sw_true rfl rfl rfl (by decide +kernel)) (pi_list (pe_dget hu (pv 1) pe_str (fun _ _ => rfl)))
            (blkOk_by (own := [("_law_item", 4)]) (N := ["_law_purse", "_law_state", "_law_epoch", "_law_usable", "_law_item", "_law_kind"]) (sc := defScope sGood) (by decide +kernel)) (fun _ _ _ _ _ => pg_name (i := 4) scGood.nd rfl (Or.inl rfl))
            (fun _ _ _ _ _ => pts_one (PW.pt (pw_and (pt_cmpR op_eq (pe_ix (ixT K) (pv 4) pe_int (fun _ _ => rfl)) (pv 2) (nomark _))
              (pw_and1 (pt_cmpR op_ge (pe_ix (ixT K) (pv 4) pe_int (fun _ _ => rfl)) (pe_ix (ixL K) (pe_dget hu (pv 1) pe_str (fun _ _ => rfl)) (pv 2) (fun _ _ => rfl)) (nomark _))))))
            (fun _ _ _ _ _ => pv 4))
          (pss_one (ps_if (pt_cmpR op_ne (pe_call GT hr rfl DT.m DT.F.kp DT.b .nil pass0 (pa_cons (pv 0) (pa_cons pe_str (pa_cons (pv 2) (pa_cons pe_non (pa_cons pe_non pa_nil)))))) (pe_callB call_len_seq (by rfl) T.len PySem.boot_len (pa_cons (pv 3) pa_nil)) (nomark _)) (pss_one (ps_ret pe_bl)) pss_nil))))
      (pss_cons (ps_for PassesOwn.never rfl (pi_list (pe_lst (pa_cons (pe_un un_neg pe_int) (pa_cons pe_int pa_nil)))) (pg_name (i := 2) scGood.nd rfl (Or.inr rfl))
        (pss_one (ps_for PassesOwn.never rfl (pi_list (pe_lst (pa_cons pe_str (pa_cons pe_str (pa_cons pe_str pa_nil))))) (pg_name (i := 5) scGood.nd rfl (Or.inl rfl))
          (pss_one (ps_if (pt_cmpR op_ne (pe_call GT hr rfl DT.m DT.F.kp DT.b .nil pass0 (pa_cons (pv 0) (pa_cons (pv 5) (pa_cons (pv 2)
              (pa_cons (pe_tup (pa_cons pe_int (pa_cons pe_int (pa_cons pe_int (pa_cons pe_int (pa_cons pe_int (pa_cons pe_int pa_nil)))))))
              (pa_cons (pe_tup (pa_cons pe_int (pa_cons pe_int (pa_cons pe_int (pa_cons (pe_tup (pa_cons pe_int (pa_cons pe_int (pa_cons pe_int (pa_cons pe_int pa_nil))))) pa_nil))))) pa_nil)))))) pe_str (nomark _)) (pss_one (ps_ret pe_bl)) pss_nil)))))
      (pss_one (ps_ret pe_bl)))), ?_⟩
    refine ⟨_, rfl, p, dx, _, rfl, hp, pf_no _ _ (by decide +kernel) (by decide +kernel), p, r, l, its, rfl, U, _, rfl, d, _, rfl, dg_h S.d, lh, _, rfl, .inl (SqL.of hl), rfl, _, rfl, ?_⟩
    rw [paired_len hi, decide_eq_true rfl]
    refine iteF ⟨_, rfl, p, dx, _, rfl, hp, pf_no _ _ (by decide +kernel) (by decide +kernel), p, r, l, its, rfl, U, hs, hok, fun H1 s1 => ?_⟩
    refine ⟨_, rfl, d, _, rfl, dg_h (s1 _ _ S.d), lh, its, rfl, S.h.kp (Kp.of (S := []) s1) (by simp), hs, hok, fun H2 s2 => ?_⟩
    refine ⟨rfl, _, rfl, ?_⟩
    rw [decide_eq_true rfl]
    refine iteF ⟨3, rfl, by decide, by decide, for_range (n := 3) (fun j σ H' => ∃ (v2 v3 : Option V), σ = [some (.ref p), some (.ref d), v2, v3, none, none] ∧ Same H H') ⟨none, none, rfl, s1.trans s2⟩ ?_ ?_⟩
    · rintro j σ H3 hj ⟨v2, v3, rfl, q1⟩
      have he : OkE (0 + (j : Int)) := ⟨by omega, by omega⟩
      have k3 : Kp [] H H3 := Kp.of q1
      have S3 := S.kp k3 (by simp) (by simp) (by simp)
      have hl3 := q1 _ _ hl
      have hi3 := hi.kp k3
      refine ⟨_, rfl, d, _, rfl, dg_h S3.d, lh, rfl, ⟨_, SqL.of hl3⟩, fun D hD => ?_⟩
      have kp : ∀ xs, Same H3 (upd H3 D (.lst xs)) := fun xs => Same.new hD
      refine lc_list (K := K) (a := lh) (xs := vs) (fun i H' => ∃ us, H' = upd H3 D (.lst us) ∧ us.length = (usab cs (its.take i) (0 + (j : Int))).length) ⟨[], rfl, rfl⟩ (fun i H' _ ⟨us, q, _⟩ => by rw [q]; exact SqL.of (kp _ _ _ hl3)) ?_ ?_
      · rintro i z H' hz ⟨us, rfl, hu⟩
        obtain ⟨it, hit, q⟩ := paired_at hi3 hz
        obtain ⟨pi, Ti, Bi, rfl, g1, g2, g3⟩ := id (q.kp (Kp.of (S := []) (kp us)))
        refine ⟨rfl, _, rfl, pi, _, _, _, rfl, rfl, SqT.of g1, rfl, _, rfl, rfl, _, rfl, ?_⟩
        have no : isU cs (0 + (j : Int)) it = false → us.length = (usab cs (its.take (i + 1)) (0 + (j : Int))).length := fun h => by
          unfold usab
          rw [filt_no hit h]
          exact hu
        by_cases c : it.e = 0 + (j : Int)
        · rw [decide_eq_true (by rw [c])]
          refine iteT ⟨_, rfl, pi, _, _, _, rfl, rfl, SqT.of g1, rfl, _, rfl, d, _, rfl, dg_c (kp us _ _ S3.d), _, rfl, lc, _, _, _, rfl, rfl, SqL.of (kp us _ _ S3.c), cnt_at S.n he, _, _, rfl, rfl, _, rfl, ?_⟩
          by_cases c2 : cnt cs (0 + (j : Int)) ≤ it.n
          · rw [decide_eq_true c2]
            refine iteT ⟨_, rfl, _, upd_same, ?_, us ++ [.ref pi], by rw [upd_upd], ?_⟩
            · rw [hu]
              refine small1000 (Nat.le_trans (usab_len _ _ _) ?_)
              rw [List.length_take]
              omega
            · unfold usab
              rw [filt_yes hit (isU_yes c c2), List.length_append, List.length_append, hu]
              rfl
          · rw [decide_eq_false c2]
            exact iteF ⟨us, rfl, no (isU_no2 c2)⟩
        · rw [decide_eq_false (fun z => c (V.int.inj z))]
          refine iteF ?_
          exact iteF ⟨us, rfl, no (isU_no1 c)⟩
      · rintro H' ⟨us, rfl, hu⟩
        rw [paired_len hi, List.take_length] at hu
        have s4 := q1.trans (kp us)
        have k4 : Kp [] H (upd H3 D (.lst us)) := Kp.of s4
        have hD4 : upd H3 D (.lst us) D = some (.lst us) := upd_same
        generalize upd H3 D (.lst us) = H4 at s4 k4 hD4 ⊢
        refine ⟨_, rfl, _, rfl, p, r, l, lr, cs, pw, its, Str.ofString "left", 0 + (j : Int), _, _, rfl, R.kp k4 (by simp) (by simp), U.kp k4 (by simp) (by simp), by omega, hinc, .inr (.inr rfl), fun z => absurd he z, fun _ => ⟨fun z => absurd z (by decide +kernel), fun z => absurd z (by decide +kernel), fun _ H5 s5 => ?_⟩⟩
        refine ⟨_, rfl, D, _, rfl, .inl (SqL.of (s5 _ _ hD4)), rfl, _, rfl, ?_⟩
        rw [hu, decide_eq_true rfl]
        exact iteF ⟨_, _, rfl, s4.trans s5⟩
    · rintro σ H3 ⟨v2, v3, rfl, q1⟩
      refine ⟨_, rfl, by show 2 ≤ sizeLine; decide, fun l1 h1 => ?_⟩
      have s3 : Same H3 (upd H3 l1 (.lst [.int (-1), .int 3])) := Same.new h1
      have e3 : upd H3 l1 (.lst [.int (-1), .int 3]) l1 = some (.lst [.int (-1), .int 3]) := upd_same
      refine ⟨l1, rfl, ⟨_, SqL.of e3⟩, for_list (K := K) (a := l1) (xs := [.int (-1), .int 3]) (fun j σ H' => ∃ (v2 v5 : Option V), σ = [some (.ref p), some (.ref d), v2, v3, none, v5] ∧ Same H H' ∧ H' l1 = some (.lst [.int (-1), .int 3]))
        ⟨v2, none, rfl, q1.trans s3, e3⟩ (fun j σ H' _ ⟨_, _, _, _, q⟩ => SqL.of q) ?_ ?_⟩
      · rintro j z σ H4 hz ⟨v2, v5, rfl, q2, q3⟩
        obtain ⟨e, rfl, hne⟩ : ∃ e : Int, z = .int e ∧ ¬ OkE e := by
          match j, hz with
          | 0, hz => exact ⟨-1, by simpa using hz.symm, fun q => by have := q.1; omega⟩
          | 1, hz => exact ⟨3, by simpa using hz.symm, fun q => by have := q.2; omega⟩
        refine ⟨by show 3 ≤ sizeLine; decide, fun l2 h2 => ?_⟩
        have s5 : Same H4 (upd H4 l2 (.lst [.str (Str.ofString "put"), .str (Str.ofString "take"), .str (Str.ofString "left")])) := Same.new h2
        have e5 : upd H4 l2 (.lst [.str (Str.ofString "put"), .str (Str.ofString "take"), .str (Str.ofString "left")]) l2 = some (.lst [.str (Str.ofString "put"), .str (Str.ofString "take"), .str (Str.ofString "left")]) := upd_same
        refine ⟨l2, rfl, ⟨_, SqL.of e5⟩, for_list (K := K) (a := l2) (xs := [.str (Str.ofString "put"), .str (Str.ofString "take"), .str (Str.ofString "left")])
          (fun j σ H' => ∃ (v5 : Option V), σ = [some (.ref p), some (.ref d), some (.int e), v3, none, v5] ∧ Same H H' ∧ H' l1 = some (.lst [.int (-1), .int 3]) ∧ H' l2 = some (.lst [.str (Str.ofString "put"), .str (Str.ofString "take"), .str (Str.ofString "left")]))
          ⟨v5, rfl, q2.trans s5, s5 _ _ q3, e5⟩ (fun j σ H' _ ⟨_, _, _, _, q⟩ => SqL.of q) ?_ ?_⟩
        · rintro j2 z2 σ H6 hz2 ⟨v5, rfl, g1, g2, g3⟩
          obtain ⟨kd, rfl, hkd⟩ : ∃ kd : Str, z2 = .str kd ∧ (kd = Str.ofString "put" ∨ kd = Str.ofString "take" ∨ kd = Str.ofString "left") := by
            match j2, hz2 with
            | 0, hz => exact ⟨_, by simpa using hz.symm, .inl rfl⟩
            | 1, hz => exact ⟨_, by simpa using hz.symm, .inr (.inl rfl)⟩
            | 2, hz => exact ⟨_, by simpa using hz.symm, .inr (.inr rfl)⟩
          refine ⟨_, rfl, _, rfl, _, rfl, by show 6 ≤ sizeLine; decide, fun t1 ht1 => ?_⟩
          refine ⟨by show 4 ≤ sizeLine; decide, fun t2 ht2 => ⟨by show 4 ≤ sizeLine; decide, fun t3 ht3 => ?_⟩⟩
          have s7 := (Same.new (o := .tup [.int 1, .int 1, .int 1, .int 1, .int 1, .int 1]) ht1).trans ((Same.new (o := .tup [.int 1, .int 1, .int 1, .int 1]) ht2).trans (Same.new (o := .tup [.int 1, .int 1, .int 1, .ref t2]) ht3))
          have k7 : Kp [] H _ := Kp.of (g1.trans s7)
          refine ⟨p, r, l, lr, cs, pw, its, kd, e, _, _, rfl, R.kp k7 (by simp) (by simp), U.kp k7 (by simp) (by simp), by omega, hinc, hkd, fun _ H8 s8 => ?_, fun z => absurd z hne⟩
          refine ⟨rfl, _, rfl, ?_⟩
          rw [decide_eq_true rfl]
          exact iteF ⟨_, rfl, (g1.trans s7).trans s8, s8 _ _ (s7 _ _ g2), s8 _ _ (s7 _ _ g3)⟩
        · rintro σ H6 ⟨v5, rfl, g1, g2, g3⟩
          exact ⟨_, _, rfl, g1, g2⟩
      · rintro σ H4 ⟨v2, v5, rfl, q2, q3⟩
        exact k _ q2
end
end K57

/-! the plain law: every ticket keeps its number, so none is given out twice -/
namespace K57
open PySem L2
/-- what the law holds of purses and images: their items are among those ever put -/
structure Wf (log L : List It) : Prop where
  len : L.length ≤ 12
  inc : Inc L
  sub : ∀ i ∈ L, i ∈ log
structure Gh where
  its : List It
  cs : List Int
  pw : Int
  imgs : List (List It)
  giv : List (List Int)
  log : List It
structure GhOk (k : Nat) (g : Gh) : Prop where
  cs3 : g.cs.length = 3
  cs : ∀ e, OkE e → 0 ≤ cnt g.cs e ∧ cnt g.cs e ≤ (k : Int)
  its : Wf g.log g.its
  imgs : ∀ L ∈ g.imgs, Wf g.log L
  ne : 0 < g.imgs.length
  nimg : g.imgs.length ≤ k + 1
  ngiv : g.giv.length ≤ k
  log : ∀ i ∈ g.log, i.Ok ∧ i.n < (k : Int) ∧ i.t.headD 0 ≤ (k : Int)
  uniq : ∀ i ∈ g.log, ∀ j ∈ g.log, i.t = j.t → i = j
  giv : ∀ t ∈ g.giv, ∃ i ∈ g.log, i.t = t ∧ i.n < cnt g.cs i.e
theorem Wf.more {log L : List It} {i : It} (h : Wf log L) : Wf (log ++ [i]) L := ⟨h.len, h.inc, fun j hj => List.mem_append_left _ (h.sub j hj)⟩
theorem GhOk.ok {k : Nat} {g : Gh} (h : GhOk k g) {L : List It} (w : Wf g.log L) : ∀ i ∈ L, i.Ok := fun i hi => (h.log i (w.sub i hi)).1
theorem GhOk.next {k : Nat} {g : Gh} (h : GhOk k g) : GhOk (k + 1) g where
  cs3 := h.cs3
  cs := fun e he => ⟨(h.cs e he).1, by have := (h.cs e he).2; omega⟩
  its := h.its
  imgs := h.imgs
  ne := h.ne
  nimg := by have := h.nimg; omega
  ngiv := by have := h.ngiv; omega
  log := fun i hi => ⟨(h.log i hi).1, by have := (h.log i hi).2.1; omega, by have := (h.log i hi).2.2; omega⟩
  uniq := h.uniq
  giv := h.giv
theorem gh0 : GhOk 0 ⟨[], [0, 0, 0], -1, [[]], [], []⟩ where
  cs3 := rfl
  cs := fun e he => by
    have h1 := he.1
    have h2 := he.2
    rcases (show e = 0 ∨ e = 1 ∨ e = 2 by omega) with q | q | q <;> rw [q] <;> exact ⟨by decide, by decide⟩
  its := ⟨Nat.zero_le _, List.Pairwise.nil, fun _ h => absurd h List.not_mem_nil⟩
  imgs := fun L hL => by
    rw [List.mem_singleton.mp hL]
    exact ⟨Nat.zero_le _, List.Pairwise.nil, fun _ h => absurd h List.not_mem_nil⟩
  ne := Nat.succ_pos _
  nimg := Nat.le_refl _
  ngiv := Nat.le_refl _
  log := fun _ h => absurd h List.not_mem_nil
  uniq := fun _ h => absurd h List.not_mem_nil
  giv := fun _ h => absurd h List.not_mem_nil

/-! ### put -/
/-- what is put in the event k -/
def newIt (k : Nat) (e n x y : Int) : It := ⟨e, n, [1 + (k : Int), x, 2, 3, 4, 1 + y], 1 + x, 2, (k : Int), [x, 0, 1, 2]⟩
theorem newIt_ok {k : Nat} {e n x y : Int} (hk : k < 24) (he : OkE e) (hn : 0 ≤ n ∧ n ≤ (k : Int)) (hx : 0 ≤ x ∧ x < 1009) (hy : 0 ≤ y ∧ y < 1009) : (newIt k e n x y).Ok where
  e0 := he.1
  e3 := he.2
  t6 := rfl
  x4 := rfl
  dig := fun z hz => by
    have h1 := he.1
    have h2 := he.2
    have hz : z ∈ ([e, n, 1 + (k : Int), x, 2, 3, 4, 1 + y, 1 + x, 2, (k : Int), x, 0, 1, 2] : List Int) := hz
    simp only [List.mem_cons, List.not_mem_nil, or_false] at hz
    unfold Dig
    omega
theorem nums1_mem {its : List It} {e : Int} {j : It} (h : j ∈ its) (he : j.e = e) : j.n + 1 ∈ nums1 its e :=
  List.mem_map.mpr ⟨j, List.mem_filter.mpr ⟨h, by unfold isE; exact decide_eq_true he⟩, rfl⟩
theorem nextN_gt {cs : List Int} {its : List It} {e : Int} {j : It} (h : j ∈ its) (he : j.e = e) : j.n < nextN cs its e := by
  have q := (fold_ge (nums1 its e) (cnt cs e)).2 _ (nums1_mem h he)
  have q : j.n + 1 ≤ nextN cs its e := q
  omega
theorem nextN_ge (cs : List Int) (its : List It) (e : Int) : cnt cs e ≤ nextN cs its e := (fold_ge (nums1 its e) (cnt cs e)).1
theorem nextN_le {cs : List Int} {its : List It} {e k : Int} (h0 : cnt cs e ≤ k) (h : ∀ j ∈ its, j.n < k) : nextN cs its e ≤ k := fold_le h0 fun y hy => by
  obtain ⟨j, hj, rfl⟩ := List.mem_map.mp hy
  have := h j (List.mem_filter.mp hj).1
  omega
theorem inc_snoc {its : List It} {i : It} (h : Inc its) (q : ∀ j ∈ its, j.e = i.e → j.n < i.n) : Inc (its ++ [i]) := by
  refine List.pairwise_append.mpr ⟨h, List.pairwise_singleton _ _, fun a ha b hb => ?_⟩
  rw [List.mem_singleton.mp hb]
  exact q a ha
theorem GhOk.put {k : Nat} {g : Gh} (h : GhOk k g) (hk : k < 24) {e x y : Int} (he : OkE e) (hx : 0 ≤ x ∧ x < 1009) (hy : 0 ≤ y ∧ y < 1009) (hl : g.its.length < 12) :
    GhOk (k + 1) { g with its := g.its ++ [newIt k e (nextN g.cs g.its e) x y], log := g.log ++ [newIt k e (nextN g.cs g.its e) x y] } := by
  have c := h.cs e he
  have n0 := nextN_ge g.cs g.its e
  have n1 : nextN g.cs g.its e ≤ (k : Int) := nextN_le c.2 fun j hj => (h.log j (h.its.sub j hj)).2.1
  have ok := newIt_ok (n := nextN g.cs g.its e) hk he ⟨by omega, n1⟩ hx hy
  have hd : (newIt k e (nextN g.cs g.its e) x y).t.headD 0 = 1 + (k : Int) := rfl
  have hn : (newIt k e (nextN g.cs g.its e) x y).n = nextN g.cs g.its e := rfl
  have N := h.next
  have alone : ∀ j ∈ g.log, j.t ≠ (newIt k e (nextN g.cs g.its e) x y).t := fun j hj q => by
    have z := (h.log j hj).2.2
    rw [q, hd] at z
    omega
  refine ⟨N.cs3, N.cs, ⟨?_, inc_snoc h.its.inc fun j hj q => ?_, fun j hj => ?_⟩, fun L hL => (h.imgs L hL).more, N.ne, N.nimg, N.ngiv, fun j hj => ?_, fun i hi j hj q => ?_, fun t ht => ?_⟩
  · rw [List.length_append, List.length_singleton]
    omega
  · rw [hn]
    exact nextN_gt hj q
  · rcases List.mem_append.mp hj with hj | hj
    · exact List.mem_append_left _ (h.its.sub j hj)
    · exact List.mem_append_right _ hj
  · rcases List.mem_append.mp hj with hj | hj
    · exact N.log j hj
    · rw [List.mem_singleton.mp hj]
      exact ⟨ok, by rw [hn]; omega, by rw [hd]; omega⟩
  · rcases List.mem_append.mp hi with hi | hi
    · rcases List.mem_append.mp hj with hj | hj
      · exact h.uniq i hi j hj q
      · rw [List.mem_singleton.mp hj] at q
        exact absurd q (alone i hi)
    · rcases List.mem_append.mp hj with hj | hj
      · rw [List.mem_singleton.mp hi] at q
        exact absurd q.symm (alone j hj)
      · rw [List.mem_singleton.mp hi, List.mem_singleton.mp hj]
  · obtain ⟨i, hi, q1, q2⟩ := h.giv t ht
    exact ⟨i, List.mem_append_left _ hi, q1, q2⟩

/-! ### take -/
theorem cnt_set {cs : List Int} {e f v : Int} (hc : cs.length = 3) (he : OkE e) (hf : OkE f) : cnt (cs.set e.toNat v) f = if f = e then v else cnt cs f := by
  have e1 := he.1
  have e2 := he.2
  have f1 := hf.1
  have f2 := hf.2
  unfold cnt
  rw [List.getD_eq_getElem?_getD, List.getD_eq_getElem?_getD, List.getElem?_set]
  by_cases q : f = e
  · rw [if_pos q, if_pos (by rw [q]), if_pos (by omega)]
    rfl
  · rw [if_neg q, if_neg (by omega)]
theorem GhOk.take {k : Nat} {g : Gh} (h : GhOk k g) {L : List It} (w : Wf g.log L) {e : Int} (he : OkE e) {i : It} {r : List It} (hu : usab g.cs L e = i :: r) (p : Int) :
    ¬ i.t ∈ g.giv ∧ GhOk (k + 1) { g with cs := g.cs.set e.toNat (i.n + 1), pw := p, giv := g.giv ++ [i.t] } := by
  have hm := usab_mem (cs := g.cs) (its := L) (e := e) (i := i) (by rw [hu]; exact List.mem_cons_self ..)
  obtain ⟨m1, m2, m3⟩ := hm
  have il := w.sub i m1
  have ik := h.log i il
  have c := h.cs e he
  have N := h.next
  have ce : ∀ f, OkE f → cnt g.cs f ≤ cnt (g.cs.set e.toNat (i.n + 1)) f := fun f hf => by
    rw [cnt_set h.cs3 he hf]
    split
    · rename_i q
      rw [q]
      omega
    · exact Int.le_refl _
  refine ⟨fun hg => ?_, by rw [List.length_set]; exact h.cs3, fun f hf => ?_, N.its, N.imgs, N.ne, N.nimg, ?_, N.log, N.uniq, fun t ht => ?_⟩
  · obtain ⟨j, hj, q1, q2⟩ := h.giv _ hg
    have q3 := h.uniq j hj i il q1
    rw [q3, m2] at q2
    omega
  · show 0 ≤ cnt (g.cs.set e.toNat (i.n + 1)) f ∧ cnt (g.cs.set e.toNat (i.n + 1)) f ≤ ((k + 1 : Nat) : Int)
    rw [cnt_set h.cs3 he hf]
    split
    · exact ⟨by omega, by have := ik.2.1; omega⟩
    · exact N.cs f hf
  · show (g.giv ++ [i.t]).length ≤ k + 1
    rw [List.length_append, List.length_singleton]
    have := h.ngiv
    omega
  · rcases List.mem_append.mp ht with ht | ht
    · obtain ⟨j, hj, q1, q2⟩ := h.giv t ht
      have jo := (h.log j hj).1
      exact ⟨j, hj, q1, Int.lt_of_lt_of_le q2 (ce j.e ⟨jo.e0, jo.e3⟩)⟩
    · rw [List.mem_singleton.mp ht]
      refine ⟨i, il, rfl, ?_⟩
      show i.n < cnt (g.cs.set e.toNat (i.n + 1)) i.e
      rw [m2, cnt_set h.cs3 he he, if_pos rfl]
      omega
/-! ### the image is kept, power, loading -/
theorem GhOk.save {k : Nat} {g : Gh} (h : GhOk k g) : GhOk (k + 1) { g with imgs := g.imgs ++ [g.its] } := by
  have N := h.next
  refine ⟨N.cs3, N.cs, N.its, fun L hL => ?_, ?_, ?_, N.ngiv, N.log, N.uniq, N.giv⟩
  · rcases List.mem_append.mp hL with hL | hL
    · exact h.imgs L hL
    · rw [List.mem_singleton.mp hL]
      exact h.its
  · show 0 < (g.imgs ++ [g.its]).length
    rw [List.length_append, List.length_singleton]
    omega
  · show (g.imgs ++ [g.its]).length ≤ k + 1 + 1
    rw [List.length_append, List.length_singleton]
    have := h.nimg
    omega
theorem GhOk.power {k : Nat} {g : Gh} (h : GhOk k g) (p : Int) : GhOk k { g with pw := p } := ⟨h.cs3, h.cs, h.its, h.imgs, h.ne, h.nimg, h.ngiv, h.log, h.uniq, h.giv⟩
theorem GhOk.load {k : Nat} {g : Gh} (h : GhOk k g) {L : List It} (w : Wf g.log L) : GhOk k { g with its := L } := ⟨h.cs3, h.cs, w, h.imgs, h.ne, h.nimg, h.ngiv, h.log, h.uniq, h.giv⟩
end K57

/-! what stands between two events *-/
namespace K57
open PySem L2
structure Ad where
  w : Addr
  r : Addr
  lr : Addr
  p : Addr
  l : Addr
  d : Addr
  lh : Addr
  lc : Addr
  li : Addr
  lg : Addr
/-- what is written to -/
def Ad.M (A : Ad) : List Addr := [A.r, A.lr, A.l, A.d, A.lc, A.li, A.lg]
def ImgAt (H : Hp) (M : List Addr) (v : V) (L : List It) : Prop := ∃ q lh, v = .ref q ∧ H q = some (.tup [.str (img L), .ref lh]) ∧ HeldAt H lh L ∧ lh ∉ M
def TkV (H : Hp) (v : V) (t : List Int) : Prop := ∃ T, v = .ref T ∧ TkAt H T t
structure LawAt (a : Adr) (H : Hp) (A : Ad) (rs : List Int) (g : Gh) (q : Int) : Prop where
  W : H A.w = some (.lst (rs.map V.int))
  R : RegAt a.cr H A.r A.lr g.cs g.pw
  U : PurAt a.cp H A.p A.r A.l g.its
  S : StAt H A.d A.lh A.lc g.its g.cs q
  I : ∃ vs, H A.li = some (.lst vs) ∧ Paired (ImgAt H A.M) vs g.imgs
  G : ∃ vs, H A.lg = some (.lst vs) ∧ Paired (TkV H) vs g.giv
  nd : A.M.Nodup
  iw : A.w ∉ A.M
  ip : A.p ∉ A.M
  ih : A.lh ∉ A.M
theorem out1 {M : List Addr} (h : M.Nodup) (i j : Nat) {x y : Addr} (hi : M[i]? = some x) (hj : M[j]? = some y) (n : i ≠ j) : x ∉ [y] := fun m => by
  rw [List.mem_singleton.mp m] at hi
  exact n (nd_ix h hi hj)
theorem out4 {M : List Addr} (h : M.Nodup) (i j1 j2 j3 j4 : Nat) {x y1 y2 y3 y4 : Addr} (hi : M[i]? = some x) (h1 : M[j1]? = some y1) (h2 : M[j2]? = some y2) (h3 : M[j3]? = some y3) (h4 : M[j4]? = some y4)
    (n : i ≠ j1 ∧ i ≠ j2 ∧ i ≠ j3 ∧ i ≠ j4) : x ∉ [y1, y2, y3, y4] := fun m => by
  rcases List.mem_cons.mp m with e | m
  · rw [e] at hi; exact n.1 (nd_ix h hi h1)
  rcases List.mem_cons.mp m with e | m
  · rw [e] at hi; exact n.2.1 (nd_ix h hi h2)
  rcases List.mem_cons.mp m with e | m
  · rw [e] at hi; exact n.2.2.1 (nd_ix h hi h3)
  · rw [List.mem_singleton.mp m] at hi; exact n.2.2.2 (nd_ix h hi h4)
theorem sub_out {M S : List Addr} {x : Addr} (h : x ∉ M) (s : ∀ b ∈ S, b ∈ M) : x ∉ S := fun m => h (s x m)
theorem ImgAt.kp {S : List Addr} {H H' : Hp} {M : List Addr} {v : V} {L : List It} (h : ImgAt H M v L) (k : Kp S H H') (s : ∀ b ∈ S, b ∈ M) : ImgAt H' M v L := by
  obtain ⟨q, lh, e, h1, h2, h3⟩ := h
  exact ⟨q, lh, e, k.tup h1, h2.kp k (sub_out h3 s), h3⟩
theorem TkV.kp {S : List Addr} {H H' : Hp} {v : V} {t : List Int} (h : TkV H v t) (k : Kp S H H') : TkV H' v t := h.imp fun _ q => ⟨q.1, q.2.kp k⟩
theorem Kp.drop {S : List Addr} {H H' : Hp} {x : Addr} (hx : H x = none) (k : Kp (x :: S) H H') : Kp S H H' := fun b o e z => k b o e (z.imp (fun n m => by
  rcases List.mem_cons.mp m with q | m
  · rw [q, hx] at e
    cases e
  · exact n m) id)
section
variable {a : Adr} {H H' : Hp} {A : Ad} {rs : List Int} {g : Gh} {q : Int}
theorem LawAt.live (L : LawAt a H A rs g q) : ∀ x ∈ A.M, H x ≠ none := fun x hx z => by
  have hx : x ∈ [A.r, A.lr, A.l, A.d, A.lc, A.li, A.lg] := hx
  simp only [List.mem_cons, List.not_mem_nil, or_false] at hx
  rcases hx with e | e | e | e | e | e | e
  · obtain ⟨_, h⟩ := L.R.o
    rw [← e, z] at h
    cases h
  · have h := L.R.c
    rw [← e, z] at h
    cases h
  · obtain ⟨_, h, _⟩ := L.U.h
    rw [← e, z] at h
    cases h
  · have h := L.S.d
    rw [← e, z] at h
    cases h
  · have h := L.S.c
    rw [← e, z] at h
    cases h
  · obtain ⟨_, h, _⟩ := L.I
    rw [← e, z] at h
    cases h
  · obtain ⟨_, h, _⟩ := L.G
    rw [← e, z] at h
    cases h
/-- the register and the state have moved -/
theorem LawAt.move (L : LawAt a H A rs g q) {cs : List Int} {pw q' : Int} (k : Kp [A.r, A.lr, A.d, A.lc] H H') (R : RegAt a.cr H' A.r A.lr cs pw) (S : StAt H' A.d A.lh A.lc g.its cs q') :
    LawAt a H' A rs { g with cs := cs, pw := pw } q' := by
  have s : ∀ b ∈ [A.r, A.lr, A.d, A.lc], b ∈ A.M := fun b hb => by
    unfold Ad.M
    simp only [List.mem_cons, List.not_mem_nil, or_false] at hb ⊢
    rcases hb with e | e | e | e <;> simp [e]
  refine ⟨k.at L.W (sub_out L.iw s), R, L.U.kp k (sub_out L.ip s) (out4 L.nd 2 0 1 3 4 rfl rfl rfl rfl rfl (by decide)), S, ?_, ?_, L.nd, L.iw, L.ip, L.ih⟩
  · obtain ⟨vs, h1, h2⟩ := L.I
    exact ⟨vs, k.at h1 (out4 L.nd 5 0 1 3 4 rfl rfl rfl rfl rfl (by decide)), Paired.mapP h2 fun _ _ z => z.kp k s⟩
  · obtain ⟨vs, h1, h2⟩ := L.G
    exact ⟨vs, k.at h1 (out4 L.nd 6 0 1 3 4 rfl rfl rfl rfl rfl (by decide)), Paired.mapP h2 fun _ _ z => z.kp k⟩
theorem LawAt.same (L : LawAt a H A rs g q) (k : Same H H') : LawAt a H' A rs g q := by
  have k4 : Kp [A.r, A.lr, A.d, A.lc] H H' := Kp.of k
  have k0 : Kp [] H H' := Kp.of k
  exact L.move k4 (L.R.kp k0 (by simp) (by simp)) (L.S.kp k0 (by simp) (by simp) (by simp))
/-- a ticket is given out -/
theorem LawAt.give (L : LawAt a H A rs g q) {vs : List V} (hv : H A.lg = some (.lst vs)) {T : Addr} {t : List Int} (hT : TkAt H T t) : LawAt a (upd H A.lg (.lst (vs ++ [.ref T]))) A rs { g with giv := g.giv ++ [t] } q := by
  have k : Kp [A.lg] H (upd H A.lg (.lst (vs ++ [.ref T]))) := Kp.put hv (fun xs z => by cases z) (by simp)
  have s : ∀ b ∈ [A.lg], b ∈ A.M := fun b hb => by
    unfold Ad.M
    rw [List.mem_singleton.mp hb]
    simp
  refine ⟨k.at L.W (sub_out L.iw s), L.R.kp k (out1 L.nd 0 6 rfl rfl (by decide)) (out1 L.nd 1 6 rfl rfl (by decide)), L.U.kp k (sub_out L.ip s) (out1 L.nd 2 6 rfl rfl (by decide)),
    L.S.kp k (out1 L.nd 3 6 rfl rfl (by decide)) (sub_out L.ih s) (out1 L.nd 4 6 rfl rfl (by decide)), ?_, ?_, L.nd, L.iw, L.ip, L.ih⟩
  · obtain ⟨ws, h1, h2⟩ := L.I
    exact ⟨ws, k.at h1 (out1 L.nd 5 6 rfl rfl (by decide)), Paired.mapP h2 fun _ _ z => z.kp k s⟩
  · obtain ⟨ws, h1, h2⟩ := L.G
    rw [hv] at h1
    cases h1
    exact ⟨_, upd_same, paired_app (Paired.mapP h2 fun _ _ z => z.kp k) (.cons ⟨T, rfl, hT.kp k⟩ .nil)⟩
/-- the image is kept -/
theorem LawAt.save (L : LawAt a H A rs g q) {vs : List V} (hv : H A.li = some (.lst vs)) {p : Addr} (hp : H p = some (.tup [.str (img g.its), .ref A.lh])) : LawAt a (upd H A.li (.lst (vs ++ [.ref p]))) A rs { g with imgs := g.imgs ++ [g.its] } q := by
  have k : Kp [A.li] H (upd H A.li (.lst (vs ++ [.ref p]))) := Kp.put hv (fun xs z => by cases z) (by simp)
  have s : ∀ b ∈ [A.li], b ∈ A.M := fun b hb => by
    unfold Ad.M
    rw [List.mem_singleton.mp hb]
    simp
  have S' := L.S.kp k (out1 L.nd 3 5 rfl rfl (by decide)) (sub_out L.ih s) (out1 L.nd 4 5 rfl rfl (by decide))
  refine ⟨k.at L.W (sub_out L.iw s), L.R.kp k (out1 L.nd 0 5 rfl rfl (by decide)) (out1 L.nd 1 5 rfl rfl (by decide)), L.U.kp k (sub_out L.ip s) (out1 L.nd 2 5 rfl rfl (by decide)), S', ?_, ?_, L.nd, L.iw, L.ip, L.ih⟩
  · obtain ⟨ws, h1, h2⟩ := L.I
    rw [hv] at h1
    cases h1
    exact ⟨_, upd_same, paired_app (Paired.mapP h2 fun _ _ z => z.kp k s) (.cons ⟨p, A.lh, rfl, k.tup hp, S'.h, L.ih⟩ .nil)⟩
  · obtain ⟨ws, h1, h2⟩ := L.G
    exact ⟨ws, k.at h1 (out1 L.nd 6 5 rfl rfl (by decide)), Paired.mapP h2 fun _ _ z => z.kp k⟩
/-- a ticket is put: into the purse, then into the state (its new list at l2) -/
theorem LawAt.put (L : LawAt a H A rs g q) {H1 : Hp} {i : It} {l2 : Addr} (k1 : Kp [A.l] H H1) (U1 : PurAt a.cp H1 A.p A.r A.l (g.its ++ [i])) (k2 : Kp [A.d] H1 H') (h2 : H1 l2 = none) (S2 : StAt H' A.d l2 A.lc (g.its ++ [i]) g.cs q) (lg : List It) :
    LawAt a H' { A with lh := l2 } rs { g with its := g.its ++ [i], log := lg } q := by
  have s1 : ∀ b ∈ [A.l], b ∈ A.M := fun b hb => by
    unfold Ad.M
    rw [List.mem_singleton.mp hb]
    simp
  have s2 : ∀ b ∈ [A.d], b ∈ A.M := fun b hb => by
    unfold Ad.M
    rw [List.mem_singleton.mp hb]
    simp
  have fresh : l2 ∉ A.M := fun m => by
    cases e : H l2 with
    | none => exact L.live l2 m e
    | some o =>
      by_cases c : l2 = A.l
      · obtain ⟨_, h, _⟩ := U1.h
        rw [← c, h2] at h
        cases h
      · have h := k1.at e (by simpa using c)
        rw [h2] at h
        cases h
  have R1 := L.R.kp k1 (out1 L.nd 0 2 rfl rfl (by decide)) (out1 L.nd 1 2 rfl rfl (by decide))
  refine ⟨k2.at (k1.at L.W (sub_out L.iw s1)) (sub_out L.iw s2), R1.kp k2 (out1 L.nd 0 3 rfl rfl (by decide)) (out1 L.nd 1 3 rfl rfl (by decide)), U1.kp k2 (sub_out L.ip s2) (out1 L.nd 2 3 rfl rfl (by decide)), S2, ?_, ?_, L.nd, L.iw, L.ip, fresh⟩
  · obtain ⟨ws, h1, h2⟩ := L.I
    exact ⟨ws, k2.at (k1.at h1 (out1 L.nd 5 2 rfl rfl (by decide))) (out1 L.nd 5 3 rfl rfl (by decide)), Paired.mapP h2 fun _ _ z => (z.kp k1 s1).kp k2 s2⟩
  · obtain ⟨ws, h1, h2⟩ := L.G
    exact ⟨ws, k2.at (k1.at h1 (out1 L.nd 6 2 rfl rfl (by decide))) (out1 L.nd 6 3 rfl rfl (by decide)), Paired.mapP h2 fun _ _ z => (z.kp k1).kp k2⟩
/-- the purse is loaded anew -/
theorem LawAt.load (L : LawAt a H A rs g q) {H1 : Hp} {X : List It} {p l lh : Addr} (k1 : Same H H1) (hp : H p = none) (hl : H l = none) (U1 : PurAt a.cp H1 p A.r l X) (h1 : HeldAt H lh X) (h2 : lh ∉ A.M)
    (e1 : H1 A.d = some (.dK (sd A.lh A.lc q))) : LawAt a (upd H1 A.d (.dK (sd lh A.lc q))) { A with p := p, l := l, lh := lh } rs { g with its := X } q := by
  have L1 := L.same k1
  have k2 : Kp [A.d] H1 (upd H1 A.d (.dK (sd lh A.lc q))) := Kp.put e1 (fun xs z => by cases z) (by simp)
  have s2 : ∀ b ∈ [A.d], b ∈ A.M := fun b hb => by
    unfold Ad.M
    rw [List.mem_singleton.mp hb]
    simp
  have nl : ∀ x, H x ≠ none → x ≠ l := fun x hx z => hx (z ▸ hl)
  have nM : ∀ x ∈ A.M, x ≠ l := fun x hx => nl x (L.live x hx)
  have nm : ∀ x, x ∉ A.M → H x ≠ none → x ∉ ({ A with p := p, l := l, lh := lh } : Ad).M := fun x hx h0 m => by
    have m : x ∈ [A.r, A.lr, l, A.d, A.lc, A.li, A.lg] := m
    have hx : x ∉ [A.r, A.lr, A.l, A.d, A.lc, A.li, A.lg] := hx
    simp only [List.mem_cons, List.not_mem_nil, or_false, not_or] at m hx
    have := nl x h0
    rcases m with e | e | e | e | e | e | e
    · exact hx.1 e
    · exact hx.2.1 e
    · exact this e
    · exact hx.2.2.2.1 e
    · exact hx.2.2.2.2.1 e
    · exact hx.2.2.2.2.2.1 e
    · exact hx.2.2.2.2.2.2 e
  have h1' := h1.kp (Kp.of (S := []) k1) (by simp)
  have ll : H lh ≠ none := by
    obtain ⟨_, z, _⟩ := h1
    rw [z]
    exact fun y => by cases y
  obtain ⟨⟨dx, pe⟩, vl, le, _⟩ := id U1
  have npl : p ≠ l := ne_of pe le (by intro z; cases z)
  have ipM : p ∉ ({ A with p := p, l := l, lh := lh } : Ad).M := fun m => by
    have m : p ∈ [A.r, A.lr, l, A.d, A.lc, A.li, A.lg] := m
    have live := L.live
    have o : ∀ x ∈ A.M, p ≠ x := fun x hx z => live x hx (z ▸ hp)
    simp only [List.mem_cons, List.not_mem_nil, or_false] at m
    unfold Ad.M at o
    rcases m with e | e | e | e | e | e | e
    · exact o A.r (by simp) e
    · exact o A.lr (by simp) e
    · exact npl e
    · exact o A.d (by simp) e
    · exact o A.lc (by simp) e
    · exact o A.li (by simp) e
    · exact o A.lg (by simp) e
  have nd' : ({ A with p := p, l := l, lh := lh } : Ad).M.Nodup := by
    have z := L.nd
    unfold Ad.M at z nM ⊢
    have m0 := nM A.r (by simp)
    have m1 := nM A.lr (by simp)
    have m3 := nM A.d (by simp)
    have m4 := nM A.lc (by simp)
    have m5 := nM A.li (by simp)
    have m6 := nM A.lg (by simp)
    simp only [List.nodup_cons, List.mem_cons, List.not_mem_nil, or_false, not_or, List.nodup_nil, not_false_eq_true, and_true] at z ⊢
    obtain ⟨⟨a1, a2, a3, a4, a5, a6⟩, ⟨b2, b3, b4, b5, b6⟩, ⟨c3, c4, c5, c6⟩, d1, e1, f1⟩ := z
    exact ⟨⟨a1, m0, a3, a4, a5, a6⟩, ⟨m1, b3, b4, b5, b6⟩, ⟨m3.symm, m4.symm, m5.symm, m6.symm⟩, d1, e1, f1⟩
  have wl : H A.w ≠ none := by
    rw [L.W]
    exact fun y => by cases y
  refine ⟨k2.at L1.W (sub_out L.iw s2), L1.R.kp k2 (out1 L.nd 0 3 rfl rfl (by decide)) (out1 L.nd 1 3 rfl rfl (by decide)), U1.kp k2 ?_ ?_,
    ⟨upd_same, h1'.kp k2 (sub_out h2 s2), k2.at L1.S.c (out1 L.nd 4 3 rfl rfl (by decide)), L1.S.n⟩, ?_, ?_, nd', nm _ L.iw wl, ipM, nm _ h2 ll⟩
  · have live := L.live A.d (by unfold Ad.M; simp)
    exact fun m => live ((List.mem_singleton.mp m) ▸ hp)
  · have live := L.live A.d (by unfold Ad.M; simp)
    exact fun m => live ((List.mem_singleton.mp m) ▸ hl)
  · obtain ⟨ws, g1, g2⟩ := L1.I
    refine ⟨ws, k2.at g1 (out1 L.nd 5 3 rfl rfl (by decide)), ?_⟩
    obtain ⟨ws0, g01, g02⟩ := L.I
    rw [k1 _ _ g01] at g1
    cases g1
    refine Paired.mapP g02 fun v Y z => ?_
    obtain ⟨qq, hh, y1, y2, y3, y4⟩ := z
    have live : H hh ≠ none := by
      obtain ⟨_, z, _⟩ := y3
      rw [z]
      exact fun y => by cases y
    exact ⟨qq, hh, y1, k2.tup (k1 _ _ y2), (y3.kp (Kp.of (S := []) k1) (by simp)).kp k2 (sub_out y4 s2), nm _ y4 live⟩
  · obtain ⟨ws, g1, g2⟩ := L1.G
    exact ⟨ws, k2.at g1 (out1 L.nd 6 3 rfl rfl (by decide)), Paired.mapP g2 fun _ _ z => z.kp k2⟩
end

/-! ### data -/
def tD (t : List Int) : PyData := .tuple (t.map PyData.int)
def bD (s u v : Int) (x : List Int) : PyData := .tuple [.int s, .int u, .int v, tD x]
def iD (i : It) : PyData := .tuple [tD i.t, bD i.s i.u i.v i.x]
section
variable {K : PySem.W.Frag} {H : Hp}
theorem dp_ints : ∀ t : List Int, DpAll K H (t.map V.int) (t.map PyData.int)
  | [] => .nil
  | z :: t => .cons (.int z) (dp_ints t)
theorem dp_t {T : Addr} {t : List Int} (h : TkAt H T t) : Dp K H (.ref T) (tD t) := .tup (SqT.of h) (dp_ints t)
theorem dp_b {B : Addr} {s u v : Int} {x : List Int} (h : BlAt H B s u v x) : Dp K H (.ref B) (bD s u v x) := by
  obtain ⟨C, h1, h2⟩ := h
  exact .tup (SqT.of h1) (.cons (.int s) (.cons (.int u) (.cons (.int v) (.cons (dp_t h2) .nil))))
theorem dp_i {q T B : Addr} {i : It} (h : H q = some (.tup [.ref T, .ref B])) (hT : TkAt H T i.t) (hB : BlAt H B i.s i.u i.v i.x) : Dp K H (.ref q) (iD i) := .tup (SqT.of h) (.cons (dp_t hT) (.cons (dp_b hB) .nil))
theorem dp_g : ∀ {vs : List V} {ts : List (List Int)}, Paired (TkV H) vs ts → DpAll K H vs (ts.map tD)
  | _, _, .nil => .nil
  | _, _, .cons ⟨_, e, h⟩ r => by
    subst e
    exact .cons (dp_t h) (dp_g r)
end
theorem lay_ints : ∀ t : List Int, PyData.canLayAll0 (t.map PyData.int) = true
  | [] => by simp [PyData.canLayAll0]
  | z :: t => by simp [PyData.canLayAll0, PyData.canLay0, lay_ints t]
theorem dep_ints : ∀ t : List Int, PyData.depthAll (t.map PyData.int) = 0
  | [] => by simp [PyData.depthAll]
  | z :: t => by simp [PyData.depthAll, PyData.depth, dep_ints t]
theorem lay_t (t : List Int) : (tD t).canLay0 = true := by simp [tD, PyData.canLay0, lay_ints t]
theorem dep_t (t : List Int) : (tD t).depth = 1 := by simp [tD, PyData.depth, dep_ints t]
theorem sh_t (t : List Int) : SeqAt.shaped (tD t) = true := by
  show ((tD t).canLay0 && decide ((tD t).depth ≤ 64)) = true
  rw [lay_t, dep_t]
  rfl
theorem lay_i (i : It) : (iD i).canLay0 = true := by simp [iD, bD, PyData.canLay0, PyData.canLayAll0, lay_t]
theorem dep_i (i : It) : (iD i).depth ≤ 64 := by
  simp only [iD, bD, PyData.depth, PyData.depthAll, dep_t]
  omega
theorem sh_i (i : It) : SeqAt.shaped (iD i) = true := by
  show ((iD i).canLay0 && decide ((iD i).depth ≤ 64)) = true
  rw [lay_i, decide_eq_true (dep_i i)]
  rfl
theorem lay_g : ∀ ts : List (List Int), PyData.canLayAll0 (ts.map tD) = true
  | [] => by simp [PyData.canLayAll0]
  | z :: t => by simp [PyData.canLayAll0, lay_t, lay_g t]
theorem dep_g : ∀ ts : List (List Int), PyData.depthAll (ts.map tD) ≤ 1
  | [] => by simp [PyData.depthAll]
  | z :: t => by
    have := dep_g t
    have h := dep_t z
    simp only [List.map_cons, PyData.depthAll]
    omega
theorem sh_g (ts : List (List Int)) : SeqAt.shaped (.list (ts.map tD)) = true := by
  have h : PyData.depth (.list (ts.map tD)) ≤ 64 := by
    have := dep_g ts
    simp only [PyData.depth]
    omega
  have h2 : PyData.canLay0 (.list (ts.map tD)) = true := by
    simp only [PyData.canLay0]
    exact lay_g ts
  show (PyData.canLay0 (.list (ts.map tD)) && decide (PyData.depth (.list (ts.map tD)) ≤ 64)) = true
  rw [h2, decide_eq_true h]
  rfl
theorem sh_l (t : List Int) : SeqAt.shaped (.list (t.map PyData.int)) = true := by
  have h : PyData.depth (.list (t.map PyData.int)) ≤ 64 := by
    have := dep_ints t
    simp only [PyData.depth]
    omega
  have h2 : PyData.canLay0 (.list (t.map PyData.int)) = true := by
    simp only [PyData.canLay0]
    exact lay_ints t
  show (PyData.canLay0 (.list (t.map PyData.int)) && decide (PyData.depth (.list (t.map PyData.int)) ≤ 64)) = true
  rw [h2, decide_eq_true h]
  rfl
theorem sh_s {x : Str} (h : PyData.strOk x = true) : SeqAt.shaped (.str x) = true := by
  show (PyData.canLay0 (.str x) && decide (PyData.depth (.str x) ≤ 64)) = true
  simp [PyData.canLay0, PyData.depth, h]
theorem eqv_ints : ∀ t u : List Int, PyData.eqvAll (t.map PyData.int) (u.map PyData.int) = true → t = u
  | [], [], _ => rfl
  | [], _ :: _, h => by simp [PyData.eqvAll] at h
  | _ :: _, [], h => by simp [PyData.eqvAll] at h
  | x :: t, y :: u, h => by
    simp only [List.map_cons, PyData.eqvAll, PyData.eqv, Bool.and_eq_true, beq_iff_eq] at h
    rw [h.1, eqv_ints t u h.2]
theorem any_no {ts : List (List Int)} {t : List Int} (h : t ∉ ts) : ((ts.map tD).any fun z => PyData.eqv z (tD t)) = false := by
  rw [List.any_eq_false]
  intro z hz e
  obtain ⟨u, hu, rfl⟩ := List.mem_map.mp hz
  have e : PyData.eqvAll (u.map PyData.int) (t.map PyData.int) = true := by
    simpa [tD, PyData.eqv] using e
  exact h (eqv_ints u t e ▸ hu)
end K57

/-! the law's loop, branch by branch *-/
namespace K57
open PySem L2
def nost : Stmt := .Pass ⟨0, 0, 0, 0⟩
def forBody (s : Stmt) : List Stmt := match s with
  | .For _ _ b _ _ => b
  | _ => []
def thenOf (s : Stmt) : List Stmt := match s with
  | .If _ b _ _ => b
  | _ => []
def elseOf (s : Stmt) : List Stmt := match s with
  | .If _ _ b _ => b
  | _ => []
abbrev lB : List Stmt := forBody ((defBody sLaw).getD 6 nost)
abbrev if1 : Stmt := lB.getD 4 nost
abbrev if2 : Stmt := (elseOf if1).getD 0 nost
abbrev if3 : Stmt := (elseOf if2).getD 0 nost
abbrev NL : List Str := ["_law_script", "_law_row_here", "_law_counter", "_law_purse", "_law_state", "_law_images", "_law_given", "_law_k", "_law_number", "_law_x", "_law_epoch", "_law_kind", "_law_ticket", "_law_blinding", "_law_due", "_law_told_here", "_law_text_here", "_law_held", "_law_spare", "_law_beside", "_law_one"]
theorem scL : FnScope NL ["_law_script"] (defScope sLaw) := ⟨rfl, rfl, rfl, by decide +kernel, rfl, by decide +kernel, by decide +kernel⟩
def FrA (σ : L2.St) (s : V) (A : Ad) : Prop := ∃ v7 v8 v9 v10 v11 v12 v13 v14 v15 v16 v17 v18 v19 : Option V,
  σ = [some s, some (.ref A.w), some (.ref A.r), some (.ref A.p), some (.ref A.d), some (.ref A.li), some (.ref A.lg), v7, v8, v9, v10, v11, v12, v13, v14, v15, v16, v17, v18, v19, none]
/-- an event: from what stands to what stands -/
def tStep (a : Adr) (s : V) : TS := fun D σ H => ∃ (k : Nat) (A : Ad) (rs : List Int) (g : Gh) (num x : Int) (v12 v13 v14 v15 v16 v17 v18 v19 : Option V),
  σ = [some s, some (.ref A.w), some (.ref A.r), some (.ref A.p), some (.ref A.d), some (.ref A.li), some (.ref A.lg), some (.int (k : Int)), some (.int num), some (.int x), some (.int (x % 3)), some (.int (num % 8)), v12, v13, v14, v15, v16, v17, v18, v19, none] ∧
  LawAt a H A rs g g.pw ∧ GhOk k g ∧ k < 24 ∧ Cells rs ∧ 0 ≤ num ∧ 0 ≤ x ∧ x < 1009 ∧
  ∀ (σ' : L2.St) (H' : Hp) (A' : Ad) (g' : Gh), FrA σ' s A' → LawAt a H' A' rs g' g'.pw → GhOk (k + 1) g' → D.nx σ' H'
theorem ps_imp {X : Cx} {st : Stmt} {t t' : TS} (h : PS X st t) (i : ∀ D σ H, t' D σ H → t D σ H) : PS X st t' := ⟨fun pins s σ H D I q => h.run pins s σ H D I (i D σ H q)⟩
theorem pss_imp {X : Cx} {st : List Stmt} {t t' : TS} (h : PSs X st t) (i : ∀ D σ H, t' D σ H → t D σ H) : PSs X st t' := ⟨fun pins s σ H D I q => h.run pins s σ H D I (i D σ H q)⟩
theorem Cells.at {rs : List Int} (h : Cells rs) (j : Nat) : 0 ≤ rs.getD j 0 ∧ rs.getD j 0 < 1009 := by
  rw [List.getD_eq_getElem?_getD]
  cases e : rs[j]? with
  | none => exact ⟨by decide, by decide⟩
  | some z => exact h z (List.mem_of_getElem? e)
theorem oke_mod {x : Int} : OkE (x % 3) := ⟨Int.emod_nonneg _ (by decide), Int.emod_lt_of_pos _ (by decide)⟩
theorem it_eta {cs : List Int} {its : List It} {k : Nat} {e x y : Int} : (⟨e, nextN cs its e, [1 + (k : Int), x, 2, 3, 4, 1 + y], 1 + x, 2, (k : Int), [x, 0, 1, 2]⟩ : It) = newIt k e (nextN cs its e) x y := rfl
/-- what the law calls -/
structure Ls (K : PySem.W.Frag) (mg : Str → Option Value) (a : Adr) (fRow fAt fTo fTx fTk fPu fGo fLd fNu fIt fRI fRS : Addr) (dRow dAt dTo dTx dTk dPu dGo dLd dNu dIt dRI dRS : FuncData) : Prop where
  Row : Df K mg "_law_row" sRow fRow dRow ["_law_script"]
  At : Df K mg "_law_at" sAt fAt dAt ["_law_row_here", "_law_at_here"]
  To : Df K mg "_law_told" sTold fTo dTo ["_law_purse", "_law_kind", "_law_epoch", "_law_ticket", "_law_blinding"]
  Tx : Df K mg "_law_text" sText fTx dTx ["_law_held"]
  Tk : Df K mg "_law_taken" sTaken fTk dTk ["_law_state", "_law_epoch"]
  Pu : Df K mg "_law_put" sPut fPu dPu ["_law_state", "_law_epoch", "_law_ticket", "_law_blinding"]
  Go : Df K mg "_law_good" sGood fGo dGo ["_law_purse", "_law_state"]
  Ld : Df K mg "load_purse" sLoad fLd dLd ["counter", "text"]
  Nu : Df K mg "read_numbers" sNums fNu dNu ["words", "most"]
  It : Df K mg "read_item" sItem fIt dIt ["text"]
  RI : Fun K "__init__" "Register.__init__" sRInit fRI dRI
  RIb : Binds K dRI ["self"] []
  RIm : Mk K a.cr fRI
  RS : Mt K a.cr "supply" "Register.supply" sRSup fRS dRS ["self", "raises"]
section
variable {P : Program} {w : World} {K : PySem.W.Frag} {mg : Str → Option Value} {base : Heap} {a : Adr}
variable {fE fC fN fU fI fS fB fM fJ fR fP fT fL fW : Addr} {dE dC dN dU dI dS dB dM dJ dR dP dT dL dW : FuncData}
variable {fRow fAt fTo fTx fTk fPu fGo fLd fNu fIt fRI fRS : Addr} {dRow dAt dTo dTx dTk dPu dGo dLd dNu dIt dRI dRS : FuncData}
variable {f : Addr} {cdv : Value} {A : Around} {outer : List Env} {s : Shared} {H0 : Hp} {E : XK}
abbrev XL (P : Program) (w : World) (K : PySem.W.Frag) (mg : Str → Option Value) (base : Heap) (f : Addr) (cdv : Value) (A : Around) (outer : List Env) (s : Shared) (H0 : Hp) (E : XK) : Cx := (cxOf CX0 P w K mg base NL "law" (defScope sLaw) f cdv A outer s H0 E).nox
/-- put -/
theorem br_put (sv : V) (T : Txt K mg a) (M : Ms K mg a fE fC fN fU fI fS fB fM fJ dE dC dN dU dI dS dB dM dJ) (M2 : Mq K mg a fR fP fT fL fW dR dP dT dL dW) (L : Ls K mg a fRow fAt fTo fTx fTk fPu fGo fLd fNu fIt fRI fRS dRow dAt dTo dTx dTk dPu dGo dLd dNu dIt dRI dRS)
    (hr : Room 6 (XL P w K mg base f cdv A outer s H0 E).A) : PSs (XL P w K mg base f cdv A outer s H0 E) (thenOf if1) (tStep a sv) := by
  have GT : FnOk P w K mg base CX0 5 fTo dTo ["_law_purse", "_law_kind", "_law_epoch", "_law_ticket", "_law_blinding"] (spTold a) := ok_told L.To.F T M.E M.C M.N M.U M2
  have GA : FnOk P w K mg base CX0 1 fAt dAt ["_law_row_here", "_law_at_here"] (spAt K) := ok_at L.At.F T
  have GP : FnOk P w K mg base CX0 1 fPu dPu ["_law_state", "_law_epoch", "_law_ticket", "_law_blinding"] spPtL := ok_putL L.Pu.F T
  have hr1 : Room 1 (XL P w K mg base f cdv A outer s H0 E).A := hr.mono (by decide)
  have hr5 : Room 5 (XL P w K mg base f cdv A outer s H0 E).A := hr.mono (by decide)
  refine pss_imp (pss_cons (ps_set (i := 12) scL.nd rfl (Or.inl rfl) (pe_tup (pa_cons (pe_op op_add pe_int (pv 7)) (pa_cons (pv 9) (pa_cons pe_int (pa_cons pe_int (pa_cons pe_int (pa_cons (pe_op op_add pe_int
        (pe_callTy call_int1 (by rfl) T.int (by decide +kernel) (pa_cons (pe_call GA hr1 rfl L.At.m L.At.F.kp L.At.b .nil pass0 (pa_cons (pv 1) (pa_cons (pe_op op_add (pe_op op_mul pe_int (pv 7)) pe_int) pa_nil))) pa_nil))) pa_nil))))))))
    (pss_cons (ps_set (i := 13) scL.nd rfl (Or.inl rfl) (pe_tup (pa_cons (pe_op op_add pe_int (pv 9)) (pa_cons pe_int (pa_cons (pv 7) (pa_cons (pe_tup (pa_cons (pv 9) (pa_cons pe_int (pa_cons pe_int (pa_cons pe_int pa_nil))))) pa_nil))))))
    (pss_one (ps_if (pt_cmpR (op_neD hr.units) (pe_call GT hr5 rfl L.To.m L.To.F.kp L.To.b .nil pass0 (pa_cons (pv 3) (pa_cons pe_str (pa_cons (pv 10) (pa_cons (pv 12) (pa_cons (pv 13) pa_nil))))))
      (pe_call GP hr1 rfl L.Pu.m L.Pu.F.kp L.Pu.b .nil pass0 (pa_cons (pv 4) (pa_cons (pv 10) (pa_cons (pv 12) (pa_cons (pv 13) pa_nil))))) (nomark _)) (pss_one (ps_ret pe_bl)) pss_nil)))) ?_
  rintro D σ H ⟨k, A, rs, g, num, x, v12, v13, v14, v15, v16, v17, v18, v19, rfl, LA, GO, hk, hc, hn0, hx0, hx9, nx⟩
  have hy := hc.at ((3 * (k : Int) + 2).toNat)
  refine ⟨_, rfl, _, _, rfl, rfl, _, rfl, _, rfl, _, rfl, _, _, rfl, rfl, .inl ⟨by decide, by decide⟩, _, _, rfl, rfl, A.w, rs, 3 * (k : Int) + 2, rfl, SqL.of LA.W, by omega, .inl ⟨_, rfl, _, _, rfl, rfl, by show 6 ≤ sizeLine; decide, fun T1 h1 => ?_⟩⟩
  generalize rs.getD (3 * (k : Int) + 2).toNat 0 = y at hy ⊢
  have s1 : Same H (upd H T1 (.tup [.int (1 + (k : Int)), .int x, .int 2, .int 3, .int 4, .int (1 + y)])) := Same.new h1
  have e1 : TkAt (upd H T1 (.tup [.int (1 + (k : Int)), .int x, .int 2, .int 3, .int 4, .int (1 + y)])) T1 [1 + (k : Int), x, 2, 3, 4, 1 + y] := upd_same
  generalize upd H T1 (.tup [.int (1 + (k : Int)), .int x, .int 2, .int 3, .int 4, .int (1 + y)]) = H1 at s1 e1 ⊢
  refine ⟨_, rfl, _, _, rfl, rfl, _, rfl, _, rfl, by show 4 ≤ sizeLine; decide, fun C h2 => ?_⟩
  have s2 : Same H1 (upd H1 C (.tup [.int x, .int 0, .int 1, .int 2])) := Same.new h2
  have e2 : TkAt (upd H1 C (.tup [.int x, .int 0, .int 1, .int 2])) C [x, 0, 1, 2] := upd_same
  generalize upd H1 C (.tup [.int x, .int 0, .int 1, .int 2]) = H2 at s2 e2 ⊢
  refine ⟨by show 4 ≤ sizeLine; decide, fun B h3 => ?_⟩
  have s3 : Same H2 (upd H2 B (.tup [.int (1 + x), .int 2, .int (k : Int), .ref C])) := Same.new h3
  have e3 : BlAt (upd H2 B (.tup [.int (1 + x), .int 2, .int (k : Int), .ref C])) B (1 + x) 2 (k : Int) [x, 0, 1, 2] := ⟨C, upd_same, s3 _ _ e2⟩
  generalize upd H2 B (.tup [.int (1 + x), .int 2, .int (k : Int), .ref C]) = H3 at s3 e3 ⊢
  have sA : Same H H3 := (s1.trans s2).trans s3
  have eT : TkAt H3 T1 [1 + (k : Int), x, 2, 3, 4, 1 + y] := e1.kp (Kp.of (S := []) (s2.trans s3))
  have L3 := LA.same sA
  have i12 := GO.its.len
  refine ⟨_, rfl, _, rfl, _, rfl, _, rfl, A.p, A.r, A.l, A.lr, g.cs, g.pw, g.its, Str.ofString "put", x % 3, .ref T1, .ref B, rfl, L3.R, L3.U, by omega, GO.its.inc, .inl rfl, fun z => absurd oke_mod z, fun _ => ⟨fun _ => ⟨fun hl H4 s4 => ?_, fun hl => ?_⟩, fun z => absurd z (by decide +kernel), fun z => absurd z (by decide +kernel)⟩⟩
  · -- full
    have L4 := L3.same s4
    refine ⟨_, rfl, _, rfl, _, rfl, _, rfl, A.d, A.lh, A.lc, g.cs, g.pw, g.its, x % 3, T1, B, _, _, _, _, _, rfl, L4.S, oke_mod, by omega, eT.kp (Kp.of (S := []) s4), e3.kp (Kp.of (S := []) s4), fun _ => ?_, fun z => by omega⟩
    refine ⟨_, _, .str _, .str _, sh_s (by decide +kernel), sh_s (by decide +kernel), _, rfl, ?_⟩
    rw [SeqAt.eqv_refl _ (SeqAt.canLay_of_shaped (sh_s (by decide +kernel)))]
    exact iteF (nx _ _ A g ⟨_, _, _, _, _, _, _, _, _, _, _, _, _, rfl⟩ L4 GO.next)
  · refine ⟨T1, B, [1 + (k : Int), x, 2, 3, 4, 1 + y], 1 + x, 2, (k : Int), [x, 0, 1, 2], rfl, rfl, eT, e3, fun H4 k4 U4 => ?_⟩
    have S4 := L3.S.kp k4 (out1 L3.nd 3 2 rfl rfl (by decide)) (sub_out L3.ih (by unfold Ad.M; simp)) (out1 L3.nd 4 2 rfl rfl (by decide))
    refine ⟨_, rfl, _, rfl, _, rfl, _, rfl, A.d, A.lh, A.lc, g.cs, g.pw, g.its, x % 3, T1, B, [1 + (k : Int), x, 2, 3, 4, 1 + y], 1 + x, 2, (k : Int), [x, 0, 1, 2], rfl, S4, oke_mod, by omega, eT.kp k4, e3.kp k4, fun z => by omega, fun _ H5 l2 k5 hl2 S5 => ?_⟩
    refine ⟨_, _, .non, .non, by rfl, by rfl, _, rfl, ?_⟩
    have GN := GO.put hk (oke_mod (x := x)) ⟨hx0, hx9⟩ hy hl
    have LN := L3.put k4 U4 k5 hl2 S5 (g.log ++ [newIt k (x % 3) (nextN g.cs g.its (x % 3)) x y])
    exact iteF (nx _ _ { A with lh := l2 } _ ⟨_, _, _, _, _, _, _, _, _, _, _, _, _, rfl⟩ LN GN)
end
end K57

/-! take; the image is kept *-/
namespace K57
open PySem L2
section
variable {P : Program} {w : World} {K : PySem.W.Frag} {mg : Str → Option Value} {base : Heap} {a : Adr}
variable {fE fC fN fU fI fS fB fM fJ fR fP fT fL fW : Addr} {dE dC dN dU dI dS dB dM dJ dR dP dT dL dW : FuncData}
variable {fRow fAt fTo fTx fTk fPu fGo fLd fNu fIt fRI fRS : Addr} {dRow dAt dTo dTx dTk dPu dGo dLd dNu dIt dRI dRS : FuncData}
variable {f : Addr} {cdv : Value} {A : Around} {outer : List Env} {s : Shared} {H0 : Hp} {E : XK}
theorem in_ok {X : Cx} {k : Nat} (h : Room k X.A) : X.A.units + 65 < cLine := by have := h.un; omega
theorem br_take (sv : V) (T : Txt K mg a) (M : Ms K mg a fE fC fN fU fI fS fB fM fJ dE dC dN dU dI dS dB dM dJ) (M2 : Mq K mg a fR fP fT fL fW dR dP dT dL dW) (L : Ls K mg a fRow fAt fTo fTx fTk fPu fGo fLd fNu fIt fRI fRS dRow dAt dTo dTx dTk dPu dGo dLd dNu dIt dRI dRS)
    (hr : Room 6 (XL P w K mg base f cdv A outer s H0 E).A) : PSs (XL P w K mg base f cdv A outer s H0 E) (thenOf if2) (tStep a sv) := by
  have GT : FnOk P w K mg base CX0 5 fTo dTo ["_law_purse", "_law_kind", "_law_epoch", "_law_ticket", "_law_blinding"] (spTold a) := ok_told L.To.F T M.E M.C M.N M.U M2
  have GK : FnOk P w K mg base CX0 1 fTk dTk ["_law_state", "_law_epoch"] spTkn := ok_taken L.Tk.F T
  have hr1 : Room 1 (XL P w K mg base f cdv A outer s H0 E).A := hr.mono (by decide)
  have hr5 : Room 5 (XL P w K mg base f cdv A outer s H0 E).A := hr.mono (by decide)
  refine pss_imp (pss_cons (ps_set (i := 14) scL.nd rfl (Or.inl rfl) (pe_call GK hr1 rfl L.Tk.m L.Tk.F.kp L.Tk.b .nil pass0 (pa_cons (pv 4) (pa_cons (pv 10) pa_nil))))
    (pss_cons (ps_set (i := 15) scL.nd rfl (Or.inl rfl) (pe_call GT hr5 rfl L.To.m L.To.F.kp L.To.b .nil pass0 (pa_cons (pv 3) (pa_cons pe_str (pa_cons (pv 10) (pa_cons pe_non (pa_cons pe_non pa_nil)))))))
    (pss_cons (ps_if (pt_cmpR (op_neD hr.units) (pv 15) (pv 14) (nomark _)) (pss_one (ps_ret pe_bl)) pss_nil)
    (pss_one (ps_if (pt_val (pe_callB call_isi (by rfl) T.isi (by decide +kernel) (pa_cons (pv 15) (pa_cons (pe_bltn (v := .ty "tuple") (by rfl) T.tup (by decide +kernel) rfl) pa_nil))))
      (pss_cons (ps_if (pt_cmpR (op_inD (in_ok hr)) (pe_ix ix_tup (pv 15) pe_int (fun _ _ => rfl)) (pv 6) rfl) (pss_one (ps_ret pe_bl)) pss_nil)
      (pss_one (ps_expr (pe_bm PySem.F.plainAttrs_list PySem.F.slot_list_append PySem.F.type_list_append mt_append (pv 6) (pa_cons (pe_ix ix_tup (pv 15) pe_int (fun _ _ => rfl)) pa_nil))))) pss_nil))))) ?_
  rintro D σ H ⟨k, A, rs, g, num, x, v12, v13, v14, v15, v16, v17, v18, v19, rfl, LA, GO, hk, hc, hn0, hx0, hx9, nx⟩
  have i12 := GO.its.len
  have nhc : A.lh ≠ A.lc := fun z => LA.ih (by unfold Ad.M; rw [z]; simp)
  -- both say the same word
  have word : ∀ (nm : Str) (H2 : Hp), PyData.strOk nm = true → Same H H2 → (∃ d e, Dp K H2 (.str nm) d ∧ Dp K H2 (.str nm) e ∧ SeqAt.shaped d = true ∧ SeqAt.shaped e = true ∧ PyData.eqv d e = true) := fun nm H2 hn _ =>
    ⟨_, _, .str nm, .str nm, sh_s hn, sh_s hn, SeqAt.eqv_refl _ (SeqAt.canLay_of_shaped (sh_s hn))⟩
  refine ⟨_, rfl, _, rfl, A.d, A.lh, A.lc, g.cs, g.pw, g.its, x % 3, rfl, LA.S, oke_mod, GO.its.inc, by omega, nhc, fun hu H1 s1 => ?_, fun i rest hu => ⟨fun h0 H1 s1 => ?_, fun h0 H1 q1 T1 B1 k1 n1 S1 e1 eT1 eB1 => ?_⟩⟩
  · -- missing
    have L1 := LA.same s1
    refine ⟨_, rfl, _, rfl, A.p, A.r, A.l, A.lr, g.cs, g.pw, g.its, Str.ofString "take", x % 3, _, _, rfl, L1.R, L1.U, by omega, GO.its.inc, .inr (.inl rfl), fun z => absurd oke_mod z, fun _ => ⟨fun z => absurd z (by decide +kernel), fun _ => ⟨fun _ H2 s2 => ?_, fun i rest hu2 => (by rw [hu] at hu2; cases hu2)⟩, fun z => absurd z (by decide +kernel)⟩⟩
    obtain ⟨d1, d2, w1, w2, w3, w4, w5⟩ := word (Str.ofString "missing") H2 (by decide +kernel) (s1.trans s2)
    refine ⟨_, rfl, _, rfl, d1, d2, w1, w2, w3, w4, _, rfl, ?_⟩
    rw [w5]
    refine iteF ⟨_, rfl, _, _, .type "str", .type "tuple", false, rfl, .ty "tuple", .base (.str _), kit_ty (by decide +kernel), _, rfl, ?_⟩
    exact iteF (nx _ _ A g ⟨_, _, _, _, _, _, _, _, _, _, _, _, _, rfl⟩ (L1.same s2) GO.next)
  · -- down
    have L1 := LA.same s1
    refine ⟨_, rfl, _, rfl, A.p, A.r, A.l, A.lr, g.cs, g.pw, g.its, Str.ofString "take", x % 3, _, _, rfl, L1.R, L1.U, by omega, GO.its.inc, .inr (.inl rfl), fun z => absurd oke_mod z, fun _ => ⟨fun z => absurd z (by decide +kernel), fun _ => ⟨fun hu2 => (by rw [hu] at hu2; cases hu2), fun i2 rest2 hu2 => ⟨fun _ H2 s2 => ?_, fun h1 => absurd h0 h1⟩⟩, fun z => absurd z (by decide +kernel)⟩⟩
    obtain ⟨d1, d2, w1, w2, w3, w4, w5⟩ := word (Str.ofString "down") H2 (by decide +kernel) (s1.trans s2)
    refine ⟨_, rfl, _, rfl, d1, d2, w1, w2, w3, w4, _, rfl, ?_⟩
    rw [w5]
    refine iteF ⟨_, rfl, _, _, .type "str", .type "tuple", false, rfl, .ty "tuple", .base (.str _), kit_ty (by decide +kernel), _, rfl, ?_⟩
    exact iteF (nx _ _ A g ⟨_, _, _, _, _, _, _, _, _, _, _, _, _, rfl⟩ (L1.same s2) GO.next)
  · have sM : ∀ b ∈ [A.d, A.lc], b ∈ A.M := fun b hb => by
      unfold Ad.M
      simp only [List.mem_cons, List.not_mem_nil, or_false] at hb ⊢
      rcases hb with e | e <;> simp [e]
    have o2 : ∀ (i : Nat) (y : Addr), A.M[i]? = some y → i ≠ 3 → i ≠ 4 → y ∉ [A.d, A.lc] := fun i y hi n3 n4 m => by
      rcases List.mem_cons.mp m with e | m
      · rw [e] at hi; exact n3 (nd_ix LA.nd hi (show A.M[3]? = some A.d from rfl))
      · rw [List.mem_singleton.mp m] at hi; exact n4 (nd_ix LA.nd hi (show A.M[4]? = some A.lc from rfl))
    have R1 := LA.R.kp k1 (o2 0 _ rfl (by decide) (by decide)) (o2 1 _ rfl (by decide) (by decide))
    have U1 := LA.U.kp k1 (sub_out LA.ip sM) (o2 2 _ rfl (by decide) (by decide))
    refine ⟨_, rfl, _, rfl, A.p, A.r, A.l, A.lr, g.cs, g.pw, g.its, Str.ofString "take", x % 3, _, _, rfl, R1, U1, by omega, GO.its.inc, .inr (.inl rfl), fun z => absurd oke_mod z, fun _ => ⟨fun z => absurd z (by decide +kernel), fun _ => ⟨fun hu2 => (by rw [hu] at hu2; cases hu2), fun i2 rest2 hu2 => ⟨fun z => absurd z h0, fun _ H2 q2 T2 B2 k2 n2 R2 e2 eT2 eB2 => ?_⟩⟩, fun z => absurd z (by decide +kernel)⟩⟩
    rw [hu] at hu2
    cases hu2
    have d1 := dp_i (K := K) (k2.tup e1) (eT1.kp k2) (eB1.kp k2)
    have d2 := dp_i (K := K) e2 eT2 eB2
    refine ⟨_, rfl, _, rfl, _, _, d2, d1, sh_i _, sh_i _, _, rfl, ?_⟩
    rw [SeqAt.eqv_refl _ (lay_i _)]
    refine iteF ⟨_, rfl, _, _, .type "tuple", .type "tuple", true, rfl, .ty "tuple", .base (.tup e2), kit_ty (by decide +kernel), _, rfl, ?_⟩
    obtain ⟨ng, GN⟩ := GO.take GO.its oke_mod hu (pwNext g.pw)
    have sR : ∀ b ∈ [A.r, A.lr], b ∈ A.M := fun b hb => by
      unfold Ad.M
      simp only [List.mem_cons, List.not_mem_nil, or_false] at hb ⊢
      rcases hb with e | e <;> simp [e]
    have o1 : ∀ (i : Nat) (y : Addr), A.M[i]? = some y → i ≠ 0 → i ≠ 1 → y ∉ [A.r, A.lr] := fun i y hi n3 n4 m => by
      rcases List.mem_cons.mp m with e | m
      · rw [e] at hi; exact n3 (nd_ix LA.nd hi (show A.M[0]? = some A.r from rfl))
      · rw [List.mem_singleton.mp m] at hi; exact n4 (nd_ix LA.nd hi (show A.M[1]? = some A.lr from rfl))
    have S2 := S1.kp k2 (o1 3 _ rfl (by decide) (by decide)) (sub_out LA.ih sR) (o1 4 _ rfl (by decide) (by decide))
    have kT : Kp [A.r, A.lr, A.d, A.lc] H H2 := (k1.more (by simp)).trans (k2.more (by simp))
    have L2 := LA.move kT R2 S2
    obtain ⟨vg, g1, g2⟩ := L2.G
    have d3 : Dp K H2 (.ref A.lg) (.list (g.giv.map tD)) := .lst (SqL.of g1) (dp_g g2)
    refine iteT ⟨_, rfl, q2, _, _, _, rfl, rfl, SqT.of e2, rfl, _, rfl, _, _, dp_t eT2, d3, sh_t _, sh_g _, _, rfl, ?_⟩
    rw [any_no ng]
    refine iteF ⟨_, rfl, .inl ⟨rfl, _, SqL.of g1⟩, _, rfl, q2, _, _, _, rfl, rfl, SqT.of e2, rfl, A.lg, _, _, rfl, rfl, g1, ?_, ?_⟩
    · rw [paired_len g2]
      have := GO.ngiv
      have z : g.giv.length ≤ 1000 := by omega
      exact small1000 z
    · exact nx _ _ A _ ⟨_, _, _, _, _, _, _, _, _, _, _, _, _, rfl⟩ (L2.give g1 eT2) GN
end
end K57

/-! the image is kept; a purse is loaded *-/
namespace K57
open PySem L2
section
variable {P : Program} {w : World} {K : PySem.W.Frag} {mg : Str → Option Value} {base : Heap} {a : Adr}
variable {fE fC fN fU fI fS fB fM fJ fR fP fT fL fW : Addr} {dE dC dN dU dI dS dB dM dJ dR dP dT dL dW : FuncData}
variable {fRow fAt fTo fTx fTk fPu fGo fLd fNu fIt fRI fRS : Addr} {dRow dAt dTo dTx dTk dPu dGo dLd dNu dIt dRI dRS : FuncData}
variable {f : Addr} {cdv : Value} {A : Around} {outer : List Env} {s : Shared} {H0 : Hp} {E : XK}
theorem br_save (sv : V) (T : Txt K mg a) (M : Ms K mg a fE fC fN fU fI fS fB fM fJ dE dC dN dU dI dS dB dM dJ) (L : Ls K mg a fRow fAt fTo fTx fTk fPu fGo fLd fNu fIt fRI fRS dRow dAt dTo dTx dTk dPu dGo dLd dNu dIt dRI dRS)
    (hr : Room 6 (XL P w K mg base f cdv A outer s H0 E).A) : PSs (XL P w K mg base f cdv A outer s H0 E) (thenOf if3) (tStep a sv) := by
  have GM : FnOk P w K mg base CX0 2 fM dM ["self"] (spIm a) := ok_image M.M.F T M.J
  have GS : FnOk P w K mg base CX0 1 fRS dRS ["self", "raises"] (spRS a) := ok_rsup L.RS.F T
  have hr1 : Room 1 (XL P w K mg base f cdv A outer s H0 E).A := hr.mono (by decide)
  have hr2 : Room 2 (XL P w K mg base f cdv A outer s H0 E).A := hr.mono (by decide)
  have hu := hu_of hr
  refine pss_imp (pss_cons (ps_expr (pe_bm PySem.F.plainAttrs_list PySem.F.slot_list_append PySem.F.type_list_append mt_append (pv 5) (pa_cons (pe_tup (pa_cons (pe_meth0 (pv 3) T.cp M.M.m GM hr2 M.M.b .nil pass0) (pa_cons (pe_dget hu (pv 4) pe_str (fun _ _ => rfl)) pa_nil))) pa_nil)))
    (pss_one (ps_if (pt_cmpR op_eq (pe_op op_mod (pe_op op_fdiv (pv 8) pe_int) pe_int) pe_int (nomark _))
      (pss_cons (ps_dput hu (pv 4) pe_str (pe_op op_sub (pe_op op_mod (pv 9) pe_int) pe_int) rfl)
      (pss_one (ps_expr (pe_meth (pv 2) T.cr L.RS.m GS hr1 L.RS.b .nil pass0 (pa_cons (pe_op op_sub (pe_op op_mod (pv 9) pe_int) pe_int) pa_nil))))) pss_nil))) ?_
  rintro D σ H ⟨k, A, rs, g, num, x, v12, v13, v14, v15, v16, v17, v18, v19, rfl, LA, GO, hk, hc, hn0, hx0, hx9, nx⟩
  have i12 := GO.its.len
  obtain ⟨vi, g1, g2⟩ := LA.I
  obtain ⟨⟨dx, hp⟩, _⟩ := id LA.U
  refine ⟨_, rfl, .inl ⟨rfl, _, SqL.of g1⟩, _, rfl, A.p, dx, _, rfl, hp, pf_no _ _ (by decide +kernel) (by decide +kernel), A.p, A.r, A.l, g.its, rfl, LA.U, i12, GO.ok GO.its, fun H1 s1 => ?_⟩
  refine ⟨_, rfl, A.d, _, rfl, dg_h (s1 _ _ LA.S.d), by show 2 ≤ sizeLine; decide, fun q hq => ?_⟩
  have s2 : Same H1 (upd H1 q (.tup [.str (img g.its), .ref A.lh])) := Same.new hq
  have e2 : upd H1 q (.tup [.str (img g.its), .ref A.lh]) q = some (.tup [.str (img g.its), .ref A.lh]) := upd_same
  generalize upd H1 q (.tup [.str (img g.its), .ref A.lh]) = H2 at s2 e2 ⊢
  have s12 := s1.trans s2
  have L2 := LA.same s12
  have g12 := s12 _ _ g1
  refine ⟨A.li, _, _, rfl, rfl, g12, ?_, ?_⟩
  · rw [paired_len g2]
    have := GO.nimg
    exact small1000 (n := g.imgs.length) (by omega)
  have L3 := L2.save g12 e2
  have G3 := GO.save
  refine ⟨_, rfl, _, _, rfl, rfl, ⟨by decide, by decide⟩, _, _, rfl, rfl, (by show (0 : Int) < 4; decide), rfl, _, rfl, ?_⟩
  refine ite2 (fun _ => ?_) (fun _ => ?_)
  · refine ⟨_, rfl, _, _, rfl, rfl, (by show (0 : Int) < 4; decide), _, _, rfl, rfl, _, rfl, _, _, rfl, dp_p L3.S.d _, ?_⟩
    have kd : Kp [A.d] _ (upd (upd H2 A.li (.lst (_ ++ [.ref q]))) A.d (.dK (sd A.lh A.lc (x % 4 - 1)))) := Kp.put L3.S.d (fun xs z => by cases z) (List.mem_cons_self ..)
    have sd1 : ∀ b ∈ [A.d], b ∈ A.M := fun b hb => by
      unfold Ad.M
      rw [List.mem_singleton.mp hb]
      simp
    have R4 := L3.R.kp kd (out1 L3.nd 0 3 rfl rfl (by decide)) (out1 L3.nd 1 3 rfl rfl (by decide))
    have S4 : StAt _ A.d A.lh A.lc g.its g.cs (x % 4 - 1) := ⟨upd_same, L3.S.h.kp kd (sub_out L3.ih sd1), kd.at L3.S.c (out1 L3.nd 4 3 rfl rfl (by decide)), L3.S.n⟩
    obtain ⟨dr, hR⟩ := id R4.o
    refine ⟨_, rfl, A.r, dr, _, rfl, hR, rf_no _ _ (by decide +kernel) (by decide +kernel), _, rfl, _, _, rfl, rfl, (by show (0 : Int) < 4; decide), _, _, rfl, rfl, A.r, A.lr, g.cs, g.pw, x % 4 - 1, rfl, R4, ?_, fun H5 k5 R5 => ?_⟩
    · have := Int.emod_nonneg x (show (4 : Int) ≠ 0 by decide)
      omega
    · have S5 := S4.kp k5 (out1 L3.nd 3 0 rfl rfl (by decide)) (sub_out L3.ih (by unfold Ad.M; simp)) (out1 L3.nd 4 0 rfl rfl (by decide))
      have L5 := L3.move (cs := g.cs) (pw := x % 4 - 1) (q' := x % 4 - 1) ((kd.more (by simp)).trans (k5.more (by simp))) R5 S5
      exact nx _ _ A _ ⟨_, _, _, _, _, _, _, _, _, _, _, _, _, rfl⟩ L5 (G3.power (x % 4 - 1))
  · exact nx _ _ A _ ⟨_, _, _, _, _, _, _, _, _, _, _, _, _, rfl⟩ L3 G3

theorem LawAt.power {H : Hp} {A : Ad} {rs : List Int} {g : Gh} {q : Int} (L : LawAt a H A rs g q) (z : Int) : LawAt a (upd H A.d (.dK (sd A.lh A.lc z))) A rs g z := by
  have kd : Kp [A.d] H (upd H A.d (.dK (sd A.lh A.lc z))) := Kp.put L.S.d (fun xs z => by cases z) (List.mem_cons_self ..)
  have sd1 : ∀ b ∈ [A.d], b ∈ A.M := fun b hb => by
    unfold Ad.M
    rw [List.mem_singleton.mp hb]
    simp
  have R4 := L.R.kp kd (out1 L.nd 0 3 rfl rfl (by decide)) (out1 L.nd 1 3 rfl rfl (by decide))
  have S4 : StAt _ A.d A.lh A.lc g.its g.cs z := ⟨upd_same, L.S.h.kp kd (sub_out L.ih sd1), kd.at L.S.c (out1 L.nd 4 3 rfl rfl (by decide)), L.S.n⟩
  exact L.move (cs := g.cs) (pw := g.pw) (kd.more (by simp)) R4 S4
theorem br_load (sv : V) (T : Txt K mg a) (M : Ms K mg a fE fC fN fU fI fS fB fM fJ dE dC dN dU dI dS dB dM dJ) (M2 : Mq K mg a fR fP fT fL fW dR dP dT dL dW) (L : Ls K mg a fRow fAt fTo fTx fTk fPu fGo fLd fNu fIt fRI fRS dRow dAt dTo dTx dTk dPu dGo dLd dNu dIt dRI dRS)
    (hr : Room 6 (XL P w K mg base f cdv A outer s H0 E).A) : PSs (XL P w K mg base f cdv A outer s H0 E) (elseOf if3) (tStep a sv) := by
  have GT : FnOk P w K mg base CX0 5 fTo dTo ["_law_purse", "_law_kind", "_law_epoch", "_law_ticket", "_law_blinding"] (spTold a) := ok_told L.To.F T M.E M.C M.N M.U M2
  have GK : FnOk P w K mg base CX0 1 fTk dTk ["_law_state", "_law_epoch"] spTkn := ok_taken L.Tk.F T
  have GL : FnOk P w K mg base CX0 3 fLd dLd ["counter", "text"] (spLd a) := ok_load L.Ld.F T M L.Nu L.It
  have hr1 : Room 1 (XL P w K mg base f cdv A outer s H0 E).A := hr.mono (by decide)
  have hr3 : Room 3 (XL P w K mg base f cdv A outer s H0 E).A := hr.mono (by decide)
  have hr5 : Room 5 (XL P w K mg base f cdv A outer s H0 E).A := hr.mono (by decide)
  have hu := hu_of hr
  refine pss_imp (pss_cons (ps_asg (pe_ix ix_list (pv 5) (pe_op op_mod (pe_op op_fdiv (pv 9) pe_int) (pe_callB call_len_seq (by rfl) T.len PySem.boot_len (pa_cons (pv 5) pa_nil))) (fun _ _ => rfl))
      (pg_tup rfl (pgs_cons (pg_name (i := 16) scL.nd rfl (Or.inl rfl)) (pgs_cons (pg_name (i := 17) scL.nd rfl (Or.inl rfl)) pgs_nil))))
    (pss_one (ps_if (pt_cmpR op_eq (pe_op op_mod (pe_op op_fdiv (pv 8) pe_int) pe_int) pe_int (nomark _))
      (pss_cons (ps_set (i := 18) scL.nd rfl (Or.inl rfl) (pe_call GL hr3 rfl L.Ld.m L.Ld.F.kp L.Ld.b .nil pass0 (pa_cons (pv 2) (pa_cons (pv 16) pa_nil))))
      (pss_cons (ps_set (i := 19) scL.nd rfl (Or.inl rfl) (pe_disp (pps_cons pe_str (pv 17) (pps_cons pe_str (pe_dget hu (pv 4) pe_str (fun _ _ => rfl)) (pps_cons pe_str (pe_dget hu (pv 4) pe_str (fun _ _ => rfl)) pps_nil))) (by rfl) (by rfl) (fun z => by cases z) (by decide)))
      (pss_cons (ps_set (i := 14) scL.nd rfl (Or.inl rfl) (pe_call GK hr1 rfl L.Tk.m L.Tk.F.kp L.Tk.b .nil pass0 (pa_cons (pv 19) (pa_cons (pv 10) pa_nil))))
      (pss_cons (ps_set (i := 15) scL.nd rfl (Or.inl rfl) (pe_call GT hr5 rfl L.To.m L.To.F.kp L.To.b .nil pass0 (pa_cons (pv 18) (pa_cons pe_str (pa_cons (pv 10) (pa_cons pe_non (pa_cons pe_non pa_nil)))))))
      (pss_cons (ps_if (PW.pt (pw_or (pt_cmpR (op_neD hr.units) (pv 15) (pv 14) (nomark _)) (pw_or1 (PW.pt (pw_and (pt_val (pe_callB call_isi (by rfl) T.isi (by decide +kernel) (pa_cons (pv 15) (pa_cons (pe_bltn (v := .ty "tuple") (by rfl) T.tup (by decide +kernel) rfl) pa_nil))))
          (pw_and1 (pt_cmpR (op_inD (in_ok hr)) (pe_ix ix_tup (pv 15) pe_int (fun _ _ => rfl)) (pv 6) rfl))))))) (pss_one (ps_ret pe_bl)) pss_nil)
      (pss_cons (ps_if (pt_val (pe_callB call_isi (by rfl) T.isi (by decide +kernel) (pa_cons (pv 15) (pa_cons (pe_bltn (v := .ty "tuple") (by rfl) T.tup (by decide +kernel) rfl) pa_nil))))
        (pss_one (ps_expr (pe_bm PySem.F.plainAttrs_list PySem.F.slot_list_append PySem.F.type_list_append mt_append (pv 6) (pa_cons (pe_ix ix_tup (pv 15) pe_int (fun _ _ => rfl)) pa_nil)))) pss_nil)
      (pss_one (ps_dput hu (pv 4) pe_str (pe_dget hu (pv 19) pe_str (fun _ _ => rfl)) rfl))))))))
      (pss_cons (ps_set (i := 3) scL.nd rfl (Or.inl rfl) (pe_call GL hr3 rfl L.Ld.m L.Ld.F.kp L.Ld.b .nil pass0 (pa_cons (pv 2) (pa_cons (pv 16) pa_nil))))
      (pss_one (ps_dput hu (pv 4) pe_str (pv 17) rfl)))))) ?_
  rintro D σ H ⟨k, A, rs, g, num, x, v12, v13, v14, v15, v16, v17, v18, v19, rfl, LA, GO, hk, hc, hn0, hx0, hx9, nx⟩
  obtain ⟨vi, g1, g2⟩ := LA.I
  have hlen : vi.length = g.imgs.length := paired_len g2
  have hn := GO.ne
  have hpos : (0 : Int) < (vi.length : Int) := by omega
  have j0 := Int.emod_nonneg (x / 3) (show (vi.length : Int) ≠ 0 by omega)
  have j1 := Int.emod_lt_of_pos (x / 3) hpos
  have hjl : (x / 3 % (vi.length : Int)).toNat < vi.length := by omega
  obtain ⟨vq, hvq⟩ : ∃ vq, vi[(x / 3 % (vi.length : Int)).toNat]? = some vq := ⟨_, List.getElem?_eq_getElem hjl⟩
  obtain ⟨X, hX, q, lh, rfl, t1, t2, t3⟩ := paired_at g2 hvq
  have wX := GO.imgs X (List.mem_of_getElem? hX)
  have x12 := wX.len
  refine ⟨_, rfl, _, rfl, _, _, rfl, rfl, ⟨by decide, by decide⟩, _, rfl, A.li, _, rfl, .inl (SqL.of g1), _, _, rfl, rfl, hpos, A.li, _, _, _, rfl, rfl, SqL.of g1, at_of (j := (x / 3 % (vi.length : Int)).toNat) (by omega) hvq, ?_⟩
  refine ⟨q, _, rfl, SqT.of t1, rfl, _, _, rfl, _, _, rfl, rfl, ?_⟩
  refine ⟨_, rfl, _, _, rfl, rfl, ⟨by decide, by decide⟩, _, _, rfl, rfl, (by show (0 : Int) < 2; decide), rfl, _, rfl, ?_⟩
  refine ite2 (fun _ => ?_) (fun _ => ?_)
  · -- a spare one beside it
    have nhc : lh ≠ A.lc := fun z => t3 (by unfold Ad.M; rw [z]; simp)
    refine ⟨_, rfl, _, rfl, A.r, X, rfl, x12, GO.ok wX, wX.inc, fun H1 p l s1 hp hl U1 => ?_⟩
    refine fun d2 hd2 => ?_
    have sn : Same H1 (upd H1 d2 (.dK [])) := Same.new hd2
    have L0 := LA.same (s1.trans sn)
    refine ⟨_, rfl, _, rfl, A.d, _, rfl, dg_c L0.S.d, _, rfl, A.d, _, rfl, dg_p L0.S.d, upd_same, sd lh A.lc g.pw, rfl, (by show 3 ≤ 15; decide), ?_⟩
    rw [sd_make, upd_upd]
    have s2 : Same H1 (upd H1 d2 (.dK (sd lh A.lc g.pw))) := Same.new hd2
    have e2 : upd H1 d2 (.dK (sd lh A.lc g.pw)) d2 = some (.dK (sd lh A.lc g.pw)) := upd_same
    generalize upd H1 d2 (.dK (sd lh A.lc g.pw)) = H2 at s2 e2 ⊢
    have s12 := s1.trans s2
    have L2 := LA.same s12
    have k12 : Kp [] H H2 := Kp.of s12
    have S2 : StAt H2 d2 lh A.lc X g.cs g.pw := ⟨e2, t2.kp k12 (by simp), L2.S.c, L2.S.n⟩
    have U2 := U1.kp (Kp.of (S := []) s2) (by simp) (by simp)
    have d2H : H d2 = none := by
      cases z : H d2 with
      | none => rfl
      | some o =>
        have := s1 _ _ z
        rw [hd2] at this
        cases this
    have word : ∀ (nm : Str) (H2 : Hp), PyData.strOk nm = true → (∃ d e, Dp K H2 (.str nm) d ∧ Dp K H2 (.str nm) e ∧ SeqAt.shaped d = true ∧ SeqAt.shaped e = true ∧ PyData.eqv d e = true) := fun nm H2 hn =>
      ⟨_, _, .str nm, .str nm, sh_s hn, sh_s hn, SeqAt.eqv_refl _ (SeqAt.canLay_of_shaped (sh_s hn))⟩
    refine ⟨_, rfl, _, rfl, d2, lh, A.lc, g.cs, g.pw, X, x % 3, rfl, S2, oke_mod, wX.inc, by omega, nhc, fun hus H3 s3 => ?_, fun i rest hus => ⟨fun h0 H3 s3 => ?_, fun h0 H3 q1 T1 B1 k1 n1 S1 e1 eT1 eB1 => ?_⟩⟩
    · -- missing
      have L3 := L2.same s3
      have U3 := U2.kp (Kp.of (S := []) s3) (by simp) (by simp)
      refine ⟨_, rfl, _, rfl, p, A.r, l, A.lr, g.cs, g.pw, X, Str.ofString "take", x % 3, _, _, rfl, L3.R, U3, by omega, wX.inc, .inr (.inl rfl), fun z => absurd oke_mod z, fun _ => ⟨fun z => absurd z (by decide +kernel), fun _ => ⟨fun _ H4 s4 => ?_, fun i rest hu2 => (by rw [hus] at hu2; cases hu2)⟩, fun z => absurd z (by decide +kernel)⟩⟩
      obtain ⟨d1, d3, w1, w2, w3, w4, w5⟩ := word (Str.ofString "missing") H4 (by decide +kernel)
      refine ⟨_, rfl, _, rfl, d1, d3, w1, w2, w3, w4, _, rfl, ?_⟩
      rw [w5]
      refine iteF ⟨_, rfl, _, _, .type "str", .type "tuple", false, rfl, .ty "tuple", .base (.str _), kit_ty (by decide +kernel), _, rfl, ?_⟩
      refine iteF (iteF ⟨_, rfl, _, _, .type "str", .type "tuple", false, rfl, .ty "tuple", .base (.str _), kit_ty (by decide +kernel), _, rfl, iteF ?_⟩)
      have L4 := L3.same s4
      refine ⟨_, rfl, d2, _, rfl, dg_p (s4 _ _ (s3 _ _ e2)), _, rfl, A.d, _, rfl, dp_p L4.S.d _, ?_⟩
      exact nx _ _ A g ⟨_, _, _, _, _, _, _, _, _, _, _, _, _, rfl⟩ (L4.power _) GO.next
    · -- down
      have L3 := L2.same s3
      have U3 := U2.kp (Kp.of (S := []) s3) (by simp) (by simp)
      refine ⟨_, rfl, _, rfl, p, A.r, l, A.lr, g.cs, g.pw, X, Str.ofString "take", x % 3, _, _, rfl, L3.R, U3, by omega, wX.inc, .inr (.inl rfl), fun z => absurd oke_mod z, fun _ => ⟨fun z => absurd z (by decide +kernel), fun _ => ⟨fun hu2 => (by rw [hus] at hu2; cases hu2), fun i2 rest2 hu2 => ⟨fun _ H4 s4 => ?_, fun h1 => absurd h0 h1⟩⟩, fun z => absurd z (by decide +kernel)⟩⟩
      obtain ⟨d1, d3, w1, w2, w3, w4, w5⟩ := word (Str.ofString "down") H4 (by decide +kernel)
      refine ⟨_, rfl, _, rfl, d1, d3, w1, w2, w3, w4, _, rfl, ?_⟩
      rw [w5]
      refine iteF ⟨_, rfl, _, _, .type "str", .type "tuple", false, rfl, .ty "tuple", .base (.str _), kit_ty (by decide +kernel), _, rfl, ?_⟩
      refine iteF (iteF ⟨_, rfl, _, _, .type "str", .type "tuple", false, rfl, .ty "tuple", .base (.str _), kit_ty (by decide +kernel), _, rfl, iteF ?_⟩)
      have L4 := L3.same s4
      refine ⟨_, rfl, d2, _, rfl, dg_p (s4 _ _ (s3 _ _ e2)), _, rfl, A.d, _, rfl, dp_p L4.S.d _, ?_⟩
      exact nx _ _ A g ⟨_, _, _, _, _, _, _, _, _, _, _, _, _, rfl⟩ (L4.power _) GO.next
    · have od : ∀ (i : Nat) (y : Addr), A.M[i]? = some y → y ≠ d2 := fun i y hy z => LA.live y (List.mem_of_getElem? hy) (z ▸ d2H)
      have o2 : ∀ (i : Nat) (y : Addr), A.M[i]? = some y → i ≠ 4 → y ∉ [d2, A.lc] := fun i y hi n4 m => by
        rcases List.mem_cons.mp m with e | m
        · exact od i y hi e
        · rw [List.mem_singleton.mp m] at hi; exact n4 (nd_ix LA.nd hi (show A.M[4]? = some A.lc from rfl))
      have lcl : H A.lc ≠ none := LA.live _ (by unfold Ad.M; simp)
      obtain ⟨⟨dx, pe⟩, vl, le, _⟩ := id U1
      have np : p ∉ [d2, A.lc] := fun m => by
        rcases List.mem_cons.mp m with e | m
        · rw [e, hd2] at pe; cases pe
        · exact lcl ((List.mem_singleton.mp m) ▸ hp)
      have nl : l ∉ [d2, A.lc] := fun m => by
        rcases List.mem_cons.mp m with e | m
        · rw [e, hd2] at le; cases le
        · exact lcl ((List.mem_singleton.mp m) ▸ hl)
      have R3 := L2.R.kp k1 (o2 0 _ rfl (by decide)) (o2 1 _ rfl (by decide))
      have U3 := U2.kp k1 np nl
      refine ⟨_, rfl, _, rfl, p, A.r, l, A.lr, g.cs, g.pw, X, Str.ofString "take", x % 3, _, _, rfl, R3, U3, by omega, wX.inc, .inr (.inl rfl), fun z => absurd oke_mod z, fun _ => ⟨fun z => absurd z (by decide +kernel), fun _ => ⟨fun hu2 => (by rw [hus] at hu2; cases hu2), fun i2 rest2 hu2 => ⟨fun z => absurd z h0, fun _ H4 q2 T2 B2 k2 n2 R4 f2 eT2 eB2 => ?_⟩⟩, fun z => absurd z (by decide +kernel)⟩⟩
      rw [hus] at hu2
      cases hu2
      have d1 := dp_i (K := K) (k2.tup e1) (eT1.kp k2) (eB1.kp k2)
      have d3 := dp_i (K := K) f2 eT2 eB2
      refine ⟨_, rfl, _, rfl, _, _, d3, d1, sh_i _, sh_i _, _, rfl, ?_⟩
      rw [SeqAt.eqv_refl _ (lay_i _)]
      refine iteF ⟨_, rfl, _, _, .type "tuple", .type "tuple", true, rfl, .ty "tuple", .base (.tup f2), kit_ty (by decide +kernel), _, rfl, ?_⟩
      obtain ⟨ng, GN⟩ := GO.take wX oke_mod hus (pwNext g.pw)
      have sR : ∀ b ∈ [A.r, A.lr], b ∈ A.M := fun b hb => by
        unfold Ad.M
        simp only [List.mem_cons, List.not_mem_nil, or_false] at hb ⊢
        rcases hb with e | e <;> simp [e]
      have o1 : ∀ (i : Nat) (y : Addr), A.M[i]? = some y → i ≠ 0 → i ≠ 1 → y ∉ [A.r, A.lr] := fun i y hi n3 n4 m => by
        rcases List.mem_cons.mp m with e | m
        · rw [e] at hi; exact n3 (nd_ix LA.nd hi (show A.M[0]? = some A.r from rfl))
        · rw [List.mem_singleton.mp m] at hi; exact n4 (nd_ix LA.nd hi (show A.M[1]? = some A.lr from rfl))
      have kH : Kp [A.lc] H H3 := Kp.drop d2H ((Kp.of s12).trans k1)
      have sl : ∀ b ∈ [A.lc], b ∈ A.M := fun b hb => by
        unfold Ad.M
        rw [List.mem_singleton.mp hb]
        simp
      have S4 : StAt H4 A.d A.lh A.lc g.its (g.cs.set (x % 3).toNat (i.n + 1)) g.pw :=
        ⟨k2.at (kH.at LA.S.d (out1 LA.nd 3 4 rfl rfl (by decide))) (o1 3 _ rfl (by decide) (by decide)), (LA.S.h.kp kH (sub_out LA.ih sl)).kp k2 (sub_out LA.ih sR), k2.at S1.c (o1 4 _ rfl (by decide) (by decide)), S1.n⟩
      have L4 := LA.move ((kH.more (by simp)).trans (k2.more (by simp))) R4 S4
      have dd : d2 ∉ [A.r, A.lr] := fun m => by
        rcases List.mem_cons.mp m with e | m
        · exact od 0 _ rfl e.symm
        · exact od 1 _ rfl (List.mem_singleton.mp m).symm
      have e4 := k2.at S1.d dd
      obtain ⟨vg, y1, y2⟩ := L4.G
      have d5 : Dp K H4 (.ref A.lg) (.list (g.giv.map tD)) := .lst (SqL.of y1) (dp_g y2)
      refine iteT ⟨_, rfl, q2, _, _, _, rfl, rfl, SqT.of f2, rfl, _, rfl, _, _, dp_t eT2, d5, sh_t _, sh_g _, _, rfl, ?_⟩
      rw [any_no ng]
      refine iteF ⟨_, rfl, _, _, .type "tuple", .type "tuple", true, rfl, .ty "tuple", .base (.tup f2), kit_ty (by decide +kernel), _, rfl, ?_⟩
      refine iteT ⟨_, rfl, .inl ⟨rfl, _, SqL.of y1⟩, _, rfl, q2, _, _, _, rfl, rfl, SqT.of f2, rfl, A.lg, _, _, rfl, rfl, y1, ?_, ?_⟩
      · rw [paired_len y2]
        have := GO.ngiv
        have z : g.giv.length ≤ 1000 := by omega
        exact small1000 z
      have L5 := L4.give y1 eT2
      have e5 : upd H4 A.lg (.lst (vg ++ [.ref T2])) d2 = some (.dK (sd lh A.lc (pwNext g.pw))) := by
        rw [upd_ne (fun z => od 6 _ rfl z.symm)]
        exact e4
      refine ⟨_, rfl, d2, _, rfl, dg_p e5, _, rfl, A.d, _, rfl, dp_p L5.S.d _, ?_⟩
      exact nx _ _ A _ ⟨_, _, _, _, _, _, _, _, _, _, _, _, _, rfl⟩ (L5.power _) GN
  · -- the purse itself
    refine ⟨_, rfl, _, rfl, A.r, X, rfl, x12, GO.ok wX, wX.inc, fun H1 p l s1 hp hl U1 => ?_⟩
    refine ⟨_, rfl, _, rfl, A.d, _, rfl, dp_h (s1 _ _ LA.S.d) lh, ?_⟩
    exact nx _ _ { A with p := p, l := l, lh := lh } { g with its := X } ⟨_, _, _, _, _, _, _, _, _, _, _, _, _, rfl⟩ (LA.load s1 hp hl U1 t2 t3 (s1 _ _ LA.S.d)) (GO.load wX).next
end
end K57

/-! the law *-/
namespace K57
open PySem L2
theorem free_upd {H : Hp} {x y : Addr} {o : HO} (h : upd H x o y = none) : y ≠ x ∧ H y = none := by
  have n : y ≠ x := fun q => by
    rw [q, upd_same] at h
    cases h
  rw [upd_ne n] at h
  exact ⟨n, h⟩
/-- what stands when the first event begins -/
theorem law0 {a : Adr} {H : Hp} {w r lr p l d lh lc l0 q li lg : Addr} {rs : List Int} (W : H w = some (.lst (rs.map V.int))) (R : RegAt a.cr H r lr [0, 0, 0] (-1)) (U : PurAt a.cp H p r l [])
    (n1 : l ≠ lr) (n2 : p ≠ r) (n3 : w ≠ lr) (n4 : w ≠ l) (hd : H d = none) (h1 : upd H d (.dK []) lh = none) (h2 : upd (upd H d (.dK [])) lh (.lst []) lc = none)
    (h3 : upd (upd (upd (upd H d (.dK [])) lh (.lst [])) lc (.lst [.int 0, .int 0, .int 0])) d (.dK (sd lh lc (-1))) l0 = none)
    (h4 : upd (upd (upd (upd (upd H d (.dK [])) lh (.lst [])) lc (.lst [.int 0, .int 0, .int 0])) d (.dK (sd lh lc (-1)))) l0 (.lst []) q = none)
    (h5 : upd (upd (upd (upd (upd (upd H d (.dK [])) lh (.lst [])) lc (.lst [.int 0, .int 0, .int 0])) d (.dK (sd lh lc (-1)))) l0 (.lst [])) q (.tup [.str "", .ref l0]) li = none)
    (h6 : upd (upd (upd (upd (upd (upd (upd H d (.dK [])) lh (.lst [])) lc (.lst [.int 0, .int 0, .int 0])) d (.dK (sd lh lc (-1)))) l0 (.lst [])) q (.tup [.str "", .ref l0])) li (.lst [.ref q]) lg = none) :
    LawAt a (upd (upd (upd (upd (upd (upd (upd (upd H d (.dK [])) lh (.lst [])) lc (.lst [.int 0, .int 0, .int 0])) d (.dK (sd lh lc (-1)))) l0 (.lst [])) q (.tup [.str "", .ref l0])) li (.lst [.ref q])) lg (.lst []))
      ⟨w, r, lr, p, l, d, lh, lc, li, lg⟩ rs ⟨[], [0, 0, 0], -1, [[]], [], []⟩ (-1) := by
  obtain ⟨a1, b1⟩ := free_upd h1
  obtain ⟨a2, h2⟩ := free_upd h2
  obtain ⟨a3, b2⟩ := free_upd h2
  obtain ⟨a4, h3⟩ := free_upd h3
  obtain ⟨a5, h3⟩ := free_upd h3
  obtain ⟨a6, h3⟩ := free_upd h3
  obtain ⟨_, b3⟩ := free_upd h3
  obtain ⟨a7, h4⟩ := free_upd h4
  obtain ⟨a8, h4⟩ := free_upd h4
  obtain ⟨a9, h4⟩ := free_upd h4
  obtain ⟨a10, h4⟩ := free_upd h4
  obtain ⟨_, b4⟩ := free_upd h4
  obtain ⟨a11, h5⟩ := free_upd h5
  obtain ⟨a12, h5⟩ := free_upd h5
  obtain ⟨a13, h5⟩ := free_upd h5
  obtain ⟨a14, h5⟩ := free_upd h5
  obtain ⟨a15, h5⟩ := free_upd h5
  obtain ⟨_, b5⟩ := free_upd h5
  obtain ⟨a16, h6⟩ := free_upd h6
  obtain ⟨a17, h6⟩ := free_upd h6
  obtain ⟨a18, h6⟩ := free_upd h6
  obtain ⟨a19, h6⟩ := free_upd h6
  obtain ⟨a20, h6⟩ := free_upd h6
  obtain ⟨a21, h6⟩ := free_upd h6
  obtain ⟨_, b6⟩ := free_upd h6
  obtain ⟨dr, Ro⟩ := id R.o
  have Rc := R.c
  obtain ⟨⟨dp, Uo⟩, vl, Uc, _⟩ := id U
  have m1 : r ≠ lr := ne_of Ro Rc (by intro z; cases z)
  have m2 : r ≠ l := ne_of Ro Uc (by intro z; cases z)
  have m3 : p ≠ l := ne_of Uo Uc (by intro z; cases z)
  have m4 : p ≠ lr := ne_of Uo Rc (by intro z; cases z)
  have m5 : w ≠ r := ne_of W Ro (by intro z; cases z)
  have s : Same H (upd (upd (upd (upd (upd (upd (upd (upd H d (.dK [])) lh (.lst [])) lc (.lst [.int 0, .int 0, .int 0])) d (.dK (sd lh lc (-1)))) l0 (.lst [])) q (.tup [.str "", .ref l0])) li (.lst [.ref q])) lg (.lst [])) := fun b o e => by
    rw [upd_ne (ne_of_none e b6), upd_ne (ne_of_none e b5), upd_ne (ne_of_none e b4), upd_ne (ne_of_none e b3), upd_ne (ne_of_none e hd), upd_ne (ne_of_none e b2), upd_ne (ne_of_none e b1), upd_ne (ne_of_none e hd)]
    exact e
  have k : Kp [] H _ := Kp.of s
  have nd : ([r, lr, l, d, lc, li, lg] : List Addr).Nodup := by
    simp only [List.nodup_cons, List.mem_cons, List.not_mem_nil, or_false, not_or, List.nodup_nil, not_false_eq_true, and_true]
    exact ⟨⟨m1, m2, ne_of_none Ro hd, ne_of_none Ro b2, ne_of_none Ro b5, ne_of_none Ro b6⟩, ⟨n1.symm, ne_of_none Rc hd, ne_of_none Rc b2, ne_of_none Rc b5, ne_of_none Rc b6⟩, ⟨ne_of_none Uc hd, ne_of_none Uc b2, ne_of_none Uc b5, ne_of_none Uc b6⟩,
      ⟨a3.symm, a13.symm, a19.symm⟩, ⟨a14.symm, a20.symm⟩, a16.symm⟩
  have out : ∀ {x : Addr}, x ≠ r → x ≠ lr → x ≠ l → x ≠ d → x ≠ lc → x ≠ li → x ≠ lg → x ∉ ([r, lr, l, d, lc, li, lg] : List Addr) := fun c1 c2 c3 c4 c5 c6 c7 => by
    simp only [List.mem_cons, List.not_mem_nil, or_false, not_or]
    exact ⟨c1, c2, c3, c4, c5, c6, c7⟩
  refine ⟨s _ _ W, R.kp k (by simp) (by simp), U.kp k (by simp) (by simp), ⟨?_, ⟨[], ?_, .nil⟩, ?_, rfl⟩, ⟨[.ref q], ?_, .cons ⟨q, l0, rfl, ?_, ⟨[], ?_, .nil⟩, ?_⟩ .nil⟩, ⟨[], upd_same, .nil⟩, nd, ?_, ?_, ?_⟩
  · show upd _ lg _ d = _
    rw [upd_ne a19.symm, upd_ne a13.symm, upd_ne a8.symm, upd_ne a4.symm, upd_same]
  · show upd _ lg _ lh = _
    rw [upd_ne a21.symm, upd_ne a15.symm, upd_ne a10.symm, upd_ne a6.symm, upd_ne a1, upd_ne a2.symm, upd_same]
  · show upd _ lg _ lc = _
    rw [upd_ne a20.symm, upd_ne a14.symm, upd_ne a9.symm, upd_ne a5.symm, upd_ne a3, upd_same]
    rfl
  · show upd _ lg _ li = _
    rw [upd_ne a16.symm, upd_same]
  · rw [upd_ne a17.symm, upd_ne a11.symm, upd_same, img_nil]
  · rw [upd_ne a18.symm, upd_ne a12.symm, upd_ne a7.symm, upd_same]
  · exact out (ne_of_none Ro b3).symm (ne_of_none Rc b3).symm (ne_of_none Uc b3).symm a4 a5 a12.symm a18.symm
  · exact out m5 n3 n4 (ne_of_none W hd) (ne_of_none W b2) (ne_of_none W b5) (ne_of_none W b6)
  · exact out n2 m4 m3 (ne_of_none Uo hd) (ne_of_none Uo b2) (ne_of_none Uo b5) (ne_of_none Uo b6)
  · exact out (ne_of_none Ro b1).symm (ne_of_none Rc b1).symm (ne_of_none Uc b1).symm a1 a2.symm a15.symm a21.symm
theorem take_cnt {cs : List Int} (h : cs.length = 3) {i : Nat} (hi : i < 3) : (cs.take (i + 1)).map V.int = (cs.take i).map V.int ++ [.int (cnt cs (0 + (i : Int)))] := by
  have hl : i < cs.length := by omega
  have e : cnt cs (0 + (i : Int)) = cs[i] := by
    unfold cnt
    rw [show (0 + (i : Int)).toNat = i by omega, List.getD_eq_getElem?_getD, List.getElem?_eq_getElem hl]
    rfl
  rw [e, List.take_add_one, List.getElem?_eq_getElem hl, List.map_append]
  rfl
def spLaw (K : PySem.W.Frag) : Sp := fun vs H Q _ => ∃ (a : Addr) (ns : List Int), vs = [.ref a] ∧ SqL K H a (ns.map V.int) ∧ ns.length ≤ 63 ∧ ∀ H', Q (.bl true) H'
end K57

/-! the law, walked *-/
namespace K57
open PySem L2
section
variable {P : Program} {w : World} {K : PySem.W.Frag} {mg : Str → Option Value} {base : Heap} {a : Adr}
variable {fE fC fN fU fI fS fB fM fJ fR fP fT fL fW : Addr} {dE dC dN dU dI dS dB dM dJ dR dP dT dL dW : FuncData}
variable {fRow fAt fTo fTx fTk fPu fGo fLd fNu fIt fRI fRS : Addr} {dRow dAt dTo dTx dTk dPu dGo dLd dNu dIt dRI dRS : FuncData}
theorem ok_law {f : Addr} {fd : FuncData} (F : Fun K "law" "law" sLaw f fd) (T : Txt K mg a) (M : Ms K mg a fE fC fN fU fI fS fB fM fJ dE dC dN dU dI dS dB dM dJ) (M2 : Mq K mg a fR fP fT fL fW dR dP dT dL dW)
    (L : Ls K mg a fRow fAt fTo fTx fTk fPu fGo fLd fNu fIt fRI fRS dRow dAt dTo dTx dTk dPu dGo dLd dNu dIt dRI dRS) : FnOk P w K mg base CX0 7 f fd ["_law_script"] (spLaw K) := by
  have GW : FnOk P w K mg base CX0 1 fRow dRow ["_law_script"] (spRow K) := ok_row L.Row.F T
  have GA : FnOk P w K mg base CX0 1 fAt dAt ["_law_row_here", "_law_at_here"] (spAt K) := ok_at L.At.F T
  have GR : FnOk P w K mg base CX0 1 fRI dRI ["self"] (spRI a) := ok_rinit L.RI T
  have GI : FnOk P w K mg base CX0 1 fI dI ["self", "counter"] (spPI a) := ok_pinit M.I T
  have GG : FnOk P w K mg base CX0 6 fGo dGo ["_law_purse", "_law_state"] (spGood a) := ok_good L.Go.F T M M2 L.To L.Tx
  have GC : FnOk P w K mg base CX0 2 fC dC ["self", "epoch"] (spRC a) := ok_rcount M.C.F T M.E
  refine F.ok scL (fun vs H Q E h => ?_) (fun cdv A outer s H vs Q E hr h => ?_)
  · obtain ⟨b, ns, rfl, _⟩ := h
    rfl
  · obtain ⟨b, ns, rfl, hS, hlen, k⟩ := h
    obtain ⟨tm, mM⟩ := T.mh
    have hu := hu_of hr
    have hr1 : Room 1 (XL P w K mg base f cdv A outer s H E).A := hr.mono (by decide)
    have hr2 : Room 2 (XL P w K mg base f cdv A outer s H E).A := hr.mono (by decide)
    have B1 := br_put (P := P) (w := w) (base := base) (f := f) (cdv := cdv) (A := A) (outer := outer) (s := s) (H0 := H) (E := E) (.ref b) T M M2 L hr
    have B2 := br_take (P := P) (w := w) (base := base) (f := f) (cdv := cdv) (A := A) (outer := outer) (s := s) (H0 := H) (E := E) (.ref b) T M M2 L hr
    have B3 := br_save (P := P) (w := w) (base := base) (f := f) (cdv := cdv) (A := A) (outer := outer) (s := s) (H0 := H) (E := E) (.ref b) T M L hr
    have B4 := br_load (P := P) (w := w) (base := base) (f := f) (cdv := cdv) (A := A) (outer := outer) (s := s) (H0 := H) (E := E) (.ref b) T M M2 L hr
    refine ⟨_, pss_cons (ps_set (i := 1) scL.nd rfl (Or.inl rfl) (pe_call GW hr1 rfl L.Row.m L.Row.F.kp L.Row.b .nil pass0 (pa_cons (pv 0) pa_nil)))
      (pss_cons (ps_set (i := 2) scL.nd rfl (Or.inr rfl) (pe_make0 L.RIm GR hr2 rfl T.gR L.RIb .nil pass0))
      (pss_cons (ps_set (i := 3) scL.nd rfl (Or.inl rfl) (pe_make M.Im GI hr2 rfl T.gP M.Ib .nil pass0 (pa_cons (pv 2) pa_nil)))
      (pss_cons (ps_set (i := 4) scL.nd rfl (Or.inl rfl) (pe_disp (pps_cons pe_str (pe_lst pa_nil) (pps_cons pe_str (pe_lst (pa_cons pe_int (pa_cons pe_int (pa_cons pe_int pa_nil)))) (pps_cons pe_str (pe_un un_neg pe_int) pps_nil))) (by rfl) (by rfl) (fun z => by cases z) (by decide)))
      (pss_cons (ps_set (i := 5) scL.nd rfl (Or.inl rfl) (pe_lst (pa_cons (pe_tup (pa_cons pe_str (pa_cons (pe_lst pa_nil) pa_nil))) pa_nil)))
      (pss_cons (ps_set (i := 6) scL.nd rfl (Or.inl rfl) (pe_lst pa_nil))
      (pss_cons (ps_for PassesOwn.never rfl (pi_range1 rfl T.rng (pa_cons (pe_callB (call_min2 rfl) (by rfl) T.min (by decide +kernel) (pa_cons pe_int (pa_cons (pe_op op_add pe_int (pe_op op_fdiv (pe_callB call_len_seq (by rfl) T.len PySem.boot_len (pa_cons (pv 1) pa_nil)) pe_int)) pa_nil))) pa_nil)) (pg_name (i := 7) scL.nd rfl (Or.inl rfl))
        (pss_cons (ps_set (i := 8) scL.nd rfl (Or.inl rfl) (pe_callTy call_int1 (by rfl) T.int (by decide +kernel) (pa_cons (pe_call GA hr1 rfl L.At.m L.At.F.kp L.At.b .nil pass0 (pa_cons (pv 1) (pa_cons (pe_op op_mul pe_int (pv 7)) pa_nil))) pa_nil)))
        (pss_cons (ps_set (i := 9) scL.nd rfl (Or.inl rfl) (pe_callTy call_int1 (by rfl) T.int (by decide +kernel) (pa_cons (pe_call GA hr1 rfl L.At.m L.At.F.kp L.At.b .nil pass0 (pa_cons (pv 1) (pa_cons (pe_op op_add (pe_op op_mul pe_int (pv 7)) pe_int) pa_nil))) pa_nil)))
        (pss_cons (ps_set (i := 10) scL.nd rfl (Or.inl rfl) (pe_op op_mod (pv 9) pe_int))
        (pss_cons (ps_set (i := 11) scL.nd rfl (Or.inl rfl) (pe_op op_mod (pv 8) pe_int))
        (pss_cons (ps_if (pt_cmpR op_lt (pv 11) pe_int (nomark _)) B1 (pss_one (ps_if (pt_cmpR op_lt (pv 11) pe_int (nomark _)) B2 (pss_one (ps_if (pt_cmpR op_eq (pv 11) pe_int (nomark _)) B3 B4)))))
        (pss_one (ps_if (PW.pt (pw_or (pt_not (pt_val (pe_call GG hr rfl L.Go.m L.Go.F.kp L.Go.b .nil pass0 (pa_cons (pv 3) (pa_cons (pv 4) pa_nil)))))
          (pw_or1 (pt_cmpR (op_neD hr.units)
            (pe_lc (own := [("_law_one", 20)]) (g := gName 20) (tt := tYes) rfl scL.nd (pi_range1 rfl T.rng (pa_cons pe_int pa_nil)) (blkOk_by (own := [("_law_one", 20)]) (N := NL) (sc := defScope sLaw) (by decide +kernel))
              (fun _ _ _ _ _ => pg_name (i := 20) scL.nd rfl (Or.inl rfl)) (fun _ _ _ _ _ => pts_nil) (fun _ _ _ _ _ => pe_meth (pv 2) T.cr M.C.m GC hr2 M.C.b .nil pass0 (pa_cons (pv 20) pa_nil)))
            (pe_dget hu (pv 4) pe_str (fun _ _ => rfl)) (nomark _)))))
          (pss_one (ps_ret pe_bl)) pss_nil))))))))
      (pss_one (ps_ret (pe_cmpR op_eq (pe_glob (v := .int 12) rfl mM ⟨_, rfl⟩) pe_int (nomark _)))))))))), ?_⟩
    refine ⟨_, rfl, b, ns, rfl, hS, hlen, fun H1 w1 rs s1 nw W1 hc hrl => ?_⟩
    -- the register
    refine fun r dr nr ndr ner => ?_
    generalize hA : upd (upd H1 dr (.own r)) r (.ins a.cr dr []) = A0
    have sA : Same H1 A0 := fun b o e => by
      rw [← hA, upd_ne (ne_of_none e nr), upd_ne (ne_of_none e ndr)]
      exact e
    refine ⟨r, dr, rfl, by rw [← hA]; exact upd_same, fun H2 lr hlr k2 R2 => ⟨rfl, ?_⟩⟩
    have s2 : Same H1 H2 := fun b o e => k2.at (sA b o e) (by
      intro m
      rw [List.mem_singleton.mp m, nr] at e
      cases e)
    have W2 := s2 _ _ W1
    -- the purse
    refine ⟨_, rfl, fun p dp np ndp nep => ?_⟩
    generalize hB : upd (upd H2 dp (.own p)) p (.ins a.cp dp []) = B0
    have sB : Same H2 B0 := fun b o e => by
      rw [← hB, upd_ne (ne_of_none e np), upd_ne (ne_of_none e ndp)]
      exact e
    refine ⟨p, dp, r, rfl, by rw [← hB]; exact upd_same, fun H3 l hl k3 U3 => ⟨rfl, ?_⟩⟩
    have s3 : Same H2 H3 := fun b o e => k3.at (sB b o e) (by
      intro m
      rw [List.mem_singleton.mp m, np] at e
      cases e)
    have W3 := s3 _ _ W2
    have R3 := R2.kp (Kp.of (S := []) s3) (by simp) (by simp)
    have hl2 := sB.free hl
    have hlr1 := sA.free hlr
    obtain ⟨dr2, Ro⟩ := id R2.o
    -- the state, the images, what was given
    refine fun d hd => ⟨Nat.zero_le _, fun lh hlh => ⟨by show 3 ≤ sizeLine; decide, fun lc hlc => ⟨_, rfl, ?_, sd lh lc (-1), rfl, (by show 3 ≤ 15; decide), ?_⟩⟩⟩
    · obtain ⟨c1, hlc⟩ := free_upd hlc
      obtain ⟨c2, hlc⟩ := free_upd hlc
      obtain ⟨c3, hlh⟩ := free_upd hlh
      rw [upd_ne c2.symm, upd_ne c3.symm, upd_same]
    rw [sd_make]
    refine ⟨Nat.zero_le _, fun l0 hl0 => ⟨by show 2 ≤ sizeLine; decide, fun q hq => ⟨by show 1 ≤ sizeLine; decide, fun li hli => ⟨Nat.zero_le _, fun lg hlg => ?_⟩⟩⟩⟩
    have L0 := law0 W3 R3 U3 (ne_of_none R2.c hl2).symm (ne_of_none Ro np).symm (ne_of_none W1 hlr1) (ne_of_none W2 hl2) hd hlh hlc hl0 hq hli hlg
    have m24 : ∀ j : Int, 0 ≤ j → -(2 ^ 62) ≤ (if j < 24 then j else 24) ∧ (if j < 24 then j else 24) < 2 ^ 62 ∧ (if j < 24 then j else 24).toNat ≤ 24 := fun j hj => by
      split <;> omega
    have mj := m24 (1 + ((rs.map V.int).length : Int) / 3) (by omega)
    refine ⟨_, rfl, w1, _, rfl, .inl (SqL.of L0.W), _, _, rfl, rfl, ⟨by decide, by decide⟩, _, _, rfl, rfl, _, _, rfl, _, rfl, mj.1, mj.2.1,
      for_range (fun j σ H' => ∃ A g, FrA σ (.ref b) A ∧ LawAt a H' A rs g g.pw ∧ GhOk j g) ⟨_, _, ⟨_, _, _, _, _, _, _, _, _, _, _, _, _, rfl⟩, L0, gh0⟩ ?_ ?_⟩
    · rintro j σ H4 hj ⟨A, g, ⟨v7, v8, v9, v10, v11, v12, v13, v14, v15, v16, v17, v18, v19, rfl⟩, LA, GO⟩
      have hj24 : j < 24 := Nat.lt_of_lt_of_le hj mj.2.2
      rw [Int.zero_add]
      refine ⟨_, rfl, _, rfl, _, _, rfl, rfl, .inl ⟨by decide, by decide⟩, A.w, rs, 3 * (j : Int), rfl, SqL.of LA.W, by omega, .inl ⟨_, rfl, ?_⟩⟩
      refine ⟨_, rfl, _, rfl, _, _, rfl, rfl, .inl ⟨by decide, by decide⟩, _, _, rfl, rfl, A.w, rs, 3 * (j : Int) + 1, rfl, SqL.of LA.W, by omega, .inl ⟨_, rfl, ?_⟩⟩
      have hnum := hc.at (3 * (j : Int)).toNat
      have hx := hc.at (3 * (j : Int) + 1).toNat
      generalize rs.getD (3 * (j : Int)).toNat 0 = num at hnum ⊢
      generalize rs.getD (3 * (j : Int) + 1).toNat 0 = x at hx ⊢
      refine ⟨_, rfl, _, _, rfl, rfl, (by show (0 : Int) < 3; decide), ?_⟩
      refine ⟨_, rfl, _, _, rfl, rfl, (by show (0 : Int) < 8; decide), ?_⟩
      refine ⟨_, rfl, _, _, rfl, rfl, _, rfl, ite2 (fun _ => ?_) (fun _ => ⟨_, rfl, _, _, rfl, rfl, _, rfl, ite2 (fun _ => ?_) (fun _ => ⟨_, rfl, rfl, _, rfl, ite2 (fun _ => ?_) (fun _ => ?_)⟩)⟩)⟩
      all_goals refine ⟨j, A, rs, g, num, x, v12, v13, v14, v15, v16, v17, v18, v19, rfl, LA, GO, hj24, hc, hnum.1, hx.1, hx.2, ?_⟩
      all_goals
        rintro σ5 H5 B g5 ⟨u7, u8, u9, u10, u11, u12, u13, u14, u15, u16, u17, u18, u19, rfl⟩ L5 G5
        have i12 := G5.its.len
        refine ⟨_, rfl, _, rfl, B.p, B.d, B.r, B.l, B.lr, B.lh, B.lc, g5.cs, g5.pw, g5.pw, g5.its, rfl, L5.R, L5.U, L5.S, i12, G5.its.inc, G5.ok G5.its, fun H6 s6 => ⟨_, rfl, iteF ?_⟩⟩
        have L6 := L5.same s6
        refine ⟨3, rfl, by decide, by decide, fun C hC => lc_range (lo := 0) (n := 3) (fun i H' => H' = upd H6 C (.lst ((g5.cs.take i).map V.int))) rfl ?_ ?_⟩
        · rintro i H7 hi rfl
          have s7 : Same H6 (upd H6 C (.lst ((g5.cs.take i).map V.int))) := Same.new hC
          have R7 := L6.R.kp (Kp.of (S := []) s7) (by simp) (by simp)
          obtain ⟨dr, hR⟩ := id R7.o
          refine ⟨rfl, _, rfl, B.r, dr, _, rfl, hR, rf_no _ _ (by decide +kernel) (by decide +kernel), _, rfl, B.r, B.lr, g5.cs, g5.pw, 0 + (i : Int), rfl, R7, ⟨by omega, by omega⟩, _, upd_same, ?_, ?_⟩
          · rw [List.length_map, List.length_take, R7.n]
            exact Nat.lt_of_le_of_lt (Nat.min_le_right _ _) (by decide)
          · rw [upd_upd, take_cnt R7.n hi]
        · rintro H7 rfl
          have s7 : Same H6 (upd H6 C (.lst ((g5.cs.take 3).map V.int))) := Same.new hC
          have e7 : upd H6 C (.lst ((g5.cs.take 3).map V.int)) C = some (.lst ((g5.cs.take 3).map V.int)) := upd_same
          generalize upd H6 C (.lst ((g5.cs.take 3).map V.int)) = H7 at s7 e7 ⊢
          rw [List.take_of_length_le (Nat.le_of_eq L6.R.n)] at e7
          have L7 := L6.same s7
          have d1 : Dp K H7 (.ref C) (.list (g5.cs.map PyData.int)) := .lst (SqL.of e7) (dp_ints g5.cs)
          have d2 : Dp K H7 (.ref B.lc) (.list (g5.cs.map PyData.int)) := .lst (SqL.of L7.S.c) (dp_ints g5.cs)
          refine ⟨_, rfl, B.d, _, rfl, dg_c L7.S.d, _, _, d1, d2, sh_l _, sh_l _, _, rfl, ?_⟩
          rw [SeqAt.eqv_refl _ (SeqAt.canLay_of_shaped (sh_l _))]
          exact iteF ⟨B, g5, ⟨_, _, _, _, _, _, _, _, _, _, _, _, _, rfl⟩, L7, G5⟩
    · rintro σ H4 ⟨A, g, ⟨v7, v8, v9, v10, v11, v12, v13, v14, v15, v16, v17, v18, v19, rfl⟩, LA, GO⟩
      refine ⟨rfl, ?_⟩
      show Q (V.bl (decide (V.int 12 = V.int 12))) H4
      rw [decide_eq_true rfl]
      exact k _
end
end K57

/-! the head: what the top has written *-/
namespace K57
open PySem L2
theorem kit_self {K : PySem.W.Frag} {D : Addr} : PySem.W.kitOne K (.ref D) (.ref D) = some true := if_pos (beq_self_eq_true _)
theorem kit_ref {K : PySem.W.Frag} {D C : Addr} {b : Bool} (hn : (Value.ref D == Value.ref C) = false) (h2 : PySem.W.isClsIn K C = true) (h3 : PySem.W.typeIn K (.ref C) = some (.type "type")) (h4 : PySem.W.subIn K (.ref D) (.ref C) = some b) : PySem.W.kitOne K (.ref D) (.ref C) = some b := by
  have e2 : ((PySem.W.clsIn K C).isSome && PySem.W.typeIn K (.ref C) == some (.type "type")) = true := by
    have h2' : (PySem.W.clsIn K C).isSome = true := h2
    rw [h2', h3] <;> rfl
  show (if (Value.ref D == Value.ref C) = true then some true else (if ((PySem.W.clsIn K C).isSome && PySem.W.typeIn K (.ref C) == some (.type "type")) = true then PySem.W.subIn K (.ref D) (.ref C) else none)) = some b
  rw [if_neg (by rw [hn]; exact Bool.false_ne_true), if_pos e2]
  exact h4
theorem all_mk {P : Program} {w : World} {K : PySem.W.Frag} {h : Heap} {mg : Str → Option Value} {fa CR CP EC E0 E1 E2 E3 f1 f2 f3 f4 f5 f6 f7 f8 f9 f10 f11 f12 f13 f14 f15 f16 f17 f18 f19 f20 f21 f22 f23 f24 f25 f26 f27 : Addr} (X : K.In h) (G : h.Ns mainGlobals mg) (hfa : mg "law" = some (.ref fa))
    {od1 an1 od2 an2 od3 an3 od4 an4 od5 an5 od6 an6 od7 an7 od8 an8 od9 an9 od10 an10 od11 an11 od12 an12 od13 an13 od14 an14 od15 an15 od16 an16 od17 an17 od18 an18 od19 an19 od20 an20 od21 an21 od22 an22 od23 an23 od24 an24 od25 an25 od26 an26 od27 an27 : Option Addr} {sl1 sl2 sl3 sl4 sl5 sl6 sl7 sl8 sl9 sl10 sl11 sl12 sl13 sl14 sl15 sl16 sl17 sl18 sl19 sl20 sl21 sl22 sl23 sl24 sl25 sl26 sl27 : Array (Option Value)} {oc1 kV1 dc1 pm1 cd1 ct1 oc2 kV2 dc2 pm2 cd2 ct2 oc3 kV3 dc3 pm3 cd3 ct3 oc4 kV4 dc4 pm4 cd4 ct4 oc5 kV5 dc5 pm5 cd5 ct5 oc6 kV6 dc6 pm6 cd6 ct6 oc7 kV7 dc7 pm7 cd7 ct7 oc8 kV8 dc8 pm8 cd8 ct8 oc9 kV9 dc9 pm9 cd9 ct9 oc10 kV10 dc10 pm10 cd10 ct10 oc11 kV11 dc11 pm11 cd11 ct11 oc12 kV12 dc12 pm12 cd12 ct12 oc13 kV13 dc13 pm13 cd13 ct13 oc14 kV14 dc14 pm14 cd14 ct14 oc15 kV15 dc15 pm15 cd15 ct15 oc16 kV16 dc16 pm16 cd16 ct16 oc17 kV17 dc17 pm17 cd17 ct17 oc18 kV18 dc18 pm18 cd18 ct18 oc19 kV19 dc19 pm19 cd19 ct19 oc20 kV20 dc20 pm20 cd20 ct20 oc21 kV21 dc21 pm21 cd21 ct21 oc22 kV22 dc22 pm22 cd22 ct22 oc23 kV23 dc23 pm23 cd23 ct23 oc24 kV24 dc24 pm24 cd24 ct24 oc25 kV25 dc25 pm25 cd25 ct25 oc26 kV26 dc26 pm26 cd26 ct26 oc27 kV27 dc27 pm27 cd27 ct27 : Value} {t1 t2 t3 t4 : Tok}
    (aCR : PySem.W.nsIn K mainGlobals "Register" = some (some (.ref CR)))
    (pgCR : PySem.W.plainGet K CR Str.empty = true)
    (hdCR : PySem.W.hasDictIn K CR = true)
    (poCR : PySem.W.plainOver K CR = true)
    (saCR : PySem.W.findIn K (.ref CR) "__setattr__" = some (some (.builtin "object.__setattr__")))
    (mkCR : PySem.W.makesIn K CR = true)
    (kcCR : PySem.W.keepIn K (.ref CR) = true)
    (aCP : PySem.W.nsIn K mainGlobals "Purse" = some (some (.ref CP)))
    (pgCP : PySem.W.plainGet K CP Str.empty = true)
    (hdCP : PySem.W.hasDictIn K CP = true)
    (poCP : PySem.W.plainOver K CP = true)
    (saCP : PySem.W.findIn K (.ref CP) "__setattr__" = some (some (.builtin "object.__setattr__")))
    (mkCP : PySem.W.makesIn K CP = true)
    (kcCP : PySem.W.keepIn K (.ref CP) = true)
    (nc : PySem.W.findIn K (.ref CR) "_counts" = some none)
    (np : PySem.W.findIn K (.ref CR) "_power" = some none)
    (no : PySem.W.findIn K (.ref CP) "_counter" = some none)
    (nh : PySem.W.findIn K (.ref CP) "_held" = some none)
    (aEC : PySem.W.nsIn K mainGlobals "CloakError" = some (some (.ref EC)))
    (bEC : PySem.W.subIn K (.ref EC) (.type "BaseException") = some true)
    (hEC : PySem.W.hasDictIn K EC = true)
    (tEC : PySem.W.typeIn K (.ref EC) = some (.type "type"))
    (gC : PySem.W.specialIn K (.builtin "object.__class__") "__get__" = some (some (.builtin "getset_descriptor.__get__")))
    (tkC : PySem.W.takesIn K (.builtin "object.__class__") = some true)
    (aE0 : PySem.W.nsIn K mainGlobals "NotAllowed" = some (some (.ref E0)))
    (xE0 : PySem.W.excIn K E0 veB "ValueError.__new__" = true)
    (kE0 : PySem.W.keepIn K (.ref E0) = true)
    (bE0 : PySem.W.subIn K (.ref E0) (.type "BaseException") = some true)
    (tE0 : PySem.W.typeIn K (.ref E0) = some (.type "type"))
    (sE0 : PySem.W.subIn K (.ref E0) (.ref EC) = some true)
    (gaE0 : PySem.W.findIn K (.ref E0) "__getattribute__" = some (some (.builtin "BaseException.__getattribute__")))
    (ggE0 : PySem.W.findIn K (.ref E0) "__getattr__" = some none)
    (hE0 : PySem.W.hasDictIn K E0 = true)
    (clE0 : PySem.W.findIn K (.ref E0) "__class__" = some (some (.builtin "object.__class__")))
    (mE0 : PySem.W.mroIn K E0 (.type "object") = some true)
    (iE0 : PySem.W.isClsIn K E0 = true)
    (aE1 : PySem.W.nsIn K mainGlobals "Missing" = some (some (.ref E1)))
    (xE1 : PySem.W.excIn K E1 veB "ValueError.__new__" = true)
    (kE1 : PySem.W.keepIn K (.ref E1) = true)
    (bE1 : PySem.W.subIn K (.ref E1) (.type "BaseException") = some true)
    (tE1 : PySem.W.typeIn K (.ref E1) = some (.type "type"))
    (sE1 : PySem.W.subIn K (.ref E1) (.ref EC) = some true)
    (gaE1 : PySem.W.findIn K (.ref E1) "__getattribute__" = some (some (.builtin "BaseException.__getattribute__")))
    (ggE1 : PySem.W.findIn K (.ref E1) "__getattr__" = some none)
    (hE1 : PySem.W.hasDictIn K E1 = true)
    (clE1 : PySem.W.findIn K (.ref E1) "__class__" = some (some (.builtin "object.__class__")))
    (mE1 : PySem.W.mroIn K E1 (.type "object") = some true)
    (iE1 : PySem.W.isClsIn K E1 = true)
    (aE2 : PySem.W.nsIn K mainGlobals "Full" = some (some (.ref E2)))
    (xE2 : PySem.W.excIn K E2 veB "ValueError.__new__" = true)
    (kE2 : PySem.W.keepIn K (.ref E2) = true)
    (bE2 : PySem.W.subIn K (.ref E2) (.type "BaseException") = some true)
    (tE2 : PySem.W.typeIn K (.ref E2) = some (.type "type"))
    (sE2 : PySem.W.subIn K (.ref E2) (.ref EC) = some true)
    (gaE2 : PySem.W.findIn K (.ref E2) "__getattribute__" = some (some (.builtin "BaseException.__getattribute__")))
    (ggE2 : PySem.W.findIn K (.ref E2) "__getattr__" = some none)
    (hE2 : PySem.W.hasDictIn K E2 = true)
    (clE2 : PySem.W.findIn K (.ref E2) "__class__" = some (some (.builtin "object.__class__")))
    (mE2 : PySem.W.mroIn K E2 (.type "object") = some true)
    (iE2 : PySem.W.isClsIn K E2 = true)
    (aE3 : PySem.W.nsIn K mainGlobals "Down" = some (some (.ref E3)))
    (xE3 : PySem.W.excIn K E3 veB "ValueError.__new__" = true)
    (kE3 : PySem.W.keepIn K (.ref E3) = true)
    (bE3 : PySem.W.subIn K (.ref E3) (.type "BaseException") = some true)
    (tE3 : PySem.W.typeIn K (.ref E3) = some (.type "type"))
    (sE3 : PySem.W.subIn K (.ref E3) (.ref EC) = some true)
    (gaE3 : PySem.W.findIn K (.ref E3) "__getattribute__" = some (some (.builtin "BaseException.__getattribute__")))
    (ggE3 : PySem.W.findIn K (.ref E3) "__getattr__" = some none)
    (hE3 : PySem.W.hasDictIn K E3 = true)
    (clE3 : PySem.W.findIn K (.ref E3) "__class__" = some (some (.builtin "object.__class__")))
    (mE3 : PySem.W.mroIn K E3 (.type "object") = some true)
    (iE3 : PySem.W.isClsIn K E3 = true)
    (nE0E1 : ((Value.ref E0 == Value.ref E1) = false))
    (sE0E1 : PySem.W.subIn K (.ref E0) (.ref E1) = some false)
    (nE0E2 : ((Value.ref E0 == Value.ref E2) = false))
    (sE0E2 : PySem.W.subIn K (.ref E0) (.ref E2) = some false)
    (nE0E3 : ((Value.ref E0 == Value.ref E3) = false))
    (sE0E3 : PySem.W.subIn K (.ref E0) (.ref E3) = some false)
    (nE1E0 : ((Value.ref E1 == Value.ref E0) = false))
    (sE1E0 : PySem.W.subIn K (.ref E1) (.ref E0) = some false)
    (nE1E2 : ((Value.ref E1 == Value.ref E2) = false))
    (sE1E2 : PySem.W.subIn K (.ref E1) (.ref E2) = some false)
    (nE1E3 : ((Value.ref E1 == Value.ref E3) = false))
    (sE1E3 : PySem.W.subIn K (.ref E1) (.ref E3) = some false)
    (nE2E0 : ((Value.ref E2 == Value.ref E0) = false))
    (sE2E0 : PySem.W.subIn K (.ref E2) (.ref E0) = some false)
    (nE2E1 : ((Value.ref E2 == Value.ref E1) = false))
    (sE2E1 : PySem.W.subIn K (.ref E2) (.ref E1) = some false)
    (nE2E3 : ((Value.ref E2 == Value.ref E3) = false))
    (sE2E3 : PySem.W.subIn K (.ref E2) (.ref E3) = some false)
    (nE3E0 : ((Value.ref E3 == Value.ref E0) = false))
    (sE3E0 : PySem.W.subIn K (.ref E3) (.ref E0) = some false)
    (nE3E1 : ((Value.ref E3 == Value.ref E1) = false))
    (sE3E1 : PySem.W.subIn K (.ref E3) (.ref E1) = some false)
    (nE3E2 : ((Value.ref E3 == Value.ref E2) = false))
    (sE3E2 : PySem.W.subIn K (.ref E3) (.ref E2) = some false)
    (gEp : PySem.W.nsIn K mainGlobals "EPOCHS" = some (some (.int 3 t1)))
    (gMh : PySem.W.nsIn K mainGlobals "MAX_HELD" = some (some (.int 12 t2)))
    (gMd : PySem.W.nsIn K mainGlobals "MAX_DIGITS" = some (some (.int 4 t3)))
    (gDi : PySem.W.nsIn K mainGlobals "DIGITS" = some (some (.str (Str.ofString "0123456789") t4)))
    (z_len : PySem.W.nsIn K mainGlobals "len" = some none)
    (z_max : PySem.W.nsIn K mainGlobals "max" = some none)
    (z_min : PySem.W.nsIn K mainGlobals "min" = some none)
    (z_all : PySem.W.nsIn K mainGlobals "all" = some none)
    (z_sum : PySem.W.nsIn K mainGlobals "sum" = some none)
    (z_int : PySem.W.nsIn K mainGlobals "int" = some none)
    (z_str : PySem.W.nsIn K mainGlobals "str" = some none)
    (z_abs : PySem.W.nsIn K mainGlobals "abs" = some none)
    (z_list : PySem.W.nsIn K mainGlobals "list" = some none)
    (z_tuple : PySem.W.nsIn K mainGlobals "tuple" = some none)
    (z_range : PySem.W.nsIn K mainGlobals "range" = some none)
    (z_isinstance : PySem.W.nsIn K mainGlobals "isinstance" = some none)
    (a1 : PySem.W.nsIn K mainGlobals "joined_text" = some (some (.ref f1)))
    (l1 : K.lookup f1 = some ⟨oc1, od1, .func (PySem.W.fnOf "joined_text" "joined_text" (defArgs sJoin) (defBody sJoin) (defScope sJoin) .none kV1 dc1 pm1 an1 cd1 ct1), sl1⟩)
    (c1 : PySem.W.codeIn K cd1 "joined_text" = true)
    (k1 : PySem.W.keepIn K (.ref f1) = true)
    (a2 : PySem.W.nsIn K mainGlobals "check_epoch" = some (some (.ref f2)))
    (l2 : K.lookup f2 = some ⟨oc2, od2, .func (PySem.W.fnOf "check_epoch" "check_epoch" (defArgs sEp) (defBody sEp) (defScope sEp) .none kV2 dc2 pm2 an2 cd2 ct2), sl2⟩)
    (c2 : PySem.W.codeIn K cd2 "check_epoch" = true)
    (k2 : PySem.W.keepIn K (.ref f2) = true)
    (a3 : PySem.W.nsIn K mainGlobals "read_numbers" = some (some (.ref f3)))
    (l3 : K.lookup f3 = some ⟨oc3, od3, .func (PySem.W.fnOf "read_numbers" "read_numbers" (defArgs sNums) (defBody sNums) (defScope sNums) .none kV3 dc3 pm3 an3 cd3 ct3), sl3⟩)
    (c3 : PySem.W.codeIn K cd3 "read_numbers" = true)
    (k3 : PySem.W.keepIn K (.ref f3) = true)
    (a4 : PySem.W.nsIn K mainGlobals "read_item" = some (some (.ref f4)))
    (l4 : K.lookup f4 = some ⟨oc4, od4, .func (PySem.W.fnOf "read_item" "read_item" (defArgs sItem) (defBody sItem) (defScope sItem) .none kV4 dc4 pm4 an4 cd4 ct4), sl4⟩)
    (c4 : PySem.W.codeIn K cd4 "read_item" = true)
    (k4 : PySem.W.keepIn K (.ref f4) = true)
    (a5 : PySem.W.nsIn K mainGlobals "load_purse" = some (some (.ref f5)))
    (l5 : K.lookup f5 = some ⟨oc5, od5, .func (PySem.W.fnOf "load_purse" "load_purse" (defArgs sLoad) (defBody sLoad) (defScope sLoad) .none kV5 dc5 pm5 an5 cd5 ct5), sl5⟩)
    (c5 : PySem.W.codeIn K cd5 "load_purse" = true)
    (k5 : PySem.W.keepIn K (.ref f5) = true)
    (a6 : PySem.W.nsIn K mainGlobals "_law_row" = some (some (.ref f6)))
    (l6 : K.lookup f6 = some ⟨oc6, od6, .func (PySem.W.fnOf "_law_row" "_law_row" (defArgs sRow) (defBody sRow) (defScope sRow) .none kV6 dc6 pm6 an6 cd6 ct6), sl6⟩)
    (c6 : PySem.W.codeIn K cd6 "_law_row" = true)
    (k6 : PySem.W.keepIn K (.ref f6) = true)
    (a7 : PySem.W.nsIn K mainGlobals "_law_at" = some (some (.ref f7)))
    (l7 : K.lookup f7 = some ⟨oc7, od7, .func (PySem.W.fnOf "_law_at" "_law_at" (defArgs sAt) (defBody sAt) (defScope sAt) .none kV7 dc7 pm7 an7 cd7 ct7), sl7⟩)
    (c7 : PySem.W.codeIn K cd7 "_law_at" = true)
    (k7 : PySem.W.keepIn K (.ref f7) = true)
    (a8 : PySem.W.nsIn K mainGlobals "_law_word" = some (some (.ref f8)))
    (l8 : K.lookup f8 = some ⟨oc8, od8, .func (PySem.W.fnOf "_law_word" "_law_word" (defArgs sWord) (defBody sWord) (defScope sWord) .none kV8 dc8 pm8 an8 cd8 ct8), sl8⟩)
    (c8 : PySem.W.codeIn K cd8 "_law_word" = true)
    (k8 : PySem.W.keepIn K (.ref f8) = true)
    (a9 : PySem.W.nsIn K mainGlobals "_law_told" = some (some (.ref f9)))
    (l9 : K.lookup f9 = some ⟨oc9, od9, .func (PySem.W.fnOf "_law_told" "_law_told" (defArgs sTold) (defBody sTold) (defScope sTold) .none kV9 dc9 pm9 an9 cd9 ct9), sl9⟩)
    (c9 : PySem.W.codeIn K cd9 "_law_told" = true)
    (k9 : PySem.W.keepIn K (.ref f9) = true)
    (a10 : PySem.W.nsIn K mainGlobals "_law_text" = some (some (.ref f10)))
    (l10 : K.lookup f10 = some ⟨oc10, od10, .func (PySem.W.fnOf "_law_text" "_law_text" (defArgs sText) (defBody sText) (defScope sText) .none kV10 dc10 pm10 an10 cd10 ct10), sl10⟩)
    (c10 : PySem.W.codeIn K cd10 "_law_text" = true)
    (k10 : PySem.W.keepIn K (.ref f10) = true)
    (a11 : PySem.W.nsIn K mainGlobals "_law_taken" = some (some (.ref f11)))
    (l11 : K.lookup f11 = some ⟨oc11, od11, .func (PySem.W.fnOf "_law_taken" "_law_taken" (defArgs sTaken) (defBody sTaken) (defScope sTaken) .none kV11 dc11 pm11 an11 cd11 ct11), sl11⟩)
    (c11 : PySem.W.codeIn K cd11 "_law_taken" = true)
    (k11 : PySem.W.keepIn K (.ref f11) = true)
    (a12 : PySem.W.nsIn K mainGlobals "_law_put" = some (some (.ref f12)))
    (l12 : K.lookup f12 = some ⟨oc12, od12, .func (PySem.W.fnOf "_law_put" "_law_put" (defArgs sPut) (defBody sPut) (defScope sPut) .none kV12 dc12 pm12 an12 cd12 ct12), sl12⟩)
    (c12 : PySem.W.codeIn K cd12 "_law_put" = true)
    (k12 : PySem.W.keepIn K (.ref f12) = true)
    (a13 : PySem.W.nsIn K mainGlobals "_law_good" = some (some (.ref f13)))
    (l13 : K.lookup f13 = some ⟨oc13, od13, .func (PySem.W.fnOf "_law_good" "_law_good" (defArgs sGood) (defBody sGood) (defScope sGood) .none kV13 dc13 pm13 an13 cd13 ct13), sl13⟩)
    (c13 : PySem.W.codeIn K cd13 "_law_good" = true)
    (k13 : PySem.W.keepIn K (.ref f13) = true)
    (a14 : PySem.W.nsIn K mainGlobals "law" = some (some (.ref f14)))
    (l14 : K.lookup f14 = some ⟨oc14, od14, .func (PySem.W.fnOf "law" "law" (defArgs sLaw) (defBody sLaw) (defScope sLaw) .none kV14 dc14 pm14 an14 cd14 ct14), sl14⟩)
    (c14 : PySem.W.codeIn K cd14 "law" = true)
    (k14 : PySem.W.keepIn K (.ref f14) = true)
    (a15 : PySem.W.findIn K (.ref CR) "__init__" = some (some (.ref f15)))
    (i15 : PySem.W.isFn K (.ref f15) = true)
    (l15 : K.lookup f15 = some ⟨oc15, od15, .func (PySem.W.fnOf "__init__" "Register.__init__" (defArgs sRInit) (defBody sRInit) (defScope sRInit) .none kV15 dc15 pm15 an15 cd15 ct15), sl15⟩)
    (c15 : PySem.W.codeIn K cd15 "Register.__init__" = true)
    (k15 : PySem.W.keepIn K (.ref f15) = true)
    (a16 : PySem.W.findIn K (.ref CR) "count" = some (some (.ref f16)))
    (i16 : PySem.W.isFn K (.ref f16) = true)
    (l16 : K.lookup f16 = some ⟨oc16, od16, .func (PySem.W.fnOf "count" "Register.count" (defArgs sRCount) (defBody sRCount) (defScope sRCount) .none kV16 dc16 pm16 an16 cd16 ct16), sl16⟩)
    (c16 : PySem.W.codeIn K cd16 "Register.count" = true)
    (k16 : PySem.W.keepIn K (.ref f16) = true)
    (a17 : PySem.W.findIn K (.ref CR) "raise_to" = some (some (.ref f17)))
    (i17 : PySem.W.isFn K (.ref f17) = true)
    (l17 : K.lookup f17 = some ⟨oc17, od17, .func (PySem.W.fnOf "raise_to" "Register.raise_to" (defArgs sRRaise) (defBody sRRaise) (defScope sRRaise) .none kV17 dc17 pm17 an17 cd17 ct17), sl17⟩)
    (c17 : PySem.W.codeIn K cd17 "Register.raise_to" = true)
    (k17 : PySem.W.keepIn K (.ref f17) = true)
    (a18 : PySem.W.findIn K (.ref CR) "supply" = some (some (.ref f18)))
    (i18 : PySem.W.isFn K (.ref f18) = true)
    (l18 : K.lookup f18 = some ⟨oc18, od18, .func (PySem.W.fnOf "supply" "Register.supply" (defArgs sRSup) (defBody sRSup) (defScope sRSup) .none kV18 dc18 pm18 an18 cd18 ct18), sl18⟩)
    (c18 : PySem.W.codeIn K cd18 "Register.supply" = true)
    (k18 : PySem.W.keepIn K (.ref f18) = true)
    (a19 : PySem.W.findIn K (.ref CP) "__init__" = some (some (.ref f19)))
    (i19 : PySem.W.isFn K (.ref f19) = true)
    (l19 : K.lookup f19 = some ⟨oc19, od19, .func (PySem.W.fnOf "__init__" "Purse.__init__" (defArgs sPInit) (defBody sPInit) (defScope sPInit) .none kV19 dc19 pm19 an19 cd19 ct19), sl19⟩)
    (c19 : PySem.W.codeIn K cd19 "Purse.__init__" = true)
    (k19 : PySem.W.keepIn K (.ref f19) = true)
    (a20 : PySem.W.findIn K (.ref CP) "_next_number" = some (some (.ref f20)))
    (i20 : PySem.W.isFn K (.ref f20) = true)
    (l20 : K.lookup f20 = some ⟨oc20, od20, .func (PySem.W.fnOf "_next_number" "Purse._next_number" (defArgs sPNext) (defBody sPNext) (defScope sPNext) .none kV20 dc20 pm20 an20 cd20 ct20), sl20⟩)
    (c20 : PySem.W.codeIn K cd20 "Purse._next_number" = true)
    (k20 : PySem.W.keepIn K (.ref f20) = true)
    (a21 : PySem.W.findIn K (.ref CP) "put" = some (some (.ref f21)))
    (i21 : PySem.W.isFn K (.ref f21) = true)
    (l21 : K.lookup f21 = some ⟨oc21, od21, .func (PySem.W.fnOf "put" "Purse.put" (defArgs sPPut) (defBody sPPut) (defScope sPPut) .none kV21 dc21 pm21 an21 cd21 ct21), sl21⟩)
    (c21 : PySem.W.codeIn K cd21 "Purse.put" = true)
    (k21 : PySem.W.keepIn K (.ref f21) = true)
    (a22 : PySem.W.findIn K (.ref CP) "put_back" = some (some (.ref f22)))
    (i22 : PySem.W.isFn K (.ref f22) = true)
    (l22 : K.lookup f22 = some ⟨oc22, od22, .func (PySem.W.fnOf "put_back" "Purse.put_back" (defArgs sPBack) (defBody sPBack) (defScope sPBack) .none kV22 dc22 pm22 an22 cd22 ct22), sl22⟩)
    (c22 : PySem.W.codeIn K cd22 "Purse.put_back" = true)
    (k22 : PySem.W.keepIn K (.ref f22) = true)
    (a23 : PySem.W.findIn K (.ref CP) "_usable" = some (some (.ref f23)))
    (i23 : PySem.W.isFn K (.ref f23) = true)
    (l23 : K.lookup f23 = some ⟨oc23, od23, .func (PySem.W.fnOf "_usable" "Purse._usable" (defArgs sPUse) (defBody sPUse) (defScope sPUse) .none kV23 dc23 pm23 an23 cd23 ct23), sl23⟩)
    (c23 : PySem.W.codeIn K cd23 "Purse._usable" = true)
    (k23 : PySem.W.keepIn K (.ref f23) = true)
    (a24 : PySem.W.findIn K (.ref CP) "take" = some (some (.ref f24)))
    (i24 : PySem.W.isFn K (.ref f24) = true)
    (l24 : K.lookup f24 = some ⟨oc24, od24, .func (PySem.W.fnOf "take" "Purse.take" (defArgs sPTake) (defBody sPTake) (defScope sPTake) .none kV24 dc24 pm24 an24 cd24 ct24), sl24⟩)
    (c24 : PySem.W.codeIn K cd24 "Purse.take" = true)
    (k24 : PySem.W.keepIn K (.ref f24) = true)
    (a25 : PySem.W.findIn K (.ref CP) "left" = some (some (.ref f25)))
    (i25 : PySem.W.isFn K (.ref f25) = true)
    (l25 : K.lookup f25 = some ⟨oc25, od25, .func (PySem.W.fnOf "left" "Purse.left" (defArgs sPLeft) (defBody sPLeft) (defScope sPLeft) .none kV25 dc25 pm25 an25 cd25 ct25), sl25⟩)
    (c25 : PySem.W.codeIn K cd25 "Purse.left" = true)
    (k25 : PySem.W.keepIn K (.ref f25) = true)
    (a26 : PySem.W.findIn K (.ref CP) "size" = some (some (.ref f26)))
    (i26 : PySem.W.isFn K (.ref f26) = true)
    (l26 : K.lookup f26 = some ⟨oc26, od26, .func (PySem.W.fnOf "size" "Purse.size" (defArgs sPSize) (defBody sPSize) (defScope sPSize) .none kV26 dc26 pm26 an26 cd26 ct26), sl26⟩)
    (c26 : PySem.W.codeIn K cd26 "Purse.size" = true)
    (k26 : PySem.W.keepIn K (.ref f26) = true)
    (a27 : PySem.W.findIn K (.ref CP) "image" = some (some (.ref f27)))
    (i27 : PySem.W.isFn K (.ref f27) = true)
    (l27 : K.lookup f27 = some ⟨oc27, od27, .func (PySem.W.fnOf "image" "Purse.image" (defArgs sPImg) (defBody sPImg) (defScope sPImg) .none kV27 dc27 pm27 an27 cd27 ct27), sl27⟩)
    (c27 : PySem.W.codeIn K cd27 "Purse.image" = true)
    (k27 : PySem.W.keepIn K (.ref f27) = true) :
    ∃ fd : FuncData, (∀ (s : Shared) (v : Value), BindsTo s fd ⟨[v], []⟩ [("_law_script", v)]) ∧ ∀ base : Heap, K.In base → base.Ns mainGlobals mg → FnOk P w K mg base CX0 7 fa fd ["_law_script"] (spLaw K) := by
  have e := hfa.symm.trans (PySem.W.mg_of X G a14)
  cases e
  have F1 := fun_mk (st := sJoin) l1 c1 k1
  have b1 := F1.binds (ps := ["word", "numbers"]) fun _ _ _ _ _ _ us hl => match us, hl with | [_, _], _ => rfl
  have F2 := fun_mk (st := sEp) l2 c2 k2
  have b2 := F2.binds (ps := ["epoch"]) fun _ _ _ _ _ _ us hl => match us, hl with | [_], _ => rfl
  have F3 := fun_mk (st := sNums) l3 c3 k3
  have b3 := F3.binds (ps := ["words", "most"]) fun _ _ _ _ _ _ us hl => match us, hl with | [_, _], _ => rfl
  have F4 := fun_mk (st := sItem) l4 c4 k4
  have b4 := F4.binds (ps := ["text"]) fun _ _ _ _ _ _ us hl => match us, hl with | [_], _ => rfl
  have F5 := fun_mk (st := sLoad) l5 c5 k5
  have b5 := F5.binds (ps := ["counter", "text"]) fun _ _ _ _ _ _ us hl => match us, hl with | [_, _], _ => rfl
  have F6 := fun_mk (st := sRow) l6 c6 k6
  have b6 := F6.binds (ps := ["_law_script"]) fun _ _ _ _ _ _ us hl => match us, hl with | [_], _ => rfl
  have F7 := fun_mk (st := sAt) l7 c7 k7
  have b7 := F7.binds (ps := ["_law_row_here", "_law_at_here"]) fun _ _ _ _ _ _ us hl => match us, hl with | [_, _], _ => rfl
  have F8 := fun_mk (st := sWord) l8 c8 k8
  have b8 := F8.binds (ps := ["_law_why"]) fun _ _ _ _ _ _ us hl => match us, hl with | [_], _ => rfl
  have F9 := fun_mk (st := sTold) l9 c9 k9
  have b9 := F9.binds (ps := ["_law_purse", "_law_kind", "_law_epoch", "_law_ticket", "_law_blinding"]) fun _ _ _ _ _ _ us hl => match us, hl with | [_, _, _, _, _], _ => rfl
  have F10 := fun_mk (st := sText) l10 c10 k10
  have b10 := F10.binds (ps := ["_law_held"]) fun _ _ _ _ _ _ us hl => match us, hl with | [_], _ => rfl
  have F11 := fun_mk (st := sTaken) l11 c11 k11
  have b11 := F11.binds (ps := ["_law_state", "_law_epoch"]) fun _ _ _ _ _ _ us hl => match us, hl with | [_, _], _ => rfl
  have F12 := fun_mk (st := sPut) l12 c12 k12
  have b12 := F12.binds (ps := ["_law_state", "_law_epoch", "_law_ticket", "_law_blinding"]) fun _ _ _ _ _ _ us hl => match us, hl with | [_, _, _, _], _ => rfl
  have F13 := fun_mk (st := sGood) l13 c13 k13
  have b13 := F13.binds (ps := ["_law_purse", "_law_state"]) fun _ _ _ _ _ _ us hl => match us, hl with | [_, _], _ => rfl
  have F14 := fun_mk (st := sLaw) l14 c14 k14
  have b14 := F14.binds (ps := ["_law_script"]) fun _ _ _ _ _ _ us hl => match us, hl with | [_], _ => rfl
  have F15 := fun_mk (st := sRInit) l15 c15 k15
  have b15 := F15.binds (ps := ["self"]) fun _ _ _ _ _ _ us hl => match us, hl with | [_], _ => rfl
  have F16 := fun_mk (st := sRCount) l16 c16 k16
  have b16 := F16.binds (ps := ["self", "epoch"]) fun _ _ _ _ _ _ us hl => match us, hl with | [_, _], _ => rfl
  have F17 := fun_mk (st := sRRaise) l17 c17 k17
  have b17 := F17.binds (ps := ["self", "epoch", "count"]) fun _ _ _ _ _ _ us hl => match us, hl with | [_, _, _], _ => rfl
  have F18 := fun_mk (st := sRSup) l18 c18 k18
  have b18 := F18.binds (ps := ["self", "raises"]) fun _ _ _ _ _ _ us hl => match us, hl with | [_, _], _ => rfl
  have F19 := fun_mk (st := sPInit) l19 c19 k19
  have b19 := F19.binds (ps := ["self", "counter"]) fun _ _ _ _ _ _ us hl => match us, hl with | [_, _], _ => rfl
  have F20 := fun_mk (st := sPNext) l20 c20 k20
  have b20 := F20.binds (ps := ["self", "epoch"]) fun _ _ _ _ _ _ us hl => match us, hl with | [_, _], _ => rfl
  have F21 := fun_mk (st := sPPut) l21 c21 k21
  have b21 := F21.binds (ps := ["self", "epoch", "ticket", "blinding"]) fun _ _ _ _ _ _ us hl => match us, hl with | [_, _, _, _], _ => rfl
  have F22 := fun_mk (st := sPBack) l22 c22 k22
  have b22 := F22.binds (ps := ["self", "item"]) fun _ _ _ _ _ _ us hl => match us, hl with | [_, _], _ => rfl
  have F23 := fun_mk (st := sPUse) l23 c23 k23
  have b23 := F23.binds (ps := ["self", "epoch"]) fun _ _ _ _ _ _ us hl => match us, hl with | [_, _], _ => rfl
  have F24 := fun_mk (st := sPTake) l24 c24 k24
  have b24 := F24.binds (ps := ["self", "epoch"]) fun _ _ _ _ _ _ us hl => match us, hl with | [_, _], _ => rfl
  have F25 := fun_mk (st := sPLeft) l25 c25 k25
  have b25 := F25.binds (ps := ["self", "epoch"]) fun _ _ _ _ _ _ us hl => match us, hl with | [_, _], _ => rfl
  have F26 := fun_mk (st := sPSize) l26 c26 k26
  have b26 := F26.binds (ps := ["self"]) fun _ _ _ _ _ _ us hl => match us, hl with | [_], _ => rfl
  have F27 := fun_mk (st := sPImg) l27 c27 k27
  have b27 := F27.binds (ps := ["self"]) fun _ _ _ _ _ _ us hl => match us, hl with | [_], _ => rfl
  have XE0 : ErrC K mg "NotAllowed" E0 EC := ⟨PySem.W.mg_of X G aE0, xE0, kE0, bE0, tE0, PySem.W.exm_ref bEC hEC tEC sE0, ⟨gaE0, ggE0, bE0, hE0, clE0, gC, tkC, mE0⟩⟩
  have XE1 : ErrC K mg "Missing" E1 EC := ⟨PySem.W.mg_of X G aE1, xE1, kE1, bE1, tE1, PySem.W.exm_ref bEC hEC tEC sE1, ⟨gaE1, ggE1, bE1, hE1, clE1, gC, tkC, mE1⟩⟩
  have XE2 : ErrC K mg "Full" E2 EC := ⟨PySem.W.mg_of X G aE2, xE2, kE2, bE2, tE2, PySem.W.exm_ref bEC hEC tEC sE2, ⟨gaE2, ggE2, bE2, hE2, clE2, gC, tkC, mE2⟩⟩
  have XE3 : ErrC K mg "Down" E3 EC := ⟨PySem.W.mg_of X G aE3, xE3, kE3, bE3, tE3, PySem.W.exm_ref bEC hEC tEC sE3, ⟨gaE3, ggE3, bE3, hE3, clE3, gC, tkC, mE3⟩⟩
  have YE0 : Kit K ⟨EC, E0, E1, E2, E3, CR, CP⟩ E0 true false false false := ⟨kit_self, kit_ref nE0E1 iE1 tE1 sE0E1, kit_ref nE0E2 iE2 tE2 sE0E2, kit_ref nE0E3 iE3 tE3 sE0E3⟩
  have YE1 : Kit K ⟨EC, E0, E1, E2, E3, CR, CP⟩ E1 false true false false := ⟨kit_ref nE1E0 iE0 tE0 sE1E0, kit_self, kit_ref nE1E2 iE2 tE2 sE1E2, kit_ref nE1E3 iE3 tE3 sE1E3⟩
  have YE2 : Kit K ⟨EC, E0, E1, E2, E3, CR, CP⟩ E2 false false true false := ⟨kit_ref nE2E0 iE0 tE0 sE2E0, kit_ref nE2E1 iE1 tE1 sE2E1, kit_self, kit_ref nE2E3 iE3 tE3 sE2E3⟩
  have YE3 : Kit K ⟨EC, E0, E1, E2, E3, CR, CP⟩ E3 false false false true := ⟨kit_ref nE3E0 iE0 tE0 sE3E0, kit_ref nE3E1 iE1 tE1 sE3E1, kit_ref nE3E2 iE2 tE2 sE3E2, kit_self⟩
  have T : Txt K mg ⟨EC, E0, E1, E2, E3, CR, CP⟩ := ⟨XE0, XE1, XE2, XE3, YE0, YE1, YE2, YE3, PySem.W.mg_of X G aEC, ⟨_, PySem.W.mg_of X G gEp⟩, ⟨_, PySem.W.mg_of X G gMh⟩, ⟨_, PySem.W.mg_of X G gMd⟩, ⟨_, PySem.W.mg_of X G gDi⟩, ⟨pgCR, hdCR, poCR, saCR⟩, ⟨pgCP, hdCP, poCP, saCP⟩, nc, np, no, nh, PySem.W.mg_of X G aCR, PySem.W.mg_of X G aCP, PySem.W.mg_none_of X G z_len, PySem.W.mg_none_of X G z_max, PySem.W.mg_none_of X G z_min, PySem.W.mg_none_of X G z_all, PySem.W.mg_none_of X G z_sum, PySem.W.mg_none_of X G z_int, PySem.W.mg_none_of X G z_str, PySem.W.mg_none_of X G z_abs, PySem.W.mg_none_of X G z_list, PySem.W.mg_none_of X G z_tuple, PySem.W.mg_none_of X G z_range, PySem.W.mg_none_of X G z_isinstance⟩
  have M : Ms K mg ⟨EC, E0, E1, E2, E3, CR, CP⟩ f2 f16 f20 f23 f19 f26 f22 f27 f1 _ _ _ _ _ _ _ _ _ :=
    ⟨⟨F2, b2, PySem.W.mg_of X G a2⟩, ⟨F16, b16, ⟨a16, i16, k16⟩⟩, ⟨F20, b20, ⟨a20, i20, k20⟩⟩, ⟨F23, b23, ⟨a23, i23, k23⟩⟩, F19, b19, ⟨mkCP, a19, i19, kcCP⟩, ⟨F26, b26, ⟨a26, i26, k26⟩⟩, ⟨F22, b22, ⟨a22, i22, k22⟩⟩, ⟨F27, b27, ⟨a27, i27, k27⟩⟩, ⟨F1, b1, PySem.W.mg_of X G a1⟩⟩
  have M2 : Mq K mg ⟨EC, E0, E1, E2, E3, CR, CP⟩ f17 f21 f24 f25 f8 _ _ _ _ _ :=
    ⟨⟨F17, b17, ⟨a17, i17, k17⟩⟩, ⟨F21, b21, ⟨a21, i21, k21⟩⟩, ⟨F24, b24, ⟨a24, i24, k24⟩⟩, ⟨F25, b25, ⟨a25, i25, k25⟩⟩, ⟨F8, b8, PySem.W.mg_of X G a8⟩⟩
  have L : Ls K mg ⟨EC, E0, E1, E2, E3, CR, CP⟩ f6 f7 f9 f10 f11 f12 f13 f5 f3 f4 f15 f18 _ _ _ _ _ _ _ _ _ _ _ _ :=
    ⟨⟨F6, b6, PySem.W.mg_of X G a6⟩, ⟨F7, b7, PySem.W.mg_of X G a7⟩, ⟨F9, b9, PySem.W.mg_of X G a9⟩, ⟨F10, b10, PySem.W.mg_of X G a10⟩, ⟨F11, b11, PySem.W.mg_of X G a11⟩, ⟨F12, b12, PySem.W.mg_of X G a12⟩, ⟨F13, b13, PySem.W.mg_of X G a13⟩, ⟨F5, b5, PySem.W.mg_of X G a5⟩, ⟨F3, b3, PySem.W.mg_of X G a3⟩, ⟨F4, b4, PySem.W.mg_of X G a4⟩, F15, b15, ⟨mkCR, a15, i15, kcCR⟩, ⟨F18, b18, ⟨a18, i18, k18⟩⟩⟩
  exact ⟨PySem.W.fnOf "law" "law" (defArgs sLaw) (defBody sLaw) (defScope sLaw) .none kV14 dc14 pm14 an14 cd14 ct14, fun s v => .of_eq rfl, fun base _ _ => ok_law F14 T M M2 L⟩
/-- the law row's walk (63 items, 7 rooms) -/
theorem walk {l : PySem.W.OpenLaw} {q : Program} {loose : List Str} {XP : (Str → Option Value) → Heap → Prop} {YP : World → Heap → Prop} {d : DefRec} {K : Params → PySem.W.Frag} (hn : l.most = some 63) (hdf : d.params.defaults = [])
    (hY : ∀ (w : World) (h : Heap), YP w h → (K w.params).In h)
    (F : ∀ (w : World) (mg : Str → Option Value) (fa : Addr) (h : Heap), (K w.params).In h → h.Ns mainGlobals mg → mg d.name = some (.ref fa) →
      ∃ fd : FuncData, (∀ (s : Shared) (u : Value), BindsTo s fd ⟨[u], []⟩ [("_law_script", u)]) ∧ ∀ base : Heap, (K w.params).In base → base.Ns mainGlobals mg → FnOk l.prog w (K w.params) mg base CX0 7 fa fd ["_law_script"] (spLaw (K w.params))) :
    PySem.W.WalkO q loose XP YP l.row.toRowW d [] (fun f vs => PySem.call f vs) :=
  L2.walk_of (n := 63) (k := 7) (x := "_law_script") (CX := fun _ => CX0) (sp := fun w => spLaw (K w.params)) hn (by decide) hdf ⟨rfl, by decide, by decide⟩ hY F (fun _ _ a ns hl _ hS => ⟨a, ns, rfl, hS, hl, fun _ => rfl⟩) fun _ _ _ _ _ z => z
end K57


open PySem PySem.W PyProof.Rows in
set_option maxRecDepth 100000 in
set_option maxHeartbeats 0 in
theorem PySem.Challenge.cw_cloak_k57_whole_purses_holds : PySem.Challenge.rw_cloak_k57_whole_purses.Holds := by
  w_on; o_law; k_head; (case hw => w_witness2)
  k_fill
  refine K57.walk (l := PySem.Challenge.rw_cloak_k57_whole_purses) rfl rfl (fun w h Y => PySem.W.kIn_of Y) ?F
  case F =>
    intro w mg fa h KX G hmg
    refine' K57.all_mk KX G hmg ?aCR ?pgCR ?hdCR ?poCR ?saCR ?mkCR ?kcCR ?aCP ?pgCP ?hdCP ?poCP ?saCP ?mkCP ?kcCP ?nc ?np ?no ?nh ?aEC ?bEC ?hEC ?tEC ?gC ?tkC ?aE0 ?xE0 ?kE0 ?bE0 ?tE0 ?sE0 ?gaE0 ?ggE0 ?hE0 ?clE0 ?mE0 ?iE0 ?aE1 ?xE1 ?kE1 ?bE1 ?tE1 ?sE1 ?gaE1 ?ggE1 ?hE1 ?clE1 ?mE1 ?iE1 ?aE2 ?xE2 ?kE2 ?bE2 ?tE2 ?sE2 ?gaE2 ?ggE2 ?hE2 ?clE2 ?mE2 ?iE2 ?aE3 ?xE3 ?kE3 ?bE3 ?tE3 ?sE3 ?gaE3 ?ggE3 ?hE3 ?clE3 ?mE3 ?iE3 ?nE0E1 ?sE0E1 ?nE0E2 ?sE0E2 ?nE0E3 ?sE0E3 ?nE1E0 ?sE1E0 ?nE1E2 ?sE1E2 ?nE1E3 ?sE1E3 ?nE2E0 ?sE2E0 ?nE2E1 ?sE2E1 ?nE2E3 ?sE2E3 ?nE3E0 ?sE3E0 ?nE3E1 ?sE3E1 ?nE3E2 ?sE3E2 ?gEp ?gMh ?gMd ?gDi ?z_len ?z_max ?z_min ?z_all ?z_sum ?z_int ?z_str ?z_abs ?z_list ?z_tuple ?z_range ?z_isinstance ?a1 ?l1 ?c1 ?k1 ?a2 ?l2 ?c2 ?k2 ?a3 ?l3 ?c3 ?k3 ?a4 ?l4 ?c4 ?k4 ?a5 ?l5 ?c5 ?k5 ?a6 ?l6 ?c6 ?k6 ?a7 ?l7 ?c7 ?k7 ?a8 ?l8 ?c8 ?k8 ?a9 ?l9 ?c9 ?k9 ?a10 ?l10 ?c10 ?k10 ?a11 ?l11 ?c11 ?k11 ?a12 ?l12 ?c12 ?k12 ?a13 ?l13 ?c13 ?k13 ?a14 ?l14 ?c14 ?k14 ?a15 ?i15 ?l15 ?c15 ?k15 ?a16 ?i16 ?l16 ?c16 ?k16 ?a17 ?i17 ?l17 ?c17 ?k17 ?a18 ?i18 ?l18 ?c18 ?k18 ?a19 ?i19 ?l19 ?c19 ?k19 ?a20 ?i20 ?l20 ?c20 ?k20 ?a21 ?i21 ?l21 ?c21 ?k21 ?a22 ?i22 ?l22 ?c22 ?k22 ?a23 ?i23 ?l23 ?c23 ?k23 ?a24 ?i24 ?l24 ?c24 ?k24 ?a25 ?i25 ?l25 ?c25 ?k25 ?a26 ?i26 ?l26 ?c26 ?k26 ?a27 ?i27 ?l27 ?c27 ?k27
    (case aCR => k_is)
    (case pgCR => k_is)
    (case hdCR => k_is)
    (case poCR => k_is)
    (case saCR => k_is)
    (case mkCR => k_is)
    (case kcCR => k_is)
    (case aCP => k_is)
    (case pgCP => k_is)
    (case hdCP => k_is)
    (case poCP => k_is)
    (case saCP => k_is)
    (case mkCP => k_is)
    (case kcCP => k_is)
    (case nc => k_is)
    (case np => k_is)
    (case no => k_is)
    (case nh => k_is)
    (case aEC => k_is)
    (case bEC => k_is)
    (case hEC => k_is)
    (case tEC => k_is)
    (case gC => k_is)
    (case tkC => k_is)
    (case aE0 => k_is)
    (case xE0 => k_exc)
    (case kE0 => k_is)
    (case bE0 => k_is)
    (case tE0 => k_is)
    (case sE0 => k_is)
    (case gaE0 => k_is)
    (case ggE0 => k_is)
    (case hE0 => k_is)
    (case clE0 => k_is)
    (case mE0 => k_is)
    (case iE0 => k_is)
    (case aE1 => k_is)
    (case xE1 => k_exc)
    (case kE1 => k_is)
    (case bE1 => k_is)
    (case tE1 => k_is)
    (case sE1 => k_is)
    (case gaE1 => k_is)
    (case ggE1 => k_is)
    (case hE1 => k_is)
    (case clE1 => k_is)
    (case mE1 => k_is)
    (case iE1 => k_is)
    (case aE2 => k_is)
    (case xE2 => k_exc)
    (case kE2 => k_is)
    (case bE2 => k_is)
    (case tE2 => k_is)
    (case sE2 => k_is)
    (case gaE2 => k_is)
    (case ggE2 => k_is)
    (case hE2 => k_is)
    (case clE2 => k_is)
    (case mE2 => k_is)
    (case iE2 => k_is)
    (case aE3 => k_is)
    (case xE3 => k_exc)
    (case kE3 => k_is)
    (case bE3 => k_is)
    (case tE3 => k_is)
    (case sE3 => k_is)
    (case gaE3 => k_is)
    (case ggE3 => k_is)
    (case hE3 => k_is)
    (case clE3 => k_is)
    (case mE3 => k_is)
    (case iE3 => k_is)
    (case nE0E1 => exact rfl)
    (case sE0E1 => k_is)
    (case nE0E2 => exact rfl)
    (case sE0E2 => k_is)
    (case nE0E3 => exact rfl)
    (case sE0E3 => k_is)
    (case nE1E0 => exact rfl)
    (case sE1E0 => k_is)
    (case nE1E2 => exact rfl)
    (case sE1E2 => k_is)
    (case nE1E3 => exact rfl)
    (case sE1E3 => k_is)
    (case nE2E0 => exact rfl)
    (case sE2E0 => k_is)
    (case nE2E1 => exact rfl)
    (case sE2E1 => k_is)
    (case nE2E3 => exact rfl)
    (case sE2E3 => k_is)
    (case nE3E0 => exact rfl)
    (case sE3E0 => k_is)
    (case nE3E1 => exact rfl)
    (case sE3E1 => k_is)
    (case nE3E2 => exact rfl)
    (case sE3E2 => k_is)
    (case gEp => k_is)
    (case gMh => k_is)
    (case gMd => k_is)
    (case gDi => k_is)
    (case z_len => k_is)
    (case z_max => k_is)
    (case z_min => k_is)
    (case z_all => k_is)
    (case z_sum => k_is)
    (case z_int => k_is)
    (case z_str => k_is)
    (case z_abs => k_is)
    (case z_list => k_is)
    (case z_tuple => k_is)
    (case z_range => k_is)
    (case z_isinstance => k_is)
    (case a1 => k_is)
    (case l1 => k_is)
    (case c1 => k_is)
    (case k1 => k_is)
    (case a2 => k_is)
    (case l2 => k_is)
    (case c2 => k_is)
    (case k2 => k_is)
    (case a3 => k_is)
    (case l3 => k_is)
    (case c3 => k_is)
    (case k3 => k_is)
    (case a4 => k_is)
    (case l4 => k_is)
    (case c4 => k_is)
    (case k4 => k_is)
    (case a5 => k_is)
    (case l5 => k_is)
    (case c5 => k_is)
    (case k5 => k_is)
    (case a6 => k_is)
    (case l6 => k_is)
    (case c6 => k_is)
    (case k6 => k_is)
    (case a7 => k_is)
    (case l7 => k_is)
    (case c7 => k_is)
    (case k7 => k_is)
    (case a8 => k_is)
    (case l8 => k_is)
    (case c8 => k_is)
    (case k8 => k_is)
    (case a9 => k_is)
    (case l9 => k_is)
    (case c9 => k_is)
    (case k9 => k_is)
    (case a10 => k_is)
    (case l10 => k_is)
    (case c10 => k_is)
    (case k10 => k_is)
    (case a11 => k_is)
    (case l11 => k_is)
    (case c11 => k_is)
    (case k11 => k_is)
    (case a12 => k_is)
    (case l12 => k_is)
    (case c12 => k_is)
    (case k12 => k_is)
    (case a13 => k_is)
    (case l13 => k_is)
    (case c13 => k_is)
    (case k13 => k_is)
    (case a14 => k_is)
    (case l14 => k_is)
    (case c14 => k_is)
    (case k14 => k_is)
    (case a15 => k_is)
    (case i15 => k_is)
    (case l15 => k_is)
    (case c15 => k_is)
    (case k15 => k_is)
    (case a16 => k_is)
    (case i16 => k_is)
    (case l16 => k_is)
    (case c16 => k_is)
    (case k16 => k_is)
    (case a17 => k_is)
    (case i17 => k_is)
    (case l17 => k_is)
    (case c17 => k_is)
    (case k17 => k_is)
    (case a18 => k_is)
    (case i18 => k_is)
    (case l18 => k_is)
    (case c18 => k_is)
    (case k18 => k_is)
    (case a19 => k_is)
    (case i19 => k_is)
    (case l19 => k_is)
    (case c19 => k_is)
    (case k19 => k_is)
    (case a20 => k_is)
    (case i20 => k_is)
    (case l20 => k_is)
    (case c20 => k_is)
    (case k20 => k_is)
    (case a21 => k_is)
    (case i21 => k_is)
    (case l21 => k_is)
    (case c21 => k_is)
    (case k21 => k_is)
    (case a22 => k_is)
    (case i22 => k_is)
    (case l22 => k_is)
    (case c22 => k_is)
    (case k22 => k_is)
    (case a23 => k_is)
    (case i23 => k_is)
    (case l23 => k_is)
    (case c23 => k_is)
    (case k23 => k_is)
    (case a24 => k_is)
    (case i24 => k_is)
    (case l24 => k_is)
    (case c24 => k_is)
    (case k24 => k_is)
    (case a25 => k_is)
    (case i25 => k_is)
    (case l25 => k_is)
    (case c25 => k_is)
    (case k25 => k_is)
    (case a26 => k_is)
    (case i26 => k_is)
    (case l26 => k_is)
    (case c26 => k_is)
    (case k26 => k_is)
    (case a27 => k_is)
    (case i27 => k_is)
    (case l27 => k_is)
    (case c27 => k_is)
    (case k27 => k_is)

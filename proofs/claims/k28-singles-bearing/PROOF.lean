import PyProof.Rows.All
import HandS.Conv
import HandS.ForMost
import HandS.IsInst
import HandS.SortInts
import HandS.SortRule
import HandS.Strs
import HandS.TupAny
import HandS.TupSets
import HandS.Walk
import HandS.Zip
import KE.GoesEnum
import OpenK.AllK
import Wide.All
import Wide.FinOn
import PySem.Challenge.RW_lowerboards_k28_whole_singles_and_bearin
set_option Elab.async false
set_option linter.all false
set_option maxRecDepth 100000
set_option maxHeartbeats 0
/-! The program's and the law's functions as plain functions of lists of ints, and what is true of them. -/
namespace Mir
/-! ### sorting -/
def ins (x : Int) : List Int → List Int
  | [] => [x]
  | y :: r => if x ≤ y then x :: y :: r else y :: ins x r
theorem ins_perm (x : Int) : ∀ l : List Int, (ins x l).Perm (x :: l)
  | [] => .refl _
  | y :: r => by
    unfold ins
    split
    · exact .refl _
    · exact ((ins_perm x r).cons y).trans (.swap x y r)
theorem ins_sorted (x : Int) : ∀ l : List Int, l.Pairwise (· ≤ ·) → (ins x l).Pairwise (· ≤ ·)
  | [], _ => by
    unfold ins
    exact List.pairwise_singleton _ _
  | y :: r, h => by
    unfold ins
    obtain ⟨h1, h2⟩ := List.pairwise_cons.mp h
    split
    · rename_i hxy
      refine List.pairwise_cons.mpr ⟨fun z hz => ?_, h⟩
      rcases List.mem_cons.mp hz with e | hz
      · subst e
        exact hxy
      · exact Int.le_trans hxy (h1 z hz)
    · rename_i hxy
      refine List.pairwise_cons.mpr ⟨fun z hz => ?_, ins_sorted x r h2⟩
      rcases List.mem_cons.mp ((ins_perm x r).mem_iff.mp hz) with e | hz
      · subst e
        omega
      · exact h1 z hz
theorem same_sorted {a b : List Int} (hp : a.Perm b) (ha : a.Pairwise (· ≤ ·)) (hb : b.Pairwise (· ≤ ·)) : a = b :=
  List.Perm.eq_of_pairwise (le := (· ≤ ·)) (fun _ _ _ _ h1 h2 => Int.le_antisymm h1 h2) ha hb hp
/-- what sorted gives of a sorted list with one more behind it -/
theorem sorted_ins {near l : List Int} {x : Int} (hn : near.Pairwise (· ≤ ·)) (hp : l.Perm (near ++ [x])) (hl : l.Pairwise (· ≤ ·)) : l = ins x near :=
  same_sorted (hp.trans (List.perm_append_comm.trans (ins_perm x near).symm)) hl (ins_sorted x near hn)
theorem ins_len (x : Int) (l : List Int) : (ins x l).length = l.length + 1 := (ins_perm x l).length_eq
/-! by a code -/
def cod : List Int → Int
  | [] => 0
  | x :: r => x * 16 ^ r.length + cod r
def insC (x : List Int) : List (List Int) → List (List Int)
  | [] => [x]
  | y :: r => if cod x ≤ cod y then x :: y :: r else y :: insC x r
def sortC : List (List Int) → List (List Int)
  | [] => []
  | x :: r => insC x (sortC r)
theorem insC_perm (x : List Int) : ∀ l : List (List Int), (insC x l).Perm (x :: l)
  | [] => .refl _
  | y :: r => by
    unfold insC
    split
    · exact .refl _
    · exact ((insC_perm x r).cons y).trans (.swap x y r)
theorem sortC_perm : ∀ l : List (List Int), (sortC l).Perm l
  | [] => .refl _
  | x :: r => (insC_perm x (sortC r)).trans ((sortC_perm r).cons x)
theorem insC_sorted (x : List Int) : ∀ l : List (List Int), l.Pairwise (fun a b => cod a ≤ cod b) → (insC x l).Pairwise (fun a b => cod a ≤ cod b)
  | [], _ => by
    unfold insC
    exact List.pairwise_singleton _ _
  | y :: r, h => by
    unfold insC
    obtain ⟨h1, h2⟩ := List.pairwise_cons.mp h
    split
    · rename_i hxy
      refine List.pairwise_cons.mpr ⟨fun z hz => ?_, h⟩
      rcases List.mem_cons.mp hz with e | hz
      · subst e
        exact hxy
      · exact Int.le_trans hxy (h1 z hz)
    · rename_i hxy
      refine List.pairwise_cons.mpr ⟨fun z hz => ?_, insC_sorted x r h2⟩
      rcases List.mem_cons.mp ((insC_perm x r).mem_iff.mp hz) with e | hz
      · subst e
        omega
      · exact h1 z hz
theorem sortC_sorted : ∀ l : List (List Int), (sortC l).Pairwise (fun a b => cod a ≤ cod b)
  | [] => .nil
  | x :: r => insC_sorted x _ (sortC_sorted r)
/-- of lists of one length with small items the code tells the list -/
theorem cod_bd : ∀ l : List Int, (∀ m ∈ l, 0 ≤ m ∧ m < 16) → 0 ≤ cod l ∧ cod l < 16 ^ l.length
  | [], _ => by
    constructor <;> decide
  | x :: r, h => by
    obtain ⟨h1, h2⟩ := cod_bd r fun m hm => h m (List.mem_cons_of_mem _ hm)
    obtain ⟨h3, h4⟩ := h x List.mem_cons_self
    have hp : (0 : Int) < 16 ^ r.length := Int.pow_pos (by decide)
    unfold cod
    rw [List.length_cons, Int.pow_succ]
    generalize (16 : Int) ^ r.length = P at *
    have e1 : 0 ≤ x * P := Int.mul_nonneg h3 (Int.le_of_lt hp)
    have e2 : (x + 1) * P ≤ 16 * P := Int.mul_le_mul_of_nonneg_right (by omega) (Int.le_of_lt hp)
    rw [Int.add_mul, Int.one_mul] at e2
    constructor
    · omega
    · rw [Int.mul_comm P 16]
      omega
theorem cod_inj : ∀ (a b : List Int), a.length = b.length → (∀ m ∈ a, 0 ≤ m ∧ m < 16) → (∀ m ∈ b, 0 ≤ m ∧ m < 16) → cod a = cod b → a = b
  | [], [], _, _, _, _ => rfl
  | [], _ :: _, h, _, _, _ => by simp at h
  | _ :: _, [], h, _, _, _ => by simp at h
  | x :: r, y :: s, hl, ha, hb, hc => by
    have hl' : r.length = s.length := by simpa using hl
    have ba := cod_bd r fun m hm => ha m (List.mem_cons_of_mem _ hm)
    have bb := cod_bd s fun m hm => hb m (List.mem_cons_of_mem _ hm)
    unfold cod at hc
    rw [← hl'] at hc bb
    have hp : (0 : Int) < 16 ^ r.length := Int.pow_pos (by decide)
    generalize (16 : Int) ^ r.length = P at *
    have exy : x = y := by
      rcases Int.lt_trichotomy x y with h | h | h
      · have := Int.mul_le_mul_of_nonneg_right (show x + 1 ≤ y by omega) (Int.le_of_lt hp)
        rw [Int.add_mul, Int.one_mul] at this
        omega
      · exact h
      · have := Int.mul_le_mul_of_nonneg_right (show y + 1 ≤ x by omega) (Int.le_of_lt hp)
        rw [Int.add_mul, Int.one_mul] at this
        omega
    subst exy
    rw [cod_inj r s hl' (fun m hm => ha m (List.mem_cons_of_mem _ hm)) (fun m hm => hb m (List.mem_cons_of_mem _ hm)) (by omega)]
theorem same_code {d : Nat} {a b : List (List Int)} (hp : a.Perm b) (hd : ∀ l ∈ b, l.length = d ∧ ∀ m ∈ l, 0 ≤ m ∧ m < 16) (ha : a.Pairwise fun x y => cod x ≤ cod y) (hb : b.Pairwise fun x y => cod x ≤ cod y) : a = b := by
  refine List.Perm.eq_of_pairwise (le := fun x y => cod x ≤ cod y) (fun x y hx hy h1 h2 => ?_) ha hb hp
  obtain ⟨lx, bx⟩ := hd x (hp.mem_iff.mp hx)
  obtain ⟨ly, bY⟩ := hd y hy
  exact cod_inj x y (lx.trans ly.symm) bx bY (by omega)
theorem same_sortC {d : Nat} {a b : List (List Int)} (hp : a.Perm b) (hd : ∀ l ∈ b, l.length = d ∧ ∀ m ∈ l, 0 ≤ m ∧ m < 16) (ha : a.Pairwise fun x y => cod x ≤ cod y) : a = sortC b :=
  same_code (hp.trans (sortC_perm b).symm) (fun l hl => hd l ((sortC_perm b).mem_iff.mp hl)) ha (sortC_sorted b)

/-! ### the program -/
def rg (a b : Int) : List Int := (List.range (b - a).toNat).map fun i => a + (i : Nat)
def anyGt (a b : List Int) : Bool := (a.zip b).any fun p => decide (p.2 < p.1)
def lowGo : List Int → List Int → List Int → List Int → Bool
  | near, far, x :: r, y :: s => if anyGt (ins x near) (ins y far) = true then false else lowGo (ins x near) (ins y far) r s
  | _, _, _, _ => true
def low (a b : List Int) : Bool := lowGo [] [] a b
def undone (ns : List Int) : List Int := (List.range ns.length).map fun (i : Nat) => ((ns.idxOf ((i : Int) + 1) : Nat) : Int) + 1
def falls (ns : List Int) : List Int := ((List.range (ns.length - 1)).filter fun (i : Nat) => decide (ns.getD (i + 1) 0 < ns.getD i 0)).map fun (i : Nat) => (i : Int)
def single (ns : List Int) : Bool := (falls ns).length == 1 && (falls (undone ns)).length == 1
def rowStep (thing : Int) (row : List Int) : List Int := row.zipIdx.map fun p => if (p.2 : Int) < thing then p.1 + 1 else p.1
def tableGo : List Int → List Int → List (List Int)
  | _, [] => []
  | row, t :: r => rowStep t row :: tableGo (rowStep t row) r
def table (ns : List Int) : List (List Int) := tableGo (List.replicate ns.length 0) ns
def leastCount (m k : Int) : Int := if m - k + 1 > 0 then m - k + 1 else 0
def mostCount (n m k : Int) : Int := if n - k + 1 < m then n - k + 1 else m
def ahead (m k c : Int) : List Int := rg 1 (m - c + 1) ++ rg k (k + c)
def least (n m k c : Int) : List Int := if c ≤ leastCount m k then rg 1 (n + 1) else ahead m k c ++ (rg 1 (n + 1)).filter fun t => !(ahead m k c).contains t
def singlesRow (n m : Int) (row : List Int) : List (List Int) := (row.zipIdx.filter fun p => decide (leastCount m ((p.2 : Int) + 1) < p.1)).map fun p => least n m ((p.2 : Int) + 1) p.1
def singlesL (ns : List Int) : List (List Int) := (table ns).zipIdx.flatMap fun p => singlesRow ns.length ((p.2 : Int) + 1) p.1
def singles (ns : List Int) : List (List Int) := sortC (singlesL ns)
def bearing (ns : List Int) : List (List Int) := (singles ns).filter fun s => !((singles ns).any fun o => (o != s) && low s o)

/-! ### the law -/
def all : Nat → List Int → List (List Int)
  | 0, _ => [[]]
  | f + 1, l => if l = [] then [[]] else l.flatMap fun t => (all f (l.filter fun o => o != t)).map (t :: ·)
def count (ns : List Int) (m k : Int) : Int := (((ns.take m.toNat).filter fun t => decide (k ≤ t)).length : Nat)
def corners (n : Int) : List (Int × Int) := (rg 1 (n + 1)).flatMap fun p => (rg 1 (n + 1)).map fun l => (p, l)
def lawLow (a b : List Int) : Bool := (corners a.length).all fun c => decide (count a c.1 c.2 ≤ count b c.1 c.2)
def lawSingles (n : Int) : List (List Int) :=
  if n < 5 then (all n.toNat (rg 1 (n + 1))).filter single
  else sortC ((corners n).flatMap fun c => (rg (leastCount c.1 c.2 + 1) (mostCount n c.1 c.2 + 1)).map fun k => least n c.1 c.2 k)
def lawBelow (ns : List Int) (S : List (List Int)) : List (List Int) := S.filter fun s => lawLow s ns
def lawBearing (ns : List Int) (S : List (List Int)) : List (List Int) :=
  (lawBelow ns S).filter fun s => ((lawBelow ns S).filter fun o => (o != s) && lawLow s o).isEmpty
/-! every order that mixing gives -/
def picks {α : Type} : List α → List (α × List α)
  | [] => []
  | x :: r => (x, r) :: (picks r).map fun p => (p.1, x :: p.2)
def perms {α : Type} : Nat → List α → List (List α)
  | 0, _ => [[]]
  | n + 1, l => (picks l).flatMap fun p => (perms n p.2).map (p.1 :: ·)
def orders (n : Nat) : List (List Int) := perms n (rg 1 ((n : Int) + 1))
end Mir

/-! Rules that the hand layer lacks: written for this claim. -/
namespace Gp
open PySem PySem.Spec PyProof.Rows L2

/-! ### t.index(i), a tuple of ints -/
theorem flat_ints (ys : List Int) : (ys.map V.int).all flatV = true := by
  rw [List.all_map]
  exact List.all_eq_true.mpr fun _ _ => rfl
section
variable {X : Cx}
def rTupIx (K : PySem.W.Frag) : V → List V → Hp → VK → Prop := fun x xs H Q =>
  ∃ (p : Addr) (ys : List Int) (z : Int) (j : Nat), x = .ref p ∧ xs = [.int z] ∧ SqT K H p (ys.map V.int) ∧
    ys[j]? = some z ∧ (∀ m, m < j → ys[m]? ≠ some z) ∧ Q (.int (j : Nat)) H
theorem mt_tupIx : MtR X "tuple.index" (rTupIx X.K) := by
  intro pins s σ H x xs v us Q I rx rs h
  obtain ⟨p, ys, z, j, hx, hxs, hq, hy, hno, q⟩ := h
  subst hx hxs
  cases rx
  obtain ⟨u, hu, t, ht⟩ := vals1 rs
  subst hu ht
  obtain ⟨its, r, pl, hz⟩ := I.tuple hq
  obtain ⟨⟨cls, dd, dt, sl⟩, ho, hc, n, hd⟩ := pl
  simp only at hc hd
  subst hc hd
  have hl : its.toArray.size = ys.length := by
    rw [List.size_toArray, ← r.length, List.length_map]
  have hj : j < its.toArray.size := by
    rw [hl]
    exact (List.getElem?_eq_some_iff.mp hy).1
  have at' : ∀ (m : Nat) (hm : m < its.toArray.size), ∃ y t', ys[m]? = some y ∧ its.toArray[m] = Value.int y t' := by
    intro m hm
    have hm' : m < ys.length := by
      rw [← hl]
      exact hm
    obtain ⟨w, hw, t', hw'⟩ := r.get (i := m) (x := .int ys[m]) (by simp [hm'])
    refine ⟨ys[m], t', List.getElem?_eq_getElem hm', ?_⟩
    have e := (List.getElem?_eq_some_iff.mp hw).2
    rw [← hw', ← e]
    simp
  refine call_meets PySem.F.slot_tuple_index ⟨_, ho, rfl⟩ PySem.F.entry_tuple_index (PySem.F.args_tuple_index_2 _ _)
    (TI.tuple_indexAt p its.toArray n dd sl (.int z t) (eqU (.int z)) j hj ?_ ?_)
    ⟨ho, fun w hw => mem_eqAt (x := .int z) ⟨t, rfl⟩ rfl r (flat_ints ys) w (by simpa using hw), ⟨.int (j : Nat), H, I.tok _, ⟨_, rfl⟩, q⟩⟩
  · obtain ⟨y, t', h1, h2⟩ := at' j hj
    rw [hy] at h1
    cases h1
    rw [h2]
    show (z == z) = true
    exact beq_self_eq_true z
  · intro m hm hmj
    obtain ⟨y, t', h1, h2⟩ := at' m hm
    rw [h2]
    show (y == z) = false
    exact beq_eq_false_iff_ne.mpr fun e => hno m hmj (e ▸ h1)
end

/-! ### sorted(t), a tuple of ints -/
section
variable {prog : Program} {w : World} {A : Around} {E : Value → Shared → Prop} {s : Shared}
theorem collect_tup {l : Addr} {vs : List Value} {Q : List Value → Shared → Prop} (hl : IsTup s.heap l vs.toArray)
    (h : Q vs { s with heap := (s.heap.push (seqObj "list" #[] 0)).update s.heap.objs.size (Obj.mapSeq (· ++ vs.toArray)) })
    (hsz : vs.length ≤ sizeLine) : wpAny (model prog w) A (collect (.ref l)) Q E s := by
  obtain ⟨o, ho, hc, n, hd⟩ := id hl
  unfold collect
  refine wpAny_bind (wpAny_runValue (codeAny_builtin
    entry_proto_collect' ?_))
  show wpAny _ _ (do
    again (.builtin "list.__iadd__" ⟨[← newList [], .ref l], []⟩)) _ _ s
  refine wpAny_bind (wpAny_newList (wpAny_pure ⟨Code.quiet_builtin _ (by decide +kernel),
    codeAny_builtin entry_list_iadd' ?_⟩))
  show wpAny _ _ (Builtin.List.listExtendWith (.ref s.heap.objs.size) (.ref l)
    (.ref s.heap.objs.size)) _ _ { s with heap := s.heap.push (seqObj "list" #[] 0) }
  unfold Builtin.List.listExtendWith
  have ho' : (s.heap.push (seqObj "list" #[] 0)).get? l = some o :=
    Heap.get?_push_of_some _ ho
  refine wpAny_bind (wpAny_typeOf (T := "tuple")
    ⟨o, ho', hc⟩ ?_)
  have ht : (Value.type "tuple" == Value.type "tuple") = true :=
    by rfl
  rw [if_pos (by rw [ht]
                 simp)]
  refine wpAny_bind (listItems_at
    ho' hd ?_)
  refine wpAny_bind (listItems_at (xs := #[]) (n := 0)
    (Heap.get?_push_size _ rfl) rfl ?_)
  rw [if_neg (by
    simp)]
  refine wpAny_bind (listUpdate_at (xs := #[]) (n := 0) (Heap.get?_push_size _ rfl) rfl ?_ (Nat.zero_le _) (by
    show (#[] ++ vs.toArray).size ≤ sizeLine + 1
    simp only [Array.size_append, List.size_toArray, List.length_nil]
    omega))
  refine wpAny_pure ?_
  show wpAny (model prog w) A (do
      let o ← load s.heap.objs.size
      match o.data with
      | .seq xs _ => pure xs.toList
      | _ => unsupported "internal:collect") Q E _
  refine wpAny_bind (wpAny_load (get?_update_seq
    (Heap.get?_push_size _ rfl) _) ?_)
  show wpAny _ _ (pure ((#[] : Array Value) ++ vs.toArray).toList)
    Q E _
  rw [show ((#[] : Array Value) ++ vs.toArray).toList = vs by
    simp]
  exact wpAny_pure h
open SrtO in
theorem sorted_tup {l : Addr} {vs : List Value} {ltv : Value → Value → Bool} {Q : Value → Shared → Prop} (O : Swo ltv) (hl : IsTup s.heap l vs.toArray)
    (hz : vs.length ≤ sizeLine)
    (hS : 2 ≤ vs.length → ∀ (h₁ : Heap) (a : Addr), h₁.get? a = some (seqObj "list" vs.toArray 0) →
      (∀ b o, s.heap.get? b = some o → b ≠ a ∧ h₁.get? b = some o) → SortableO prog w A.in1.in1 { s with heap := h₁ } a vs ltv)
    (h : ∀ out : List Value, Srtd ltv out → Stb ltv out vs → Q (.ref (s.heap.objs.size + 1)) { s with heap := sortedAll s.heap vs out.toArray }) :
    wpAny (model prog w) A (call (.builtin "sorted") [.ref l]) Q E s := by
  refine Calls.call_function_entry kind_sorted plain_sorted entry_sorted
    (args_sorted1 _) ?_
  unfold Builtin.«sorted»
  refine wpAny_bind (m := checkCount "sorted" 1 1 _)
    (wpAny_pure ?_)
  refine wpAny_bind (collect_tup
    hl ?_ hz)
  refine wpAny_bind (wpAny_newList
    ?_ hz)
  have hsz : ((s.heap.push (seqObj "list" #[] 0)).update s.heap.objs.size
      (Obj.mapSeq (· ++ vs.toArray))).objs.size = s.heap.objs.size + 1 := by
    rw [Heap.size_update,
      size_push']
  have hoL : (((s.heap.push (seqObj "list" #[] 0)).update s.heap.objs.size (Obj.mapSeq (· ++ vs.toArray))).push
      (seqObj "list" vs.toArray 0)).get? (s.heap.objs.size + 1) = some (seqObj "list" vs.toArray 0) := by
    rw [← hsz]
    exact Heap.get?_push_size _ rfl
  have keep : ∀ b o, s.heap.get? b = some o → b ≠ s.heap.objs.size + 1 ∧ (((s.heap.push (seqObj "list" #[] 0)).update s.heap.objs.size
      (Obj.mapSeq (· ++ vs.toArray))).push (seqObj "list" vs.toArray 0)).get? b = some o := by
    intro b o q
    have hlt : b < s.heap.objs.size :=
      Heap.lt_size q
    refine ⟨Nat.ne_of_lt (Nat.lt_succ_of_lt hlt),
      Heap.get?_push_of_some _ ?_⟩
    rw [Heap.get?_update_ne _ _ _ _
      (Nat.ne_of_lt hlt)]
    exact Heap.get?_push_of_some _
      q
  show wpAny _ _ _ _ _ { s with heap := ((s.heap.push (seqObj "list" #[] 0)).update s.heap.objs.size
    (Obj.mapSeq (· ++ vs.toArray))).push (seqObj "list" vs.toArray 0) }
  rw [hsz]
  refine wpAny_bind (wpAny_holding (wpAny_call_entry slot_list_sort ⟨_, hoL, rfl⟩ entry_list_sort
    (list_sort_ord O hoL hz (fun h2 => hS h2 _ _ hoL keep) fun out hs hb => ⟨_, rfl, ?_⟩) (args_list_sort _)))
  exact wpAny_pure ⟨_, rfl,
    h out hs hb⟩
end
section
variable {X : Cx}
def rSortedTI (K : PySem.W.Frag) : List V → Hp → VK → Prop := fun vs H Q => ∃ (a : Addr) (ns : List Int), vs = [V.ref a] ∧ SqT K H a (ns.map V.int) ∧
  ∀ (ns' : List Int) (p : Addr), ns'.Perm ns → ns'.Pairwise (· ≤ ·) → H p = none → Q (.ref p) (upd H p (.lst (ns'.map V.int)))
theorem cr_sortedTI : CallR X (.builtin "sorted") (rSortedTI X.K) := by
  intro pins s σ H vs us Q I r h
  obtain ⟨a, ns, hvs, hs, q⟩ := h
  subst hvs
  obtain ⟨its, rv, hl, hz⟩ := I.tuple hs
  rw [Vals.ref1 r]
  have hi := rv.ints
  refine sorted_tup SrtO.swo_int hl (by
    rw [← rv.length]
    exact hz) (fun h2 h₁ a' _ _ => SrtO.ints_sortable hi h2) fun out h1 h2 => ?_
  obtain ⟨k1, k2, k3⟩ := SrtO.ints_out hi h1 h2
  obtain ⟨ep, he'⟩ := PyProof.Rows.sortedAll_at s.heap its
    out.toArray
  have hlen : ((out.map SrtO.iv).map V.int).length ≤ sizeLine := by
    rw [List.length_map, k2.length_eq]
    rw [List.length_map] at hz
    exact hz
  refine ⟨.ref _, upd H (s.heap.objs.size + 1) (.lst ((out.map SrtO.iv).map V.int)), ?_, rfl, q _ _ k2 k3 (I.hok.fresh (Nat.le_succ _))⟩
  exact I.laid (t' := s.toks) (fun _ _ => PyProof.Rows.sortedAll_old)
    (Nat.le_succ _) ⟨hlen, out, ep, vals_of_ints k1, he'⟩
/-- sorted(x), x a list or a tuple of ints -/
theorem cr_sortedAny : CallR X (.builtin "sorted") (fun xs H Q => rSortedI X.K xs H Q ∨ rSortedTI X.K xs H Q) := cr_sortedI.or cr_sortedTI
end

/-! ### len of a set of tuples -/
section
variable {X : Cx}
def rLenTO (P : Program) (w : World) (K : PySem.W.Frag) : List V → Hp → VK → Prop := fun xs H Q => ∃ (a : Addr) (L : List (Addr × List Int)), xs = [.ref a] ∧
  H a = some (SetTO P w a L) ∧ ((L.map (·.2)).Nodup → Q (.int (L.length : Nat)) H)
theorem cr_lenTO : CallR X (.builtin "len") (rLenTO X.prog X.w X.K) := by
  intro pins s σ H vs us Q I r h
  obtain ⟨a, L, hvs, hs, q⟩ := h
  subst hvs
  rw [Vals.ref1 r]
  have hk := I.hok a _ hs
  obtain ⟨R, _, _⟩ := (show (SetT0 X.prog X.w s.heap a L) ∧ (∃ o, s.heap.get? a = some o) ∧ _ from hk)
  obtain ⟨es, ep, t, ⟨o, ho, hex, hd⟩, hrows, htab, hnd, hpl, hled, hroom, hfew⟩ := R
  have hsz : es.size = L.length := by
    have h := congrArg List.length hrows
    unfold rowsOf at h
    rw [Array.length_toList, List.length_map] at h
    exact h
  have hfit : t.fits es.size = true := by
    have h1 := htab.sz
    rw [List.length_map] at h1
    unfold SetTable.fits SetTable.fill
    rw [htab.dm, Bool.and_eq_true, beq_iff_eq, decide_eq_true_eq]
    show t.place.size = es.size ∧ t.place.size + 0 ≤ t.mask
    omega
  refine call_len_set ho hex hd hfit (by omega) ⟨.int (L.length : Nat), H, I.tok _, ⟨_, by rw [hsz]⟩, q hnd⟩
end

/-! ### tuple(range(a, b, -1)) -/
section
variable {X : Cx}
def rgD (a : Int) (n : Nat) : List V := (List.range n).map fun i => V.int (a - (i : Nat))
theorem vals_rgD {a : Int} {n : Nat} {acc : Array Value} (h : ItemsOf (fun i v => ∃ t, v = .int (a + i * (-1)) t) acc n) : Vals (rgD a n) acc.toList := by
  have e : acc.toList.length = n := by
    rw [Array.length_toList]
    exact h.1
  unfold rgD
  rw [← e]
  refine vals_of_get acc.toList _ fun j u hj => ?_
  obtain ⟨t, ht⟩ := h.2 j u (by rw [← hj, Array.getElem?_toList])
  subst ht
  exact ⟨t, by
    rw [show a + (j : Int) * (-1) = a - (j : Int) by omega]⟩
def tTupDown (ta : TA) : TE := fun σ H Q => ta σ H fun vs H1 => ∃ (i j : Int), vs = [.int i, .int j, .int (-1)] ∧ (0 ≤ i ∧ i ≤ 1000 ∧ 0 ≤ j ∧ j ≤ 1000) ∧
  ∀ q, H1 q = none → Q (.ref q) (upd H1 q (.tup (rgD i (i - j).toNat)))
theorem pe_tupDown {a b c : Expr} {ta : TA} {p pos p2 pos2 : Pos} (hc : X.calm = true) (hg : Gl X "tuple") (hm : X.mg "tuple" = none) (hg2 : Gl X "range") (hm2 : X.mg "range" = none) (ha : PA X [a, b, c] ta)
    (hs : starEach [a, b, c] X.env = (false, eval a X.env) :: starEach [b, c] X.env := by rfl) (hpl : (backTo pos2 (starEach [b, c] X.env)).any (·.1) = false := by rfl)
    (na : starEach [(.Call (.Name "range" p2) [a, b, c] [] pos2)] X.env = (false, eval (.Call (.Name "range" p2) [a, b, c] [] pos2) X.env) :: starEach [] X.env := by rfl) :
    PE X (.Call (.Name "tuple" p) [.Call (.Name "range" p2) [a, b, c] [] pos2] [] pos) (tTupDown ta) := by
  refine ⟨fun pins s σ H Q I h => ?_⟩
  refine Call_ (ld_blt I hg hm boot_tuple (PyProof.Rows.callWith_type1 (args_cons ?_ na) na))
  refine Call_ (ld_blt I hg2 hm2 boot_range (PyProof.Rows.callWith_type1 (thn (ha.run pos2 pins s σ H _ I h) fun us s1 ⟨vs, H1, I1, r1, q1⟩ => ?_) hs hpl))
  obtain ⟨i, j, e, ⟨b1, b2, b3, b4⟩, q⟩ := q1
  subst e
  cases r1 with
  | cons r rr =>
    cases rr with
    | cons r' rr =>
      cases rr with
      | cons r'' rr =>
        cases rr
        obtain ⟨t, rfl⟩ := r
        obtain ⟨t', rfl⟩ := r'
        obtain ⟨t'', rfl⟩ := r''
        have G : RgC i j (-1) (i - j).toNat := RgC.neg (by omega) (by omega) (by omega) (by omega)
        obtain ⟨c0, c1, c2, c3⟩ := G
        refine call_range_3 c0 ?_ (.inl (PyProof.noPylong_small c1))
        refine args_nil ?_
        have I2 := I1.kept (t' := s1.toks) (h' := s1.heap.push { cls := .type "range", data := .fields #[.int i t, .int j t', .int (-1) t''] }) fun b o e => Heap.get?_push_of_some _ e
        refine call_tuple_range (n := (i - j).toNat) (I2.ok.hd hc) (IsRange.new ..) c2 c3 (by omega) fun h' tk acc hk hi => ?_
        have I3 := I2.kept (t' := tk) hk
        refine ⟨.ref h'.objs.size, upd H1 h'.objs.size (.tup (rgD i (i - j).toNat)), ?_, rfl, q _ (I3.hok.fresh (Nat.le_refl _))⟩
        refine I3.laid (t' := tk) (fun c o e => Heap.get?_push_of_some _ e) (Nat.le_refl _) ?_
        show ObjOk X.prog X.w _ _ _ (.tup (rgD i (i - j).toNat))
        refine ⟨?_, acc.toList, vals_rgD hi, ?_⟩
        · unfold rgD
          rw [List.length_map, List.length_range, sizeLine_eq]
          omega
        · rw [Array.toArray_toList]
          exact IsTup.new _ _
end

/-! ### enumerate(t), a tuple -/
def IteT (K : PySem.W.Frag) (a : Addr) : It :=
  ⟨fun i H => ∃ (xs : List V) (x : V), SqT K H a xs ∧ xs[i]? = some x,
    fun i H v H' => ∃ T x, v = .ref T ∧ H T = none ∧ H' = upd H T (.tup [.int (i : Nat), x]) ∧ ∀ xs, SqT K H a xs → xs[i]? = some x,
    fun i H => ∃ xs : List V, SqT K H a xs ∧ xs.length ≤ i⟩
theorem turn_enumT {P : Program} {w : World} {K : PySem.W.Frag} {elts : List Expr} {kk : Nat} {tpos : Pos} (a e it : Addr) (hai : a ≠ it) (hae : a ≠ e) :
    Turn P w K (.Tuple elts kk tpos) (IteT K a) [e, it] e (fun i h => (∃ old, IsEnum h e it ((i : Nat) : Int) old) ∧ h.IsTupleIter it a i ∧ e ≠ it) where
  mem := by simp
  obj := by
    intro i h st b hb
    obtain ⟨⟨old, he⟩, ⟨o, ho, hc, hd⟩, _⟩ := st
    have e' : b = e ∨ b = it := by simpa using hb
    rcases e' with z | z
    · rw [z]
      exact ⟨_, he, fun v q => nomatch q⟩
    · rw [z]
      exact ⟨o, ho, fun v q => by
        rw [hd] at q
        cases q⟩
  keep := by
    intro i h h' st k
    obtain ⟨⟨old, he⟩, hi, hne⟩ := st
    exact ⟨⟨old, k e (by simp) _ he⟩, hi.at fun o q => k it (by simp) o q, hne⟩
  item := by
    intro X hP hw hK hc i pins s σ H E I hf st hg
    subst hP hw hK
    obtain ⟨⟨old, he⟩, hit, hne⟩ := st
    obtain ⟨xs, x, hq, hx⟩ := hg
    obtain ⟨its, rv, p, hz⟩ := I.tuple hq
    obtain ⟨u, hu, ru⟩ := rv.get hx
    have hel : e < s.heap.objs.size := Heap.lt_size he
    have hil : it < s.heap.objs.size := by
      obtain ⟨_, q, _⟩ := hit
      exact Heap.lt_size q
    have hlen : i < its.toArray.size := by
      have := (List.getElem?_eq_some_iff.mp hu).1
      simpa using this
    have D := Draws.tuple (prog := X.prog) (w := X.w) (A := X.A.in1) (I.ok.hd hc) it a hai its.toArray
    refine wpAny_pyNext_enum_itemD D he ⟨hit, show s.heap.IsTuple a its.toArray from p⟩ hlen hne (by simp [hne, Ne.symm hae]) fun x' h' tk hPx ho hit' hT hsz hk => ?_
    have ex : x' = u := by
      have h1 : its.toArray[i]? = some x' := hPx
      have h2 : its.toArray[i]? = some u := by simpa using hu
      rw [h1] at h2
      exact Option.some.inj h2
    subst ex
    refine ⟨_, rfl, wpAny_letOwnedTupleGo_enum (s := { s with heap := h', toks := tk + 1 }) ho fun h'' he' sb => ?_⟩
    have hT2 : h''.get? s.heap.objs.size = some { cls := .type "tuple", data := .seq #[.int i tk, x'] } :=
      (sb.2 _ (Nat.ne_of_gt hel)).trans hT
    have new : ObjOk X.prog X.w (upd H s.heap.objs.size (.tup [.int (i : Nat), x])) h'' s.heap.objs.size (.tup [.int (i : Nat), x]) := by
      refine ⟨by
        show 2 ≤ sizeLine
        decide, [.int i tk, x'], .cons ⟨_, rfl⟩ (.cons ru .nil), ⟨_, hT2, rfl, _, rfl⟩⟩
    have I1 := I.turnedNew (t' := tk + 1) (h' := h'') (ch := [e, it])
      (fun b ob hb q => (sb.2 b (fun z => hb (by simp [z]))).trans (hk b ob (fun z => hb (by simp [z])) (fun z => hb (by simp [z])) q)) hf (Nat.le_refl _) new
    refine ⟨.ref s.heap.objs.size, _, I1, rfl, ⟨_, x, rfl, I.hok.fresh (Nat.le_refl _), rfl, fun ys hy => by
      rw [I.tuple_inj hy hq]
      exact hx⟩, ⟨⟨x', ?_⟩, hit'.1.at fun o q => (sb.2 it (Ne.symm hne)).trans q, hne⟩, fun b hb => ?_⟩
    · have e1 : ((i + 1 : Nat) : Int) = (i : Int) + 1 := by omega
      rw [e1]
      exact he'
    · have hb' : b < s.heap.objs.size := by
        have e' : b = e ∨ b = it := by simpa using hb
        rcases e' with z | z
        · rw [z]
          exact hel
        · rw [z]
          exact hil
      rw [upd_ne (Nat.ne_of_lt hb')]
      exact (hf b hb).1
  done := by
    intro X hP hw hK hc i pins s σ H E I hf st hg
    subst hP hw hK
    obtain ⟨⟨old, he⟩, hit, hne⟩ := st
    obtain ⟨xs, hq, hx⟩ := hg
    obtain ⟨its, rv, p, hz⟩ := I.tuple hq
    obtain ⟨f0, f1, f2, f3, f4, f5⟩ := hf it (by simp)
    have hl := rv.length
    unfold pyNext
    refine wpAny_bind (wpAny_attempt (wpAny_callSpecial?_slot (name := Str.ofString "__next__")
      (show s.TypeIs (.ref e) "enumerate" from ⟨_, he, rfl⟩) F.slot_enumerate_next
      (wpAny_call_entry F.slot_enumerate_next ⟨_, he, rfl⟩ F.entry_enumerate_next ?_ (F.args_enumerate_next_1 _))))
    show wpAny _ _ (field (.ref e) 2 >>= _) _ _ _
    refine wpAny_bind (wpAny_field he rfl (x := .ref it)
      rfl ?_)
    refine wpAny_bind (wpAny_nextOf_tuple_end (I.ok.hd hc) hit (show s.heap.IsTuple a its.toArray from p) (by simp; omega) fun h' x he' hx' => ?_)
    obtain ⟨o, ho, hc⟩ := hx'
    refine wpAny_bind (wpAny_isInstance (T := "StopIteration") (b := true)
      ⟨o, ho, hc⟩ isSubtype_stop ?_)
    exact wpAny_pure ⟨rfl, I.turned (t' := s.toks) (fun b o hb q => he' b o hb q) f0 f1 f3 f4 f5⟩
  self := by
    intro A i s Q E st h
    obtain ⟨⟨_, he⟩, _⟩ := st
    exact wpAny_pyIter_enum he h
theorem meets_enumT (l : Addr) (items : Array Value) :
    Meets (Builtin.«enumerate.__new__» ⟨[.type "enumerate", .ref l], []⟩) (fun _ R s => s.heap.IsTuple l items ∧
      R (.ok (.ret (.ref (s.heap.push { cls := .type "tuple_iterator", data := .fields #[.ref l, .int 0 0] }).objs.size)))
        { s with heap := ((s.heap.push { cls := .type "tuple_iterator", data := .fields #[.ref l, .int 0 0] }).push { cls := .type "enumerate", data := .fields #[.none, .bool false, .ref s.heap.objs.size, rawInt 0, .none, .none] }) }) :=
  .of_wp fun prog w A R s h => by
    obtain ⟨hp, g, d, tk, os⟩ := s
    obtain ⟨hl, h⟩ := h
    have hsub := PySem.sub_enumerate
    have q1 : ∀ {A' : Around} {E : Value → Shared → Prop} {Q : Value → Shared → Prop},
        Q (.ref hp.objs.size) ⟨hp.push { cls := .type "tuple_iterator", data := .fields #[.ref l, .int 0 0] }, g, d, tk, os⟩ →
        wpAny (model prog w) A' (pyIter (.ref l)) Q E ⟨hp, g, d, tk, os⟩ :=
      fun q => wpAny_pyIter_tuple (s := ⟨hp, g, d, tk, os⟩) hl q
    wp_walk using q1
    refine wpAny_stack_any fun st => wpAny_pure ?_
    split
    · rename_i c _ _ _ _ _
      cases (c == Value.type "enumerate")
      · wp_walk using q1
        exact ⟨_, rfl, h⟩
      · wp_walk using q1
        exact ⟨_, rfl, h⟩
    · wp_walk using q1
      exact ⟨_, rfl, h⟩
section
variable {prog : Program} {w : World} {A : Around} {E : Value → Shared → Prop} {s : Shared}
theorem call_enumT {l : Addr} {items : Array Value} {Q : Value → Shared → Prop} (hL : s.heap.IsTuple l items)
    (h : ∀ h', IsEnum h' (s.heap.objs.size + 1) s.heap.objs.size 0 .none → h'.IsTupleIter s.heap.objs.size l 0 → h'.objs.size = s.heap.objs.size + 2 →
      (∀ b o, s.heap.get? b = some o → h'.get? b = some o) → Q (.ref (s.heap.objs.size + 1)) { s with heap := h' }) :
    wpAny (model prog w) A (call (.type "enumerate") [.ref l]) Q E s := by
  refine callType_new F.called_enumerate (by decide) (F.typeCall_enumerate_1 _) (F.newCall_enumerate_1 _) (fun obj => F.args_object_init_2 obj _) F.entry_enumerate_new
    (meets_enumT l items) ⟨hL, ?_⟩
  have hz : (s.heap.push { cls := .type "tuple_iterator", data := .fields #[.ref l, .int 0 0] }).objs.size = s.heap.objs.size + 1 := Heap.size_push ..
  show _ ∧ _
  rw [hz]
  have he : IsEnum ((s.heap.push { cls := .type "tuple_iterator", data := .fields #[.ref l, .int 0 0] }).push
      { cls := .type "enumerate", data := .fields #[.none, .bool false, .ref s.heap.objs.size, rawInt 0, .none, .none] }) (s.heap.objs.size + 1) s.heap.objs.size 0 .none := by
    have := Heap.get?_push_size (s.heap.push { cls := .type "tuple_iterator", data := .fields #[.ref l, .int 0 0] })
      (o := { cls := .type "enumerate", data := .fields #[.none, .bool false, .ref s.heap.objs.size, rawInt 0, .none, .none] }) rfl
    rw [hz] at this
    exact this
  refine ⟨⟨_, he, rfl⟩, h _ he ⟨_, Heap.get?_push_of_some _ (Heap.get?_push_size _ rfl), rfl, rfl⟩ (by rw [Heap.size_push, hz]) fun b o x =>
    Heap.get?_push_of_some _ (Heap.get?_push_of_some _ x)⟩
end
def iEnumT (K : PySem.W.Frag) (ta : TA) : TI := fun σ H R => ta σ H fun vs H1 => ∃ a xs, vs = [.ref a] ∧ SqT K H1 a xs ∧ R (IteT K a) H1
theorem pi_enumT {X : Cx} {e : Expr} {ta : TA} {p pos tpos : Pos} {elts : List Expr} {kk : Nat} (hg : Gl X "enumerate") (hm : X.mg "enumerate" = none) (ha : PA X [e] ta)
    (hs : starEach [e] X.env = [(false, eval e X.env)] := by rfl) : PI X (.Tuple elts kk tpos) (.Call (.Name "enumerate" p) [e] [] pos) (iEnumT X.K ta) := by
  refine ⟨fun pins s σ H R I h => ?_⟩
  refine Call_ (ld_blt I hg hm boot_enumerate (PyProof.Rows.callWith_type1
    (thn (ha.run pos pins s σ H _ I h) fun us s1 ⟨vs, H1, I1, r1, q1⟩ => ?_) hs rfl))
  obtain ⟨a, xs, ex, hq, q⟩ := q1
  subst ex
  cases r1 with
  | cons r rr =>
    cases rr
    cases r
    obtain ⟨its, rv, p', hz⟩ := I1.tuple hq
    have hal : a < s1.heap.objs.size := by
      obtain ⟨o, ho, _⟩ := id p'
      exact Heap.lt_size ho
    refine call_enumT (show s1.heap.IsTuple a its.toArray from p') fun h' he hit hsz hk => wpAny_pyIter_enum he ?_
    have I2 := I1.kept (t' := s1.toks) hk
    refine ⟨s1.heap.objs.size + 1, [s1.heap.objs.size + 1, s1.heap.objs.size], _, _, H1, rfl, I2,
      turn_enumT a (s1.heap.objs.size + 1) s1.heap.objs.size (Nat.ne_of_lt hal) (Nat.ne_of_lt (Nat.lt_succ_of_lt hal)), ⟨⟨.none, he⟩, hit, Nat.succ_ne_self _⟩, fun b hb => ?_, q⟩
    have e' : b = s1.heap.objs.size + 1 ∨ b = s1.heap.objs.size := by simpa using hb
    have hle : s1.heap.objs.size ≤ b := by
      rcases e' with z | z
      · rw [z]
        exact Nat.le_add_right _ _
      · rw [z]
        exact Nat.le_refl _
    exact I1.fpOk hle (I1.hok.fresh hle)
theorem walk_enumT {K : PySem.W.Frag} {a : Addr} {xs : List V} : Walk (IteT K a) xs.length (fun H => SqT K H a xs) (YPair (fun i => some (.int (i : Nat))) (fun i => xs[i]?)) := by
  refine ⟨fun i _ hi q => ⟨xs, xs[i], q, by simp [hi]⟩, fun _ q => ⟨xs, q, Nat.le_refl _⟩, fun i H v H' _ q y => ?_⟩
  obtain ⟨T, x, h1, h2, h3, h4⟩ := y
  exact ⟨T, .int (i : Nat), x, h1, h2, h3, rfl, h4 xs q⟩
/-- zip of two tuples -/
theorem walk_zipT {K : PySem.W.Frag} {a b : Addr} {xs ys : List V} {n : Nat} (hn : n = min xs.length ys.length) :
    Walk (RZ.ItzT K a b) n (fun H => SqT K H a xs ∧ SqT K H b ys) (YPair (fun i => xs[i]?) (fun i => ys[i]?)) := by
  subst hn
  refine ⟨fun i _ hi q => ?_, fun _ q => ⟨xs, ys, q.1, q.2, by omega⟩, fun i H v H' _ q y => ?_⟩
  · have h1 : i < xs.length := by omega
    have h2 : i < ys.length := by omega
    exact ⟨xs, ys, xs[i], ys[i], q.1, q.2, by simp [h1], by simp [h2]⟩
  · obtain ⟨T, x, z, h1, h2, h3, h4, h5⟩ := y
    exact ⟨T, x, z, h1, h2, h3, h4 xs q.1, h5 ys q.2⟩

/-! ### repr of data, where no repr is under way -/
section
variable {X : Cx}
def rRepr (K : PySem.W.Frag) : List V → Hp → VK → Prop := fun vs H Q => ∃ (a : Addr) (d : PyData), vs = [.ref a] ∧ Dp K H (.ref a) d ∧ d.showable = true ∧ d.hasDict = false ∧ d.depth ≤ 8 ∧
  d.shown.length ≤ sizeLine ∧ Q (.str d.shown) H
theorem cr_repr (hg : X.A.guards = some []) (hu : X.A.units + 64 < cLine) : CallR X (.builtin "repr") (rRepr X.K) := by
  intro pins s σ H vs us Q I r h
  obtain ⟨a, d, hvs, hd, hs, hn, hdep, hz, q⟩ := h
  subst hvs
  rw [Vals.ref1 r]
  obtain ⟨as, rd⟩ := Dp.reads I d _ _ hd rfl
  exact repr_of_reads' rd hs (fun z => by
    rw [hn] at z
    cases z) hg (by omega) (fun _ _ e => e) (fun h' u tk hk => ⟨.str d.shown, H, I.kept (t' := tk) hk, ⟨u, rfl⟩, q⟩) hz
end
end Gp

namespace Gp
open PySem PySem.Spec PyProof.Rows L2

/-! ### f(k = e) -/
section
variable {X : Cx} {CX : CXT} {k : Nat} {f : Addr} {fd : FuncData} {nm : Str} {sp : Sp} {E : XK} {x : Str} {p pos kpos : Pos} {e : Expr} {te : TE}
def tCall1 (sp : Sp) (E : XK) (te : TE) : TE := fun σ H Q => te σ H fun v H1 => sp [v] H1 Q E
theorem pe_callKw (F : FnOk X.prog X.w X.K X.mg X.base CX k f fd [nm] sp) (hr : Room k X.A) (hg : Gl X x) (hm : X.mg x = some (.ref f)) (hk : PySem.W.keepIn X.K (.ref f) = true)
    (hb : ∀ (s : Shared) (u : Value), BindsTo s fd ⟨[], [(nm, u)]⟩ [(nm, u)]) (hx : Passes CX X E) (he : PE X e te)
    (hdb : (x == ("__debug__" : Str)) = false := by decide) : PE X (.Call (.Name x p) [] [⟨some nm, e, kpos⟩] pos) (tCall1 sp E te) := by
  refine ⟨fun pins s σ H Q I h => ?_⟩
  refine wpAny_Call_Name_kw (ld_glob I hg hm ?_ hdb)
  refine PySem.W.callWith_KW0 (h₀ := X.base) I.ok.mod.kin hk (by rfl) ?_ (by rfl)
  refine thn ((pk_cons (nm := some nm) (kpos := kpos) he pk_nil).run pos pins s σ H (fun vs H1 => sp vs H1 Q E) I h) fun ws s2 ⟨zs, H2, I2, rz, q2⟩ => ⟨I2.kIn, ?_⟩
  have hlen : zs.length = 1 := F.len _ _ _ _ q2
  obtain ⟨v, ez⟩ : ∃ v, zs = [v] := by
    match zs, hlen with
    | [v], _ => exact ⟨v, rfl⟩
  subst ez
  obtain ⟨u, hu, ru⟩ := vals1 rz
  subst hu
  show wpAny _ _ (call (.ref f) [] [(nm, u)]) _ _ _
  refine wpAny_call (codeAny_mono (F.run X.A X.stack s2 H2 ⟨[], [(nm, u)]⟩ [u] [v] Q E hr I2.env0 (hb s2 u) rz q2) fun r s' hq => ?_)
  cases r with
  | error e => exact hx pins σ H2 s2 e s' I2 hq
  | ok fl =>
    cases fl with
    | ret u => exact I2.after hq
    | next => exact False.elim hq
    | brk => exact False.elim hq
    | cont => exact False.elim hq
end

/-! ### a def that is called where no repr is under way -/
structure FnG (P : Program) (w : World) (K : PySem.W.Frag) (mg : Str → Option Value) (base : Heap) (k : Nat) (f : Addr) (fd : FuncData) (ps : List Str) (sp : Sp) : Prop where
  len : ∀ vs H Q E, sp vs H Q E → vs.length = ps.length
  run : ∀ (A : Around) (outer : List Env) (s : Shared) (H : Hp) (args : Args) (us : List Value) (vs : List V) (Q : VK) (E : XK), A.guards = some [] → Room k A →
    Env0 P w K mg base A outer s H → BindsTo s fd args (ps.zip us) → Vals vs us → sp vs H Q E →
    codeAny (model P w) A (.call (.ref f) args) (CR CX0 outer P w H s Q E) s
section
variable {P : Program} {w : World} {K : PySem.W.Frag} {mg : Str → Option Value} {base : Heap}
theorem FnG.of {k : Nat} {f : Addr} {fd : FuncData} {ps : List Str} {sp : Sp} (F : FnOk P w K mg base CX0 k f fd ps sp) : FnG P w K mg base k f fd ps sp :=
  ⟨F.len, fun A outer s H args us vs Q E _ hr he hb hv hs => F.run A outer s H args us vs Q E hr he hb hv hs⟩
/-- the rule for such a def -/
theorem fng_of {x qual : Str} {st : Stmt} {f : Addr} {fd : FuncData} {N ps : List Str} {k : Nat} {sp : Sp} (F : Fun K x qual st f fd) (S : FnScope N ps (defScope st))
    (len : ∀ vs H Q E, sp vs H Q E → vs.length = ps.length)
    (hbody : ∀ (cdv : Value) (A : Around) (outer : List Env) (s : Shared) (H : Hp) (vs : List V) (Q : VK) (E : XK),
      (A.deeper (envOfC qual (defScope st) s.heap.objs.size f cdv)).guards = some [] → Room k (A.deeper (envOfC qual (defScope st) s.heap.objs.size f cdv)) → sp vs H Q E →
      ∃ t, PSs (cxOf CX0 P w K mg base N qual (defScope st) f cdv A outer s H E).nox (defBody st) t ∧ t { nx := fun _ H' => Q .non H', rt := Q } (start N vs) H) :
    FnG P w K mg base (k + 1) f fd ps sp := by
  obtain ⟨oc, od, kV, doc, pm, an, cdv, ct, osl, hfd, lk, hcd⟩ := F.ex
  subst hfd
  refine ⟨len, fun A outer s H args us vs Q E hgd hr e0 hb r hsp => ?_⟩
  have hl := len _ _ _ _ hsp
  have KX : K.In s.heap := e0.mod.kin.keeps fun b o e => (e0.bs b o e).1
  have lim : s.heap.NoLimit := e0.mod.nolimit.keeps fun b o e => (e0.bs b o e).1
  have hkind : ∀ y ∈ ps.zip us, (defScope st).names.lookup y.1 = some .local ∨
      ((defScope st).names.lookup y.1 = some .cell ∧ ((cellsFrom (s.heap.objs.size + 1) (defScope st).names []).lookup y.1).isSome = true) := by
    intro y hy
    obtain ⟨n, v⟩ := y
    rcases S.par n (List.of_mem_zip hy).1 with q | q
    · exact .inl q
    · exact .inr ⟨q, PySem.W.cellsFrom_some _ _ _ (.inl q)⟩
  refine codeAny_call_function hr.depth (KX _ _ lk) rfl S.co S.gen rfl
    (PySem.W.codeRec_of KX hcd) (hb _ _ _ _ ?_)
  refine wpAny_newFunctionEnv_cells S.kind hkind fun env he s1 x' => ?_
  subst he
  refine ⟨lim.keeps x'.toInCall.keep, codeAny_func ?_⟩
  obtain ⟨t, ht, hq⟩ := hbody cdv A outer s H vs Q E hgd (hr.deeper _) hsp
  have I : Inv (cxOf CX0 P w K mg base N qual (defScope st) f cdv A outer s H E) [] (start N vs) H s1 :=
    inv_start S hr.hd e0 hl r x'
  refine wpAny_mono (ht.nox.run [] s1 (start N vs) H _ I hq)
    (fun fl s' hs => ?_) fun e s' hs => hs
  have fin : ∀ {σ' : L2.St} {H' : Hp} {v : V} {u : Value}, Inv (cxOf CX0 P w K mg base N qual (defScope st) f cdv A outer s H E) [] σ' H' s' → RelV v u → Q v H' →
      CE outer P w H s Q u s' :=
    fun {σ' H' v u} J rv q => ⟨v, H', J.os, J.bare, J.base, J.hok, rv, q⟩
  cases fl with
  | ret u =>
    obtain ⟨v, σ', H', J, rv, q⟩ := hs
    exact fin J rv q
  | next =>
    obtain ⟨σ', H', J, q⟩ := hs
    exact fin (v := V.non) (u := Value.none) J rfl q
  | brk =>
    obtain ⟨_, _, _, q⟩ := hs
    exact False.elim q
  | cont =>
    obtain ⟨_, _, _, q⟩ := hs
    exact False.elim q
end
/-! a call of it -/
section
variable {X : Cx} {k : Nat} {f : Addr} {fd : FuncData} {ps : List Str} {sp : Sp} {E : XK} {x : Str} {p pos : Pos} {e : Expr} {es : List Expr} {t : TA}
theorem pe_callG (F : FnG X.prog X.w X.K X.mg X.base k f fd ps sp) (hgd : X.A.guards = some []) (hr : Room k X.A) (hg : Gl X x) (hm : X.mg x = some (.ref f)) (hk : PySem.W.keepIn X.K (.ref f) = true)
    (hb : Binds X.K fd ps []) (hx : Passes CX0 X E) (ha : PA X (e :: es) t) (hdb : (x == ("__debug__" : Str)) = false := by decide)
    (he : starEach (e :: es) X.env = (false, eval e X.env) :: starEach es X.env := by rfl) (hpl : (backTo pos (starEach es X.env)).any (·.1) = false := by rfl) :
    PE X (.Call (.Name x p) (e :: es) [] pos) (tCall sp [] E t) := by
  refine ⟨fun pins s σ H Q I h => ?_⟩
  refine wpAny_Call_Name_kw (ld_glob I hg hm ?_ hdb)
  refine PySem.W.callWith_K (h₀ := X.base) I.ok.mod.kin hk
    (thn (ha.run pos pins s σ H _ I h) fun us s1 ⟨vs, H1, I1, r, q⟩ => ⟨I1.kIn, ?_⟩) he hpl
  have q0 : sp (vs ++ []) H1 Q E := q
  have q' : sp vs H1 Q E := by
    rw [List.append_nil] at q0
    exact q0
  have hl : us.length = ps.length := by
    rw [← r.length]
    exact F.len _ _ _ _ q'
  have hb' := hb s1 us I1.kIn (by rw [List.append_nil]; exact hl)
  rw [List.append_nil] at hb'
  refine wpAny_call (codeAny_mono (F.run X.A X.stack s1 H1 ⟨us, []⟩ us vs Q E hgd hr I1.env0 hb' r q') fun r s' hq => ?_)
  cases r with
  | error e => exact hx pins σ H1 s1 e s' I1 hq
  | ok fl =>
    cases fl with
    | ret u => exact I1.after hq
    | next => exact False.elim hq
    | brk => exact False.elim hq
    | cont => exact False.elim hq
end
end Gp

/-! Tuples that are made here and known to the object (so that they bear no dict): their methods may be called. -/
namespace Gp
open PySem PySem.Spec PyProof.Rows L2
/-- at p a tuple of xs, made here -/
def FT (H : Hp) (p : Addr) (xs : List V) : Prop := ∃ o : Obj, o.dict = none ∧ H p = some (.frz o (.tup xs))
theorem FT.sq {K : PySem.W.Frag} {H : Hp} {p : Addr} {xs : List V} (h : FT H p xs) : SqT K H p xs := by
  obtain ⟨o, _, h⟩ := h
  exact .inl (.inr ⟨o, h⟩)
theorem FT.mono {H H' : Hp} {p : Addr} {xs : List V} (h : FT H p xs) (e : Same H H') : FT H' p xs := by
  obtain ⟨o, h1, h2⟩ := h
  exact ⟨o, h1, e _ _ h2⟩
theorem FT.ne {H : Hp} {p D : Addr} {xs zs : List V} (h : FT H p xs) (hD : H D = some (.lst zs)) : p ≠ D := by
  obtain ⟨o, _, h2⟩ := h
  exact ne_of h2 hD (by intro z; cases z)
/-- what is wanted of a new tuple -/
def NewT (H : Hp) (xs : List V) (Q : VK) : Prop := ∀ p H', H p = none → Same H H' → FT H' p xs → Q (.ref p) H'
theorem NewT.at {H : Hp} {xs : List V} {Q : VK} (h : NewT H xs Q) {p : Addr} {o : Obj} (hp : H p = none) (ho : o.dict = none) : Q (.ref p) (upd H p (.frz o (.tup xs))) :=
  h p _ hp (fun b x e => by
    rw [upd_ne (ne_of_none e hp)]
    exact e) ⟨o, ho, upd_same⟩
theorem FT.stab {H : Hp} {p D : Addr} {xs zs ys : List V} (hD : H D = some (.lst zs)) (h : FT H p xs) : FT (upd H D (.lst ys)) p xs := by
  obtain ⟨o, h1, h2⟩ := h
  refine ⟨o, h1, ?_⟩
  rw [upd_ne (ne_of h2 hD (by intro z; cases z))]
  exact h2
section
variable {X : Cx} {pins : List (Addr × Obj)} {σ : L2.St} {H : Hp} {s : Shared}
/-- the tuple that has just been laid -/
theorem newT_fin {xs : List V} {its : List Value} {Q : VK} {tk : Nat} (I : Inv X pins σ H s) (r : Vals xs its) (hz : xs.length ≤ sizeLine) (q : NewT H xs Q) :
    EP X pins σ Q (.ref s.heap.objs.size) { s with heap := s.heap.push { cls := .type "tuple", data := .seq its.toArray }, toks := tk } := by
  have hf : H s.heap.objs.size = none := I.hok.fresh (Nat.le_refl _)
  refine ⟨.ref s.heap.objs.size, upd H s.heap.objs.size (.frz { cls := .type "tuple", data := .seq its.toArray } (.tup xs)), ?_, rfl, q.at hf rfl⟩
  refine I.laid (t' := tk) (fun b o e => Heap.get?_push_of_some _ e) (Nat.le_refl _) ?_
  have hg : (s.heap.push { cls := .type "tuple", data := .seq its.toArray }).get? s.heap.objs.size = some { cls := .type "tuple", data := .seq its.toArray } :=
    Heap.get?_push_size _ rfl
  exact ⟨hg, hz, its, r, ⟨_, hg, rfl, _, rfl⟩⟩
end
section
variable {X : Cx} {es : List Expr} {t : TA} {pos : Pos}
def tTupF (t : TA) : TE := fun σ H Q => t σ H fun xs H1 => xs.length ≤ sizeLine ∧ NewT H1 xs Q
theorem pe_tupF {x1} (h : PA X es t) : PE X (.Tuple es x1 pos) (tTupF t) := by
  refine ⟨fun pins s σ H Q I hq => ?_⟩
  refine wpAny_Tuple_spliced (thn (h.run pos pins s σ H _ I hq)
    fun us s1 ⟨xs, H1, I1, r, z, q⟩ => ⟨by
      rw [← r.length]
      exact z, newT_fin I1 r z q⟩)
def rTupF (K : PySem.W.Frag) : List V → Hp → VK → Prop := fun xs H Q => ∃ p ys, xs = [.ref p] ∧ ((SqL K H p ys ∧ NewT H ys Q) ∨ (SqT K H p ys ∧ Q (.ref p) H))
theorem cr_tupF (K : PySem.W.Frag) (hK : X.K = K := by rfl) : CallR X (.type "tuple") (rTupF K) := by
  subst hK
  intro pins s σ H xs us Q I r h
  obtain ⟨p, ys, hxs, h⟩ := h
  subst hxs
  rw [Vals.ref1 r]
  rcases h with ⟨hq, q⟩ | ⟨hq, q⟩
  · obtain ⟨its, r', pl, hz⟩ := I.list hq
    refine call_tuple_list pl.isList (fun h' kp => ?_) (by
      rw [List.size_toArray, ← r'.length]
      exact hz)
    have I1 : Inv X pins σ H { s with heap := h' } := I.kept (t' := s.toks) kp
    exact newT_fin (s := { s with heap := h' }) (tk := s.toks) I1 r' hz q
  · obtain ⟨its, r', pl, hz⟩ := I.tuple hq
    exact call_tuple_same pl ⟨.ref p, H, I, rfl, q⟩
def tTupRgF (te : L2.St → Hp → (Int → Int → Hp → Prop) → Prop) : TE := fun σ H Q => te σ H fun a b H1 => RgOk a b ∧ NewT H1 (rgV a b) Q
theorem pe_tupRgF {e : Expr} {te : L2.St → Hp → (Int → Int → Hp → Prop) → Prop} {p pos : Pos} (hc : X.calm = true) (hg : Gl X "tuple") (hm : X.mg "tuple" = none) (he : PRg X e te)
    (na : starEach [e] X.env = (false, eval e X.env) :: starEach [] X.env := by rfl) : PE X (.Call (.Name "tuple" p) [e] [] pos) (tTupRgF te) := by
  refine ⟨fun pins s σ H Q I h => ?_⟩
  refine Call_ (ld_blt I hg hm boot_tuple (PyProof.Rows.callWith_type1
    (args_cons (thn (he pins s σ H _ I h) fun x s1 ⟨r, a, b, t, u, v, H1, ex, hr, I1, ok, q⟩ => args_nil ?_) na) na))
  subst ex
  obtain ⟨b1, b2, b3, b4, b5⟩ := ok
  refine call_tuple_range (n := (b - a).toNat) (I1.ok.hd hc) hr (small_one b1 b2 b3 b4)
    (rangeSize_nat a b) b5 fun h' tk acc hk hi => ?_
  have I2 : Inv X pins σ H1 { s1 with heap := h', toks := tk } := I1.kept hk
  have hz : (rgV a b).length ≤ sizeLine := by
    rw [rgV_length, sizeLine_eq]
    omega
  have := newT_fin (s := { s1 with heap := h', toks := tk }) (tk := tk) I2 (vals_rg hi) hz q
  rw [Array.toArray_toList] at this
  exact this
def tTupDownF (ta : TA) : TE := fun σ H Q => ta σ H fun vs H1 => ∃ (i j : Int), vs = [.int i, .int j, .int (-1)] ∧ (0 ≤ i ∧ i ≤ 1000 ∧ 0 ≤ j ∧ j ≤ 1000) ∧ NewT H1 (rgD i (i - j).toNat) Q
theorem pe_tupDownF {a b c : Expr} {ta : TA} {p pos p2 pos2 : Pos} (hc : X.calm = true) (hg : Gl X "tuple") (hm : X.mg "tuple" = none) (hg2 : Gl X "range") (hm2 : X.mg "range" = none) (ha : PA X [a, b, c] ta)
    (hs : starEach [a, b, c] X.env = (false, eval a X.env) :: starEach [b, c] X.env := by rfl) (hpl : (backTo pos2 (starEach [b, c] X.env)).any (·.1) = false := by rfl)
    (na : starEach [(.Call (.Name "range" p2) [a, b, c] [] pos2)] X.env = (false, eval (.Call (.Name "range" p2) [a, b, c] [] pos2) X.env) :: starEach [] X.env := by rfl) :
    PE X (.Call (.Name "tuple" p) [.Call (.Name "range" p2) [a, b, c] [] pos2] [] pos) (tTupDownF ta) := by
  refine ⟨fun pins s σ H Q I h => ?_⟩
  refine Call_ (ld_blt I hg hm boot_tuple (PyProof.Rows.callWith_type1 (args_cons ?_ na) na))
  refine Call_ (ld_blt I hg2 hm2 boot_range (PyProof.Rows.callWith_type1 (thn (ha.run pos2 pins s σ H _ I h) fun us s1 ⟨vs, H1, I1, r1, q1⟩ => ?_) hs hpl))
  obtain ⟨i, j, e, ⟨b1, b2, b3, b4⟩, q⟩ := q1
  subst e
  cases r1 with
  | cons r rr =>
    cases rr with
    | cons r' rr =>
      cases rr with
      | cons r'' rr =>
        cases rr
        obtain ⟨t, rfl⟩ := r
        obtain ⟨t', rfl⟩ := r'
        obtain ⟨t'', rfl⟩ := r''
        have G : RgC i j (-1) (i - j).toNat := RgC.neg (by omega) (by omega) (by omega) (by omega)
        obtain ⟨c0, c1, c2, c3⟩ := G
        refine call_range_3 c0 ?_ (.inl (PyProof.noPylong_small c1))
        refine args_nil ?_
        have I2 := I1.kept (t' := s1.toks) (h' := s1.heap.push { cls := .type "range", data := .fields #[.int i t, .int j t', .int (-1) t''] }) fun b o e => Heap.get?_push_of_some _ e
        refine call_tuple_range (n := (i - j).toNat) (I2.ok.hd hc) (IsRange.new ..) c2 c3 (by omega) fun h' tk acc hk hi => ?_
        have I3 := I2.kept (t' := tk) hk
        have hz : (rgD i (i - j).toNat).length ≤ sizeLine := by
          unfold rgD
          rw [List.length_map, List.length_range, sizeLine_eq]
          omega
        have := newT_fin (tk := tk) I3 (vals_rgD hi) hz q
        rw [Array.toArray_toList] at this
        exact this
/-- t + u -/
def rCatF (K : PySem.W.Frag) : R2 := fun x y H Q => ∃ a b xs ys, x = .ref a ∧ y = .ref b ∧ SqT K H a xs ∧ SqT K H b ys ∧ xs ≠ [] ∧ xs.length + ys.length ≤ sizeLine ∧
  (ys = [] → Q (.ref a) H) ∧ (ys ≠ [] → NewT H (xs ++ ys) Q)
theorem op_catF (K : PySem.W.Frag) (hK : X.K = K := by rfl) : OpR X (binaryOp .Add) (rCatF K) := by
  subst hK
  intro pins s σ H x y v u Q I rx ry h
  obtain ⟨a, b, xs, ys, hx', hy', ha, hb, hx, hz, q1, q2⟩ := h
  subst hx' hy'
  cases rx
  cases ry
  obtain ⟨its, r1, p1, _⟩ := I.tuple ha
  obtain ⟨its2, r2, p2, _⟩ := I.tuple hb
  refine HT.cat_tup p1 p2 (fun z => hx (r1.nil_iff.mp z))
    (fun z => ⟨.ref a, H, I, rfl, q1 (r2.nil_iff.mp z)⟩) (fun z => ?_) (by
      rw [← r1.length, ← r2.length]
      exact hz)
  exact newT_fin (tk := s.toks) I (r1.append r2) (by
    rw [List.length_append]
    exact hz) (q2 fun w => z (r2.nil_iff.mpr w))
/-- o.m(e), o such a tuple -/
def tBMF (r : V → List V → Hp → VK → Prop) (to : TE) (t : TA) : TE := fun σ H Q => to σ H fun x H1 => (∃ a xs, x = .ref a ∧ FT H1 a xs) ∧ t σ H1 fun vs H2 => r x vs H2 Q
theorem pe_bmF {o e : Expr} {to : TE} {t : TA} {name : Str} {apos cpos : Pos} {id : String} {r : V → List V → Hp → VK → Prop} {es : List Expr} (slot : Slot "tuple" name id)
    (hty : typeOf (.builtin id) = pure (.type "method_descriptor")) (hm : MtR X id r) (ho : PE X o to) (ha : PA X (e :: es) t)
    (hbase : attributeBase o name X.env (eval o X.env) = eval o X.env := by rfl)
    (hfew : ((backTo cpos (starEach (e :: es) X.env)).all (fun x => !x.1) && (backToKw cpos (keywordEach [] X.env)).all (fun x => x.1.isSome) &&
      decide ((e :: es).length + ([] : List Keyword).length + (if ([] : List Keyword).isEmpty then 0 else 1) < 30)) = true := by rfl)
    (hline : (apos.endLine == cpos.line) = true := by rfl) (hs : starEach (e :: es) X.env = (false, eval e X.env) :: starEach es X.env := by rfl)
    (hplain : (backTo cpos (starEach es X.env)).any (·.1) = false := by rfl) : PE X (.Call (.Attribute o name apos) (e :: es) [] cpos) (tBMF r to t) := by
  refine ⟨fun pins s σ H Q I h => ?_⟩
  refine wpAny_Call_method_late hbase hfew hline rfl
    (thn (ho.run pins s σ H _ I h) fun v s1 ⟨x, H1, I1, r1, hx, q1⟩ => ?_)
  obtain ⟨a, xs, ex, ob, hod, hH⟩ := hx
  subst ex
  cases r1
  obtain ⟨hg, _, its, rv, o2, ho2, hc2, n2, hd2⟩ := (show ObjOk X.prog X.w H1 s1.heap a (.frz ob (.tup xs)) from I1.hok a _ hH)
  have hT : s1.TypeIs (.ref a) "tuple" := ⟨o2, ho2, hc2⟩
  refine ⟨"tuple", id, PySem.F.plainAttrs_tuple, slot, hty, hT, fun b eb => ?_, ?_⟩
  · cases eb
    exact ⟨ob, hg, hod⟩
  have hA := ha.run cpos pins s1 σ H1 _ I1 q1
  rw [hs] at hA ⊢
  refine Calls.callWith_builtin (by
    show (false || (backTo cpos (starEach es X.env)).any (·.1)) = false
    rw [hplain]
    rfl) (Calls.evalArgs_plain ?_)
  exact thn hA fun us s2 ⟨vs, H2, I2, r2, q2⟩ =>
    hm pins s2 σ H2 (V.ref a) vs _ us Q I2 rfl r2 q2
end
end Gp

/-! where each def stands in the text, its slots, what the top has written -/
namespace Bd
open PySem PySem.Spec PyProof.Rows L2 Gp
def topS (i : Nat) : Stmt := PySem.Challenge.pw_lowerboards_k28_whole_singles_and_bearin.main.body.getD i (.Pass ⟨0, 0, 0, 0⟩)
abbrev s_is_integer : Stmt := topS 9
abbrev N_is_integer : List Str := ["value"]
theorem sc_is_integer : FnScope N_is_integer ["value"] (defScope s_is_integer) := ⟨rfl, rfl, rfl, by decide +kernel, rfl, by decide +kernel, by decide +kernel⟩
abbrev s_is_count : Stmt := topS 10
abbrev N_is_count : List Str := ["value"]
theorem sc_is_count : FnScope N_is_count ["value"] (defScope s_is_count) := ⟨rfl, rfl, rfl, by decide +kernel, rfl, by decide +kernel, by decide +kernel⟩
abbrev s_is_list : Stmt := topS 11
abbrev N_is_list : List Str := ["value"]
theorem sc_is_list : FnScope N_is_list ["value"] (defScope s_is_list) := ⟨rfl, rfl, rfl, by decide +kernel, rfl, by decide +kernel, by decide +kernel⟩
abbrev s_is_order : Stmt := topS 12
abbrev N_is_order : List Str := ["value", "thing"]
theorem sc_is_order : FnScope N_is_order ["value"] (defScope s_is_order) := ⟨rfl, rfl, rfl, by decide +kernel, rfl, by decide +kernel, by decide +kernel⟩
abbrev s_want_many : Stmt := topS 13
abbrev N_want_many : List Str := ["value", "low", "high"]
theorem sc_want_many : FnScope N_want_many ["value", "low", "high"] (defScope s_want_many) := ⟨rfl, rfl, rfl, by decide +kernel, rfl, by decide +kernel, by decide +kernel⟩
abbrev s_want_order : Stmt := topS 14
abbrev N_want_order : List Str := ["value"]
theorem sc_want_order : FnScope N_want_order ["value"] (defScope s_want_order) := ⟨rfl, rfl, rfl, by decide +kernel, rfl, by decide +kernel, by decide +kernel⟩
abbrev s_want_alike : Stmt := topS 15
abbrev N_want_alike : List Str := ["order", "other"]
theorem sc_want_alike : FnScope N_want_alike ["order", "other"] (defScope s_want_alike) := ⟨rfl, rfl, rfl, by decide +kernel, rfl, by decide +kernel, by decide +kernel⟩
abbrev s_is_lower : Stmt := topS 17
abbrev N_is_lower : List Str := ["order", "other", "near", "far", "thing", "against", "one", "two"]
theorem sc_is_lower : FnScope N_is_lower ["order", "other"] (defScope s_is_lower) := ⟨rfl, rfl, rfl, by decide +kernel, rfl, by decide +kernel, by decide +kernel⟩
abbrev s_want_two : Stmt := topS 18
abbrev N_want_two : List Str := ["order", "other", "one", "two"]
theorem sc_want_two : FnScope N_want_two ["order", "other"] (defScope s_want_two) := ⟨rfl, rfl, rfl, by decide +kernel, rfl, by decide +kernel, by decide +kernel⟩
abbrev s_is_below : Stmt := topS 19
abbrev N_is_below : List Str := ["order", "other", "one", "two"]
theorem sc_is_below : FnScope N_is_below ["order", "other"] (defScope s_is_below) := ⟨rfl, rfl, rfl, by decide +kernel, rfl, by decide +kernel, by decide +kernel⟩
abbrev s_undone_of : Stmt := topS 21
abbrev N_undone_of : List Str := ["order", "thing"]
theorem sc_undone_of : FnScope N_undone_of ["order"] (defScope s_undone_of) := ⟨rfl, rfl, rfl, by decide +kernel, rfl, by decide +kernel, by decide +kernel⟩
abbrev s_falls_in : Stmt := topS 22
abbrev N_falls_in : List Str := ["order", "place"]
theorem sc_falls_in : FnScope N_falls_in ["order"] (defScope s_falls_in) := ⟨rfl, rfl, rfl, by decide +kernel, rfl, by decide +kernel, by decide +kernel⟩
abbrev s_is_corner : Stmt := topS 25
abbrev N_is_corner : List Str := ["value", "size"]
theorem sc_is_corner : FnScope N_is_corner ["value", "size"] (defScope s_is_corner) := ⟨rfl, rfl, rfl, by decide +kernel, rfl, by decide +kernel, by decide +kernel⟩
abbrev s_want_corner : Stmt := topS 26
abbrev N_want_corner : List Str := ["size", "value"]
theorem sc_want_corner : FnScope N_want_corner ["size", "value"] (defScope s_want_corner) := ⟨rfl, rfl, rfl, by decide +kernel, rfl, by decide +kernel, by decide +kernel⟩
abbrev s_table_of : Stmt := topS 27
abbrev N_table_of : List Str := ["order", "found", "row", "thing", "at", "many"]
theorem sc_table_of : FnScope N_table_of ["order"] (defScope s_table_of) := ⟨rfl, rfl, rfl, by decide +kernel, rfl, by decide +kernel, by decide +kernel⟩
abbrev s_least_count : Stmt := topS 28
abbrev N_least_count : List Str := ["corner"]
theorem sc_least_count : FnScope N_least_count ["corner"] (defScope s_least_count) := ⟨rfl, rfl, rfl, by decide +kernel, rfl, by decide +kernel, by decide +kernel⟩
abbrev s_most_count : Stmt := topS 29
abbrev N_most_count : List Str := ["size", "corner"]
theorem sc_most_count : FnScope N_most_count ["size", "corner"] (defScope s_most_count) := ⟨rfl, rfl, rfl, by decide +kernel, rfl, by decide +kernel, by decide +kernel⟩
abbrev s_least_of : Stmt := topS 30
abbrev N_least_of : List Str := ["size", "corner", "many", "places", "least", "ahead", "thing"]
theorem sc_least_of : FnScope N_least_of ["size", "corner", "many"] (defScope s_least_of) := ⟨rfl, rfl, rfl, by decide +kernel, rfl, by decide +kernel, by decide +kernel⟩
abbrev s_least_with : Stmt := topS 31
abbrev N_least_with : List Str := ["size", "corner", "many"]
theorem sc_least_with : FnScope N_least_with ["size", "corner", "many"] (defScope s_least_with) := ⟨rfl, rfl, rfl, by decide +kernel, rfl, by decide +kernel, by decide +kernel⟩
abbrev s_is_single : Stmt := topS 32
abbrev N_is_single : List Str := ["order", "here"]
theorem sc_is_single : FnScope N_is_single ["order"] (defScope s_is_single) := ⟨rfl, rfl, rfl, by decide +kernel, rfl, by decide +kernel, by decide +kernel⟩
abbrev s_singles_below : Stmt := topS 33
abbrev N_singles_below : List Str := ["order", "size", "found", "place", "row", "at", "many", "corner"]
theorem sc_singles_below : FnScope N_singles_below ["order"] (defScope s_singles_below) := ⟨rfl, rfl, rfl, by decide +kernel, rfl, by decide +kernel, by decide +kernel⟩
abbrev s_bearing : Stmt := topS 34
abbrev N_bearing : List Str := ["order", "singles", "found", "single", "other"]
theorem sc_bearing : FnScope N_bearing ["order"] (defScope s_bearing) := ⟨rfl, rfl, rfl, by decide +kernel, rfl, by decide +kernel, by decide +kernel⟩
abbrev s_law_pot : Stmt := topS 36
abbrev N_law_pot : List Str := ["_law_script", "_law_k", "_law_cell"]
theorem sc_law_pot : FnScope N_law_pot ["_law_script", "_law_k"] (defScope s_law_pot) := ⟨rfl, rfl, rfl, by decide +kernel, rfl, by decide +kernel, by decide +kernel⟩
abbrev s_law_draw : Stmt := topS 37
abbrev N_law_draw : List Str := ["_law_pot_here", "_law_many", "_law_digit"]
theorem sc_law_draw : FnScope N_law_draw ["_law_pot_here", "_law_many"] (defScope s_law_draw) := ⟨rfl, rfl, rfl, by decide +kernel, rfl, by decide +kernel, by decide +kernel⟩
abbrev s_law_pick : Stmt := topS 38
abbrev N_law_pick : List Str := ["_law_pot_here", "_law_some"]
theorem sc_law_pick : FnScope N_law_pick ["_law_pot_here", "_law_some"] (defScope s_law_pick) := ⟨rfl, rfl, rfl, by decide +kernel, rfl, by decide +kernel, by decide +kernel⟩
abbrev s_law_mixed : Stmt := topS 39
abbrev N_law_mixed : List Str := ["_law_pot_here", "_law_some", "_law_left", "_law_found", "_law_turn"]
theorem sc_law_mixed : FnScope N_law_mixed ["_law_pot_here", "_law_some"] (defScope s_law_mixed) := ⟨rfl, rfl, rfl, by decide +kernel, rfl, by decide +kernel, by decide +kernel⟩
abbrev s_law_order : Stmt := topS 40
abbrev N_law_order : List Str := ["_law_pot_here", "_law_size", "_law_way"]
theorem sc_law_order : FnScope N_law_order ["_law_pot_here", "_law_size"] (defScope s_law_order) := ⟨rfl, rfl, rfl, by decide +kernel, rfl, by decide +kernel, by decide +kernel⟩
abbrev s_law_as : Stmt := topS 41
abbrev N_law_as : List Str := ["_law_pot_here", "_law_order_here"]
theorem sc_law_as : FnScope N_law_as ["_law_pot_here", "_law_order_here"] (defScope s_law_as) := ⟨rfl, rfl, rfl, by decide +kernel, rfl, by decide +kernel, by decide +kernel⟩
abbrev s_law_all : Stmt := topS 42
abbrev N_law_all : List Str := ["_law_things", "_law_found", "_law_thing", "_law_rest", "_law_other"]
theorem sc_law_all : FnScope N_law_all ["_law_things"] (defScope s_law_all) := ⟨rfl, rfl, rfl, by decide +kernel, rfl, by decide +kernel, by decide +kernel⟩
abbrev s_law_count : Stmt := topS 43
abbrev N_law_count : List Str := ["_law_order_here", "_law_corner", "_law_thing"]
theorem sc_law_count : FnScope N_law_count ["_law_order_here", "_law_corner"] (defScope s_law_count) := ⟨rfl, rfl, rfl, by decide +kernel, rfl, by decide +kernel, by decide +kernel⟩
abbrev s_law_corners : Stmt := topS 44
abbrev N_law_corners : List Str := ["_law_size", "_law_found", "_law_places", "_law_least"]
theorem sc_law_corners : FnScope N_law_corners ["_law_size"] (defScope s_law_corners) := ⟨rfl, rfl, rfl, by decide +kernel, rfl, by decide +kernel, by decide +kernel⟩
abbrev s_law_lower : Stmt := topS 45
abbrev N_law_lower : List Str := ["_law_one", "_law_two", "_law_corner"]
theorem sc_law_lower : FnScope N_law_lower ["_law_one", "_law_two"] (defScope s_law_lower) := ⟨rfl, rfl, rfl, by decide +kernel, rfl, by decide +kernel, by decide +kernel⟩
abbrev s_law_falls : Stmt := topS 46
abbrev N_law_falls : List Str := ["_law_order_here", "_law_place"]
theorem sc_law_falls : FnScope N_law_falls ["_law_order_here"] (defScope s_law_falls) := ⟨rfl, rfl, rfl, by decide +kernel, rfl, by decide +kernel, by decide +kernel⟩
abbrev s_law_undone : Stmt := topS 47
abbrev N_law_undone : List Str := ["_law_order_here", "_law_thing", "_law_place", "_law_at"]
theorem sc_law_undone : FnScope N_law_undone ["_law_order_here"] (defScope s_law_undone) := ⟨rfl, rfl, rfl, by decide +kernel, rfl, by decide +kernel, by decide +kernel⟩
abbrev s_law_single : Stmt := topS 48
abbrev N_law_single : List Str := ["_law_order_here"]
theorem sc_law_single : FnScope N_law_single ["_law_order_here"] (defScope s_law_single) := ⟨rfl, rfl, rfl, by decide +kernel, rfl, by decide +kernel, by decide +kernel⟩
abbrev s_law_bearing : Stmt := topS 49
abbrev N_law_bearing : List Str := ["_law_order_here", "_law_singles_here", "_law_below", "_law_one", "_law_other"]
theorem sc_law_bearing : FnScope N_law_bearing ["_law_order_here", "_law_singles_here"] (defScope s_law_bearing) := ⟨rfl, rfl, rfl, by decide +kernel, rfl, by decide +kernel, by decide +kernel⟩
abbrev s_law_singles : Stmt := topS 50
abbrev N_law_singles : List Str := ["_law_size", "_law_found", "_law_corner", "_law_many", "_law_order_here"]
theorem sc_law_singles : FnScope N_law_singles ["_law_size"] (defScope s_law_singles) := ⟨rfl, rfl, rfl, by decide +kernel, rfl, by decide +kernel, by decide +kernel⟩
abbrev s_law_right : Stmt := topS 51
abbrev N_law_right : List Str := ["_law_pot_here", "_law_size", "_law_order_here", "_law_singles_here", "_law_told", "_law_due", "_law_first", "_law_other", "_law_is_one", "_law_seven", "_law_turn", "_law_one"]
theorem sc_law_right : FnScope N_law_right ["_law_pot_here"] (defScope s_law_right) := ⟨rfl, rfl, rfl, by decide +kernel, rfl, by decide +kernel, by decide +kernel⟩
abbrev s_law : Stmt := topS 52
abbrev N_law : List Str := ["_law_script"]
theorem sc_law : FnScope N_law ["_law_script"] (defScope s_law) := ⟨rfl, rfl, rfl, by decide +kernel, rfl, by decide +kernel, by decide +kernel⟩
def lcSc : Expr → Scope
  | .ListComp _ _ sc _ => sc
  | _ => { kind := .function, names := [], isGenerator := false, isCoroutine := false }
def retE : Stmt → Expr
  | .Return (some e) _ => e
  | _ => .Constant .none 0 ⟨0, 0, 0, 0⟩
abbrev cs_law_bearing_1 : Scope := lcSc (retE ((defBody s_law_bearing).getD 1 (.Pass ⟨0, 0, 0, 0⟩)))
/-- what the top has written -/
structure Txt (K : PySem.W.Frag) (mg : Str → Option Value) where
  a_is_integer : Addr
  d_is_integer : FuncData
  f_is_integer : Fun K "is_integer" "is_integer" s_is_integer a_is_integer d_is_integer
  g_is_integer : mg "is_integer" = some (.ref a_is_integer)
  b_is_integer : Binds K d_is_integer ["value"] []
  a_is_count : Addr
  d_is_count : FuncData
  f_is_count : Fun K "is_count" "is_count" s_is_count a_is_count d_is_count
  g_is_count : mg "is_count" = some (.ref a_is_count)
  b_is_count : Binds K d_is_count ["value"] []
  a_is_list : Addr
  d_is_list : FuncData
  f_is_list : Fun K "is_list" "is_list" s_is_list a_is_list d_is_list
  g_is_list : mg "is_list" = some (.ref a_is_list)
  b_is_list : Binds K d_is_list ["value"] []
  a_is_order : Addr
  d_is_order : FuncData
  f_is_order : Fun K "is_order" "is_order" s_is_order a_is_order d_is_order
  g_is_order : mg "is_order" = some (.ref a_is_order)
  b_is_order : Binds K d_is_order ["value"] []
  a_want_many : Addr
  d_want_many : FuncData
  f_want_many : Fun K "want_many" "want_many" s_want_many a_want_many d_want_many
  g_want_many : mg "want_many" = some (.ref a_want_many)
  b_want_many : Binds K d_want_many ["value", "low", "high"] []
  a_want_order : Addr
  d_want_order : FuncData
  f_want_order : Fun K "want_order" "want_order" s_want_order a_want_order d_want_order
  g_want_order : mg "want_order" = some (.ref a_want_order)
  b_want_order : Binds K d_want_order ["value"] []
  a_want_alike : Addr
  d_want_alike : FuncData
  f_want_alike : Fun K "want_alike" "want_alike" s_want_alike a_want_alike d_want_alike
  g_want_alike : mg "want_alike" = some (.ref a_want_alike)
  b_want_alike : Binds K d_want_alike ["order", "other"] []
  a_is_lower : Addr
  d_is_lower : FuncData
  f_is_lower : Fun K "is_lower" "is_lower" s_is_lower a_is_lower d_is_lower
  g_is_lower : mg "is_lower" = some (.ref a_is_lower)
  b_is_lower : Binds K d_is_lower ["order", "other"] []
  a_want_two : Addr
  d_want_two : FuncData
  f_want_two : Fun K "want_two" "want_two" s_want_two a_want_two d_want_two
  g_want_two : mg "want_two" = some (.ref a_want_two)
  b_want_two : Binds K d_want_two ["order", "other"] []
  a_is_below : Addr
  d_is_below : FuncData
  f_is_below : Fun K "is_below" "is_below" s_is_below a_is_below d_is_below
  g_is_below : mg "is_below" = some (.ref a_is_below)
  b_is_below : Binds K d_is_below ["order", "other"] []
  a_undone_of : Addr
  d_undone_of : FuncData
  f_undone_of : Fun K "undone_of" "undone_of" s_undone_of a_undone_of d_undone_of
  g_undone_of : mg "undone_of" = some (.ref a_undone_of)
  b_undone_of : Binds K d_undone_of ["order"] []
  a_falls_in : Addr
  d_falls_in : FuncData
  f_falls_in : Fun K "falls_in" "falls_in" s_falls_in a_falls_in d_falls_in
  g_falls_in : mg "falls_in" = some (.ref a_falls_in)
  b_falls_in : Binds K d_falls_in ["order"] []
  a_is_corner : Addr
  d_is_corner : FuncData
  f_is_corner : Fun K "is_corner" "is_corner" s_is_corner a_is_corner d_is_corner
  g_is_corner : mg "is_corner" = some (.ref a_is_corner)
  b_is_corner : Binds K d_is_corner ["value", "size"] []
  a_want_corner : Addr
  d_want_corner : FuncData
  f_want_corner : Fun K "want_corner" "want_corner" s_want_corner a_want_corner d_want_corner
  g_want_corner : mg "want_corner" = some (.ref a_want_corner)
  b_want_corner : Binds K d_want_corner ["size", "value"] []
  a_table_of : Addr
  d_table_of : FuncData
  f_table_of : Fun K "table_of" "table_of" s_table_of a_table_of d_table_of
  g_table_of : mg "table_of" = some (.ref a_table_of)
  b_table_of : Binds K d_table_of ["order"] []
  a_least_count : Addr
  d_least_count : FuncData
  f_least_count : Fun K "least_count" "least_count" s_least_count a_least_count d_least_count
  g_least_count : mg "least_count" = some (.ref a_least_count)
  b_least_count : Binds K d_least_count ["corner"] []
  a_most_count : Addr
  d_most_count : FuncData
  f_most_count : Fun K "most_count" "most_count" s_most_count a_most_count d_most_count
  g_most_count : mg "most_count" = some (.ref a_most_count)
  b_most_count : Binds K d_most_count ["size", "corner"] []
  a_least_of : Addr
  d_least_of : FuncData
  f_least_of : Fun K "least_of" "least_of" s_least_of a_least_of d_least_of
  g_least_of : mg "least_of" = some (.ref a_least_of)
  b_least_of : Binds K d_least_of ["size", "corner", "many"] []
  a_least_with : Addr
  d_least_with : FuncData
  f_least_with : Fun K "least_with" "least_with" s_least_with a_least_with d_least_with
  g_least_with : mg "least_with" = some (.ref a_least_with)
  b_least_with : Binds K d_least_with ["size", "corner", "many"] []
  a_is_single : Addr
  d_is_single : FuncData
  f_is_single : Fun K "is_single" "is_single" s_is_single a_is_single d_is_single
  g_is_single : mg "is_single" = some (.ref a_is_single)
  b_is_single : Binds K d_is_single ["order"] []
  a_singles_below : Addr
  d_singles_below : FuncData
  f_singles_below : Fun K "singles_below" "singles_below" s_singles_below a_singles_below d_singles_below
  g_singles_below : mg "singles_below" = some (.ref a_singles_below)
  b_singles_below : Binds K d_singles_below ["order"] []
  a_bearing : Addr
  d_bearing : FuncData
  f_bearing : Fun K "bearing" "bearing" s_bearing a_bearing d_bearing
  g_bearing : mg "bearing" = some (.ref a_bearing)
  b_bearing : Binds K d_bearing ["order"] []
  a_law_pot : Addr
  d_law_pot : FuncData
  f_law_pot : Fun K "_law_pot" "_law_pot" s_law_pot a_law_pot d_law_pot
  g_law_pot : mg "_law_pot" = some (.ref a_law_pot)
  b_law_pot : Binds K d_law_pot ["_law_script", "_law_k"] []
  a_law_draw : Addr
  d_law_draw : FuncData
  f_law_draw : Fun K "_law_draw" "_law_draw" s_law_draw a_law_draw d_law_draw
  g_law_draw : mg "_law_draw" = some (.ref a_law_draw)
  b_law_draw : Binds K d_law_draw ["_law_pot_here", "_law_many"] []
  a_law_pick : Addr
  d_law_pick : FuncData
  f_law_pick : Fun K "_law_pick" "_law_pick" s_law_pick a_law_pick d_law_pick
  g_law_pick : mg "_law_pick" = some (.ref a_law_pick)
  b_law_pick : Binds K d_law_pick ["_law_pot_here", "_law_some"] []
  a_law_mixed : Addr
  d_law_mixed : FuncData
  f_law_mixed : Fun K "_law_mixed" "_law_mixed" s_law_mixed a_law_mixed d_law_mixed
  g_law_mixed : mg "_law_mixed" = some (.ref a_law_mixed)
  b_law_mixed : Binds K d_law_mixed ["_law_pot_here", "_law_some"] []
  a_law_order : Addr
  d_law_order : FuncData
  f_law_order : Fun K "_law_order" "_law_order" s_law_order a_law_order d_law_order
  g_law_order : mg "_law_order" = some (.ref a_law_order)
  b_law_order : Binds K d_law_order ["_law_pot_here", "_law_size"] []
  a_law_as : Addr
  d_law_as : FuncData
  f_law_as : Fun K "_law_as" "_law_as" s_law_as a_law_as d_law_as
  g_law_as : mg "_law_as" = some (.ref a_law_as)
  b_law_as : Binds K d_law_as ["_law_pot_here", "_law_order_here"] []
  a_law_all : Addr
  d_law_all : FuncData
  f_law_all : Fun K "_law_all" "_law_all" s_law_all a_law_all d_law_all
  g_law_all : mg "_law_all" = some (.ref a_law_all)
  b_law_all : Binds K d_law_all ["_law_things"] []
  a_law_count : Addr
  d_law_count : FuncData
  f_law_count : Fun K "_law_count" "_law_count" s_law_count a_law_count d_law_count
  g_law_count : mg "_law_count" = some (.ref a_law_count)
  b_law_count : Binds K d_law_count ["_law_order_here", "_law_corner"] []
  a_law_corners : Addr
  d_law_corners : FuncData
  f_law_corners : Fun K "_law_corners" "_law_corners" s_law_corners a_law_corners d_law_corners
  g_law_corners : mg "_law_corners" = some (.ref a_law_corners)
  b_law_corners : Binds K d_law_corners ["_law_size"] []
  a_law_lower : Addr
  d_law_lower : FuncData
  f_law_lower : Fun K "_law_lower" "_law_lower" s_law_lower a_law_lower d_law_lower
  g_law_lower : mg "_law_lower" = some (.ref a_law_lower)
  b_law_lower : Binds K d_law_lower ["_law_one", "_law_two"] []
  a_law_falls : Addr
  d_law_falls : FuncData
  f_law_falls : Fun K "_law_falls" "_law_falls" s_law_falls a_law_falls d_law_falls
  g_law_falls : mg "_law_falls" = some (.ref a_law_falls)
  b_law_falls : Binds K d_law_falls ["_law_order_here"] []
  a_law_undone : Addr
  d_law_undone : FuncData
  f_law_undone : Fun K "_law_undone" "_law_undone" s_law_undone a_law_undone d_law_undone
  g_law_undone : mg "_law_undone" = some (.ref a_law_undone)
  b_law_undone : Binds K d_law_undone ["_law_order_here"] []
  a_law_single : Addr
  d_law_single : FuncData
  f_law_single : Fun K "_law_single" "_law_single" s_law_single a_law_single d_law_single
  g_law_single : mg "_law_single" = some (.ref a_law_single)
  b_law_single : Binds K d_law_single ["_law_order_here"] []
  a_law_bearing : Addr
  d_law_bearing : FuncData
  f_law_bearing : Fun K "_law_bearing" "_law_bearing" s_law_bearing a_law_bearing d_law_bearing
  g_law_bearing : mg "_law_bearing" = some (.ref a_law_bearing)
  b_law_bearing : Binds K d_law_bearing ["_law_order_here", "_law_singles_here"] []
  a_law_singles : Addr
  d_law_singles : FuncData
  f_law_singles : Fun K "_law_singles" "_law_singles" s_law_singles a_law_singles d_law_singles
  g_law_singles : mg "_law_singles" = some (.ref a_law_singles)
  b_law_singles : Binds K d_law_singles ["_law_size"] []
  a_law_right : Addr
  d_law_right : FuncData
  f_law_right : Fun K "_law_right" "_law_right" s_law_right a_law_right d_law_right
  g_law_right : mg "_law_right" = some (.ref a_law_right)
  b_law_right : Binds K d_law_right ["_law_pot_here"] []
  a_law : Addr
  d_law : FuncData
  f_law : Fun K "law" "law" s_law a_law d_law
  g_law : mg "law" = some (.ref a_law)
  b_law : Binds K d_law ["_law_script"] []
  k_bearing : ∀ (s : Shared) (u : Value), BindsTo s d_bearing ⟨[], [("order", u)]⟩ [("order", u)]
  k_is_single : ∀ (s : Shared) (u : Value), BindsTo s d_is_single ⟨[], [("order", u)]⟩ [("order", u)]
  z_len : mg "len" = none
  z_isinstance : mg "isinstance" = none
  z_sorted : mg "sorted" = none
  z_all : mg "all" = none
  z_any : mg "any" = none
  z_zip : mg "zip" = none
  z_range : mg "range" = none
  z_tuple : mg "tuple" = none
  z_list : mg "list" = none
  z_max : mg "max" = none
  z_min : mg "min" = none
  z_enumerate : mg "enumerate" = none
  z_abs : mg "abs" = none
  z_int : mg "int" = none
  z_divmod : mg "divmod" = none
  z_sum : mg "sum" = none
  z_repr : mg "repr" = none
  z_set : mg "set" = none
  z_bool : mg "bool" = none
  t_MOST_THINGS_basics : Tok
  c_MOST_THINGS_basics : mg "MOST_THINGS_basics" = some (.int 9 t_MOST_THINGS_basics)
  t_MOST_THINGS_corners : Tok
  c_MOST_THINGS_corners : mg "MOST_THINGS_corners" = some (.int 9 t_MOST_THINGS_corners)
end Bd

namespace Bd
open PySem PySem.Spec PyProof.Rows L2 Gp

/-! ### heaps that grow -/
section
variable {H H' H1 H2 : Hp} {p a : Addr} {o : HO}
theorem same_new (h : H p = none) : Same H (upd H p o) := fun b x e => by
  rw [upd_ne (ne_of_none e h)]
  exact e
theorem same_mut (e : Same H H') (h : H p = none) : Same H (upd H' p o) := fun b x ha => by
  rw [upd_ne (ne_of_none ha h)]
  exact e b x ha
theorem same_tup {K : PySem.W.Frag} {xs : List V} (h : FT H a xs) (e : Same H H') : SqT K H' a xs := (h.mono e).sq
theorem same_lst {K : PySem.W.Frag} {xs : List V} (h : H a = some (.lst xs)) (e : Same H H') : SqL K H' a xs := SqL.of (e a _ h)
end

/-! ### data in the heap -/
def Tup (H : Hp) (v : V) (ns : List Int) : Prop := ∃ a, v = .ref a ∧ FT H a (ns.map V.int)
def Lst (H : Hp) (v : V) (ns : List Int) : Prop := ∃ a, v = .ref a ∧ H a = some (.lst (ns.map V.int))
abbrev Tups (H : Hp) (vs : List V) (os : List (List Int)) : Prop := Paired (fun v o => Tup H v o) vs os
/-- a list of tuples of ints -/
def LT (H : Hp) (v : V) (os : List (List Int)) : Prop := ∃ a vs, v = .ref a ∧ H a = some (.lst vs) ∧ Tups H vs os
/-- an order as it is passed -/
def Ord (H : Hp) (v : V) (ns : List Int) : Prop := Tup H v ns ∨ Lst H v ns
section
variable {H H' : Hp} {v : V} {ns : List Int} {D : Addr}
theorem Tup.mono (h : Tup H v ns) (e : Same H H') : Tup H' v ns := by
  obtain ⟨a, h1, h2⟩ := h
  exact ⟨a, h1, h2.mono e⟩
theorem Lst.mono (h : Lst H v ns) (e : Same H H') : Lst H' v ns := by
  obtain ⟨a, h1, h2⟩ := h
  exact ⟨a, h1, e a _ h2⟩
theorem Ord.mono (h : Ord H v ns) (e : Same H H') : Ord H' v ns := h.elim (fun x => .inl (x.mono e)) fun x => .inr (x.mono e)
theorem Tup.stab {xs zs : List V} (hD : H D = some (.lst xs)) (h : Tup H v ns) : Tup (upd H D (.lst zs)) v ns := by
  obtain ⟨a, h1, h2⟩ := h
  exact ⟨a, h1, h2.stab hD⟩
theorem Tups.mono {vs : List V} {os : List (List Int)} (h : Tups H vs os) (e : Same H H') : Tups H' vs os := Paired.mapP h fun _ _ z => z.mono e
theorem Tups.stab {vs : List V} {os : List (List Int)} {xs zs : List V} (hD : H D = some (.lst xs)) (h : Tups H vs os) : Tups (upd H D (.lst zs)) vs os := Paired.mapP h fun _ _ z => z.stab hD
theorem LT.mono {os : List (List Int)} (h : LT H v os) (e : Same H H') : LT H' v os := by
  obtain ⟨a, vs, h1, h2, h3⟩ := h
  exact ⟨a, vs, h1, e a _ h2, h3.mono e⟩
end
theorem paired_append {α β : Type} {F : α → β → Prop} : ∀ {l : List α} {m : List β} {l' : List α} {m' : List β}, Paired F l m → Paired F l' m' → Paired F (l ++ l') (m ++ m')
  | _, _, _, _, .nil, h => h
  | _, _, _, _, .cons r t, h => .cons r (paired_append t h)
theorem paired_at {α β : Type} {F : α → β → Prop} : ∀ {l : List α} {m : List β} {i : Nat} {x : α}, Paired F l m → l[i]? = some x → ∃ y, m[i]? = some y ∧ F x y
  | _, _, _, _, .nil, h => by simp at h
  | _, _, 0, x, .cons r t, h => by
    simp at h
    subst h
    exact ⟨_, rfl, r⟩
  | _, _, i + 1, x, .cons r t, h => by
    obtain ⟨y, h1, h2⟩ := paired_at (i := i) t (by simpa using h)
    exact ⟨y, by simpa using h1, h2⟩
theorem paired_mem {α β : Type} {F : α → β → Prop} {l : List α} {m : List β} {x : α} (h : Paired F l m) (hx : x ∈ l) : ∃ y, y ∈ m ∧ F x y := by
  obtain ⟨i, hi⟩ := List.getElem?_of_mem hx
  obtain ⟨y, h1, h2⟩ := paired_at h hi
  exact ⟨y, List.mem_of_getElem? h1, h2⟩
theorem paired_eq {l m : List V} (h : Paired (fun a b => a = b) l m) : l = m := by
  induction h with
  | nil => rfl
  | cons r t ih => rw [r, ih]
theorem sz_ok {n : Nat} (h : n ≤ 100000) : n ≤ sizeLine := Nat.le_trans h (by decide)
theorem sz_lt {n : Nat} (h : n < 100000) : n < sizeLine := Nat.lt_of_lt_of_le h (by decide)

/-! ### comprehensions: what the turns give -/
section
variable {α β : Type} {J : It} {n : Nat} {G : Hp → Prop} {Y : Nat → Hp → V → Hp → Prop} {g : TG} {tt : TT} {te : TE} {vs : List Nat} {σ : L2.St} {H1 : Hp} {Qd : Addr → Hp → Prop}
/-- a turn: either nothing, or one value -/
abbrev TurnOk (g : TG) (tt : TT) (te : TE) (vs : List Nat) (σ : L2.St) (x : V) (H : Hp) (K0 : Hp → Prop) (K : V → Hp → Prop) : Prop :=
  g x (wipe σ vs) H fun σ2 H2 => wipe σ2 vs = wipe σ vs ∧ tt σ2 H2 fun b H3 => if b = true then te σ2 H3 fun y H4 => K y H4 else K0 H3
theorem lc_rel (wk : Walk J n G Y) (ds : List α) (hn : ds.length = n) (hsz : ds.length ≤ 40000) (F : α → Option β) (Rel : V → β → Hp → Prop)
    (mono : ∀ {v b H H'}, Same H H' → Rel v b H → Rel v b H') (stab : ∀ {v b H D xs zs}, H D = some (.lst xs) → Rel v b H → Rel v b (upd H D (.lst zs)))
    (hG : ∀ H', Same H1 H' → G H')
    (turn : ∀ i d x H H', ds[i]? = some d → Same H1 H → Y i H x H' → ∀ (K0 : Hp → Prop) (K : V → Hp → Prop),
      (∀ H3, Same H H3 → F d = none → K0 H3) → (∀ H3 b y, Same H H3 → F d = some b → Rel y b H3 → K y H3) → TurnOk g tt te vs σ x H' K0 K)
    (fin : ∀ D ys H', H1 D = none → Same H1 H' → H' D = some (.lst ys) → Paired (fun y b => Rel y b H') ys (ds.filterMap F) → Qd D H') :
    ∀ D, H1 D = none → ∃ W : Nat → Nat → Hp → Prop, (∃ m, W 0 m (upd H1 D (.lst []))) ∧ ∀ i m H, W i m H →
      (J.stop i H ∧ Qd D H) ∨ (J.go i H ∧ ∃ Nx : Hp → Prop, (∀ H', Nx H' → ∃ m', m' < m ∧ W (i + 1) m' H') ∧ ∀ x H', J.yld i H x H' → g x (wipe σ vs) H' fun σ2 H2 => wipe σ2 vs = wipe σ vs ∧ tt σ2 H2 fun b H3 =>
        if b = true then te σ2 H3 fun y H4 => ∃ acc, H4 D = some (.lst acc) ∧ acc.length < sizeLine ∧ Nx (upd H4 D (.lst (acc ++ [y]))) else Nx H3) := by
  intro D hD
  subst hn
  refine lc_it wk (Qd := fun H => Qd D H) (fun i H => Same H1 H ∧ ∃ ys, H D = some (.lst ys) ∧ ys.length ≤ i ∧ Paired (fun y b => Rel y b H) ys ((ds.take i).filterMap F))
    ⟨same_new hD, [], upd_same, Nat.le_refl _, .nil⟩ (fun i H _ p => hG H p.1) (fun i x H H' hi p y => ?_) (fun H p => ?_)
  · obtain ⟨p1, ys, p2, p3, p4⟩ := p
    have hd : ds[i]? = some ds[i] := List.getElem?_eq_getElem hi
    have htk : ds.take (i + 1) = ds.take i ++ [ds[i]] := by
      rw [List.take_add_one, hd]
      rfl
    refine turn i ds[i] x H H' hd p1 y _ _ (fun H3 e hF => ?_) (fun H3 b y e hF hR => ?_)
    · refine ⟨p1.trans e, ys, e D _ p2, Nat.le_succ_of_le p3, ?_⟩
      rw [htk, List.filterMap_append]
      have e0 : List.filterMap F [ds[i]] = [] := by
        simp [hF]
      rw [e0, List.append_nil]
      exact Paired.mapP p4 fun _ _ z => mono e z
    · have hD3 : H3 D = some (.lst ys) := e D _ p2
      refine ⟨ys, hD3, sz_lt (by omega), same_mut (p1.trans e) hD, ys ++ [y], upd_same, by simp; omega, ?_⟩
      rw [htk, List.filterMap_append]
      have e0 : List.filterMap F [ds[i]] = [b] := by
        simp [hF]
      rw [e0]
      exact paired_append (Paired.mapP p4 fun _ _ z => stab hD3 (mono e z)) (.cons (stab hD3 hR) .nil)
  · obtain ⟨p1, ys, p2, p3, p4⟩ := p
    rw [List.take_length] at p4
    exact fin D ys H hD p1 p2 p4
/-- values that hang on no object -/
theorem lc_v (wk : Walk J n G Y) (ds : List α) (hn : ds.length = n) (hsz : ds.length ≤ 40000) (F : α → Option V) (hG : ∀ H', Same H1 H' → G H')
    (turn : ∀ i d x H H', ds[i]? = some d → Same H1 H → Y i H x H' → ∀ (K0 : Hp → Prop) (K : V → Hp → Prop),
      (∀ H3, Same H H3 → F d = none → K0 H3) → (∀ H3 y, Same H H3 → F d = some y → K y H3) → TurnOk g tt te vs σ x H' K0 K)
    (fin : ∀ D H', H1 D = none → Same H1 H' → H' D = some (.lst (ds.filterMap F)) → Qd D H') :
    ∀ D, H1 D = none → ∃ W : Nat → Nat → Hp → Prop, (∃ m, W 0 m (upd H1 D (.lst []))) ∧ ∀ i m H, W i m H →
      (J.stop i H ∧ Qd D H) ∨ (J.go i H ∧ ∃ Nx : Hp → Prop, (∀ H', Nx H' → ∃ m', m' < m ∧ W (i + 1) m' H') ∧ ∀ x H', J.yld i H x H' → g x (wipe σ vs) H' fun σ2 H2 => wipe σ2 vs = wipe σ vs ∧ tt σ2 H2 fun b H3 =>
        if b = true then te σ2 H3 fun y H4 => ∃ acc, H4 D = some (.lst acc) ∧ acc.length < sizeLine ∧ Nx (upd H4 D (.lst (acc ++ [y]))) else Nx H3) :=
  lc_rel wk ds hn hsz F (fun v b _ => v = b) (fun _ h => h) (fun _ h => h) hG
    (fun i d x H H' h1 h2 h3 K0 K k1 k2 => turn i d x H H' h1 h2 h3 K0 K k1 fun H3 y e hF => k2 H3 y y e hF rfl)
    (fun D ys H' h1 h2 h3 h4 => fin D H' h1 h2 (by rw [← paired_eq h4]; exact h3))
/-- tuples of ints -/
theorem lc_t (wk : Walk J n G Y) (ds : List α) (hn : ds.length = n) (hsz : ds.length ≤ 40000) (F : α → Option (List Int)) (hG : ∀ H', Same H1 H' → G H')
    (turn : ∀ i d x H H', ds[i]? = some d → Same H1 H → Y i H x H' → ∀ (K0 : Hp → Prop) (K : V → Hp → Prop),
      (∀ H3, Same H H3 → F d = none → K0 H3) → (∀ H3 b y, Same H H3 → F d = some b → Tup H3 y b → K y H3) → TurnOk g tt te vs σ x H' K0 K)
    (fin : ∀ D ys H', H1 D = none → Same H1 H' → H' D = some (.lst ys) → Tups H' ys (ds.filterMap F) → Qd D H') :
    ∀ D, H1 D = none → ∃ W : Nat → Nat → Hp → Prop, (∃ m, W 0 m (upd H1 D (.lst []))) ∧ ∀ i m H, W i m H →
      (J.stop i H ∧ Qd D H) ∨ (J.go i H ∧ ∃ Nx : Hp → Prop, (∀ H', Nx H' → ∃ m', m' < m ∧ W (i + 1) m' H') ∧ ∀ x H', J.yld i H x H' → g x (wipe σ vs) H' fun σ2 H2 => wipe σ2 vs = wipe σ vs ∧ tt σ2 H2 fun b H3 =>
        if b = true then te σ2 H3 fun y H4 => ∃ acc, H4 D = some (.lst acc) ∧ acc.length < sizeLine ∧ Nx (upd H4 D (.lst (acc ++ [y]))) else Nx H3) :=
  lc_rel wk ds hn hsz F (fun v b H => Tup H v b) (fun e h => h.mono e) (fun hD h => h.stab hD) hG turn fin
end
theorem filterMap_some {α β : Type} (f : α → β) (l : List α) : l.filterMap (fun x => some (f x)) = l.map f := by
  rw [← List.filterMap_eq_map]
  rfl
theorem filterMap_ite {α β : Type} (p : α → Bool) (f : α → β) (l : List α) : l.filterMap (fun x => if p x = true then some (f x) else none) = (l.filter p).map f := by
  induction l with
  | nil => rfl
  | cons x r ih =>
    cases h : p x with
    | true => simp [List.filterMap_cons, List.filter_cons, h, ih]
    | false => simp [List.filterMap_cons, List.filter_cons, h, ih]
/-! ### tests whose answer is known -/
section
variable {A B c : Prop} {b : Bool}
theorem iteDT [Decidable c] (h : c) (a : A) : if decide c = true then A else B := by
  rw [decide_eq_true h]
  exact a
theorem iteDF [Decidable c] (h : ¬ c) (x : B) : if decide c = true then A else B := by
  rw [decide_eq_false h]
  exact iteF x
theorem iteB1 (h : b = true) (a : A) : if b = true then A else B := by
  rw [h]
  exact a
theorem iteB0 (h : b = false) (x : B) : if b = true then A else B := by
  rw [h]
  exact iteF x
theorem iteN (h : b = true) (x : B) : if (!b) = true then A else B := by
  rw [h]
  exact iteF x
theorem iteNF (h : b = false) (a : A) : if (!b) = true then A else B := by
  rw [h]
  exact a
end
/-! ### for x in v, v a list or a tuple -/
section
variable {X : Cx} {tg : Expr}
def iSeq (K : PySem.W.Frag) (tl : TE) : TI := fun σ H R => tl σ H fun x H1 => ∃ a xs, x = .ref a ∧ ((SqL K H1 a xs ∧ R (Itl K a) H1) ∨ (SqT K H1 a xs ∧ R (Itt K a) H1))
theorem pi_seq {l : Expr} {tl : TE} (hl : PE X l tl) : PI X tg l (iSeq X.K tl) := by
  refine ⟨fun pins s σ H R I h => ?_⟩
  refine thn (hl.run pins s σ H _ I h)
    fun v s1 ⟨x, H1, I1, r1, q1⟩ => ?_
  obtain ⟨a, xs, e, q1⟩ := q1
  subst e
  cases r1
  have fr : ∀ b ∈ [s1.heap.objs.size], FpOk X pins H1 b := by
    intro b hb
    have e : b = s1.heap.objs.size := by
      simpa using hb
    subst e
    exact I1.fpOk (Nat.le_refl _)
      (I1.hok.fresh (Nat.le_refl _))
  rcases q1 with ⟨hq, q⟩ | ⟨hq, q⟩
  · obtain ⟨its, rv, p, hz⟩ := I1.list hq
    refine wpAny_pyIter_list
      p.isList ?_
    exact ⟨s1.heap.objs.size, [s1.heap.objs.size], _, _, H1, rfl, I1.kept (t' := s1.toks) fun b o e => Heap.get?_push_of_some _ e, turn_list a _,
      ⟨_, Heap.get?_push_size _ rfl, rfl, rfl⟩, fr, q⟩
  · obtain ⟨its, rv, p, hz⟩ := I1.tuple hq
    refine wpAny_pyIter_tuple
      (show s1.heap.IsTuple a its.toArray from p) ?_
    exact ⟨s1.heap.objs.size, [s1.heap.objs.size], _, _, H1, rfl, I1.kept (t' := s1.toks) fun b o e => Heap.get?_push_of_some _ e, turn_tuple a _,
      ⟨_, Heap.get?_push_size _ rfl, rfl, rfl⟩, fr, q⟩
end
theorem Ord.seq {H : Hp} {v : V} {ns : List Int} (K : PySem.W.Frag) (h : Ord H v ns) : ∃ p, v = .ref p ∧ (SqL K H p (ns.map V.int) ∨ SqT K H p (ns.map V.int)) := by
  rcases h with ⟨p, e, h⟩ | ⟨p, e, h⟩
  · exact ⟨p, e, .inr h.sq⟩
  · exact ⟨p, e, .inl (SqL.of h)⟩
/-- len of an order -/
theorem ord_len {H : Hp} {v : V} {ns : List Int} {K : PySem.W.Frag} {Qd : Addr → List V → Prop} (h : Ord H v ns) (k : ∀ p ys, ys.length = ns.length → Qd p ys) :
    ∃ p ys, [v] = [.ref p] ∧ (SqL K H p ys ∨ SqT K H p ys) ∧ Qd p ys := by
  obtain ⟨p, e, h⟩ := h.seq K
  exact ⟨p, _, by rw [e], h, k _ _ (List.length_map _)⟩
theorem ord_sorted {H : Hp} {v : V} {ns : List Int} {K : PySem.W.Frag} {Q : VK} (h : Ord H v ns) (k : ∀ (ns' : List Int) (q : Addr), ns'.Perm ns → ns'.Pairwise (· ≤ ·) → H q = none → Q (.ref q) (upd H q (.lst (ns'.map V.int)))) :
    rSortedI K [v] H Q ∨ rSortedTI K [v] H Q := by
  rcases h with ⟨p, rfl, h⟩ | ⟨p, rfl, h⟩
  · exact .inr ⟨p, ns, rfl, h.sq, k⟩
  · exact .inl ⟨p, ns, rfl, SqL.of h, k⟩
/-- a comprehension over an order, values that hang on no object -/
theorem ord_lc {H1 : Hp} {v : V} {ns : List Int} {K : PySem.W.Frag} {g : TG} {tt : TT} {te : TE} {vs : List Nat} {σ : L2.St} {Qd : Addr → Hp → Prop} (hv : Ord H1 v ns) (hsz : ns.length ≤ 40000) (F : Int → Option V)
    (turn : ∀ (d : Int) H, Same H1 H → ∀ (K0 : Hp → Prop) (Kx : V → Hp → Prop),
      (∀ H3, Same H H3 → F d = none → K0 H3) → (∀ H3 y, Same H H3 → F d = some y → Kx y H3) → TurnOk g tt te vs σ (.int d) H K0 Kx)
    (fin : ∀ D H', H1 D = none → Same H1 H' → H' D = some (.lst (ns.filterMap F)) → Qd D H') :
    ∃ a xs, v = .ref a ∧ ((SqL K H1 a xs ∧ ∀ D, H1 D = none → ∃ W : Nat → Nat → Hp → Prop, (∃ m, W 0 m (upd H1 D (.lst []))) ∧ ∀ i m H, W i m H →
        ((Itl K a).stop i H ∧ Qd D H) ∨ ((Itl K a).go i H ∧ ∃ Nx : Hp → Prop, (∀ H', Nx H' → ∃ m', m' < m ∧ W (i + 1) m' H') ∧ ∀ x H', (Itl K a).yld i H x H' → g x (wipe σ vs) H' fun σ2 H2 => wipe σ2 vs = wipe σ vs ∧ tt σ2 H2 fun b H3 =>
          if b = true then te σ2 H3 fun y H4 => ∃ acc, H4 D = some (.lst acc) ∧ acc.length < sizeLine ∧ Nx (upd H4 D (.lst (acc ++ [y]))) else Nx H3)) ∨
      (SqT K H1 a xs ∧ ∀ D, H1 D = none → ∃ W : Nat → Nat → Hp → Prop, (∃ m, W 0 m (upd H1 D (.lst []))) ∧ ∀ i m H, W i m H →
        ((Itt K a).stop i H ∧ Qd D H) ∨ ((Itt K a).go i H ∧ ∃ Nx : Hp → Prop, (∀ H', Nx H' → ∃ m', m' < m ∧ W (i + 1) m' H') ∧ ∀ x H', (Itt K a).yld i H x H' → g x (wipe σ vs) H' fun σ2 H2 => wipe σ2 vs = wipe σ vs ∧ tt σ2 H2 fun b H3 =>
          if b = true then te σ2 H3 fun y H4 => ∃ acc, H4 D = some (.lst acc) ∧ acc.length < sizeLine ∧ Nx (upd H4 D (.lst (acc ++ [y]))) else Nx H3))) := by
  have turn' : ∀ (i : Nat) (d : Int) (x : V) (H H' : Hp), ns[i]? = some d → Same H1 H → YAt (ns.map V.int) i H x H' → ∀ (K0 : Hp → Prop) (Kx : V → Hp → Prop),
      (∀ H3, Same H H3 → F d = none → K0 H3) → (∀ H3 y, Same H H3 → F d = some y → Kx y H3) → TurnOk g tt te vs σ x H' K0 Kx := by
    intro i d x H H' hd e hy K0 Kx k0 k1
    obtain ⟨rfl, hx⟩ := hy
    rw [List.getElem?_map, hd] at hx
    cases hx
    exact turn d _ e K0 Kx k0 k1
  rcases hv with ⟨a, rfl, ha⟩ | ⟨a, rfl, ha⟩
  · exact ⟨a, _, rfl, .inr ⟨ha.sq, lc_v walk_tup ns (by simp) hsz F (fun H' e => same_tup ha e) turn' fin⟩⟩
  · exact ⟨a, _, rfl, .inl ⟨SqL.of ha, lc_v walk_list ns (by simp) hsz F (fun H' e => same_lst ha e) turn' fin⟩⟩
end Bd

namespace Bd
open PySem PySem.Spec PyProof.Rows L2 Gp Mir
/-! ### data: ints, tuples of ints, lists of tuples of ints, two truth values -/
def tupD (ns : List Int) : PyData := .tuple (ns.map PyData.int)
def lstD (ns : List Int) : PyData := .list (ns.map PyData.int)
def osD (os : List (List Int)) : PyData := .list (os.map tupD)
section
variable {K : PySem.W.Frag} {H : Hp}
theorem dpInts : ∀ ns : List Int, DpAll K H (ns.map V.int) (ns.map PyData.int)
  | [] => .nil
  | n :: r => .cons (.int n) (dpInts r)
theorem dpTup {v : V} {ns : List Int} (h : Tup H v ns) : Dp K H v (tupD ns) := by
  obtain ⟨a, rfl, h⟩ := h
  exact .tup h.sq (dpInts ns)
theorem dpLst {a : Addr} {ns : List Int} (h : H a = some (.lst (ns.map V.int))) : Dp K H (.ref a) (lstD ns) := .lst (SqL.of h) (dpInts ns)
theorem dpTups {vs : List V} {os : List (List Int)} (h : Tups H vs os) : DpAll K H vs (os.map tupD) := by
  induction h with
  | nil => exact .nil
  | cons r t ih => exact .cons (dpTup r) ih
theorem dpOs {a : Addr} {vs : List V} {os : List (List Int)} (h : H a = some (.lst vs)) (ht : Tups H vs os) : Dp K H (.ref a) (osD os) := .lst (SqL.of h) (dpTups ht)
end
theorem lay_ints : ∀ ns : List Int, PyData.canLayAll0 (ns.map PyData.int) = true
  | [] => by simp [PyData.canLayAll0]
  | n :: r => by simp [PyData.canLayAll0, PyData.canLay0, lay_ints r]
theorem dep_ints : ∀ ns : List Int, PyData.depthAll (ns.map PyData.int) = 0
  | [] => by simp [PyData.depthAll]
  | n :: r => by simp [PyData.depthAll, PyData.depth, dep_ints r]
theorem lay_tups : ∀ os : List (List Int), PyData.canLayAll0 (os.map tupD) = true
  | [] => by simp [PyData.canLayAll0]
  | n :: r => by simp [PyData.canLayAll0, tupD, PyData.canLay0, lay_ints, lay_tups r]
theorem dep_tups : ∀ os : List (List Int), PyData.depthAll (os.map tupD) ≤ 1
  | [] => by simp [PyData.depthAll]
  | n :: r => by
    have := dep_tups r
    simp only [List.map_cons, PyData.depthAll, tupD, PyData.depth, dep_ints]
    omega
theorem shaped_tup (ns : List Int) : SeqAt.shaped (tupD ns) = true := by
  show (PyData.canLay0 (tupD ns) && decide (PyData.depth (tupD ns) ≤ 64)) = true
  simp [tupD, PyData.canLay0, PyData.depth, lay_ints, dep_ints]
theorem shaped_lst (ns : List Int) : SeqAt.shaped (lstD ns) = true := by
  show (PyData.canLay0 (lstD ns) && decide (PyData.depth (lstD ns) ≤ 64)) = true
  simp [lstD, PyData.canLay0, PyData.depth, lay_ints, dep_ints]
theorem shaped_os (os : List (List Int)) : SeqAt.shaped (osD os) = true := by
  show (PyData.canLay0 (osD os) && decide (PyData.depth (osD os) ≤ 64)) = true
  have := dep_tups os
  simp only [osD, PyData.canLay0, PyData.depth, lay_tups, Bool.true_and, decide_eq_true_eq]
  omega
theorem eqv_ints : ∀ a b : List Int, PyData.eqvAll (a.map PyData.int) (b.map PyData.int) = (a == b)
  | [], [] => by simp [PyData.eqvAll]
  | [], _ :: _ => by simp [PyData.eqvAll]
  | _ :: _, [] => by simp [PyData.eqvAll]
  | x :: r, y :: s => by
    simp only [List.map_cons, PyData.eqvAll, PyData.eqv, eqv_ints r s]
    rfl
theorem eqv_tup (a b : List Int) : PyData.eqv (tupD a) (tupD b) = (a == b) := by
  simp only [tupD, PyData.eqv, eqv_ints]
theorem eqv_lst (a b : List Int) : PyData.eqv (lstD a) (lstD b) = (a == b) := by
  simp only [lstD, PyData.eqv, eqv_ints]
theorem eqv_tups : ∀ a b : List (List Int), PyData.eqvAll (a.map tupD) (b.map tupD) = (a == b)
  | [], [] => by simp [PyData.eqvAll]
  | [], _ :: _ => by simp [PyData.eqvAll]
  | _ :: _, [] => by simp [PyData.eqvAll]
  | x :: r, y :: s => by
    simp only [List.map_cons, PyData.eqvAll, eqv_tup, eqv_tups r s]
    rfl
theorem eqv_os (a b : List (List Int)) : PyData.eqv (osD a) (osD b) = (a == b) := by
  simp only [osD, PyData.eqv, eqv_tups]
/-! ### what repr shows of them -/
def Small (ns : List Int) : Prop := ∀ m ∈ ns, 0 ≤ m ∧ m < 16
theorem digit_len {i : Int} (h : 0 ≤ i ∧ i < 16) : (PyData.shown (.int i)).length ≤ 2 := by
  have all : ((List.range 16).all fun n => decide ((PyData.shown (.int (n : Nat))).length ≤ 2)) = true := by decide +kernel
  obtain ⟨n, rfl⟩ : ∃ n : Nat, i = (n : Int) := ⟨i.toNat, by omega⟩
  have := List.all_eq_true.mp all n (List.mem_range.mpr (by omega))
  exact of_decide_eq_true this
theorem piled_digits : ∀ ns : List Int, Small ns → piled (PyData.shownAll (ns.map PyData.int)) ≤ 4 * ns.length
  | [], _ => by simp [PyData.shownAll, piled]
  | n :: r, h => by
    have h1 := digit_len (h n List.mem_cons_self)
    have h2 := piled_digits r fun m hm => h m (List.mem_cons_of_mem _ hm)
    simp only [List.map_cons, PyData.shownAll, piled_cons, List.length_cons]
    omega
theorem tupleText_le (ts : List Str) : (tupleText ts).length ≤ piled ts + 4 := by
  unfold tupleText
  rw [strLen_append, strLen_append]
  have e1 : (("(" : String) : Str).length = 1 := by rfl
  have e2 : ((if ts.length == 1 then ",)" else ")" : String) : Str).length ≤ 2 := by
    split <;> decide +kernel
  have e3 : (Str.join ", " ts).length ≤ piled ts := by
    cases ts with
    | nil => exact Nat.zero_le _
    | cons t r =>
      have := join_length_add (t :: r) (by simp)
      omega
  omega
theorem textFrom_le : ∀ (ts : List Str) (k : Nat) (acc : Str), (textFrom k acc ts).length ≤ acc.length + piled ts
  | [], k, acc => by
    show acc.length ≤ _
    omega
  | t :: r, k, acc => by
    have h := textFrom_le r (k + 1) (acc ++ (if k > 0 then ", " else "" : String) ++ t)
    have e : (acc ++ (if k > 0 then ", " else "" : String) ++ t).length = acc.length + (if k > 0 then 2 else 0) + t.length := by
      rw [strLen_append, strLen_append]
      split <;> rfl
    rw [e] at h
    rw [piled_cons]
    show (textFrom (k + 1) (acc ++ (if k > 0 then ", " else "" : String) ++ t) r).length ≤ _
    have e2 : (if k > 0 then 2 else 0) ≤ 2 := by
      split <;> omega
    generalize (if k > 0 then 2 else 0) = z at h e2
    omega
theorem listText_le (ts : List Str) : (listText ts).length ≤ piled ts + 2 := by
  unfold listText
  rw [strLen_append]
  have h := textFrom_le ts 0 "["
  have e1 : (("[" : String) : Str).length = 1 := by rfl
  have e2 : (("]" : String) : Str).length = 1 := by rfl
  omega
theorem piled_tups : ∀ os : List (List Int), (∀ o ∈ os, Small o ∧ o.length ≤ 9) → piled (PyData.shownAll (os.map tupD)) ≤ 42 * os.length
  | [], _ => by simp [PyData.shownAll, piled]
  | o :: r, h => by
    obtain ⟨h1, h2⟩ := h o List.mem_cons_self
    have h3 := piled_tups r fun m hm => h m (List.mem_cons_of_mem _ hm)
    have h4 := piled_digits o h1
    have h5 := tupleText_le (PyData.shownAll (o.map PyData.int))
    have e : (PyData.shown (tupD o)).length = (tupleText (PyData.shownAll (o.map PyData.int))).length := by
      simp only [tupD, PyData.shown]
    simp only [List.map_cons, PyData.shownAll, piled_cons, List.length_cons]
    omega
theorem shown_os {os : List (List Int)} (h : ∀ o ∈ os, Small o ∧ o.length ≤ 9) (hl : os.length ≤ 1000) : (osD os).shown.length ≤ sizeLine := by
  have h1 := piled_tups os h
  have h2 := listText_le (PyData.shownAll (os.map tupD))
  have e : (osD os).shown.length = (listText (PyData.shownAll (os.map tupD))).length := by
    simp only [osD, PyData.shown]
  have e2 := sizeLine_eq
  omega
theorem showable_ints : ∀ ns : List Int, Small ns → PyData.showableAll (ns.map PyData.int) = true
  | [], _ => by simp [PyData.showableAll]
  | n :: r, h => by
    have h1 := h n List.mem_cons_self
    have h2 := showable_ints r fun m hm => h m (List.mem_cons_of_mem _ hm)
    have h3 : n.natAbs.log2 < 1920 := by
      have : n.natAbs < 2 ^ 1920 := Nat.lt_of_lt_of_le (show n.natAbs < 16 by omega) (by decide +kernel)
      by_cases hz : n.natAbs = 0
      · rw [hz]
        decide
      · exact (Nat.log2_lt hz).mpr this
    simp [PyData.showableAll, PyData.showable, h2, h3]
theorem showable_os {os : List (List Int)} (h : ∀ o ∈ os, Small o ∧ o.length ≤ 9) : (osD os).showable = true := by
  have : ∀ os : List (List Int), (∀ o ∈ os, Small o ∧ o.length ≤ 9) → PyData.showableAll (os.map tupD) = true := by
    intro os
    induction os with
    | nil =>
      intro _
      simp [PyData.showableAll]
    | cons o r ih =>
      intro h
      have h1 := (h o List.mem_cons_self).1
      simp [PyData.showableAll, tupD, PyData.showable, showable_ints o h1, ih fun m hm => h m (List.mem_cons_of_mem _ hm)]
  simp only [osD, PyData.showable]
  exact this os h
theorem noDict_ints : ∀ ns : List Int, PyData.hasDictAll (ns.map PyData.int) = false
  | [] => by simp [PyData.hasDictAll]
  | n :: r => by simp [PyData.hasDictAll, PyData.hasDict, noDict_ints r]
theorem noDict_os (os : List (List Int)) : (osD os).hasDict = false := by
  have : ∀ os : List (List Int), PyData.hasDictAll (os.map tupD) = false := by
    intro os
    induction os with
    | nil => simp [PyData.hasDictAll]
    | cons o r ih => simp [PyData.hasDictAll, tupD, PyData.hasDict, noDict_ints, ih]
  simp only [osD, PyData.hasDict]
  exact this os
theorem depth_os (os : List (List Int)) : (osD os).depth ≤ 8 := by
  have := dep_tups os
  simp only [osD, PyData.depth]
  omega
/-! two truth values -/
def blD (b c : Bool) : PyData := .list [.bool b, .bool c]
theorem blD_ok (b c : Bool) : (blD b c).showable = true ∧ (blD b c).hasDict = false ∧ (blD b c).depth ≤ 8 ∧ (blD b c).shown.length ≤ sizeLine := by
  refine ⟨by simp [blD, PyData.showable, PyData.showableAll], by simp [blD, PyData.hasDict, PyData.hasDictAll], by simp [blD, PyData.depth, PyData.depthAll], ?_⟩
  have h : (blD b c).shown.length ≤ 100 := by
    simp only [blD, PyData.shown, PyData.shownAll]
    refine Nat.le_trans (listText_le _) ?_
    cases b <;> cases c <;> decide +kernel
  exact Nat.le_trans h (sz_ok (by decide))
end Bd

/-! The layer's rules with the written part named: so that a comprehension's parts hang on no bound variable. -/
namespace Bd
open PySem PySem.Spec PyProof.Rows L2 Gp
section
variable (K : PySem.W.Frag) {X : Cx}
theorem ix_tupK (h : X.K = K := by rfl) : IxR X (rIxT K) := h ▸ ix_tup
theorem ix_listK (h : X.K = K := by rfl) : IxR X (rIxL K) := h ▸ ix_list
theorem sl_listK (h : X.K = K := by rfl) : SlR X (rSlL K) := h ▸ sl_list
theorem sl_tupAK (h : X.K = K := by rfl) : SlR X (rSlA K) := h ▸ sl_tupA
theorem op_eqDK (hu : X.A.units + 64 < cLine) (h : X.K = K := by rfl) : OpR X (compareOp .Eq) (rEqD K) := h ▸ op_eqD hu
theorem op_neDK (hu : X.A.units + 64 < cLine) (h : X.K = K := by rfl) : OpR X (compareOp .NotEq) (rNeD K) := h ▸ op_neD hu
theorem op_notInK (h : X.K = K := by rfl) : OpR X (compareOp .NotIn) (rIn K true) := h ▸ op_notIn_seq
theorem op_catAK (h : X.K = K := by rfl) : OpR X (binaryOp .Add) (rCatA K) := h ▸ op_catA
def rLenS (K : PySem.W.Frag) : List V → Hp → VK → Prop := fun xs H Q => ∃ p ys, xs = [.ref p] ∧ (SqL K H p ys ∨ SqT K H p ys) ∧ Q (.int (ys.length : Nat)) H
theorem cr_lenK (h : X.K = K := by rfl) : CallR X (.builtin "len") (rLenS K) := h ▸ call_len_seq
theorem cr_isiK (h : X.K = K := by rfl) : CallR X (.builtin "isinstance") (rIsi K) := h ▸ call_isi
theorem cr_isiTK (h : X.K = K := by rfl) : CallR X (.builtin "isinstance") (rIsiT K) := h ▸ call_isiT
theorem cr_sortedK (h : X.K = K := by rfl) : CallR X (.builtin "sorted") (rSortedI K) := h ▸ cr_sortedI
theorem cr_sortedAnyK (h : X.K = K := by rfl) : CallR X (.builtin "sorted") (fun xs H Q => rSortedI K xs H Q ∨ rSortedTI K xs H Q) := h ▸ cr_sortedAny
theorem cr_sortTK {d : Nat} (hd : 1 ≤ d) (h : X.K = K := by rfl) : CallR X (.builtin "sorted") (rSortU K d 16) := h ▸ cr_sortT hd
theorem cr_sortPOK (h : X.K = K := by rfl) : CallR X (.builtin "sorted") (rSortedPO K) := h ▸ cr_sortedPO
theorem cr_allK (hc : X.calm = true := by rfl) (h : X.K = K := by rfl) : CallR X (.builtin "all") (rAll K) := h ▸ cr_all hc
theorem cr_anyK (hc : X.calm = true := by rfl) (h : X.K = K := by rfl) : CallR X (.builtin "any") (rAny K) := h ▸ cr_any hc
theorem cr_sumK (hc : X.calm = true := by rfl) (h : X.K = K := by rfl) : CallR X (.builtin "sum") (rSum K) := h ▸ cr_sum hc
theorem cr_reprK (hg : X.A.guards = some []) (hu : X.A.units + 64 < cLine) (h : X.K = K := by rfl) : CallR X (.builtin "repr") (rRepr K) := h ▸ cr_repr hg hu
def rListS (K : PySem.W.Frag) : List V → Hp → VK → Prop := fun xs H Q => ∃ p ys, xs = [.ref p] ∧ (SqL K H p ys ∨ SqT K H p ys) ∧ ∀ l, H l = none → Q (.ref l) (upd H l (.lst ys))
theorem cr_listK (h : X.K = K := by rfl) : CallR X (.type "list") (rListS K) := h ▸ call_list_of
def rTupS (K : PySem.W.Frag) : List V → Hp → VK → Prop := fun xs H Q => ∃ p ys, xs = [.ref p] ∧ ((SqL K H p ys ∧ ∀ l, H l = none → Q (.ref l) (upd H l (.tup ys))) ∨ (SqT K H p ys ∧ Q (.ref p) H))
theorem cr_tupK (h : X.K = K := by rfl) : CallR X (.type "tuple") (rTupS K) := h ▸ call_tuple_of
theorem mt_tupIxK (h : X.K = K := by rfl) : MtR X "tuple.index" (rTupIx K) := h ▸ mt_tupIx
variable {tg : Expr}
theorem pi_listK {l : Expr} {tl : TE} (hl : PE X l tl) (h : X.K = K := by rfl) : PI X tg l (iList K tl) := h ▸ pi_list hl
theorem pi_tupK {l : Expr} {tl : TE} (hl : PE X l tl) (h : X.K = K := by rfl) : PI X tg l (iTup K tl) := h ▸ pi_tup hl
theorem pi_seqK {l : Expr} {tl : TE} (hl : PE X l tl) (h : X.K = K := by rfl) : PI X tg l (iSeq K tl) := h ▸ pi_seq hl
theorem pi_zipK {e e2 : Expr} {ta : TA} {p pos tpos : Pos} {elts : List Expr} {kk : Nat} (hg : Gl X "zip") (hm : X.mg "zip" = none) (ha : PA X [e, e2] ta)
    (hs : starEach [e, e2] X.env = (false, eval e X.env) :: starEach [e2] X.env := by rfl) (hpl : (backTo pos (starEach [e2] X.env)).any (·.1) = false := by rfl) (h : X.K = K := by rfl) :
    PI X (.Tuple elts kk tpos) (.Call (.Name "zip" p) [e, e2] [] pos) (RZ.iZipA K ta) := h ▸ RZ.pi_zipA hg hm ha hs hpl
theorem pi_enumK {e : Expr} {ta : TA} {p pos tpos : Pos} {elts : List Expr} {kk : Nat} (hg : Gl X "enumerate") (hm : X.mg "enumerate" = none) (ha : PA X [e] ta)
    (hs : starEach [e] X.env = [(false, eval e X.env)] := by rfl) (h : X.K = K := by rfl) : PI X (.Tuple elts kk tpos) (.Call (.Name "enumerate" p) [e] [] pos) (iEnum K ta) := h ▸ pi_enum hg hm ha hs
theorem pi_enumTK {e : Expr} {ta : TA} {p pos tpos : Pos} {elts : List Expr} {kk : Nat} (hg : Gl X "enumerate") (hm : X.mg "enumerate" = none) (ha : PA X [e] ta)
    (hs : starEach [e] X.env = [(false, eval e X.env)] := by rfl) (h : X.K = K := by rfl) : PI X (.Tuple elts kk tpos) (.Call (.Name "enumerate" p) [e] [] pos) (iEnumT K ta) := h ▸ pi_enumT hg hm ha hs
theorem pg_tupK {pos : Pos} {es : List Expr} {k : Nat} {t : TGs} {n : Nat} (hc : X.calm = true) (hp : PGs X es t)
    (hn : (assignEach es X.env).length = n := by rfl) (hst : (assignEach es X.env).findIdx? (·.1) = none := by rfl) (h : X.K = K := by rfl) : PG X (.Tuple es k pos) (gTup K n t) := h ▸ pg_tup hc hp hn hst
theorem pe_bmK {o e : Expr} {es : List Expr} {to : TE} {t : TA} {name : Str} {apos cpos : Pos} {T id : String} {r : V → List V → Hp → VK → Prop} (pa : PlainAttrs T) (slot : Slot T name id)
    (hty : typeOf (.builtin id) = pure (.type "method_descriptor")) (hm : MtR X id r) (ho : PE X o to) (ha : PA X (e :: es) t)
    (hbase : attributeBase o name X.env (eval o X.env) = eval o X.env := by rfl)
    (hfew : ((backTo cpos (starEach (e :: es) X.env)).all (fun x => !x.1) && (backToKw cpos (keywordEach [] X.env)).all (fun x => x.1.isSome) &&
      decide ((e :: es).length + ([] : List Keyword).length + (if ([] : List Keyword).isEmpty then 0 else 1) < 30)) = true := by rfl)
    (hline : (apos.endLine == cpos.line) = true := by rfl) (hs : starEach (e :: es) X.env = (false, eval e X.env) :: starEach es X.env := by rfl) (hplain : (backTo cpos (starEach es X.env)).any (·.1) = false := by rfl)
    (h : X.K = K := by rfl) : PE X (.Call (.Attribute o name apos) (e :: es) [] cpos) (tBM K T r to t) := h ▸ pe_bm pa slot hty hm ho ha hbase hfew hline hs hplain
end
theorem map_at {ns : List Int} {i : Nat} {x : V} (h : (ns.map V.int)[i]? = some x) : ∃ c, ns[i]? = some c ∧ x = .int c := by
  rw [List.getElem?_map] at h
  obtain ⟨c, hc, e⟩ := Option.map_eq_some_iff.mp h
  exact ⟨c, hc, e.symm⟩
theorem ypair_ints {a b : List Int} {i : Nat} {H H' : Hp} {v : V} (h : YPair (fun i => (a.map V.int)[i]?) (fun i => (b.map V.int)[i]?) i H v H') :
    ∃ T c d, v = .ref T ∧ H T = none ∧ H' = upd H T (.tup [.int c, .int d]) ∧ a[i]? = some c ∧ b[i]? = some d := by
  obtain ⟨T, x, y, h1, h2, h3, h4, h5⟩ := h
  obtain ⟨c, hc, rfl⟩ := map_at h4
  obtain ⟨d, hd, rfl⟩ := map_at h5
  exact ⟨T, c, d, h1, h2, h3, hc, hd⟩
theorem yenum_ints {b : List Int} {i : Nat} {H H' : Hp} {v : V} (h : YPair (fun i => some (.int (i : Nat))) (fun i => (b.map V.int)[i]?) i H v H') :
    ∃ T d, v = .ref T ∧ H T = none ∧ H' = upd H T (.tup [.int (i : Nat), .int d]) ∧ b[i]? = some d := by
  obtain ⟨T, x, y, h1, h2, h3, h4, h5⟩ := h
  obtain ⟨d, hd, rfl⟩ := map_at h5
  cases h4
  exact ⟨T, d, h1, h2, h3, hd⟩
theorem yat_ints {b : List Int} {i : Nat} {H H' : Hp} {v : V} (h : YAt (b.map V.int) i H v H') : ∃ d, H' = H ∧ v = .int d ∧ b[i]? = some d := by
  obtain ⟨e, h⟩ := h
  obtain ⟨d, hd, hx⟩ := map_at h
  exact ⟨d, e, hx, hd⟩
end Bd

namespace Bd
open PySem PySem.Spec PyProof.Rows L2 Gp Mir
section
variable {P : Program} {w : World} {K : PySem.W.Frag} {mg : Str → Option Value} {base : Heap}
/-! ### is_integer, is_count, is_list -/
def sp_is_integer : Sp := fun vs H Q _ => ∃ i : Int, vs = [.int i] ∧ ∀ H', Same H H' → Q (.bl true) H'
theorem ok_is_integer (T : Txt K mg) : FnOk P w K mg base CX0 1 T.a_is_integer T.d_is_integer ["value"] sp_is_integer := by
  refine T.f_is_integer.ok sc_is_integer (fun vs H Q E h => ?_) (fun cdv A outer s H vs Q E hr h => ?_)
  · obtain ⟨i, rfl, _⟩ := h
    rfl
  · obtain ⟨i, rfl, q⟩ := h
    refine ⟨_, (pss_one (ps_ret (pe_and (pe_callB (cr_isiK K) (by rfl) T.z_isinstance (by decide +kernel) (pa_cons (pv 0) (pa_cons (pe_bltn (v := .ty "int") (by rfl) T.z_int (by decide +kernel) rfl) pa_nil))) (pe_one (pe_not (pe_callB (cr_isiK K) (by rfl) T.z_isinstance (by decide +kernel) (pa_cons (pv 0) (pa_cons (pe_bltn (v := .ty "bool") (by rfl) T.z_bool (by decide +kernel) rfl) pa_nil)))))))), ?_⟩
    refine ⟨_, rfl, .int i, .ty "int", _, _, true, rfl, .ty "int", .base (.int i), kit_ty (by decide +kernel), true, rfl, ?_⟩
    rw [if_pos rfl]
    exact ⟨_, rfl, .int i, .ty "bool", _, _, false, rfl, .ty "bool", .base (.int i), kit_ty (by decide +kernel), false, rfl, q H (.refl H)⟩
def sp_is_count : Sp := fun vs H Q _ => ∃ i : Int, vs = [.int i] ∧ 0 ≤ i ∧ ∀ H', Same H H' → Q (.bl true) H'
theorem ok_is_count (T : Txt K mg) : FnOk P w K mg base CX0 2 T.a_is_count T.d_is_count ["value"] sp_is_count := by
  refine T.f_is_count.ok sc_is_count (fun vs H Q E h => ?_) (fun cdv A outer s H vs Q E hr h => ?_)
  · obtain ⟨i, rfl, _⟩ := h
    rfl
  · obtain ⟨i, rfl, hi, q⟩ := h
    refine ⟨_, (pss_one (ps_ret (pe_and (pe_call (ok_is_integer T) (hr.mono (by decide)) (by rfl) T.g_is_integer T.f_is_integer.kp T.b_is_integer .nil pass0 (pa_cons (pv 0) pa_nil)) (pe_one (pe_cmpR op_ge (pv 0) pe_int (nomark _)))))), ?_⟩
    refine ⟨_, rfl, i, rfl, fun H1 e1 => ⟨true, rfl, ?_⟩⟩
    rw [if_pos rfl]
    refine ⟨_, rfl, i, 0, rfl, rfl, ?_⟩
    have e : decide (0 ≤ i) = true := decide_eq_true hi
    show Q (.bl (decide (0 ≤ i))) _
    rw [e]
    exact q _ e1
def sp_is_list : Sp := fun vs H Q _ => ∃ (v : V) (ns : List Int), vs = [v] ∧ Ord H v ns ∧ ∀ H', Same H H' → Q (.bl true) H'
theorem ok_is_list (T : Txt K mg) : FnOk P w K mg base CX0 1 T.a_is_list T.d_is_list ["value"] sp_is_list := by
  refine T.f_is_list.ok sc_is_list (fun vs H Q E h => ?_) (fun cdv A outer s H vs Q E hr h => ?_)
  · obtain ⟨v, ns, rfl, _⟩ := h
    rfl
  · obtain ⟨v, ns, rfl, hv, q⟩ := h
    refine ⟨_, (pss_one (ps_ret (pe_callB (cr_isiTK K) (by rfl) T.z_isinstance (by decide +kernel) (pa_cons (pv 0) (pa_cons (pe_tup (pa_cons (pe_bltn (v := .ty "list") (by rfl) T.z_list (by decide +kernel) rfl) (pa_cons (pe_bltn (v := .ty "tuple") (by rfl) T.z_tuple (by decide +kernel) rfl) pa_nil))) pa_nil))))), ?_⟩
    refine ⟨_, rfl, sz_ok (by decide), fun t ht => ?_⟩
    have e1 : Same H (upd H t (.tup [.ty "list", .ty "tuple"])) := same_new ht
    have hP : Paired ClsV [V.ty "list", V.ty "tuple"] [Value.type "list", Value.type "tuple"] := .cons (.ty _) (.cons (.ty _) .nil)
    rcases hv with ⟨a, rfl, ha⟩ | ⟨a, rfl, ha⟩
    · obtain ⟨o, _, ho⟩ := ha
      refine ⟨.ref a, t, _, .type "tuple", _, true, rfl, upd_same, hP, .fTuple (e1 _ _ ho), ?_, q _ e1⟩
      exact kitAny_cons (kit_ty (r := false) (by decide +kernel)) (fun _ => kitAny_cons (kit_ty (r := true) (by decide +kernel)) (fun z => by cases z) fun _ => rfl) fun z => by cases z
    · refine ⟨.ref a, t, _, .type "list", _, true, rfl, upd_same, hP, .base (.lst (e1 _ _ ha)), ?_, q _ e1⟩
      exact kitAny_cons (kit_ty (r := true) (by decide +kernel)) (fun z => by cases z) fun _ => rfl
/-! ### is_order -/
/-- an order of so many things -/
def Valid (ns : List Int) : Prop := 1 ≤ ns.length ∧ ns.length ≤ 9 ∧ ns.Perm (rg 1 ((ns.length : Int) + 1))
theorem rgV_rg (a b : Int) : rgV a b = (rg a b).map V.int := by
  unfold rgV rg
  rw [List.map_map]
  rfl
theorem rg_len (a b : Int) : (rg a b).length = (b - a).toNat := by
  unfold rg
  rw [List.length_map, List.length_range]
theorem rg_sorted (a b : Int) : (rg a b).Pairwise (· ≤ ·) := by
  unfold rg
  rw [List.pairwise_map]
  exact List.Pairwise.imp (fun h => by omega) (List.pairwise_lt_range (n := (b - a).toNat))
theorem rg_mem {a b x : Int} (h : x ∈ rg a b) : a ≤ x ∧ x < b := by
  unfold rg at h
  obtain ⟨i, hi, rfl⟩ := List.mem_map.mp h
  have := List.mem_range.mp hi
  omega
theorem sorted_valid {ns l : List Int} (h : Valid ns) (hp : l.Perm ns) (hl : l.Pairwise (· ≤ ·)) : l = rg 1 ((ns.length : Int) + 1) := same_sorted (hp.trans h.2.2) hl (rg_sorted _ _)
def sp_is_order : Sp := fun vs H Q _ => ∃ (v : V) (ns : List Int), vs = [v] ∧ Ord H v ns ∧ Valid ns ∧ ∀ H', Same H H' → Q (.bl true) H'
theorem ok_is_order (T : Txt K mg) : FnOk P w K mg base CX0 2 T.a_is_order T.d_is_order ["value"] sp_is_order := by
  refine T.f_is_order.ok sc_is_order (fun vs H Q E h => ?_) (fun cdv A outer s H vs Q E hr h => ?_)
  · obtain ⟨v, ns, rfl, _⟩ := h
    rfl
  · obtain ⟨v, ns, rfl, hv, hok, q⟩ := h
    refine ⟨_, (pss_cons (ps_if (PW.pt (pw_or (pt_not (pt_val (pe_call (ok_is_list T) (hr.mono (by decide)) (by rfl) T.g_is_list T.f_is_list.kp T.b_is_list .nil pass0 (pa_cons (pv 0) pa_nil)))) (pw_or (pt_not (pt_chain op_le op_le pe_int (pe_callB (cr_lenK K) (by rfl) T.z_len (by decide +kernel) (pa_cons (pv 0) pa_nil)) (pe_glob (v := .int 9) (by rfl) T.c_MOST_THINGS_basics ⟨_, rfl⟩))) (pw_or1 (pt_not (pt_val (pe_callB (cr_allK K) (by rfl) T.z_all (by decide +kernel) (pa_cons (pe_lc (own := [("thing", 1)]) rfl sc_is_order.nd (pi_seqK K (pv 0)) (blkOk_by (N := N_is_order) (sc := (defScope s_is_order)) (own := [("thing", 1)]) (by decide +kernel)) (fun _ _ _ _ _ => (pg_name (i := 1) sc_is_order.nd rfl (.inl rfl))) (fun _ _ _ _ _ => pts_nil) (fun _ _ _ _ _ => (pe_call (ok_is_integer T) (hr.mono (by decide)) (by rfl) T.g_is_integer T.f_is_integer.kp T.b_is_integer .nil pass0 (pa_cons (pv 1) pa_nil)))) pa_nil)))))))) (pss_one (ps_ret pe_bl)) pss_nil)
      (pss_one (ps_ret (pe_cmpR (op_eqDK K hr.units) (pe_callB (cr_sortedAnyK K) (by rfl) T.z_sorted (by decide +kernel) (pa_cons (pv 0) pa_nil)) (pe_listRg rfl (by rfl) T.z_list (prg_2 (by rfl) T.z_range pe_int (pe_op op_add (pe_callB (cr_lenK K) (by rfl) T.z_len (by decide +kernel) (pa_cons (pv 0) pa_nil)) pe_int))) (nomark _))))), ?_⟩
    -- is_list(value)
    refine ⟨v, rfl, v, ns, rfl, hv, fun H1 e1 => ⟨true, rfl, ?_⟩⟩
    have hv1 := hv.mono e1
    have l1 := hok.1
    have l2 := hok.2.1
    -- 1 <= len(value) <= 9
    refine iteF ⟨_, rfl, ord_len hv1 fun p ys hl => ⟨1, _, rfl, rfl, _, rfl, iteDT (by omega) ⟨_, _, rfl, rfl, _, rfl, iteNS (by omega) ?_⟩⟩⟩
    -- all([is_integer(thing) for thing in value])
    refine ⟨_, rfl, ord_lc hv1 (by omega) (fun _ => some (.bl true)) (fun d H e K0 Kx k0 k1 => ?_) (fun D H' hD e2 hl => ?_)⟩
    · exact ⟨rfl, _, rfl, d, rfl, fun H3 e3 => k1 H3 _ e3 rfl⟩
    rw [filterMap_some] at hl
    refine ⟨D, ns.map fun _ => true, rfl, SqL.of (by rw [hl, List.map_map]; rfl), _, rfl, iteN (by simp) ?_⟩
    have hv2 := hv1.mono e2
    -- sorted(value) == list(range(1, len(value) + 1))
    refine ⟨_, rfl, ord_sorted hv2 fun ns' q1 hp hs hq => ?_⟩
    have e3 := same_new (o := .lst (ns'.map V.int)) hq
    refine ⟨_, rfl, ord_len (hv2.mono e3) fun p ys hl => ⟨_, _, rfl, rfl, _, _, rfl, rfl, .of_le (by decide) (by omega) (by decide) (by omega), fun q2 hq2 => ?_⟩⟩
    have hs2 : ns' = rg 1 ((ns.length : Int) + 1) := sorted_valid hok hp hs
    refine ⟨_, _, dpLst (ns := rg 1 ((ns.length : Int) + 1)) ?_, dpLst (ns := rg 1 ((ns.length : Int) + 1)) ?_, shaped_lst _, shaped_lst _, ?_⟩
    · rw [upd_ne (ne_of_none upd_same hq2), upd_same, hs2]
    · rw [upd_same, rgV_rg, hl]
    · rw [eqv_lst, beq_self_eq_true]
      exact q _ (((e1.trans e2).trans e3).trans (same_new hq2))
end
end Bd

namespace Bd
open PySem PySem.Spec PyProof.Rows L2 Gp Mir
section
variable {P : Program} {w : World} {K : PySem.W.Frag} {mg : Str → Option Value} {base : Heap}
def sp_want_many : Sp := fun vs H Q _ => ∃ i lo hi : Int, vs = [.int i, .int lo, .int hi] ∧ 0 ≤ i ∧ lo ≤ i ∧ i ≤ hi ∧ ∀ H', Same H H' → Q .non H'
theorem ok_want_many (T : Txt K mg) : FnOk P w K mg base CX0 3 T.a_want_many T.d_want_many ["value", "low", "high"] sp_want_many := by
  refine T.f_want_many.ok sc_want_many (fun vs H Q E h => ?_) (fun cdv A outer s H vs Q E hr h => ?_)
  · obtain ⟨i, lo, hi, rfl, _⟩ := h
    rfl
  · obtain ⟨i, lo, hi, rfl, h0, h1, h2, q⟩ := h
    refine ⟨_, (pss_one (ps_if (PW.pt (pw_or (pt_not (pt_val (pe_call (ok_is_count T) (hr.mono (by decide)) (by rfl) T.g_is_count T.f_is_count.kp T.b_is_count .nil pass0 (pa_cons (pv 0) pa_nil)))) (pw_or1 (pt_not (pt_chain op_le op_le (pv 1) (pv 0) (pv 2)))))) (pss_one ps_never) pss_nil)), ?_⟩
    exact ⟨_, rfl, i, rfl, h0, fun H1 e1 => ⟨true, rfl, iteF ⟨_, rfl, _, rfl, _, _, rfl, rfl, _, rfl, iteDT h1 ⟨_, rfl, _, _, rfl, rfl, _, rfl, iteNS h2 (q _ e1)⟩⟩⟩⟩
def sp_want_order : Sp := fun vs H Q _ => ∃ (v : V) (ns : List Int), vs = [v] ∧ Ord H v ns ∧ Valid ns ∧ ∀ H' v', Same H H' → Tup H' v' ns → Q v' H'
theorem ok_want_order (T : Txt K mg) : FnOk P w K mg base CX0 3 T.a_want_order T.d_want_order ["value"] sp_want_order := by
  refine T.f_want_order.ok sc_want_order (fun vs H Q E h => ?_) (fun cdv A outer s H vs Q E hr h => ?_)
  · obtain ⟨v, ns, rfl, _⟩ := h
    rfl
  · obtain ⟨v, ns, rfl, hv, hok, q⟩ := h
    refine ⟨_, (pss_cons (ps_if (pt_not (pt_val (pe_call (ok_is_order T) (hr.mono (by decide)) (by rfl) T.g_is_order T.f_is_order.kp T.b_is_order .nil pass0 (pa_cons (pv 0) pa_nil)))) (pss_one ps_never) pss_nil)
      (pss_one (ps_ret (pe_callTy (cr_tupF K) (by rfl) T.z_tuple (by decide +kernel) (pa_cons (pv 0) pa_nil))))), ?_⟩
    refine ⟨_, rfl, v, ns, rfl, hv, hok, fun H1 e1 => ⟨true, rfl, iteF ⟨_, rfl, ?_⟩⟩⟩
    rcases hv.mono e1 with ⟨a, rfl, ha⟩ | ⟨a, rfl, ha⟩
    · exact ⟨a, _, rfl, .inr ⟨ha.sq, q _ _ e1 ⟨a, rfl, ha⟩⟩⟩
    · exact ⟨a, _, rfl, .inl ⟨SqL.of ha, fun l H2 hl e2 hF => q _ _ (e1.trans e2) ⟨l, rfl, hF⟩⟩⟩
def sp_want_alike : Sp := fun vs H Q _ => ∃ (v u : V) (ns ms : List Int), vs = [v, u] ∧ Tup H v ns ∧ Tup H u ms ∧ ns.length = ms.length ∧ ∀ H', Same H H' → Q .non H'
theorem ok_want_alike (T : Txt K mg) : FnOk P w K mg base CX0 1 T.a_want_alike T.d_want_alike ["order", "other"] sp_want_alike := by
  refine T.f_want_alike.ok sc_want_alike (fun vs H Q E h => ?_) (fun cdv A outer s H vs Q E hr h => ?_)
  · obtain ⟨v, u, ns, ms, rfl, _⟩ := h
    rfl
  · obtain ⟨v, u, ns, ms, rfl, ⟨a, rfl, ha⟩, ⟨b, rfl, hb⟩, hl, q⟩ := h
    refine ⟨_, (pss_one (ps_if (pt_cmpR op_ne (pe_callB (cr_lenK K) (by rfl) T.z_len (by decide +kernel) (pa_cons (pv 0) pa_nil)) (pe_callB (cr_lenK K) (by rfl) T.z_len (by decide +kernel) (pa_cons (pv 1) pa_nil)) (nomark _)) (pss_one ps_never) pss_nil)), ?_⟩
    exact ⟨_, rfl, a, _, rfl, .inr ha.sq, _, rfl, b, _, rfl, .inr hb.sq, rfl, _, rfl, iteNS (by simp [hl]) (q _ (.refl _))⟩
/-! ### is_lower -/
theorem zip_at {α β : Type} {a : List α} {b : List β} {i : Nat} {d : α × β} (h : (a.zip b)[i]? = some d) : a[i]? = some d.1 ∧ b[i]? = some d.2 := by
  rw [List.getElem?_zip_eq_some] at h
  exact h
theorem low_step {near far ns ms : List Int} {i : Nat} {a b : Int} (ha : ns[i]? = some a) (hb : ms[i]? = some b) :
    lowGo near far (ns.drop i) (ms.drop i) = if anyGt (ins a near) (ins b far) = true then false else lowGo (ins a near) (ins b far) (ns.drop (i + 1)) (ms.drop (i + 1)) := by
  obtain ⟨h1, e1⟩ := List.getElem?_eq_some_iff.mp ha
  obtain ⟨h2, e2⟩ := List.getElem?_eq_some_iff.mp hb
  rw [List.drop_eq_getElem_cons h1, List.drop_eq_getElem_cons h2, e1, e2]
  rfl
theorem low_end {near far ns ms : List Int} {i : Nat} (h : ns.length = i) : lowGo near far (ns.drop i) (ms.drop i) = true := by
  rw [List.drop_of_length_le (Nat.le_of_eq h)]
  cases ms.drop i <;> rfl
def sp_is_lower : Sp := fun vs H Q _ => ∃ (v u : V) (ns ms : List Int), vs = [v, u] ∧ Tup H v ns ∧ Tup H u ms ∧ ns.length = ms.length ∧ ns.length ≤ 9 ∧ ∀ H', Same H H' → Q (.bl (low ns ms)) H'
theorem ok_is_lower (T : Txt K mg) : FnOk P w K mg base CX0 1 T.a_is_lower T.d_is_lower ["order", "other"] sp_is_lower := by
  refine T.f_is_lower.ok sc_is_lower (fun vs H Q E h => ?_) (fun cdv A outer s H vs Q E hr h => ?_)
  · obtain ⟨v, u, ns, ms, rfl, _⟩ := h
    rfl
  · obtain ⟨v, u, ns, ms, rfl, ⟨a, rfl, ha⟩, ⟨b, rfl, hb⟩, hl, h9, q⟩ := h
    refine ⟨_, (pss_cons (ps_par (i := 2) (j := 3) (by rfl) sc_is_lower.nd rfl rfl (by decide) rfl rfl (pa_cons (pe_lst pa_nil) (pa_cons (pe_lst pa_nil) pa_nil)) (by rfl))
      (pss_cons (ps_for PassesOwn.never rfl (pi_zipK K (by rfl) T.z_zip (pa_cons (pv 0) (pa_cons (pv 1) pa_nil))) (pg_tupK K (n := 2) (by rfl) (pgs_cons (pg_name (i := 4) sc_is_lower.nd rfl (.inl rfl)) (pgs_cons (pg_name (i := 5) sc_is_lower.nd rfl (.inl rfl)) pgs_nil))) (pss_cons (ps_par (i := 2) (j := 3) (by rfl) sc_is_lower.nd rfl rfl (by decide) rfl rfl (pa_cons (pe_callB (cr_sortedK K) (by rfl) T.z_sorted (by decide +kernel) (pa_cons (pe_op op_cat (pv 2) (pe_lst (pa_cons (pv 4) pa_nil))) pa_nil)) (pa_cons (pe_callB (cr_sortedK K) (by rfl) T.z_sorted (by decide +kernel) (pa_cons (pe_op op_cat (pv 3) (pe_lst (pa_cons (pv 5) pa_nil))) pa_nil)) pa_nil)) (by rfl))
      (pss_one (ps_if (pt_val (pe_callB (cr_anyK K) (by rfl) T.z_any (by decide +kernel) (pa_cons (pe_lc (own := [("one", 6), ("two", 7)]) rfl sc_is_lower.nd (pi_zipK K (by rfl) T.z_zip (pa_cons (pv 2) (pa_cons (pv 3) pa_nil))) (blkOk_by (N := N_is_lower) (sc := (defScope s_is_lower)) (own := [("one", 6), ("two", 7)]) (by decide +kernel)) (fun _ _ _ _ _ => (pg_tupK K (n := 2) (by rfl) (pgs_cons (pg_name (i := 6) sc_is_lower.nd rfl (.inl rfl)) (pgs_cons (pg_name (i := 7) sc_is_lower.nd rfl (.inl rfl)) pgs_nil)))) (fun _ _ _ _ _ => pts_nil) (fun _ _ _ _ _ => (pe_cmpR op_gt (pv 6) (pv 7) (nomark _)))) pa_nil))) (pss_one (ps_ret pe_bl)) pss_nil))))
      (pss_one (ps_ret pe_bl)))), ?_⟩
    -- near, far = [], []
    refine ⟨sz_ok (by decide), fun p np => ⟨sz_ok (by decide), fun p2 np2 => ⟨_, _, rfl, ?_⟩⟩⟩
    have e1 : Same H (upd H p (.lst [])) := same_new np
    have e2 : Same H (upd (upd H p (.lst [])) p2 (.lst [])) := e1.trans (same_new np2)
    refine ⟨_, rfl, _, rfl, a, b, _, _, rfl, .inr ⟨same_tup ha e2, same_tup hb e2, ?_⟩⟩
    refine for_it (walk_zipT (xs := ns.map V.int) (ys := ms.map V.int) (n := ns.length) (by simp [hl])) (fun i σ H' => ∃ (near far : List Int) (p p2 : Addr) (y4 y5 : Option V),
      σ = [some (.ref a), some (.ref b), some (.ref p), some (.ref p2), y4, y5, none, none] ∧ Same H H' ∧ H' p = some (.lst (near.map V.int)) ∧ H' p2 = some (.lst (far.map V.int)) ∧
      near.Pairwise (· ≤ ·) ∧ far.Pairwise (· ≤ ·) ∧ near.length = i ∧ far.length = i ∧ lowGo near far (ns.drop i) (ms.drop i) = low ns ms)
      ⟨[], [], p, p2, none, none, rfl, e2, by rw [upd_ne (ne_of_none upd_same np2), upd_same]; rfl, by rw [upd_same]; rfl, .nil, .nil, rfl, rfl, rfl⟩
      (fun i σ H' _ h => ?_) (fun i x σ H3 H4 hi h hy => ?_) (fun σ H' h => ?_)
    · obtain ⟨near, far, p, p2, y4, y5, _, e, _⟩ := h
      exact ⟨same_tup ha e, same_tup hb e⟩
    · obtain ⟨near, far, p, p2, y4, y5, rfl, e3, hp, hp2, sn, sf, ln, lf, hlow⟩ := h
      obtain ⟨T4, c, d, rfl, nT, rfl, hc, hd⟩ := ypair_ints hy
      have e4 : Same H (upd H3 T4 (.tup [.int c, .int d])) := e3.trans (same_new nT)
      have hp4 := (same_new (o := .tup [.int c, .int d]) nT) _ _ hp
      have hp24 := (same_new (o := .tup [.int c, .int d]) nT) _ _ hp2
      generalize hH4 : upd H3 T4 (.tup [.int c, .int d]) = H4 at *
      refine ⟨T4, _, rfl, SqT.of (by rw [← hH4]; exact upd_same), rfl, _, _, rfl, _, _, rfl, rfl, ?_⟩
      -- sorted(near + [thing])
      refine ⟨_, rfl, _, rfl, sz_ok (by show 1 ≤ 100000; decide), fun t1 nt1 => ?_⟩
      refine ⟨p, t1, _, _, rfl, rfl, (same_new nt1) _ _ hp4, upd_same, sz_ok (by simp; omega), fun t2 nt2 => ?_⟩
      refine ⟨t2, near ++ [c], rfl, SqL.of (by rw [upd_same, List.map_append]; rfl), fun n2 t3 pn sn2 nt3 => ?_⟩
      have en : n2 = ins c near := sorted_ins sn pn sn2
      subst en
      have e5 := ((same_new (o := .lst [.int c]) nt1).trans (same_new (o := .lst (near.map V.int ++ [.int c])) nt2)).trans (same_new (o := .lst ((ins c near).map V.int)) nt3)
      have h3 : (upd (upd (upd H4 t1 (.lst [.int c])) t2 (.lst (near.map V.int ++ [.int c]))) t3 (.lst ((ins c near).map V.int))) t3 = some (.lst ((ins c near).map V.int)) := upd_same
      generalize hH5 : (upd (upd (upd H4 t1 (.lst [.int c])) t2 (.lst (near.map V.int ++ [.int c]))) t3 (.lst ((ins c near).map V.int))) = H5 at *
      -- sorted(far + [against])
      refine ⟨_, rfl, _, rfl, sz_ok (by show 1 ≤ 100000; decide), fun t4 nt4 => ?_⟩
      refine ⟨p2, t4, _, _, rfl, rfl, (same_new nt4) _ _ (e5 _ _ hp24), upd_same, sz_ok (by simp; omega), fun t5 nt5 => ?_⟩
      refine ⟨t5, far ++ [d], rfl, SqL.of (by rw [upd_same, List.map_append]; rfl), fun f2 t6 pf sf2 nt6 => ?_⟩
      have ef : f2 = ins d far := sorted_ins sf pf sf2
      subst ef
      have e6 := ((same_new (o := .lst [.int d]) nt4).trans (same_new (o := .lst (far.map V.int ++ [.int d])) nt5)).trans (same_new (o := .lst ((ins d far).map V.int)) nt6)
      have h6 : (upd (upd (upd H5 t4 (.lst [.int d])) t5 (.lst (far.map V.int ++ [.int d]))) t6 (.lst ((ins d far).map V.int))) t6 = some (.lst ((ins d far).map V.int)) := upd_same
      generalize hH6 : (upd (upd (upd H5 t4 (.lst [.int d])) t5 (.lst (far.map V.int ++ [.int d]))) t6 (.lst ((ins d far).map V.int))) = H6 at *
      have h36 := e6 _ _ h3
      refine ⟨_, _, rfl, ?_⟩
      -- any([one > two for one, two in zip(near, far)])
      refine ⟨_, rfl, _, rfl, t3, t6, _, _, rfl, .inl ⟨SqL.of h36, SqL.of h6, lc_v (walk_zip rfl) ((ins c near).zip (ins d far)) (by simp) (by simp [ins_len]; omega)
        (fun z => some (.bl (decide (z.2 < z.1)))) (fun H' e => ⟨same_lst h36 e, same_lst h6 e⟩) (fun i z x H7 H8 hz e7 hy K0 Kx k0 k1 => ?_) (fun D H7 hD e7 hl7 => ?_)⟩⟩
      · obtain ⟨T8, x8, x9, rfl, nT8, rfl, hx, hy⟩ := ypair_ints hy
        obtain ⟨z1, z2⟩ := zip_at hz
        have q1 := Option.some.inj (hx.symm.trans z1)
        have q2 := Option.some.inj (hy.symm.trans z2)
        subst q1 q2
        exact ⟨T8, _, rfl, SqT.of upd_same, rfl, _, _, rfl, _, _, rfl, rfl, rfl, _, rfl, _, rfl, _, _, rfl, rfl, k1 _ _ (same_new nT8) rfl⟩
      · rw [filterMap_some] at hl7
        refine ⟨D, ((ins c near).zip (ins d far)).map fun z => decide (z.2 < z.1), rfl, SqL.of (by rw [hl7, List.map_map]; rfl), _, rfl, ?_⟩
        have ha : (((ins c near).zip (ins d far)).map fun z => decide (z.2 < z.1)).any id = anyGt (ins c near) (ins d far) := by
          rw [List.any_map]
          rfl
        rw [ha]
        rw [low_step hc hd] at hlow
        have eH7 : Same H H7 := ((e4.trans e5).trans e6).trans e7
        refine ite2 (fun h => ?_) (fun h => ?_)
        · rw [if_pos h] at hlow
          have q' := q H7 eH7
          rw [← hlow] at q'
          exact q'
        · rw [if_neg h] at hlow
          exact ⟨ins c near, ins d far, t3, t6, _, _, rfl, eH7, e7 _ _ h36, e7 _ _ h6, ins_sorted c near sn, ins_sorted d far sf, by rw [ins_len, ln], by rw [ins_len, lf], hlow⟩
    · obtain ⟨near, far, p, p2, y4, y5, rfl, e3, hp, hp2, sn, sf, ln, lf, hlow⟩ := h
      rw [low_end rfl] at hlow
      have q' := q H' e3
      rw [← hlow] at q'
      exact q'
end
end Bd

namespace Bd
open PySem PySem.Spec PyProof.Rows L2 Gp Mir
section
variable {P : Program} {w : World} {K : PySem.W.Frag} {mg : Str → Option Value} {base : Heap}
def sp_want_two : Sp := fun vs H Q _ => ∃ (v u : V) (ns ms : List Int), vs = [v, u] ∧ Ord H v ns ∧ Ord H u ms ∧ Valid ns ∧ Valid ms ∧ ns.length = ms.length ∧
  ∀ H' p v' u', Same H H' → H' p = some (.tup [v', u']) → Tup H' v' ns → Tup H' u' ms → Q (.ref p) H'
theorem ok_want_two (T : Txt K mg) : FnOk P w K mg base CX0 4 T.a_want_two T.d_want_two ["order", "other"] sp_want_two := by
  refine T.f_want_two.ok sc_want_two (fun vs H Q E h => ?_) (fun cdv A outer s H vs Q E hr h => ?_)
  · obtain ⟨v, u, ns, ms, rfl, _⟩ := h
    rfl
  · obtain ⟨v, u, ns, ms, rfl, hv, hu, okv, oku, hl, q⟩ := h
    refine ⟨_, (pss_cons (ps_par (i := 2) (j := 3) (by rfl) sc_want_two.nd rfl rfl (by decide) rfl rfl (pa_cons (pe_call (ok_want_order T) (hr.mono (by decide)) (by rfl) T.g_want_order T.f_want_order.kp T.b_want_order .nil pass0 (pa_cons (pv 0) pa_nil)) (pa_cons (pe_call (ok_want_order T) (hr.mono (by decide)) (by rfl) T.g_want_order T.f_want_order.kp T.b_want_order .nil pass0 (pa_cons (pv 1) pa_nil)) pa_nil)) (by rfl))
      (pss_cons (ps_expr (pe_call (ok_want_alike T) (hr.mono (by decide)) (by rfl) T.g_want_alike T.f_want_alike.kp T.b_want_alike .nil pass0 (pa_cons (pv 2) (pa_cons (pv 3) pa_nil))))
      (pss_one (ps_ret (pe_tup (pa_cons (pv 2) (pa_cons (pv 3) pa_nil))))))), ?_⟩
    refine ⟨_, rfl, v, ns, rfl, hv, okv, fun H1 v1 e1 t1 => ⟨_, rfl, u, ms, rfl, hu.mono e1, oku, fun H2 u1 e2 t2 => ⟨_, _, rfl, ?_⟩⟩⟩
    refine ⟨_, rfl, _, rfl, v1, u1, ns, ms, rfl, t1.mono e2, t2, hl, fun H3 e3 => ⟨_, rfl, _, rfl, sz_ok (by show 2 ≤ 100000; decide), fun p hp => ?_⟩⟩
    have e4 := same_new (o := .tup [v1, u1]) hp
    exact q _ p v1 u1 (((e1.trans e2).trans e3).trans e4) upd_same (((t1.mono e2).mono e3).mono e4) ((t2.mono e3).mono e4)
def sp_is_below : Sp := fun vs H Q _ => ∃ (v u : V) (ns ms : List Int), vs = [v, u] ∧ Ord H v ns ∧ Ord H u ms ∧ Valid ns ∧ Valid ms ∧ ns.length = ms.length ∧ ∀ H', Same H H' → Q (.bl (low ns ms)) H'
theorem ok_is_below (T : Txt K mg) : FnOk P w K mg base CX0 5 T.a_is_below T.d_is_below ["order", "other"] sp_is_below := by
  refine T.f_is_below.ok sc_is_below (fun vs H Q E h => ?_) (fun cdv A outer s H vs Q E hr h => ?_)
  · obtain ⟨v, u, ns, ms, rfl, _⟩ := h
    rfl
  · obtain ⟨v, u, ns, ms, rfl, hv, hu, okv, oku, hl, q⟩ := h
    refine ⟨_, (pss_cons (ps_asg (pe_call (ok_want_two T) (hr.mono (by decide)) (by rfl) T.g_want_two T.f_want_two.kp T.b_want_two .nil pass0 (pa_cons (pv 0) (pa_cons (pv 1) pa_nil))) (pg_tupK K (n := 2) (by rfl) (pgs_cons (pg_name (i := 2) sc_is_below.nd rfl (.inl rfl)) (pgs_cons (pg_name (i := 3) sc_is_below.nd rfl (.inl rfl)) pgs_nil))))
      (pss_one (ps_ret (pe_call (ok_is_lower T) (hr.mono (by decide)) (by rfl) T.g_is_lower T.f_is_lower.kp T.b_is_lower .nil pass0 (pa_cons (pv 2) (pa_cons (pv 3) pa_nil)))))), ?_⟩
    refine ⟨_, rfl, _, rfl, v, u, ns, ms, rfl, hv, hu, okv, oku, hl, fun H1 p v1 u1 e1 hp t1 t2 => ?_⟩
    exact ⟨p, _, rfl, SqT.of hp, rfl, _, _, rfl, _, _, rfl, rfl, _, rfl, _, rfl, v1, u1, ns, ms, rfl, t1, t2, hl, okv.2.1, fun H2 e2 => q H2 (e1.trans e2)⟩
/-! ### undone_of, falls_in -/
theorem valid_mem {ns : List Int} (h : Valid ns) {x : Int} : x ∈ ns ↔ 1 ≤ x ∧ x ≤ ns.length := by
  rw [h.2.2.mem_iff]
  constructor
  · intro hx
    have := rg_mem hx
    omega
  · intro hx
    unfold rg
    exact List.mem_map.mpr ⟨(x - 1).toNat, List.mem_range.mpr (by omega), by omega⟩
theorem idx_at {ns : List Int} {x : Int} (h : x ∈ ns) : ns[ns.idxOf x]? = some x ∧ ∀ m, m < ns.idxOf x → ns[m]? ≠ some x := by
  induction ns with
  | nil => exact absurd h List.not_mem_nil
  | cons y r ih =>
    by_cases e : y = x
    · subst e
      rw [List.idxOf_cons_self]
      exact ⟨rfl, fun m hm => absurd hm (Nat.not_lt_zero _)⟩
    · have hx : x ∈ r := (List.mem_cons.mp h).resolve_left fun z => e z.symm
      obtain ⟨h1, h2⟩ := ih hx
      have ei : (y :: r).idxOf x = r.idxOf x + 1 := by
        have eb : (y == x) = false := beq_eq_false_iff_ne.mpr e
        rw [List.idxOf_cons, eb]
        rfl
      rw [ei]
      refine ⟨by simpa using h1, fun m hm => ?_⟩
      cases m with
      | zero => simpa using e
      | succ m => simpa using h2 m (by omega)
def sp_undone_of : Sp := fun vs H Q _ => ∃ (v : V) (ns : List Int), vs = [v] ∧ Tup H v ns ∧ Valid ns ∧ ∀ H' v', Same H H' → Tup H' v' (undone ns) → Q v' H'
theorem ok_undone_of (T : Txt K mg) : FnOk P w K mg base CX0 1 T.a_undone_of T.d_undone_of ["order"] sp_undone_of := by
  refine T.f_undone_of.ok sc_undone_of (fun vs H Q E h => ?_) (fun cdv A outer s H vs Q E hr h => ?_)
  · obtain ⟨v, ns, rfl, _⟩ := h
    rfl
  · obtain ⟨v, ns, rfl, ⟨a, rfl, ha⟩, hok, q⟩ := h
    have l1 := hok.1
    have l2 := hok.2.1
    refine ⟨_, (pss_one (ps_ret (pe_callTy (cr_tupF K) (by rfl) T.z_tuple (by decide +kernel) (pa_cons (pe_lc (own := [("thing", 1)]) rfl sc_undone_of.nd (pi_range2 (by rfl) T.z_range (pa_cons pe_int (pa_cons (pe_op op_add (pe_callB (cr_lenK K) (by rfl) T.z_len (by decide +kernel) (pa_cons (pv 0) pa_nil)) pe_int) pa_nil))) (blkOk_by (N := N_undone_of) (sc := (defScope s_undone_of)) (own := [("thing", 1)]) (by decide +kernel)) (fun _ _ _ _ _ => (pg_name (i := 1) sc_undone_of.nd rfl (.inl rfl))) (fun _ _ _ _ _ => pts_nil) (fun _ _ _ _ _ => (pe_op op_add (pe_bmF PySem.F.slot_tuple_index PySem.F.type_tuple_index (mt_tupIxK K) (pv 0) (pa_cons (pv 1) pa_nil)) pe_int))) pa_nil)))), ?_⟩
    refine ⟨_, rfl, a, _, rfl, .inr ha.sq, _, _, rfl, rfl, _, _, rfl, ⟨by decide, by decide, by simp only [List.length_map]; omega, by simp only [List.length_map]; omega⟩, ?_⟩
    refine lc_v walk_range (List.range ns.length) (by simp only [List.length_map, List.length_range]; omega) (by simp; omega) (fun i => some (.int (((ns.idxOf ((i : Int) + 1) : Nat) : Int) + 1))) (fun _ _ => trivial)
      (fun i d x H1 H2 hd e hy K0 Kx k0 k1 => ?_) (fun D H1 hD e hl => ?_)
    · obtain ⟨rfl, hx⟩ := hy
      obtain ⟨hd1, hd2⟩ := List.getElem?_eq_some_iff.mp hd
      rw [List.getElem_range] at hd2
      subst hd2
      rw [List.length_range] at hd1
      have hx' : x = .int ((i : Int) + 1) := hx.trans (congrArg V.int (Int.add_comm _ _))
      subst hx'
      have hm : ((i : Int) + 1) ∈ ns := (valid_mem hok).mpr (by omega)
      obtain ⟨h1, h2⟩ := idx_at hm
      refine ⟨rfl, _, rfl, ⟨a, _, rfl, ha.mono e⟩, _, rfl, a, ns, (i : Int) + 1, _, rfl, rfl, (ha.mono e).sq, h1, h2, _, _, rfl, rfl, k1 _ _ (.refl _) rfl⟩
    · rw [filterMap_some] at hl
      refine ⟨D, _, rfl, .inl ⟨SqL.of hl, fun l H2 hl2 e2 hF => q _ _ (e.trans e2) ⟨l, rfl, ?_⟩⟩⟩
      have eu : (undone ns).map V.int = (List.range ns.length).map fun (i : Nat) => V.int (((ns.idxOf ((i : Int) + 1) : Nat) : Int) + 1) := by
        unfold undone
        rw [List.map_map]
        rfl
      rw [eu]
      exact hF
def sp_falls_in : Sp := fun vs H Q _ => ∃ (v : V) (ns : List Int), vs = [v] ∧ Tup H v ns ∧ 1 ≤ ns.length ∧ ns.length ≤ 9 ∧ ∀ H' p, Same H H' → H' p = some (.lst ((falls ns).map V.int)) → Q (.ref p) H'
theorem getD_at {ns : List Int} {i : Nat} (h : i < ns.length) : (ns.map V.int)[i]? = some (.int (ns.getD i 0)) := by
  rw [List.getElem?_map, List.getD_eq_getElem?_getD, List.getElem?_eq_getElem h]
  rfl
theorem ok_falls_in (T : Txt K mg) : FnOk P w K mg base CX0 1 T.a_falls_in T.d_falls_in ["order"] sp_falls_in := by
  refine T.f_falls_in.ok sc_falls_in (fun vs H Q E h => ?_) (fun cdv A outer s H vs Q E hr h => ?_)
  · obtain ⟨v, ns, rfl, _⟩ := h
    rfl
  · obtain ⟨v, ns, rfl, ⟨a, rfl, ha⟩, l1, l2, q⟩ := h
    refine ⟨_, (pss_one (ps_ret (pe_lc (own := [("place", 1)]) rfl sc_falls_in.nd (pi_range1 (by rfl) T.z_range (pa_cons (pe_op op_sub (pe_callB (cr_lenK K) (by rfl) T.z_len (by decide +kernel) (pa_cons (pv 0) pa_nil)) pe_int) pa_nil)) (blkOk_by (N := N_falls_in) (sc := (defScope s_falls_in)) (own := [("place", 1)]) (by decide +kernel)) (fun _ _ _ _ _ => (pg_name (i := 1) sc_falls_in.nd rfl (.inl rfl))) (fun _ _ _ _ _ => pts_one (pt_cmpR op_gt (pe_ix (ix_tupK K) (pv 0) (pv 1) (fun _ _ => rfl)) (pe_ix (ix_tupK K) (pv 0) (pe_op op_add (pv 1) pe_int) (fun _ _ => rfl)) (nomark _))) (fun _ _ _ _ _ => (pv 1))))), ?_⟩
    refine ⟨_, rfl, a, _, rfl, .inr ha.sq, _, _, rfl, rfl, _, rfl, by simp only [List.length_map]; omega, by simp only [List.length_map]; omega, ?_⟩
    refine lc_v walk_range (List.range (ns.length - 1)) (by simp only [List.length_map, List.length_range]; omega) (by simp; omega) (fun (i : Nat) => if decide (ns.getD (i + 1) 0 < ns.getD i 0) = true then some (.int (i : Int)) else none) (fun _ _ => trivial)
      (fun i d x H1 H2 hd e hy K0 Kx k0 k1 => ?_) (fun D H1 hD e hl => ?_)
    · obtain ⟨rfl, hx⟩ := hy
      obtain ⟨hd1, hd2⟩ := List.getElem?_eq_some_iff.mp hd
      rw [List.getElem_range] at hd2
      subst hd2
      rw [List.length_range] at hd1
      have hx' : x = .int (i : Int) := hx.trans (congrArg V.int (Int.zero_add _))
      subst hx'
      refine ⟨rfl, _, rfl, _, rfl, a, _, _, _, rfl, rfl, (ha.mono e).sq, atI_nat (getD_at (by omega)), _, rfl, _, rfl, _, _, rfl, rfl, a, _, _, _, rfl, rfl, (ha.mono e).sq, at_of (j := i + 1) (by omega) (getD_at (by omega)), _, _, rfl, rfl, _, rfl, ite2 (fun h => ?_) (fun h => ?_)⟩
      · exact ⟨_, rfl, k1 _ _ (.refl _) (if_pos h)⟩
      · exact k0 _ (.refl _) (if_neg h)
    · rw [filterMap_ite (fun (i : Nat) => decide (ns.getD (i + 1) 0 < ns.getD i 0)) (fun (i : Nat) => V.int (i : Int))] at hl
      refine q _ D e ?_
      rw [hl]
      unfold falls
      rw [List.map_map]
      rfl
/-! ### corners -/
/-- a pair of ints -/
def Pr (H : Hp) (v : V) (m k : Int) : Prop := ∃ a, v = .ref a ∧ H a = some (.tup [.int m, .int k])
theorem Pr.mono {H H' : Hp} {v : V} {m k : Int} (h : Pr H v m k) (e : Same H H') : Pr H' v m k := by
  obtain ⟨a, h1, h2⟩ := h
  exact ⟨a, h1, e _ _ h2⟩
def sp_is_corner : Sp := fun vs H Q _ => ∃ (v : V) (m k n : Int), vs = [v, .int n] ∧ Pr H v m k ∧ 1 ≤ m ∧ m ≤ n ∧ 1 ≤ k ∧ k ≤ n ∧ ∀ H', Same H H' → Q (.bl true) H'
theorem ok_is_corner (T : Txt K mg) : FnOk P w K mg base CX0 3 T.a_is_corner T.d_is_corner ["value", "size"] sp_is_corner := by
  refine T.f_is_corner.ok sc_is_corner (fun vs H Q E h => ?_) (fun cdv A outer s H vs Q E hr h => ?_)
  · obtain ⟨v, m, k, n, rfl, _⟩ := h
    rfl
  · obtain ⟨v, m, k, n, rfl, ⟨a, rfl, ha⟩, h1, h2, h3, h4, q⟩ := h
    refine ⟨_, (pss_cons (ps_if (PW.pt (pw_or (pt_not (pt_val (pe_callB (cr_isiK K) (by rfl) T.z_isinstance (by decide +kernel) (pa_cons (pv 0) (pa_cons (pe_bltn (v := .ty "tuple") (by rfl) T.z_tuple (by decide +kernel) rfl) pa_nil))))) (pw_or (pt_cmpR op_ne (pe_callB (cr_lenK K) (by rfl) T.z_len (by decide +kernel) (pa_cons (pv 0) pa_nil)) pe_int (nomark _)) (pw_or (pt_not (pt_val (pe_call (ok_is_count T) (hr.mono (by decide)) (by rfl) T.g_is_count T.f_is_count.kp T.b_is_count .nil pass0 (pa_cons (pe_ix (ix_tupK K) (pv 0) pe_int (fun _ _ => rfl)) pa_nil)))) (pw_or1 (pt_not (pt_val (pe_call (ok_is_count T) (hr.mono (by decide)) (by rfl) T.g_is_count T.f_is_count.kp T.b_is_count .nil pass0 (pa_cons (pe_ix (ix_tupK K) (pv 0) pe_int (fun _ _ => rfl)) pa_nil))))))))) (pss_one (ps_ret pe_bl)) pss_nil)
      (pss_one (ps_ret (pe_and (pe_chain op_le op_le pe_int (pe_ix (ix_tupK K) (pv 0) pe_int (fun _ _ => rfl)) (pv 1)) (pe_one (pe_chain op_le op_le pe_int (pe_ix (ix_tupK K) (pv 0) pe_int (fun _ _ => rfl)) (pv 1))))))), ?_⟩
    refine ⟨_, rfl, .ref a, .ty "tuple", _, _, true, rfl, .ty "tuple", .base (.tup ha), kit_ty (by decide +kernel), _, rfl, iteF ?_⟩
    refine ⟨_, rfl, a, _, rfl, .inr (SqT.of ha), rfl, _, rfl, iteNS (by rfl) ?_⟩
    refine ⟨_, rfl, a, _, 0, _, rfl, rfl, SqT.of ha, atI_nat (j := 0) rfl, m, rfl, by omega, fun H1 e1 => ⟨true, rfl, iteF ?_⟩⟩
    have ha1 := e1 _ _ ha
    refine ⟨_, rfl, a, _, 1, _, rfl, rfl, SqT.of ha1, atI_nat (j := 1) rfl, k, rfl, by omega, fun H2 e2 => ⟨true, rfl, iteF ?_⟩⟩
    have ha2 := e2 _ _ ha1
    refine ⟨_, rfl, a, _, 0, _, rfl, rfl, SqT.of ha2, atI_nat (j := 0) rfl, _, _, rfl, rfl, _, rfl, iteDT h1 ⟨_, rfl, _, _, rfl, rfl, _, rfl, iteDT h2 ?_⟩⟩
    refine ⟨_, rfl, a, _, 1, _, rfl, rfl, SqT.of ha2, atI_nat (j := 1) rfl, _, _, rfl, rfl, _, rfl, iteDT h3 ⟨_, rfl, _, _, rfl, rfl, ?_⟩⟩
    have e : decide (k ≤ n) = true := decide_eq_true h4
    show Q (.bl (decide (k ≤ n))) _
    rw [e]
    exact q _ (e1.trans e2)
def sp_want_corner : Sp := fun vs H Q _ => ∃ (v : V) (m k n : Int), vs = [.int n, v] ∧ Pr H v m k ∧ 1 ≤ m ∧ m ≤ n ∧ 1 ≤ k ∧ k ≤ n ∧ ∀ H', Same H H' → Q .non H'
theorem ok_want_corner (T : Txt K mg) : FnOk P w K mg base CX0 4 T.a_want_corner T.d_want_corner ["size", "value"] sp_want_corner := by
  refine T.f_want_corner.ok sc_want_corner (fun vs H Q E h => ?_) (fun cdv A outer s H vs Q E hr h => ?_)
  · obtain ⟨v, m, k, n, rfl, _⟩ := h
    rfl
  · obtain ⟨v, m, k, n, rfl, hp, h1, h2, h3, h4, q⟩ := h
    refine ⟨_, (pss_one (ps_if (pt_not (pt_val (pe_call (ok_is_corner T) (hr.mono (by decide)) (by rfl) T.g_is_corner T.f_is_corner.kp T.b_is_corner .nil pass0 (pa_cons (pv 1) (pa_cons (pv 0) pa_nil))))) (pss_one ps_never) pss_nil)), ?_⟩
    exact ⟨_, rfl, _, rfl, v, m, k, n, rfl, hp, h1, h2, h3, h4, fun H1 e1 => ⟨true, rfl, iteF (q _ e1)⟩⟩
def sp_least_count : Sp := fun vs H Q _ => ∃ (v : V) (m k : Int), vs = [v] ∧ Pr H v m k ∧ ∀ H', Same H H' → Q (.int (leastCount m k)) H'
theorem ok_least_count (T : Txt K mg) : FnOk P w K mg base CX0 1 T.a_least_count T.d_least_count ["corner"] sp_least_count := by
  refine T.f_least_count.ok sc_least_count (fun vs H Q E h => ?_) (fun cdv A outer s H vs Q E hr h => ?_)
  · obtain ⟨v, m, k, rfl, _⟩ := h
    rfl
  · obtain ⟨v, m, k, rfl, ⟨a, rfl, ha⟩, q⟩ := h
    refine ⟨_, (pss_one (ps_ret (pe_callB (call_max2 rfl) (by rfl) T.z_max (by decide +kernel) (pa_cons pe_int (pa_cons (pe_op op_add (pe_op op_sub (pe_ix (ix_tupK K) (pv 0) pe_int (fun _ _ => rfl)) (pe_ix (ix_tupK K) (pv 0) pe_int (fun _ _ => rfl))) pe_int) pa_nil))))), ?_⟩
    exact ⟨_, rfl, a, _, 0, _, rfl, rfl, SqT.of ha, atI_nat (j := 0) rfl, _, rfl, a, _, 1, _, rfl, rfl, SqT.of ha, atI_nat (j := 1) rfl, _, _, rfl, rfl, _, _, rfl, rfl, _, _, rfl, q _ (.refl _)⟩
def sp_most_count : Sp := fun vs H Q _ => ∃ (v : V) (m k n : Int), vs = [.int n, v] ∧ Pr H v m k ∧ ∀ H', Same H H' → Q (.int (mostCount n m k)) H'
theorem ok_most_count (T : Txt K mg) : FnOk P w K mg base CX0 1 T.a_most_count T.d_most_count ["size", "corner"] sp_most_count := by
  refine T.f_most_count.ok sc_most_count (fun vs H Q E h => ?_) (fun cdv A outer s H vs Q E hr h => ?_)
  · obtain ⟨v, m, k, n, rfl, _⟩ := h
    rfl
  · obtain ⟨v, m, k, n, rfl, ⟨a, rfl, ha⟩, q⟩ := h
    refine ⟨_, (pss_one (ps_ret (pe_callB (call_min2 rfl) (by rfl) T.z_min (by decide +kernel) (pa_cons (pe_ix (ix_tupK K) (pv 1) pe_int (fun _ _ => rfl)) (pa_cons (pe_op op_add (pe_op op_sub (pv 0) (pe_ix (ix_tupK K) (pv 1) pe_int (fun _ _ => rfl))) pe_int) pa_nil))))), ?_⟩
    exact ⟨_, rfl, a, _, 0, _, rfl, rfl, SqT.of ha, atI_nat (j := 0) rfl, _, rfl, _, rfl, a, _, 1, _, rfl, rfl, SqT.of ha, atI_nat (j := 1) rfl, _, _, rfl, rfl, _, _, rfl, rfl, _, _, rfl, q _ (.refl _)⟩
end
end Bd

namespace Bd
open PySem PySem.Spec PyProof.Rows L2 Gp Mir
section
variable {P : Program} {w : World} {K : PySem.W.Frag} {mg : Str → Option Value} {base : Heap}
theorem inV_ints (t : Int) : ∀ l : List Int, inV (.int t) (l.map V.int) = l.contains t
  | [] => rfl
  | x :: r => by
    have ih := inV_ints t r
    unfold inV at ih ⊢
    rw [List.map_cons, List.any_cons, ih, List.contains_cons]
    show ((x == t) || _) = ((t == x) || _)
    rw [Bool.beq_comm]
theorem rgOk {a b : Int} (h1 : -1000 ≤ a) (h2 : a ≤ 1000) (h3 : -1000 ≤ b) (h4 : b ≤ 1000) : RgOk a b := ⟨by omega, by omega, by omega, by omega, by omega⟩
theorem rg_at {a b : Int} {i : Nat} {d : Int} (h : (rg a b)[i]? = some d) : d = a + (i : Nat) := by
  unfold rg at h
  rw [List.getElem?_map] at h
  obtain ⟨j, hj, e⟩ := Option.map_eq_some_iff.mp h
  obtain ⟨h1, h2⟩ := List.getElem?_eq_some_iff.mp hj
  rw [List.getElem_range] at h2
  subst h2
  exact e.symm
def sp_least_of : Sp := fun vs H Q _ => ∃ (v : V) (n m k c : Int), vs = [.int n, v, .int c] ∧ Pr H v m k ∧ (0 ≤ n ∧ n ≤ 9) ∧ (1 ≤ m ∧ m ≤ 9) ∧ (1 ≤ k ∧ k ≤ 9) ∧ (0 ≤ c ∧ c ≤ 9) ∧
  ∀ H' v', Same H H' → Tup H' v' (least n m k c) → Q v' H'
theorem ok_least_of (T : Txt K mg) : FnOk P w K mg base CX0 2 T.a_least_of T.d_least_of ["size", "corner", "many"] sp_least_of := by
  refine T.f_least_of.ok sc_least_of (fun vs H Q E h => ?_) (fun cdv A outer s H vs Q E hr h => ?_)
  · obtain ⟨v, n, m, k, c, rfl, _⟩ := h
    rfl
  · obtain ⟨v, n, m, k, c, rfl, hp, hn, hm, hk, hc, q⟩ := h
    obtain ⟨a, rfl, ha⟩ := id hp
    refine ⟨_, (pss_cons (ps_asg (pv 1) (pg_tupK K (n := 2) (by rfl) (pgs_cons (pg_name (i := 3) sc_least_of.nd rfl (.inl rfl)) (pgs_cons (pg_name (i := 4) sc_least_of.nd rfl (.inl rfl)) pgs_nil))))
      (pss_cons (ps_if (pt_cmpR op_le (pv 2) (pe_call (ok_least_count T) (hr.mono (by decide)) (by rfl) T.g_least_count T.f_least_count.kp T.b_least_count .nil pass0 (pa_cons (pv 1) pa_nil)) (nomark _)) (pss_one (ps_ret (pe_tupRgF rfl (by rfl) T.z_tuple (prg_2 (by rfl) T.z_range pe_int (pe_op op_add (pv 0) pe_int))))) pss_nil)
      (pss_cons (ps_set (i := 5) sc_least_of.nd rfl (.inr rfl) (pe_op op_cat (pe_listRg rfl (by rfl) T.z_list (prg_2 (by rfl) T.z_range pe_int (pe_op op_add (pe_op op_sub (pv 3) (pv 2)) pe_int))) (pe_listRg rfl (by rfl) T.z_list (prg_2 (by rfl) T.z_range (pv 4) (pe_op op_add (pv 4) (pv 2))))))
      (pss_one (ps_ret (pe_callTy (cr_tupF K) (by rfl) T.z_tuple (by decide +kernel) (pa_cons (pe_op op_cat (pv 5) (pe_lc (own := [("thing", 6)]) rfl sc_least_of.nd (pi_range2 (by rfl) T.z_range (pa_cons pe_int (pa_cons (pe_op op_add (pv 0) pe_int) pa_nil))) (blkOk_by (N := N_least_of) (sc := (defScope s_least_of)) (own := [("thing", 6)]) (by decide +kernel)) (fun _ _ _ _ _ => (pg_name (i := 6) sc_least_of.nd rfl (.inl rfl))) (fun _ _ _ _ _ => pts_one (pt_cmpR (op_notInK K) (pv 6) (pv 5) (by rfl))) (fun _ _ _ _ _ => (pv 6)))) pa_nil))))))), ?_⟩
    refine ⟨_, rfl, a, _, rfl, SqT.of ha, rfl, _, _, rfl, _, _, rfl, rfl, ?_⟩
    refine ⟨_, rfl, _, rfl, _, m, k, rfl, hp, fun H1 e1 => ⟨_, _, rfl, rfl, _, rfl, ite2 (fun h => ?_) (fun h => ?_)⟩⟩
    · have h := of_decide_eq_true h
      refine ⟨_, rfl, _, _, rfl, rfl, _, _, rfl, rfl, rgOk (by decide) (by decide) (by omega) (by omega), fun p H2 hp2 e2 hF => ?_⟩
      refine q H2 _ (e1.trans e2) ⟨p, rfl, ?_⟩
      rw [show least n m k c = rg 1 (n + 1) from if_pos h, ← rgV_rg]
      exact hF
    · have h : ¬ c ≤ leastCount m k := fun z => h (decide_eq_true z)
      -- ahead
      refine ⟨_, rfl, _, rfl, _, _, rfl, rfl, _, _, rfl, rfl, _, _, rfl, rfl, rgOk (by decide) (by decide) (by omega) (by omega), fun q1 hq1 => ?_⟩
      refine ⟨_, rfl, _, rfl, _, rfl, _, _, rfl, rfl, _, _, rfl, rfl, rgOk (by omega) (by omega) (by omega) (by omega), fun q2 hq2 => ?_⟩
      have f1 := same_new (o := .lst (rgV 1 (m - c + 1))) hq1
      have f2 := same_new (o := .lst (rgV k (k + c))) hq2
      have hl1 : (rgV 1 (m - c + 1)).length + (rgV k (k + c)).length ≤ 100000 := by
        rw [rgV_length, rgV_length]
        omega
      refine ⟨q1, q2, _, _, rfl, rfl, f2 _ _ upd_same, upd_same, sz_ok hl1, fun q3 hq3 => ?_⟩
      have f3 := same_new (o := .lst (rgV 1 (m - c + 1) ++ rgV k (k + c))) hq3
      have ha3 : (upd (upd (upd H1 q1 (.lst (rgV 1 (m - c + 1)))) q2 (.lst (rgV k (k + c)))) q3 (.lst (rgV 1 (m - c + 1) ++ rgV k (k + c)))) q3 = some (.lst ((ahead m k c).map V.int)) := by
        rw [upd_same, rgV_rg, rgV_rg, ← List.map_append]
        rfl
      have e3 := ((e1.trans f1).trans f2).trans f3
      generalize (upd (upd (upd H1 q1 (.lst (rgV 1 (m - c + 1)))) q2 (.lst (rgV k (k + c)))) q3 (.lst (rgV 1 (m - c + 1) ++ rgV k (k + c)))) = H3 at ha3 e3
      have hal : (ahead m k c).length ≤ 100 := by
        unfold ahead
        rw [List.length_append, rg_len, rg_len]
        omega
      -- the others
      refine ⟨_, rfl, _, rfl, _, _, rfl, rfl, _, _, rfl, ⟨by decide, by decide, by omega, by omega⟩, ?_⟩
      refine lc_v walk_range (rg 1 (n + 1)) (rg_len _ _) (by rw [rg_len]; omega) (fun t => if (!(ahead m k c).contains t) = true then some (.int t) else none) (fun _ _ => trivial)
        (fun i d x H4 H5 hd e hy K0 Kx k0 k1 => ?_) (fun D H4 hD e hl => ?_)
      · obtain ⟨rfl, hx⟩ := hy
        have hx' : x = .int d := by
          rw [rg_at hd]
          exact hx
        subst hx'
        refine ⟨rfl, _, rfl, _, rfl, q3, _, rfl, .inl (SqL.of (e _ _ ha3)), rfl, flat_ints _, _, rfl, ?_⟩
        rw [if_pos rfl, inV_ints]
        exact ite2 (fun h => ⟨_, rfl, k1 _ _ (.refl _) (if_pos h)⟩) fun h => k0 _ (.refl _) (if_neg h)
      · rw [filterMap_ite (fun t => !(ahead m k c).contains t) V.int] at hl
        have hfl : ((rg 1 (n + 1)).filter fun t => !(ahead m k c).contains t).length ≤ 100 := by
          refine Nat.le_trans (List.length_filter_le _ _) ?_
          rw [rg_len]
          omega
        refine ⟨q3, D, _, _, rfl, rfl, e _ _ ha3, hl, sz_ok (by rw [List.length_map, List.length_map]; omega), fun q4 hq4 => ?_⟩
        refine ⟨q4, (least n m k c).map V.int, rfl, .inl ⟨SqL.of ?_, fun l H6 hl6 e6 hF => q _ _ ((e3.trans e).trans ((same_new hq4).trans e6)) ⟨l, rfl, hF⟩⟩⟩
        rw [upd_same, ← List.map_append, show least n m k c = _ from if_neg h]
def sp_least_with : Sp := fun vs H Q _ => ∃ (v : V) (n m k c : Int), vs = [.int n, v, .int c] ∧ Pr H v m k ∧ (1 ≤ n ∧ n ≤ 9) ∧ (1 ≤ m ∧ m ≤ n) ∧ (1 ≤ k ∧ k ≤ n) ∧ 0 ≤ c ∧ c ≤ mostCount n m k ∧
  ∀ H' v', Same H H' → Tup H' v' (least n m k c) → Q v' H'
theorem most_le (n m k : Int) : mostCount n m k ≤ m := by
  unfold mostCount
  split <;> omega
theorem ok_least_with (T : Txt K mg) : FnOk P w K mg base CX0 5 T.a_least_with T.d_least_with ["size", "corner", "many"] sp_least_with := by
  refine T.f_least_with.ok sc_least_with (fun vs H Q E h => ?_) (fun cdv A outer s H vs Q E hr h => ?_)
  · obtain ⟨v, n, m, k, c, rfl, _⟩ := h
    rfl
  · obtain ⟨v, n, m, k, c, rfl, hp, hn, hm, hk, h0, hc, q⟩ := h
    have hmc := most_le n m k
    refine ⟨_, (pss_cons (ps_expr (pe_call (ok_want_many T) (hr.mono (by decide)) (by rfl) T.g_want_many T.f_want_many.kp T.b_want_many .nil pass0 (pa_cons (pv 0) (pa_cons pe_int (pa_cons (pe_glob (v := .int 9) (by rfl) T.c_MOST_THINGS_corners ⟨_, rfl⟩) pa_nil)))))
      (pss_cons (ps_expr (pe_call (ok_want_corner T) (hr.mono (by decide)) (by rfl) T.g_want_corner T.f_want_corner.kp T.b_want_corner .nil pass0 (pa_cons (pv 0) (pa_cons (pv 1) pa_nil))))
      (pss_cons (ps_if (PW.pt (pw_or (pt_not (pt_val (pe_call (ok_is_count T) (hr.mono (by decide)) (by rfl) T.g_is_count T.f_is_count.kp T.b_is_count .nil pass0 (pa_cons (pv 2) pa_nil)))) (pw_or1 (pt_cmpR op_gt (pv 2) (pe_call (ok_most_count T) (hr.mono (by decide)) (by rfl) T.g_most_count T.f_most_count.kp T.b_most_count .nil pass0 (pa_cons (pv 0) (pa_cons (pv 1) pa_nil))) (nomark _))))) (pss_one ps_never) pss_nil)
      (pss_one (ps_ret (pe_call (ok_least_of T) (hr.mono (by decide)) (by rfl) T.g_least_of T.f_least_of.kp T.b_least_of .nil pass0 (pa_cons (pv 0) (pa_cons (pv 1) (pa_cons (pv 2) pa_nil))))))))), ?_⟩
    refine ⟨_, rfl, n, 1, 9, rfl, by omega, hn.1, hn.2, fun H1 e1 => ?_⟩
    refine ⟨_, rfl, _, rfl, v, m, k, n, rfl, hp.mono e1, hm.1, hm.2, hk.1, hk.2, fun H2 e2 => ?_⟩
    refine ⟨_, rfl, c, rfl, h0, fun H3 e3 => ⟨true, rfl, iteF ?_⟩⟩
    refine ⟨_, rfl, _, rfl, _, rfl, v, m, k, n, rfl, ((hp.mono e1).mono e2).mono e3, fun H4 e4 => ⟨_, _, rfl, rfl, _, rfl, iteDF (by omega) ?_⟩⟩
    exact ⟨_, rfl, _, rfl, _, rfl, v, n, m, k, c, rfl, (((hp.mono e1).mono e2).mono e3).mono e4, by omega, by omega, by omega, by omega, fun H5 v5 e5 t5 => q _ _ ((((e1.trans e2).trans e3).trans e4).trans e5) t5⟩
/-! ### table_of -/
/-- lists of ints, none of them at f, all younger than H0 -/
def Rows (f : Addr) (H0 H : Hp) (rs : List V) (rows : List (List Int)) : Prop := Paired (fun v row => ∃ b, v = .ref b ∧ b ≠ f ∧ H0 b = none ∧ H b = some (.lst (row.map V.int))) rs rows
theorem Rows.mono {f : Addr} {H0 H H' : Hp} {rs : List V} {rows : List (List Int)} (h : Rows f H0 H rs rows) (e : Same H H') : Rows f H0 H' rs rows :=
  Paired.mapP h fun _ _ ⟨b, h1, h2, h0, h3⟩ => ⟨b, h1, h2, h0, e _ _ h3⟩
theorem Rows.put {f : Addr} {H0 H : Hp} {rs : List V} {rows : List (List Int)} {o : HO} (h : Rows f H0 H rs rows) : Rows f H0 (upd H f o) rs rows :=
  Paired.mapP h fun _ _ ⟨b, h1, h2, h0, h3⟩ => ⟨b, h1, h2, h0, by rw [upd_ne h2]; exact h3⟩
theorem rowStep_len (t : Int) (row : List Int) : (rowStep t row).length = row.length := by
  unfold rowStep
  rw [List.length_map, List.length_zipIdx]
theorem tableGo_step {ns : List Int} {i : Nat} {t : Int} (row : List Int) (h : ns[i]? = some t) : tableGo row (ns.drop i) = rowStep t row :: tableGo (rowStep t row) (ns.drop (i + 1)) := by
  obtain ⟨h1, h2⟩ := List.getElem?_eq_some_iff.mp h
  rw [List.drop_eq_getElem_cons h1, h2]
  rfl
theorem zipIdx_at {α : Type} {l : List α} {i : Nat} {z : α × Nat} (h : l.zipIdx[i]? = some z) : l[i]? = some z.1 ∧ z.2 = i := by
  rw [List.getElem?_zipIdx] at h
  obtain ⟨x, hx, e⟩ := Option.map_eq_some_iff.mp h
  subst e
  exact ⟨hx, by simp⟩
def sp_table_of : Sp := fun vs H Q _ => ∃ (v : V) (ns : List Int), vs = [v] ∧ Tup H v ns ∧ ns.length ≤ 9 ∧
  ∀ H' f rs, Same H H' → H f = none → H' f = some (.lst rs) → Rows f H H' rs (table ns) → Q (.ref f) H'
theorem ok_table_of (T : Txt K mg) : FnOk P w K mg base CX0 1 T.a_table_of T.d_table_of ["order"] sp_table_of := by
  refine T.f_table_of.ok sc_table_of (fun vs H Q E h => ?_) (fun cdv A outer s H vs Q E hr h => ?_)
  · obtain ⟨v, ns, rfl, _⟩ := h
    rfl
  · obtain ⟨v, ns, rfl, ⟨a, rfl, ha⟩, h9, q⟩ := h
    refine ⟨_, (pss_cons (ps_par (i := 1) (j := 2) (by rfl) sc_table_of.nd rfl rfl (by decide) rfl rfl (pa_cons (pe_lst pa_nil) (pa_cons (pe_op op_rep (pe_lst (pa_cons pe_int pa_nil)) (pe_callB (cr_lenK K) (by rfl) T.z_len (by decide +kernel) (pa_cons (pv 0) pa_nil))) pa_nil)) (by rfl))
      (pss_cons (ps_for PassesOwn.never rfl (pi_tupK K (pv 0)) (pg_name (i := 3) sc_table_of.nd rfl (.inr rfl)) (pss_cons (ps_setLc (i := 2) (own := [("at", 4), ("many", 5)]) rfl sc_table_of.nd rfl rfl (sw_true rfl rfl rfl (by decide +kernel)) (pi_enumK K (by rfl) T.z_enumerate (pa_cons (pv 2) pa_nil)) (blkOk_by (N := N_table_of) (sc := (defScope s_table_of)) (own := [("at", 4), ("many", 5)]) (by decide +kernel)) (fun _ _ _ _ _ => (pg_tupK K (n := 2) (by rfl) (pgs_cons (pg_name (i := 4) sc_table_of.nd rfl (.inl rfl)) (pgs_cons (pg_name (i := 5) sc_table_of.nd rfl (.inl rfl)) pgs_nil)))) (fun _ _ _ _ _ => pts_nil) (fun _ _ _ _ _ => (pe_ifExp (pt_cmpR op_lt (pv 4) (pv 3) (nomark _)) (pe_op op_add (pv 5) pe_int) (pv 5))))
      (pss_one (ps_expr (pe_bmK K PySem.F.plainAttrs_list PySem.F.slot_list_append PySem.F.type_list_append mt_append (pv 1) (pa_cons (pv 2) pa_nil))))))
      (pss_one (ps_ret (pv 1))))), ?_⟩
    -- found, row = [], [0] * len(order)
    refine ⟨sz_ok (by decide), fun f nf => ?_⟩
    have e1 : Same H (upd H f (.lst [])) := same_new nf
    have hf1 : (upd H f (.lst [])) f = some (.lst []) := upd_same
    generalize (upd H f (.lst [])) = H1 at e1 hf1
    refine ⟨sz_ok (by show 1 ≤ 100000; decide), fun z nz => ?_⟩
    have e2 : Same H1 (upd H1 z (.lst [.int 0])) := same_new nz
    have hz2 : (upd H1 z (.lst [.int 0])) z = some (.lst [.int 0]) := upd_same
    generalize (upd H1 z (.lst [.int 0])) = H2 at e2 hz2
    have ha2 := (ha.mono e1).mono e2
    refine ⟨_, rfl, a, _, rfl, .inr ha2.sq, z, _, _, rfl, rfl, hz2, by simp only [List.length_map]; omega, by simp only [List.length_map]; omega, sz_ok (by simp; omega), fun r nr => ⟨_, _, rfl, ?_⟩⟩
    have er : (List.replicate (((ns.map V.int).length : Int)).toNat [V.int 0]).flatten = (List.replicate ns.length (0 : Int)).map V.int := by
      rw [List.length_map, Int.toNat_natCast, List.map_replicate]
      generalize ns.length = n
      induction n with
      | zero => rfl
      | succ n ih =>
        rw [List.replicate_succ, List.flatten_cons, ih, List.replicate_succ]
        rfl
    rw [er]
    have e3 : Same H2 (upd H2 r (.lst ((List.replicate ns.length (0 : Int)).map V.int))) := same_new nr
    have hr3 : (upd H2 r (.lst ((List.replicate ns.length (0 : Int)).map V.int))) r = some (.lst ((List.replicate ns.length (0 : Int)).map V.int)) := upd_same
    have hrf : r ≠ f := (ne_of_none (e2 _ _ hf1) nr).symm
    generalize (upd H2 r (.lst ((List.replicate ns.length (0 : Int)).map V.int))) = H3 at e3 hr3
    have ha3 := ha2.mono e3
    refine ⟨_, rfl, a, rfl, ⟨_, ha3.sq⟩, ?_⟩
    refine for_it (walk_tup (xs := ns.map V.int)) (fun i σ H' => ∃ (r : Addr) (rs : List V) (row : List Int) (rows : List (List Int)) (y3 : Option V),
      σ = [some (.ref a), some (.ref f), some (.ref r), y3, none, none] ∧ Same H H' ∧ H' f = some (.lst rs) ∧ H' r = some (.lst (row.map V.int)) ∧ r ≠ f ∧ row.length = ns.length ∧ rs.length = i ∧
      Rows f H H' rs rows ∧ rows ++ tableGo row (ns.drop i) = table ns)
      ⟨r, [], _, [], none, rfl, (e1.trans e2).trans e3, e3 _ _ (e2 _ _ hf1), hr3, hrf, by simp, rfl, .nil, rfl⟩
      (fun i σ H' _ h => ?_) (fun i x σ H4 H5 hi h hy => ?_) (fun σ H' h => ?_)
    · obtain ⟨r, rs, row, rows, y3, _, e, _⟩ := h
      exact same_tup ha e
    · obtain ⟨r, rs, row, rows, y3, rfl, e4, hf, hrow, hrf, hlen, hrs, hR, htab⟩ := h
      obtain ⟨t, rfl, rfl, ht⟩ := yat_ints hy
      rw [List.length_map] at hi
      -- row = [..]
      refine ⟨_, rfl, r, _, rfl, SqL.of hrow, ?_⟩
      refine lc_v walk_enum row.zipIdx (by simp) (by simp; omega) (fun z => some (.int (if (z.2 : Int) < t then z.1 + 1 else z.1))) (fun H' e => same_lst hrow e)
        (fun j z x H6 H7 hz e hy K0 Kx k0 k1 => ?_) (fun D H6 hD e hl => ?_)
      · obtain ⟨T8, d, rfl, nT8, rfl, hd⟩ := yenum_ints hy
        obtain ⟨z1, z2⟩ := zipIdx_at hz
        have q1 := Option.some.inj (hd.symm.trans z1)
        subst q1 z2
        refine ⟨T8, _, rfl, SqT.of upd_same, rfl, _, _, rfl, _, _, rfl, rfl, rfl, _, rfl, _, rfl, _, _, rfl, rfl, _, rfl, ite2 (fun h => ?_) (fun h => ?_)⟩
        · have h := of_decide_eq_true h
          exact ⟨_, rfl, _, _, rfl, rfl, k1 _ _ (same_new nT8) (by rw [if_pos h])⟩
        · have h : ¬ ((z.2 : Int) < t) := fun q => h (decide_eq_true q)
          exact ⟨_, rfl, k1 _ _ (same_new nT8) (by rw [if_neg h])⟩
      · rw [filterMap_some] at hl
        have hl' : H6 D = some (.lst ((rowStep t row).map V.int)) := by
          rw [hl]
          unfold rowStep
          rw [List.map_map]
          rfl
        have hf6 := e _ _ hf
        have hDf : D ≠ f := (ne_of_none hf hD).symm
        refine ⟨_, rfl, .inl ⟨rfl, _, SqL.of hf6⟩, _, rfl, f, rs, _, rfl, rfl, hf6, sz_lt (by omega), ?_⟩
        refine ⟨D, rs ++ [.ref D], rowStep t row, rows ++ [rowStep t row], _, rfl, same_mut (e4.trans e) nf, upd_same, by rw [upd_ne hDf]; exact hl', hDf, by rw [rowStep_len, hlen], by simp [hrs], ?_, ?_⟩
        · exact paired_append (hR.mono e).put (.cons ⟨D, rfl, hDf, e4.free hD, by rw [upd_ne hDf]; exact hl'⟩ .nil)
        · rw [← htab, tableGo_step row ht, List.append_assoc]
          rfl
    · obtain ⟨r, rs, row, rows, y3, rfl, e4, hf, hrow, hrf, hlen, hrs, hR, htab⟩ := h
      rw [List.drop_of_length_le (by simp)] at htab
      have ht : rows = table ns := by
        rw [← htab]
        exact (List.append_nil _).symm
      subst ht
      exact ⟨_, rfl, q H' f rs e4 nf hf hR⟩
end
end Bd

namespace Bd
open PySem PySem.Spec PyProof.Rows L2 Gp Mir
/-! ### all that stands, but at f -/
def SameX (f : Addr) (H H' : Hp) : Prop := ∀ b o, b ≠ f → H b = some o → H' b = some o
section
variable {f : Addr} {H H1 H2 H' : Hp}
theorem SameX.refl : SameX f H H := fun _ _ _ h => h
theorem SameX.of (e : Same H H') : SameX f H H' := fun b o _ h => e b o h
theorem SameX.trans (a : SameX f H H1) (b : SameX f H1 H2) : SameX f H H2 := fun c o n h => b c o n (a c o n h)
theorem SameX.then (a : SameX f H H1) (b : Same H1 H2) : SameX f H H2 := a.trans (.of b)
theorem SameX.put {o : HO} (a : SameX f H H1) : SameX f H (upd H1 f o) := fun b x n h => by
  rw [upd_ne n]
  exact a b x n h
theorem SameX.same (a : SameX f H1 H') (e : Same H H1) (n : H f = none) : Same H H' := fun b o h => a b o (ne_of_none h n) (e b o h)
theorem SameX.ft {a : Addr} {xs zs : List V} (e : SameX f H H') (hf : H f = some (.lst zs)) (h : FT H a xs) : FT H' a xs := by
  have n := h.ne hf
  obtain ⟨o, h1, h2⟩ := h
  exact ⟨o, h1, e _ _ n h2⟩
theorem SameX.tup {v : V} {ns : List Int} {zs : List V} (e : SameX f H H') (hf : H f = some (.lst zs)) (h : Tup H v ns) : Tup H' v ns := by
  obtain ⟨a, h1, h2⟩ := h
  exact ⟨a, h1, e.ft hf h2⟩
theorem SameX.tups {vs : List V} {os : List (List Int)} {zs : List V} (e : SameX f H H') (hf : H f = some (.lst zs)) (h : Tups H vs os) : Tups H' vs os := Paired.mapP h fun _ _ z => e.tup hf z
end
theorem paired_perm {α β : Type} {F : α → β → Prop} {l l' : List α} (hp : l'.Perm l) : ∀ {m : List β}, Paired F l m → ∃ m', Paired F l' m' ∧ m'.Perm m := by
  induction hp with
  | nil => intro m h; exact ⟨m, h, .refl _⟩
  | cons x _ ih =>
    intro m h
    cases h with
    | cons r t =>
      obtain ⟨m', h1, h2⟩ := ih t
      exact ⟨_, .cons r h1, h2.cons _⟩
  | swap x y l =>
    intro m h
    cases h with
    | cons r t =>
      cases t with
      | cons r2 t2 => exact ⟨_, .cons r2 (.cons r t2), .swap _ _ _⟩
  | trans _ _ ih1 ih2 =>
    intro m h
    obtain ⟨m1, h1, p1⟩ := ih2 h
    obtain ⟨m2, h2, p2⟩ := ih1 h1
    exact ⟨m2, h2, p2.trans p1⟩
theorem code_cod : ∀ l : List Int, TS.code 16 l = cod l
  | [] => rfl
  | x :: r => by
    show x * 16 ^ r.length + TS.code 16 r = x * 16 ^ r.length + cod r
    rw [code_cod r]
theorem tups_at {H : Hp} {ys : List V} {os : List (List Int)} {i : Nat} {x : V} (h : Tups H ys os) (hx : ys[i]? = some x) : ∃ o, os[i]? = some o ∧ Tup H x o := paired_at h hx
theorem tup_I {K : PySem.W.Frag} {H : Hp} {v : V} {ns : List Int} (h : Tup H v ns) : TupI K H v ns := by
  obtain ⟨a, h1, h2⟩ := h
  exact ⟨a, h1, h2.sq⟩
theorem pair_codes {K : PySem.W.Frag} {H : Hp} : ∀ {ys : List V} {L : List (List Int)}, Tups H ys L → (ys.Pairwise fun x y => ∀ n m, TupI K H x n → TupI K H y m → TS.code 16 n ≤ TS.code 16 m) → L.Pairwise fun x y => cod x ≤ cod y
  | _, _, .nil, _ => .nil
  | x :: ys, n :: L, .cons r t, hs => by
    obtain ⟨p1, p2⟩ := List.pairwise_cons.mp hs
    refine List.pairwise_cons.mpr ⟨fun z hz => ?_, pair_codes t p2⟩
    obtain ⟨i, hi⟩ := List.getElem?_of_mem hz
    have hlen := Paired.length t
    have hi' := (List.getElem?_eq_some_iff.mp hi).1
    have hx : ys[i]? = some (ys[i]'(by omega)) := List.getElem?_eq_getElem _
    obtain ⟨o, ho, hT⟩ := paired_at t hx
    rw [hi] at ho
    cases ho
    have := p1 _ (List.mem_of_getElem? hx) _ _ (tup_I r) (tup_I hT)
    rw [code_cod, code_cod] at this
    exact this
/-- what sorted gives of a list of tuples -/
theorem sorted_tups_data {K : PySem.W.Frag} {H : Hp} {fs ys : List V} {L : List (List Int)} {d : Nat} (ht : Tups H fs L) (hd : ∀ l ∈ L, l.length = d ∧ ∀ m ∈ l, 0 ≤ m ∧ m < 16) (hp : ys.Perm fs)
    (hs : ys.Pairwise fun x y => ∀ n m, TupI K H x n → TupI K H y m → TS.code 16 n ≤ TS.code 16 m) : Tups H ys (sortC L) := by
  obtain ⟨L', h1, h2⟩ := paired_perm hp ht
  rw [← same_sortC h2 hd (pair_codes h1 hs)]
  exact h1
section
variable {P : Program} {w : World} {K : PySem.W.Frag} {mg : Str → Option Value} {base : Heap}
theorem dec_len (l : List Int) (n : Nat) : decide (V.int (((l.map V.int).length : Nat) : Int) = V.int (n : Int)) = (l.length == n) := by
  rw [List.length_map]
  by_cases h : l.length = n
  · subst h
    simp
  · have h' : ¬ (V.int ((l.length : Nat) : Int) = V.int (n : Int)) := fun z => h (by
      injection z with z
      omega)
    rw [decide_eq_false h']
    exact (beq_eq_false_iff_ne.mpr h).symm
theorem undone_len (ns : List Int) : (undone ns).length = ns.length := by
  unfold undone
  rw [List.length_map, List.length_range]
def sp_is_single : Sp := fun vs H Q _ => ∃ (v : V) (ns : List Int), vs = [v] ∧ Ord H v ns ∧ Valid ns ∧ ∀ H', Same H H' → Q (.bl (single ns)) H'
theorem ok_is_single (T : Txt K mg) : FnOk P w K mg base CX0 4 T.a_is_single T.d_is_single ["order"] sp_is_single := by
  refine T.f_is_single.ok sc_is_single (fun vs H Q E h => ?_) (fun cdv A outer s H vs Q E hr h => ?_)
  · obtain ⟨v, ns, rfl, _⟩ := h
    rfl
  · obtain ⟨v, ns, rfl, hv, hok, q⟩ := h
    refine ⟨_, (pss_cons (ps_set (i := 1) sc_is_single.nd rfl (.inl rfl) (pe_call (ok_want_order T) (hr.mono (by decide)) (by rfl) T.g_want_order T.f_want_order.kp T.b_want_order .nil pass0 (pa_cons (pv 0) pa_nil)))
      (pss_one (ps_ret (pe_and (pe_cmpR op_eq (pe_callB (cr_lenK K) (by rfl) T.z_len (by decide +kernel) (pa_cons (pe_call (ok_falls_in T) (hr.mono (by decide)) (by rfl) T.g_falls_in T.f_falls_in.kp T.b_falls_in .nil pass0 (pa_cons (pv 1) pa_nil)) pa_nil)) pe_int (nomark _)) (pe_one (pe_cmpR op_eq (pe_callB (cr_lenK K) (by rfl) T.z_len (by decide +kernel) (pa_cons (pe_call (ok_falls_in T) (hr.mono (by decide)) (by rfl) T.g_falls_in T.f_falls_in.kp T.b_falls_in .nil pass0 (pa_cons (pe_call (ok_undone_of T) (hr.mono (by decide)) (by rfl) T.g_undone_of T.f_undone_of.kp T.b_undone_of .nil pass0 (pa_cons (pv 1) pa_nil)) pa_nil)) pa_nil)) pe_int (nomark _))))))), ?_⟩
    refine ⟨_, rfl, v, ns, rfl, hv, hok, fun H1 v1 e1 t1 => ?_⟩
    refine ⟨_, rfl, v1, ns, rfl, t1, hok.1, hok.2.1, fun H2 p e2 hp => ⟨p, _, rfl, .inl (SqL.of hp), rfl, _, rfl, ?_⟩⟩
    have d1 : decide (V.int (((falls ns).map V.int).length : Nat) = V.int 1) = ((falls ns).length == 1) := dec_len (falls ns) 1
    rw [d1]
    refine ite2 (fun h => ?_) (fun h => ?_)
    · refine ⟨_, rfl, v1, ns, rfl, t1.mono e2, hok, fun H3 v3 e3 t3 => ?_⟩
      refine ⟨v3, undone ns, rfl, t3, by rw [undone_len]; exact hok.1, by rw [undone_len]; exact hok.2.1, fun H4 p4 e4 hp4 => ⟨p4, _, rfl, .inl (SqL.of hp4), rfl, ?_⟩⟩
      have d2 : decide (V.int (((falls (undone ns)).map V.int).length : Nat) = V.int 1) = ((falls (undone ns)).length == 1) := dec_len (falls (undone ns)) 1
      show Q (.bl (decide (V.int (((falls (undone ns)).map V.int).length : Nat) = V.int 1))) _
      have q' := q H4 (((e1.trans e2).trans e3).trans e4)
      unfold single at q'
      rw [h, Bool.true_and, ← d2] at q'
      exact q'
    · have q' := q H2 (e1.trans e2)
      unfold single at q'
      rw [Bool.eq_false_iff.mpr h, Bool.false_and] at q'
      exact q'
/-! ### singles_below -/
theorem rowStep_le {t b : Int} {row : List Int} (h : ∀ c ∈ row, c ≤ b) : ∀ c ∈ rowStep t row, c ≤ b + 1 := by
  intro c hc
  unfold rowStep at hc
  obtain ⟨z, hz, rfl⟩ := List.mem_map.mp hc
  have : z.1 ≤ b := h _ (List.fst_mem_of_mem_zipIdx hz)
  split <;> omega
theorem tableGo_le : ∀ (ns row : List Int) (b : Int), (∀ c ∈ row, c ≤ b) → ∀ r ∈ tableGo row ns, (∀ c ∈ r, c ≤ b + ns.length) ∧ r.length = row.length
  | [], _, _, _, _, h => by cases h
  | t :: ns, row, b, hb, r, h => by
    have hs := rowStep_le (t := t) hb
    rcases List.mem_cons.mp h with e | h
    · subst e
      refine ⟨fun c hc => ?_, rowStep_len _ _⟩
      have := hs c hc
      simp only [List.length_cons]
      omega
    · obtain ⟨h1, h2⟩ := tableGo_le ns (rowStep t row) (b + 1) hs r h
      refine ⟨fun c hc => ?_, by rw [h2, rowStep_len]⟩
      have := h1 c hc
      simp only [List.length_cons]
      omega
theorem tableGo_len : ∀ (ns row : List Int), (tableGo row ns).length = ns.length
  | [], _ => rfl
  | t :: ns, row => by
    show (tableGo (rowStep t row) ns).length + 1 = ns.length + 1
    rw [tableGo_len ns]
theorem table_mem {ns r : List Int} (h : r ∈ table ns) : (∀ c ∈ r, c ≤ ns.length) ∧ r.length = ns.length := by
  unfold Mir.table at h
  obtain ⟨h1, h2⟩ := tableGo_le ns _ 0 (fun c hc => by rw [List.eq_of_mem_replicate hc]; exact Int.le_refl _) r h
  refine ⟨fun c hc => by have := h1 c hc; omega, ?_⟩
  rw [h2, List.length_replicate]
theorem table_len (ns : List Int) : (table ns).length = ns.length := tableGo_len _ _
/-- what the sort of the singles below asks -/
def GoodS (ns : List Int) : Prop := (∀ o ∈ singlesL ns, o.length = ns.length ∧ ∀ m ∈ o, 0 ≤ m ∧ m < 16) ∧ (singlesL ns).length < 64
theorem singlesRow_step {n m : Int} {row : List Int} {j : Nat} {c : Int} (h : row[j]? = some c) :
    ((row.zipIdx.take (j + 1)).filter fun p => decide (leastCount m ((p.2 : Int) + 1) < p.1)).map (fun p => least n m ((p.2 : Int) + 1) p.1) =
      ((row.zipIdx.take j).filter fun p => decide (leastCount m ((p.2 : Int) + 1) < p.1)).map (fun p => least n m ((p.2 : Int) + 1) p.1) ++
        (if leastCount m ((j : Int) + 1) < c then [least n m ((j : Int) + 1) c] else []) := by
  have hz : row.zipIdx[j]? = some (c, j) := by
    rw [List.getElem?_zipIdx, h]
    simp
  rw [List.take_add_one, hz, List.filter_append, List.map_append]
  congr 1
  show (List.filter _ [(c, j)]).map _ = _
  by_cases hc : leastCount m ((j : Int) + 1) < c
  · rw [if_pos hc, List.filter_cons, if_pos (by simpa using hc)]
    rfl
  · rw [if_neg hc, List.filter_cons, if_neg (by simpa using hc)]
    rfl
theorem singlesL_step {ns row : List Int} {i : Nat} (h : (table ns)[i]? = some row) :
    (((table ns).zipIdx.take (i + 1)).flatMap fun p => singlesRow ns.length ((p.2 : Int) + 1) p.1) =
      (((table ns).zipIdx.take i).flatMap fun p => singlesRow ns.length ((p.2 : Int) + 1) p.1) ++ singlesRow ns.length ((i : Int) + 1) row := by
  have hz : (table ns).zipIdx[i]? = some (row, i) := by
    rw [List.getElem?_zipIdx, h]
    simp
  rw [List.take_add_one, hz, List.flatMap_append]
  congr 1
  show List.flatMap _ [(row, i)] = _
  simp
theorem flat_le {α β : Type} (g : α → List β) : ∀ (l : List α) (i : Nat), ((l.take i).flatMap g).length ≤ (l.flatMap g).length
  | [], _ => by simp
  | x :: r, 0 => by simp
  | x :: r, i + 1 => by
    have := flat_le g r i
    simp only [List.take_succ_cons, List.flatMap_cons, List.length_append]
    omega
def sp_singles_below : Sp := fun vs H Q _ => ∃ (v : V) (ns : List Int), vs = [v] ∧ Tup H v ns ∧ Valid ns ∧ GoodS ns ∧
  ∀ H' p ys, Same H H' → H p = none → H' p = some (.lst ys) → Tups H' ys (singles ns) → Q (.ref p) H'
theorem ok_singles_below (T : Txt K mg) : FnOk P w K mg base CX0 3 T.a_singles_below T.d_singles_below ["order"] sp_singles_below := by
  refine T.f_singles_below.ok sc_singles_below (fun vs H Q E h => ?_) (fun cdv A outer s H vs Q E hr h => ?_)
  · obtain ⟨v, ns, rfl, _⟩ := h
    rfl
  · obtain ⟨v, ns, rfl, ⟨a, rfl, ha⟩, hok, hg, q⟩ := h
    have l1 := hok.1
    have l2 := hok.2.1
    have hd1 : 1 ≤ ns.length := l1
    refine ⟨_, (pss_cons (ps_par (i := 1) (j := 2) (by rfl) sc_singles_below.nd rfl rfl (by decide) rfl rfl (pa_cons (pe_callB (cr_lenK K) (by rfl) T.z_len (by decide +kernel) (pa_cons (pv 0) pa_nil)) (pa_cons (pe_lst pa_nil) pa_nil)) (by rfl))
      (pss_cons (ps_for PassesOwn.never rfl (pi_enumK K (by rfl) T.z_enumerate (pa_cons (pe_call (ok_table_of T) (hr.mono (by decide)) (by rfl) T.g_table_of T.f_table_of.kp T.b_table_of .nil pass0 (pa_cons (pv 0) pa_nil)) pa_nil)) (pg_tupK K (n := 2) (by rfl) (pgs_cons (pg_name (i := 3) sc_singles_below.nd rfl (.inl rfl)) (pgs_cons (pg_name (i := 4) sc_singles_below.nd rfl (.inl rfl)) pgs_nil))) (pss_one (ps_for PassesOwn.never rfl (pi_enumK K (by rfl) T.z_enumerate (pa_cons (pv 4) pa_nil)) (pg_tupK K (n := 2) (by rfl) (pgs_cons (pg_name (i := 5) sc_singles_below.nd rfl (.inl rfl)) (pgs_cons (pg_name (i := 6) sc_singles_below.nd rfl (.inl rfl)) pgs_nil))) (pss_cons (ps_set (i := 7) sc_singles_below.nd rfl (.inl rfl) (pe_tup (pa_cons (pe_op op_add (pv 3) pe_int) (pa_cons (pe_op op_add (pv 5) pe_int) pa_nil))))
      (pss_one (ps_if (pt_cmpR op_gt (pv 6) (pe_call (ok_least_count T) (hr.mono (by decide)) (by rfl) T.g_least_count T.f_least_count.kp T.b_least_count .nil pass0 (pa_cons (pv 7) pa_nil)) (nomark _)) (pss_one (ps_expr (pe_bmK K PySem.F.plainAttrs_list PySem.F.slot_list_append PySem.F.type_list_append mt_append (pv 2) (pa_cons (pe_call (ok_least_of T) (hr.mono (by decide)) (by rfl) T.g_least_of T.f_least_of.kp T.b_least_of .nil pass0 (pa_cons (pv 1) (pa_cons (pv 7) (pa_cons (pv 6) pa_nil)))) pa_nil)))) pss_nil))))))
      (pss_one (ps_ret (pe_callB (cr_sortTK K hd1) (by rfl) T.z_sorted (by decide +kernel) (pa_cons (pv 2) pa_nil)))))), ?_⟩
    -- size, found = len(order), []
    refine ⟨_, rfl, a, _, rfl, .inr ha.sq, sz_ok (by decide), fun f nf => ⟨_, _, rfl, ?_⟩⟩
    have e1 : Same H (upd H f (.lst [])) := same_new nf
    have hf1 : (upd H f (.lst [])) f = some (.lst []) := upd_same
    generalize (upd H f (.lst [])) = H1 at e1 hf1
    -- table_of(order)
    refine ⟨_, rfl, _, ns, rfl, ⟨a, rfl, ha.mono e1⟩, l2, fun H2 tb rs e2 ntb htb hR => ⟨tb, rs, rfl, SqL.of htb, ?_⟩⟩
    have hrl : rs.length = ns.length := by
      rw [Paired.length hR, table_len]
    have hf2 := e2 _ _ hf1
    have htf : tb ≠ f := (ne_of_none hf1 ntb).symm
    refine for_it (walk_enum (xs := rs)) (fun i σ H' => ∃ (fs : List V) (y3 y4 y5 y6 y7 : Option V),
      σ = [some (.ref a), some (.int ((ns.map V.int).length : Nat)), some (.ref f), y3, y4, y5, y6, y7] ∧ SameX f H2 H' ∧ H' f = some (.lst fs) ∧
      Tups H' fs (((table ns).zipIdx.take i).flatMap fun p => singlesRow ns.length ((p.2 : Int) + 1) p.1))
      ⟨[], none, none, none, none, none, rfl, .refl, hf2, .nil⟩
      (fun i σ H' _ h => ?_) (fun i x σ H4 H5 hi h hy => ?_) (fun σ H' h => ?_)
    · obtain ⟨fs, y3, y4, y5, y6, y7, _, e, _⟩ := h
      exact SqL.of (e _ _ htf htb)
    · obtain ⟨fs, y3, y4, y5, y6, y7, rfl, e4, hf4, ht4⟩ := h
      obtain ⟨T5, x5, x6, rfl, nT5, rfl, hx5, hx6⟩ := hy
      cases hx5
      obtain ⟨row, hrow, b, rfl, hbt, hb0, hb⟩ := paired_at hR hx6
      have hbf : b ≠ f := (ne_of_none hf1 hb0).symm
      have e5 : Same H4 (upd H4 T5 (.tup [.int (i : Nat), .ref b])) := same_new nT5
      have hT5 : (upd H4 T5 (.tup [.int (i : Nat), .ref b])) T5 = some (.tup [.int (i : Nat), .ref b]) := upd_same
      generalize (upd H4 T5 (.tup [.int (i : Nat), .ref b])) = H5 at e5 hT5
      obtain ⟨hrow1, hrow2⟩ := table_mem (List.mem_of_getElem? hrow)
      have hb5 := e5 _ _ (e4 _ _ hbf hb)
      refine ⟨T5, _, rfl, SqT.of hT5, rfl, _, _, rfl, _, _, rfl, rfl, ?_⟩
      -- for at, many in enumerate(row)
      refine ⟨_, rfl, b, _, rfl, SqL.of hb5, ?_⟩
      refine for_it (walk_enum (xs := row.map V.int)) (fun j σ H' => ∃ (fs : List V) (y5 y6 y7 : Option V),
        σ = [some (.ref a), some (.int ((ns.map V.int).length : Nat)), some (.ref f), some (.int (i : Nat)), some (.ref b), y5, y6, y7] ∧ SameX f H2 H' ∧ H' f = some (.lst fs) ∧
        Tups H' fs ((((table ns).zipIdx.take i).flatMap fun p => singlesRow ns.length ((p.2 : Int) + 1) p.1) ++
          ((row.zipIdx.take j).filter fun p => decide (leastCount ((i : Int) + 1) ((p.2 : Int) + 1) < p.1)).map fun p => least ns.length ((i : Int) + 1) ((p.2 : Int) + 1) p.1))
        ⟨fs, y5, y6, y7, rfl, e4.then e5, e5 _ _ hf4, by
          rw [List.take_zero]
          show Tups H5 fs (_ ++ [])
          rw [List.append_nil]
          exact ht4.mono e5⟩
        (fun j σ H' _ h => ?_) (fun j x σ H6 H7 hj h hy => ?_) (fun σ H' h => ?_)
      · obtain ⟨fs, y5, y6, y7, _, e, _⟩ := h
        exact SqL.of (e _ _ hbf hb)
      · obtain ⟨fs, y5, y6, y7, rfl, e6, hf6, ht6⟩ := h
        obtain ⟨T8, c, rfl, nT8, rfl, hc⟩ := yenum_ints hy
        have e7 : Same H6 (upd H6 T8 (.tup [.int (j : Nat), .int c])) := same_new nT8
        have hT8 : (upd H6 T8 (.tup [.int (j : Nat), .int c])) T8 = some (.tup [.int (j : Nat), .int c]) := upd_same
        generalize (upd H6 T8 (.tup [.int (j : Nat), .int c])) = H7 at e7 hT8
        have hc9 := hrow1 c (List.mem_of_getElem? hc)
        have hj' := (List.getElem?_eq_some_iff.mp hc).1
        rw [List.length_map] at hj
        have hi' := (List.getElem?_eq_some_iff.mp hrow).1
        rw [table_len] at hi'
        refine ⟨T8, _, rfl, SqT.of hT8, rfl, _, _, rfl, _, _, rfl, rfl, ?_⟩
        -- corner = (place + 1, at + 1)
        refine ⟨_, rfl, _, _, rfl, rfl, _, rfl, _, _, rfl, rfl, sz_ok (by show 2 ≤ 100000; decide), fun cp ncp => ?_⟩
        have e8 : Same H7 (upd H7 cp (.tup [.int ((i : Int) + 1), .int ((j : Int) + 1)])) := same_new ncp
        have hcp : Pr (upd H7 cp (.tup [.int ((i : Int) + 1), .int ((j : Int) + 1)])) (.ref cp) ((i : Int) + 1) ((j : Int) + 1) := ⟨cp, rfl, upd_same⟩
        generalize (upd H7 cp (.tup [.int ((i : Int) + 1), .int ((j : Int) + 1)])) = H8 at e8 hcp
        refine ⟨_, rfl, _, rfl, _, _, _, rfl, hcp, fun H9 e9 => ⟨_, _, rfl, rfl, _, rfl, ite2 (fun h => ?_) (fun h => ?_)⟩⟩
        · have h := of_decide_eq_true h
          have hge : 0 ≤ leastCount ((i : Int) + 1) ((j : Int) + 1) := by
            unfold leastCount
            split <;> omega
          have hf9 := (((e7.trans e8).trans e9)) _ _ hf6
          refine ⟨_, rfl, .inl ⟨rfl, _, SqL.of hf9⟩, _, rfl, _, rfl, _, rfl, _, _, _, _, c, rfl, hcp.mono e9, by simp only [List.length_map]; omega, by omega, by omega, by omega, fun H10 v10 e10 t10 => ?_⟩
          have hf10 := e10 _ _ hf9
          have el : ((ns.map V.int).length : Int) = (ns.length : Int) := by rw [List.length_map]
          rw [el] at t10
          have ht10 := ht6.mono (((e7.trans e8).trans e9).trans e10)
          have hlen : fs.length < 64 := by
            have h1 := Paired.length ht6
            have h2 := flat_le (fun p : List Int × Nat => singlesRow ns.length ((p.2 : Int) + 1) p.1) (table ns).zipIdx (i + 1)
            rw [singlesL_step hrow, List.length_append] at h2
            have h3 : (((row.zipIdx.take j).filter fun p => decide (leastCount ((i : Int) + 1) ((p.2 : Int) + 1) < p.1)).map fun p => least ns.length ((i : Int) + 1) ((p.2 : Int) + 1) p.1).length ≤ (singlesRow ns.length ((i : Int) + 1) row).length := by
              unfold singlesRow
              rw [List.length_map, List.length_map]
              exact ((List.take_sublist j row.zipIdx).filter _).length_le
            have h4 := hg.2
            unfold singlesL at h4
            rw [List.length_append] at h1
            omega
          refine ⟨f, fs, v10, rfl, rfl, hf10, sz_lt (by omega), ?_⟩
          refine ⟨fs ++ [v10], _, _, _, rfl, (((e6.then e7).then e8).then e9 |>.then e10).put, upd_same, ?_⟩
          rw [singlesRow_step hc, if_pos h, ← List.append_assoc]
          exact paired_append (ht10.stab hf10) (.cons (t10.stab hf10) .nil)
        · have h : ¬ (leastCount ((i : Int) + 1) ((j : Int) + 1) < c) := fun z => h (decide_eq_true z)
          refine ⟨fs, _, _, _, rfl, ((e6.then e7).then e8).then e9, ((e7.trans e8).trans e9) _ _ hf6, ?_⟩
          rw [singlesRow_step hc, if_neg h, List.append_nil]
          exact ht6.mono ((e7.trans e8).trans e9)
      · obtain ⟨fs, y5, y6, y7, rfl, e6, hf6, ht6⟩ := h
        refine ⟨fs, _, _, _, _, _, rfl, e6, hf6, ?_⟩
        rw [singlesL_step hrow]
        have ez : row.zipIdx.take (row.map V.int).length = row.zipIdx := List.take_of_length_le (by simp)
        rw [ez] at ht6
        exact ht6
    · obtain ⟨fs, y3, y4, y5, y6, y7, rfl, e4, hf4, ht4⟩ := h
      have ez : (table ns).zipIdx.take rs.length = (table ns).zipIdx := List.take_of_length_le (by simp [table_len, hrl])
      rw [ez] at ht4
      have ht4' : Tups H' fs (singlesL ns) := ht4
      refine ⟨_, rfl, f, fs, rfl, SqL.of hf4, by rw [Paired.length ht4']; exact hg.2, fun x hx => ?_, fun ys p hp hs hp0 => ?_⟩
      · obtain ⟨o, ho, hT⟩ := paired_mem ht4' hx
        exact ⟨o, tup_I hT, (hg.1 o ho).1, (hg.1 o ho).2⟩
      · have hsame : Same H H' := e4.same (e1.trans e2) nf
        have := sorted_tups_data ht4' hg.1 hp hs
        exact q _ p ys (hsame.trans (same_new hp0)) (hsame.free hp0) upd_same (this.mono (same_new hp0))
end
end Bd

namespace Bd
open PySem PySem.Spec PyProof.Rows L2 Gp Mir
section
variable {P : Program} {w : World} {K : PySem.W.Frag} {mg : Str → Option Value} {base : Heap}
theorem any_id {α : Type} (p : α → Bool) (l : List α) : (l.map p).any id = l.any p := by
  rw [List.any_map]
  rfl
theorem filter_step {α : Type} (p : α → Bool) {l : List α} {i : Nat} {s : α} (h : l[i]? = some s) : (l.take (i + 1)).filter p = (l.take i).filter p ++ (if p s = true then [s] else []) := by
  rw [List.take_add_one, h, List.filter_append]
  congr 1
  show List.filter p [s] = _
  by_cases hc : p s = true
  · rw [if_pos hc, List.filter_cons, if_pos hc]
    rfl
  · rw [if_neg hc, List.filter_cons, if_neg hc]
    rfl
theorem singlesC_mem {ns o : List Int} (h : o ∈ singles ns) : o ∈ singlesL ns := (sortC_perm _).mem_iff.mp h
theorem singlesC_len (ns : List Int) : (singles ns).length = (singlesL ns).length := (sortC_perm _).length_eq
def sp_bearing : Sp := fun vs H Q _ => ∃ (v : V) (ns : List Int), vs = [v] ∧ Ord H v ns ∧ Valid ns ∧ GoodS ns ∧
  ∀ H' p ys, Same H H' → H p = none → H' p = some (.lst ys) → Tups H' ys (bearing ns) → Q (.ref p) H'
theorem ok_bearing (T : Txt K mg) : FnOk P w K mg base CX0 4 T.a_bearing T.d_bearing ["order"] sp_bearing := by
  refine T.f_bearing.ok sc_bearing (fun vs H Q E h => ?_) (fun cdv A outer s H vs Q E hr h => ?_)
  · obtain ⟨v, ns, rfl, _⟩ := h
    rfl
  · obtain ⟨v, ns, rfl, hv, hok, hg, q⟩ := h
    refine ⟨_, (pss_cons (ps_set (i := 1) sc_bearing.nd rfl (.inl rfl) (pe_call (ok_singles_below T) (hr.mono (by decide)) (by rfl) T.g_singles_below T.f_singles_below.kp T.b_singles_below .nil pass0 (pa_cons (pe_call (ok_want_order T) (hr.mono (by decide)) (by rfl) T.g_want_order T.f_want_order.kp T.b_want_order .nil pass0 (pa_cons (pv 0) pa_nil)) pa_nil)))
      (pss_cons (ps_set (i := 2) sc_bearing.nd rfl (.inl rfl) (pe_lst pa_nil))
      (pss_cons (ps_for PassesOwn.never rfl (pi_listK K (pv 1)) (pg_name (i := 3) sc_bearing.nd rfl (.inr rfl)) (pss_one (ps_if (pt_not (pt_val (pe_callB (cr_anyK K) (by rfl) T.z_any (by decide +kernel) (pa_cons (pe_lc (own := [("other", 4)]) rfl sc_bearing.nd (pi_listK K (pv 1)) (blkOk_by (N := N_bearing) (sc := (defScope s_bearing)) (own := [("other", 4)]) (by decide +kernel)) (fun _ _ _ _ _ => (pg_name (i := 4) sc_bearing.nd rfl (.inl rfl))) (fun _ _ _ _ _ => pts_nil) (fun _ _ _ _ _ => (pe_and (pe_cmpR (op_neDK K hr.units) (pv 4) (pv 3) (nomark _)) (pe_one (pe_call (ok_is_lower T) (hr.mono (by decide)) (by rfl) T.g_is_lower T.f_is_lower.kp T.b_is_lower .nil pass0 (pa_cons (pv 3) (pa_cons (pv 4) pa_nil))))))) pa_nil)))) (pss_one (ps_expr (pe_bmK K PySem.F.plainAttrs_list PySem.F.slot_list_append PySem.F.type_list_append mt_append (pv 2) (pa_cons (pv 3) pa_nil)))) pss_nil)))
      (pss_one (ps_ret (pv 2)))))), ?_⟩
    refine ⟨_, rfl, v, ns, rfl, hv, hok, fun H1 v1 e1 t1 => ?_⟩
    refine ⟨v1, ns, rfl, t1, hok, hg, fun H2 sl ss e2 nsl hsl hS => ?_⟩
    have l64 : ss.length < 64 := by
      rw [Paired.length hS, singlesC_len]
      exact hg.2
    refine ⟨sz_ok (by decide), fun f nf => ?_⟩
    have e3 : Same H2 (upd H2 f (.lst [])) := same_new nf
    have hf3 : (upd H2 f (.lst [])) f = some (.lst []) := upd_same
    generalize (upd H2 f (.lst [])) = H3 at e3 hf3
    have hsl3 := e3 _ _ hsl
    have hsf : sl ≠ f := ne_of_none hsl nf
    have hS3 := hS.mono e3
    refine ⟨_, rfl, sl, rfl, ⟨ss, SqL.of hsl3⟩, ?_⟩
    refine for_it (walk_list (xs := ss)) (fun i σ H' => ∃ (fs : List V) (y3 : Option V),
      σ = [some v, some (.ref sl), some (.ref f), y3, none] ∧ SameX f H3 H' ∧ H' f = some (.lst fs) ∧ fs.length ≤ i ∧
      Tups H' fs (((singles ns).take i).filter fun s => !((singles ns).any fun o => (o != s) && low s o)))
      ⟨[], none, rfl, .refl, hf3, Nat.le_refl _, .nil⟩
      (fun i σ H' _ h => ?_) (fun i x σ H4 H5 hi h hy => ?_) (fun σ H' h => ?_)
    · obtain ⟨fs, y3, _, e, _⟩ := h
      exact SqL.of (e _ _ hsf hsl3)
    · obtain ⟨fs, y3, rfl, e4, hf4, hl4, ht4⟩ := h
      obtain ⟨rfl, hx⟩ := hy
      obtain ⟨o, ho, hT⟩ := tups_at hS3 hx
      have hT4 : Tup H5 x o := e4.tup hf3 hT
      have hS4 : Tups H5 ss (singles ns) := e4.tups hf3 hS3
      have hsl4 := e4 _ _ hsf hsl3
      have hlen : ∀ z ∈ singles ns, z.length = ns.length := fun z hz => (hg.1 z (singlesC_mem hz)).1
      have ho' := hlen o (List.mem_of_getElem? ho)
      refine ⟨_, rfl, sl, rfl, ⟨ss, SqL.of hsl4⟩, ?_⟩
      refine lc_v walk_list (singles ns) (Paired.length hS4).symm (by rw [← Paired.length hS4]; omega) (fun p => some (.bl ((p != o) && low o p))) (fun H' e => same_lst hsl4 e)
        (fun j z y H6 H7 hz e hy K0 Kx k0 k1 => ?_) (fun D H6 hD e hl => ?_)
      · obtain ⟨rfl, hy⟩ := hy
        obtain ⟨z', hz', hTz⟩ := tups_at hS4 hy
        have q1 := Option.some.inj (hz.symm.trans hz')
        subst q1
        have hTz6 := hTz.mono e
        have hT6 := hT4.mono e
        refine ⟨rfl, _, rfl, _, rfl, tupD z, tupD o, dpTup hTz6, dpTup hT6, shaped_tup _, shaped_tup _, _, rfl, ?_⟩
        rw [eqv_tup]
        refine ite2 (fun h => ?_) (fun h => ?_)
        · have hz9 := hlen z (List.mem_of_getElem? hz)
          refine ⟨_, rfl, _, rfl, x, y, o, z, rfl, hT6, hTz6, by omega, by have := hok.2.1; omega, fun H8 e8 => k1 _ _ e8 ?_⟩
          show some (V.bl (!(z == o) && low o z)) = _
          rw [h, Bool.true_and]
        · refine k1 _ _ (.refl _) ?_
          show some (V.bl (!(z == o) && low o z)) = _
          rw [Bool.eq_false_iff.mpr h, Bool.false_and]
      · rw [filterMap_some] at hl
        have hl' : H6 D = some (.lst (((singles ns).map fun p => (p != o) && low o p).map V.bl)) := by
          rw [hl, List.map_map]
          rfl
        refine ⟨D, _, rfl, SqL.of hl', _, rfl, ?_⟩
        rw [any_id]
        have hf6 := e _ _ hf4
        refine ite2 (fun h => ?_) (fun h => ?_)
        · refine ⟨_, rfl, .inl ⟨rfl, _, SqL.of hf6⟩, _, rfl, f, fs, x, rfl, rfl, hf6, sz_lt (by omega), ?_⟩
          refine ⟨fs ++ [x], _, rfl, (e4.then e).put, upd_same, by simp; omega, ?_⟩
          rw [filter_step _ ho, if_pos h]
          exact paired_append ((ht4.mono e).stab hf6) (.cons ((hT4.mono e).stab hf6) .nil)
        · refine ⟨fs, _, rfl, e4.then e, hf6, by omega, ?_⟩
          rw [filter_step _ ho, if_neg h, List.append_nil]
          exact ht4.mono e
    · obtain ⟨fs, y3, rfl, e4, hf4, hl4, ht4⟩ := h
      have ez : (singles ns).take ss.length = singles ns := List.take_of_length_le (by rw [Paired.length hS3]; exact Nat.le_refl _)
      rw [ez] at ht4
      have hs := (e1.trans e2).trans e3
      exact ⟨_, rfl, q H' f fs (e4.same hs ((e1.trans e2).free nf)) ((e1.trans e2).free nf) hf4 ht4⟩
/-! ### the pot -/
def Pot (H : Hp) (p : Addr) : Prop := ∃ x y : Int, H p = some (.lst [.int x, .int y]) ∧ 0 ≤ x ∧ 0 ≤ y ∧ y < 2147483648
def sp_law_pot : Sp := fun vs H Q _ => ∃ (a : Addr) (ns : List Int), vs = [.ref a, .int 0] ∧ SqL K H a (ns.map V.int) ∧ ∀ H' p, Same H H' → H p = none → Pot H' p → Q (.ref p) H'
theorem ok_law_pot (T : Txt K mg) : FnOk P w K mg base CX0 1 T.a_law_pot T.d_law_pot ["_law_script", "_law_k"] (sp_law_pot (K := K)) := by
  refine T.f_law_pot.ok sc_law_pot (fun vs H Q E h => ?_) (fun cdv A outer s H vs Q E hr h => ?_)
  · obtain ⟨a, ns, rfl, _⟩ := h
    rfl
  · obtain ⟨a, ns, rfl, ha, q⟩ := h
    refine ⟨_, (pss_cons (ps_set (i := 2) sc_law_pot.nd rfl (.inl rfl) (pe_ifExp (pt_cmpR op_lt (pv 1) (pe_callB (cr_lenK K) (by rfl) T.z_len (by decide +kernel) (pa_cons (pv 0) pa_nil)) (nomark _)) (pe_callB call_abs (by rfl) T.z_abs (by decide +kernel) (pa_cons (pe_ix (ix_listK K) (pv 0) (pv 1) (fun _ _ => rfl)) pa_nil)) (pe_op op_add (pe_op op_mul pe_int (pv 1)) pe_int)))
      (pss_one (ps_ret (pe_lst (pa_cons (pe_callB (call_max2 rfl) (by rfl) T.z_max (by decide +kernel) (pa_cons pe_int (pa_cons (pe_op op_sub (pv 2) (pe_op op_pow pe_int pe_int)) pa_nil))) (pa_cons (pe_op op_add (pe_op op_mod (pe_callTy call_int1 (by rfl) T.z_int (by decide +kernel) (pa_cons (pe_op op_add (pe_op op_add (pe_op op_mul (pe_op op_mod (pe_callTy call_int1 (by rfl) T.z_int (by decide +kernel) (pa_cons (pv 2) pa_nil)) pe_int) pe_int) (pe_op op_mul pe_int (pv 1))) pe_int) pa_nil)) pe_int) pe_int) pa_nil)))))), ?_⟩
    have rest : ∀ c : Int, 0 ≤ c → ∀ q2 : Addr, H q2 = none → Q (.ref q2) (upd H q2 (.lst [.int (if c - 10 ^ (18 : Int).toNat > 0 then c - 10 ^ (18 : Int).toNat else 0), .int ((c % 2147483549 * 48271 + 6011 * 0 + 97) % 2147483579 + 1)])) := by
      intro c hc q2 hq2
      refine q _ q2 (same_new hq2) hq2 ⟨_, _, upd_same, ?_, ?_, ?_⟩
      · split <;> omega
      · omega
      · omega
    refine ⟨_, rfl, _, rfl, a, _, rfl, .inl ha, _, _, rfl, rfl, _, rfl, ite2 (fun h => ?_) (fun h => ?_)⟩
    · have h := of_decide_eq_true h
      rw [List.length_map] at h
      refine ⟨_, rfl, _, rfl, a, _, _, _, rfl, rfl, ha, atI_nat (j := 0) (getD_at (by omega)), _, rfl, ?_⟩
      generalize ns.getD 0 0 = n
      have hc : 0 ≤ (if n < 0 then -n else n) := by split <;> omega
      revert hc
      generalize (if n < 0 then -n else n) = c
      intro hc
      exact ⟨_, rfl, _, _, rfl, rfl, ⟨by decide, by decide, by decide⟩, _, _, rfl, rfl, _, _, rfl, _, rfl, .inl ⟨_, rfl, _, _, rfl, rfl, (by show (0 : Int) < _; decide), _, _, rfl, rfl, .inr (by decide), _, rfl, _, _, rfl, rfl, .inl (by decide), _, _, rfl, rfl, _, _, rfl, rfl, .inl ⟨_, rfl, _, _, rfl, rfl, (by show (0 : Int) < _; decide), _, _, rfl, rfl, sz_ok (by show 2 ≤ 100000; decide), fun q2 hq2 => rest c hc q2 hq2⟩⟩⟩
    · exact ⟨_, rfl, _, _, rfl, rfl, .inl (by decide), _, _, rfl, rfl, _, rfl, _, _, rfl, rfl, ⟨by decide, by decide, by decide⟩, _, _, rfl, rfl, _, _, rfl, _, rfl, .inl ⟨_, rfl, _, _, rfl, rfl, (by show (0 : Int) < _; decide), _, _, rfl, rfl, .inr (by decide), _, rfl, _, _, rfl, rfl, .inl (by decide), _, _, rfl, rfl, _, _, rfl, rfl, .inl ⟨_, rfl, _, _, rfl, rfl, (by show (0 : Int) < _; decide), _, _, rfl, rfl, sz_ok (by show 2 ≤ 100000; decide), fun q2 hq2 => rest 67 (by decide) q2 hq2⟩⟩⟩
/-- the pot alone has moved -/
def sp_law_draw : Sp := fun vs H Q _ => ∃ (p : Addr) (m : Int), vs = [.ref p, .int m] ∧ Pot H p ∧ 1 ≤ m ∧ m ≤ 1000 ∧ ∀ H' d, SameX p H H' → Pot H' p → 0 ≤ d → d < m → Q (.int d) H'
theorem ok_law_draw (T : Txt K mg) : FnOk P w K mg base CX0 1 T.a_law_draw T.d_law_draw ["_law_pot_here", "_law_many"] sp_law_draw := by
  refine T.f_law_draw.ok sc_law_draw (fun vs H Q E h => ?_) (fun cdv A outer s H vs Q E hr h => ?_)
  · obtain ⟨p, m, rfl, _⟩ := h
    rfl
  · obtain ⟨p, m, rfl, ⟨x, y, hp, hx, hy, hy2⟩, hm, hm2, q⟩ := h
    refine ⟨_, (pss_cons (ps_if (pt_cmpR op_gt (pe_ix (ix_listK K) (pv 0) pe_int (fun _ _ => rfl)) pe_int (nomark _)) (pss_cons (ps_asg (pe_callB call_divmod (by rfl) T.z_divmod (by decide +kernel) (pa_cons (pe_ix (ix_listK K) (pv 0) pe_int (fun _ _ => rfl)) (pa_cons (pv 1) pa_nil))) (pg_tupK K (n := 2) (by rfl) (pgs_cons (pg_sub (pv 0) pe_int set_list) (pgs_cons (pg_name (i := 2) sc_law_draw.nd rfl (.inl rfl)) pgs_nil))))
      (pss_one (ps_ret (pv 2)))) pss_nil)
      (pss_cons (ps_asg (pe_op op_mod (pe_callTy call_int1 (by rfl) T.z_int (by decide +kernel) (pa_cons (pe_op op_add (pe_op op_mul (pe_ix (ix_listK K) (pv 0) pe_int (fun _ _ => rfl)) pe_int) pe_int) pa_nil)) pe_int) (pg_sub (pv 0) pe_int set_list))
      (pss_one (ps_ret (pe_op op_mod (pe_callTy call_int1 (by rfl) T.z_int (by decide +kernel) (pa_cons (pe_op op_fdiv (pe_op op_mod (pe_callTy call_int1 (by rfl) T.z_int (by decide +kernel) (pa_cons (pe_op op_mul (pe_ix (ix_listK K) (pv 0) pe_int (fun _ _ => rfl)) (pe_ix (ix_listK K) (pv 0) pe_int (fun _ _ => rfl))) pa_nil)) pe_int) pe_int) pa_nil)) (pv 1)))))), ?_⟩
    refine ⟨_, rfl, p, _, _, _, rfl, rfl, SqL.of hp, rfl, _, _, rfl, rfl, _, rfl, ite2 (fun h => ?_) (fun h => ?_)⟩
    · refine ⟨_, rfl, p, _, _, _, rfl, rfl, SqL.of hp, rfl, _, rfl, _, _, rfl, ⟨by omega, by omega⟩, fun t nt => ?_⟩
      have hp' := same_new (o := .tup [.int (x / m), .int (x % m)]) nt _ _ hp
      refine ⟨t, _, rfl, SqT.of upd_same, rfl, _, _, rfl, _, rfl, p, _, _, 0, rfl, rfl, hp', rfl, _, _, rfl, rfl, _, rfl, ?_⟩
      refine q _ _ ((SameX.of (same_new nt)).put) ⟨_, _, upd_same, Int.ediv_nonneg hx (by omega), hy, hy2⟩ (Int.emod_nonneg _ (by omega)) (Int.emod_lt_of_pos _ (by omega))
    · have e : Pot (upd H p (.lst [.int x, .int ((y * 39373 + 911) % 2147483629)])) p := ⟨_, _, upd_same, hx, by omega, by omega⟩
      refine ⟨_, rfl, p, _, _, _, rfl, rfl, SqL.of hp, rfl, _, _, rfl, rfl, .inr (by decide), _, _, rfl, rfl, .inl ⟨_, rfl, _, _, rfl, rfl, (by show (0 : Int) < _; decide), _, rfl, p, _, _, 1, rfl, rfl, hp, rfl, ?_⟩⟩
      refine ⟨_, rfl, p, _, _, _, rfl, rfl, SqL.of upd_same, rfl, _, rfl, p, _, _, _, rfl, rfl, SqL.of upd_same, rfl, _, _, rfl, rfl, .inl (by omega), .inl ⟨_, rfl, _, _, rfl, rfl, (by show (0 : Int) < _; decide), _, _, rfl, rfl, ⟨by decide, by decide⟩, .inl ⟨_, rfl, _, rfl, _, _, rfl, rfl, by omega, ?_⟩⟩⟩
      exact q _ _ (SameX.refl.put) e (Int.emod_nonneg _ (by omega)) (Int.emod_lt_of_pos _ (by omega))
theorem ixN_of {n : Nat} {d : Int} (h0 : 0 ≤ d) (h : d < n) : ixN n d = some d.toNat := by
  unfold ixN
  rw [if_pos h0, if_pos h]
def sp_law_pick : Sp := fun vs H Q _ => ∃ (p l : Addr) (xs : List V), vs = [.ref p, .ref l] ∧ Pot H p ∧ l ≠ p ∧ H l = some (.lst xs) ∧ 1 ≤ xs.length ∧ xs.length ≤ 1000 ∧ ∀ H' x, SameX p H H' → Pot H' p → x ∈ xs → Q x H'
theorem ok_law_pick (T : Txt K mg) : FnOk P w K mg base CX0 2 T.a_law_pick T.d_law_pick ["_law_pot_here", "_law_some"] sp_law_pick := by
  refine T.f_law_pick.ok sc_law_pick (fun vs H Q E h => ?_) (fun cdv A outer s H vs Q E hr h => ?_)
  · obtain ⟨p, l, xs, rfl, _⟩ := h
    rfl
  · obtain ⟨p, l, xs, rfl, hp, hlp, hl, h1, h2, q⟩ := h
    refine ⟨_, (pss_one (ps_ret (pe_ix (ix_listK K) (pv 1) (pe_call (ok_law_draw T) (hr.mono (by decide)) (by rfl) T.g_law_draw T.f_law_draw.kp T.b_law_draw .nil pass0 (pa_cons (pv 0) (pa_cons (pe_callB (cr_lenK K) (by rfl) T.z_len (by decide +kernel) (pa_cons (pv 1) pa_nil)) pa_nil))) (fun _ _ => rfl)))), ?_⟩
    refine ⟨_, rfl, _, rfl, _, rfl, l, _, rfl, .inl (SqL.of hl), p, _, rfl, hp, by omega, by omega, fun H1 d e1 hp1 d0 d1 => ?_⟩
    have hd : d.toNat < xs.length := by omega
    have hat : atI xs d = some (xs[d.toNat]'hd) := by
      unfold atI
      rw [ixN_of d0 (by omega)]
      exact List.getElem?_eq_getElem hd
    exact ⟨l, xs, d, _, rfl, rfl, SqL.of (e1 _ _ hlp hl), hat, q _ _ e1 hp1 (List.getElem_mem hd)⟩
/-! ### mixing -/
theorem SameX.mut {f L : Addr} {H H' : Hp} {o : HO} (a : SameX f H H') (n : H L = none) : SameX f H (upd H' L o) := fun b x h1 h2 => by
  rw [upd_ne (ne_of_none h2 n)]
  exact a b x h1 h2
theorem eraseIdx_map : ∀ (l : List Int) (i : Nat), (l.map V.int).eraseIdx i = (l.eraseIdx i).map V.int
  | [], _ => rfl
  | _ :: _, 0 => rfl
  | x :: r, i + 1 => by
    show V.int x :: (r.map V.int).eraseIdx i = _
    rw [eraseIdx_map r i]
    rfl
theorem picks_mem {α : Type} : ∀ {l : List α} {i : Nat} {x : α}, l[i]? = some x → (x, l.eraseIdx i) ∈ picks l
  | [], _, _, h => by simp at h
  | y :: r, 0, x, h => by
    have e : y = x := by simpa using h
    subst e
    exact List.mem_cons_self
  | y :: r, i + 1, x, h => by
    have ih := picks_mem (l := r) (i := i) (x := x) (by simpa using h)
    exact List.mem_cons_of_mem _ (List.mem_map.mpr ⟨_, ih, rfl⟩)
theorem perms_step {α : Type} {l : List α} {i n : Nat} {x : α} {w : List α} (h : l[i]? = some x) (hw : w ∈ perms n (l.eraseIdx i)) : x :: w ∈ perms (n + 1) l :=
  List.mem_flatMap.mpr ⟨_, picks_mem h, List.mem_map.mpr ⟨_, hw, rfl⟩⟩
theorem pot_ne {H : Hp} {p a : Addr} (hp : Pot H p) (h : H a = none) : a ≠ p := by
  obtain ⟨x, y, e, _⟩ := hp
  exact (ne_of_none e h).symm
theorem Pot.same {H H' : Hp} {p : Addr} (hp : Pot H p) (e : Same H H') : Pot H' p := by
  obtain ⟨x, y, h, r⟩ := hp
  exact ⟨x, y, e _ _ h, r⟩
theorem Pot.put {H : Hp} {p a : Addr} {o : HO} (hp : Pot H p) (n : a ≠ p) : Pot (upd H a o) p := by
  obtain ⟨x, y, h, r⟩ := hp
  exact ⟨x, y, by rw [upd_ne n.symm]; exact h, r⟩
def sp_law_mixed : Sp := fun vs H Q _ => ∃ (p l : Addr) (ns : List Int), vs = [.ref p, .ref l] ∧ Pot H p ∧ l ≠ p ∧ H l = some (.lst (ns.map V.int)) ∧ ns.length ≤ 1000 ∧
  ∀ H' f w, SameX p H H' → H f = none → f ≠ p → Pot H' p → w ∈ perms ns.length ns → H' f = some (.lst (w.map V.int)) → Q (.ref f) H'
theorem ok_law_mixed (T : Txt K mg) : FnOk P w K mg base CX0 2 T.a_law_mixed T.d_law_mixed ["_law_pot_here", "_law_some"] sp_law_mixed := by
  refine T.f_law_mixed.ok sc_law_mixed (fun vs H Q E h => ?_) (fun cdv A outer s H vs Q E hr h => ?_)
  · obtain ⟨p, l, ns, rfl, _⟩ := h
    rfl
  · obtain ⟨p, l, ns, rfl, hp, hlp, hl, h9, q⟩ := h
    refine ⟨_, (pss_cons (ps_par (i := 2) (j := 3) (by rfl) sc_law_mixed.nd rfl rfl (by decide) rfl rfl (pa_cons (pe_callTy (cr_listK K) (by rfl) T.z_list (by decide +kernel) (pa_cons (pv 1) pa_nil)) (pa_cons (pe_lst pa_nil) pa_nil)) (by rfl))
      (pss_cons (ps_for PassesOwn.never rfl (pi_range1 (by rfl) T.z_range (pa_cons (pe_callB (cr_lenK K) (by rfl) T.z_len (by decide +kernel) (pa_cons (pv 1) pa_nil)) pa_nil)) (pg_name (i := 4) sc_law_mixed.nd rfl (.inl rfl)) (pss_one (ps_expr (pe_bmK K PySem.F.plainAttrs_list PySem.F.slot_list_append PySem.F.type_list_append mt_append (pv 3) (pa_cons (pe_bmK K PySem.F.plainAttrs_list PySem.F.slot_list_pop PySem.F.type_list_pop mt_popAt (pv 2) (pa_cons (pe_call (ok_law_draw T) (hr.mono (by decide)) (by rfl) T.g_law_draw T.f_law_draw.kp T.b_law_draw .nil pass0 (pa_cons (pv 0) (pa_cons (pe_callB (cr_lenK K) (by rfl) T.z_len (by decide +kernel) (pa_cons (pv 2) pa_nil)) pa_nil))) pa_nil)) pa_nil)))))
      (pss_one (ps_ret (pv 3))))), ?_⟩
    refine ⟨_, rfl, l, _, rfl, .inl (SqL.of hl), fun L nL => ⟨sz_ok (by decide), fun f nf => ⟨_, _, rfl, ?_⟩⟩⟩
    have e1 : Same H (upd H L (.lst (ns.map V.int))) := same_new nL
    have e2 := same_new (o := .lst []) nf
    have hfL : f ≠ L := (ne_of_none upd_same nf).symm
    have nf0 : H f = none := e1.free nf
    have hf2 : (upd (upd H L (.lst (ns.map V.int))) f (.lst [])) f = some (.lst []) := upd_same
    have hL2 : (upd (upd H L (.lst (ns.map V.int))) f (.lst [])) L = some (.lst (ns.map V.int)) := e2 _ _ upd_same
    have e12 := e1.trans e2
    generalize (upd (upd H L (.lst (ns.map V.int))) f (.lst [])) = H2 at e12 hf2 hL2
    have hLp := pot_ne hp nL
    have hfp := pot_ne hp nf0
    refine ⟨_, rfl, l, _, rfl, .inl (SqL.of (e12 _ _ hl)), _, rfl, by simp only [List.length_map]; omega, by simp only [List.length_map]; omega, ?_⟩
    refine for_it walk_range (fun i σ H' => ∃ (left found : List Int) (y4 : Option V), σ = [some (.ref p), some (.ref l), some (.ref L), some (.ref f), y4] ∧ SameX p H H' ∧ Pot H' p ∧
      H' L = some (.lst (left.map V.int)) ∧ H' f = some (.lst (found.map V.int)) ∧ left.length + i = ns.length ∧ found.length = i ∧ ∀ w' ∈ perms left.length left, found ++ w' ∈ perms ns.length ns)
      ⟨ns, [], none, rfl, .of e12, hp.same e12, hL2, hf2, rfl, rfl, fun w' hw => hw⟩
      (fun _ _ _ _ _ => trivial) (fun i x σ H4 H5 hi h hy => ?_) (fun σ H' h => ?_)
    · obtain ⟨left, found, y4, rfl, e4, hp4, hL4, hf4, hlen, hfl, hw⟩ := h
      obtain ⟨rfl, rfl⟩ := hy
      have hi' : i < ns.length := by simpa using hi
      refine ⟨_, rfl, .inl ⟨rfl, _, SqL.of hf4⟩, _, rfl, .inl ⟨rfl, _, SqL.of hL4⟩, _, rfl, _, rfl, L, _, rfl, .inl (SqL.of hL4), p, _, rfl, hp4, by simp only [List.length_map]; omega, by simp only [List.length_map]; omega, fun H6 d e6 hp6 d0 d1 => ?_⟩
      rw [List.length_map] at d1
      have hd : d.toNat < left.length := by omega
      have hix := ixN_seq (ixN_of d0 d1)
      have hat : left[d.toNat]? = some (left[d.toNat]'hd) := List.getElem?_eq_getElem hd
      generalize left[d.toNat]'hd = t at hat
      have hL6 := e6 _ _ hLp hL4
      have hf6 := e6 _ _ hfp hf4
      refine ⟨L, _, d, d.toNat, .int t, rfl, rfl, hL6, by omega, by omega, by rw [List.length_map]; exact hix.1, by rw [List.getElem?_map, hat]; rfl, ?_⟩
      have hf7 : (upd H6 L (.lst ((left.map V.int).eraseIdx d.toNat))) f = some (.lst (found.map V.int)) := by
        rw [upd_ne hfL]
        exact hf6
      refine ⟨f, _, _, rfl, rfl, hf7, sz_lt (by rw [List.length_map]; omega), ?_⟩
      have hel : (left.eraseIdx d.toNat).length + 1 = left.length := by
        rw [List.length_eraseIdx, if_pos hd]
        omega
      refine ⟨left.eraseIdx d.toNat, found ++ [t], _, rfl, ((e4.trans e6).mut nL).mut nf0, (hp6.put hLp).put hfp, ?_, ?_, by omega, by simp [hfl], fun w' hw' => ?_⟩
      · rw [upd_ne hfL.symm, upd_same]
        congr 2
        exact eraseIdx_map left d.toNat
      · rw [upd_same, List.map_append]
        rfl
      · rw [List.append_assoc]
        refine hw _ ?_
        rw [← hel]
        exact perms_step hat hw'
    · obtain ⟨left, found, y4, rfl, e4, hp4, hL4, hf4, hlen, hfl, hw⟩ := h
      have h0 : left = [] := by
        have : left.length = 0 := by
          simp only [List.length_map, Int.toNat_natCast] at hlen
          omega
        exact List.length_eq_zero_iff.mp this
      subst h0
      have hw0 := hw [] (by simp [perms])
      rw [List.append_nil] at hw0
      exact ⟨_, rfl, q _ f found e4 nf0 hfp hp4 hw0 hf4⟩
/-! ### an order -/
theorem two {c : Bool} {A B C : Prop} (h : C) (f : c = true → C → A) (g : c = false → C → B) : if c = true then A else B := by
  cases c with
  | true =>
    rw [if_pos rfl]
    exact f rfl h
  | false => exact iteF (g rfl h)
theorem order_up {n : Nat} (h1 : 1 ≤ n) (h2 : n ≤ 5) : rg 1 ((n : Int) + 1) ∈ orders n := by
  have : ∀ n ∈ [1, 2, 3, 4, 5], rg 1 (((n : Nat) : Int) + 1) ∈ orders n := by decide +kernel
  exact this n (by simp; omega)
theorem order_down {n : Nat} (h1 : 1 ≤ n) (h2 : n ≤ 5) : (rg 1 ((n : Int) + 1)).reverse ∈ orders n := by
  have : ∀ n ∈ [1, 2, 3, 4, 5], (rg 1 (((n : Nat) : Int) + 1)).reverse ∈ orders n := by decide +kernel
  exact this n (by simp; omega)
theorem rgD_rev {n : Nat} (h1 : 1 ≤ n) (h2 : n ≤ 5) : rgD (n : Int) ((n : Int) - 0).toNat = ((rg 1 ((n : Int) + 1)).reverse).map V.int := by
  have : ∀ n ∈ [1, 2, 3, 4, 5], rgD ((n : Nat) : Int) (((n : Nat) : Int) - 0).toNat = ((rg 1 (((n : Nat) : Int) + 1)).reverse).map V.int := by decide +kernel
  exact this n (by simp; omega)
def sp_law_order : Sp := fun vs H Q _ => ∃ (p : Addr) (n : Nat), vs = [.ref p, .int (n : Int)] ∧ Pot H p ∧ 1 ≤ n ∧ n ≤ 5 ∧
  ∀ H' v w, SameX p H H' → Pot H' p → w ∈ orders n → Tup H' v w → Q v H'
theorem ok_law_order (T : Txt K mg) : FnOk P w K mg base CX0 3 T.a_law_order T.d_law_order ["_law_pot_here", "_law_size"] sp_law_order := by
  refine T.f_law_order.ok sc_law_order (fun vs H Q E h => ?_) (fun cdv A outer s H vs Q E hr h => ?_)
  · obtain ⟨p, n, rfl, _⟩ := h
    rfl
  · obtain ⟨p, n, rfl, hp, h1, h5, q⟩ := h
    refine ⟨_, (pss_cons (ps_set (i := 2) sc_law_order.nd rfl (.inl rfl) (pe_call (ok_law_draw T) (hr.mono (by decide)) (by rfl) T.g_law_draw T.f_law_draw.kp T.b_law_draw .nil pass0 (pa_cons (pv 0) (pa_cons pe_int pa_nil))))
      (pss_cons (ps_if (pt_cmpR op_eq (pv 2) pe_int (nomark _)) (pss_one (ps_ret (pe_tupRgF rfl (by rfl) T.z_tuple (prg_2 (by rfl) T.z_range pe_int (pe_op op_add (pv 1) pe_int))))) pss_nil)
      (pss_cons (ps_if (pt_cmpR op_eq (pv 2) pe_int (nomark _)) (pss_one (ps_ret (pe_tupDownF rfl (by rfl) T.z_tuple (by rfl) T.z_range (pa_cons (pv 1) (pa_cons pe_int (pa_cons (pe_un un_neg pe_int) pa_nil)))))) pss_nil)
      (pss_cons (ps_if (PW.pt (pw_and (pt_cmpR op_lt (pv 2) pe_int (nomark _)) (pw_and1 (pt_cmpR op_eq (pv 1) pe_int (nomark _))))) (pss_one (ps_ret (pe_call (ok_law_pick T) (hr.mono (by decide)) (by rfl) T.g_law_pick T.f_law_pick.kp T.b_law_pick .nil pass0 (pa_cons (pv 0) (pa_cons (pe_lst (pa_cons (pe_tupF (pa_cons pe_int (pa_cons pe_int (pa_cons pe_int (pa_cons pe_int pa_nil))))) (pa_cons (pe_tupF (pa_cons pe_int (pa_cons pe_int (pa_cons pe_int (pa_cons pe_int pa_nil))))) pa_nil))) pa_nil))))) pss_nil)
      (pss_cons (ps_if (PW.pt (pw_and (pt_cmpR op_lt (pv 2) pe_int (nomark _)) (pw_and1 (pt_cmpR op_eq (pv 1) pe_int (nomark _))))) (pss_one (ps_ret (pe_call (ok_law_pick T) (hr.mono (by decide)) (by rfl) T.g_law_pick T.f_law_pick.kp T.b_law_pick .nil pass0 (pa_cons (pv 0) (pa_cons (pe_lst (pa_cons (pe_tupF (pa_cons pe_int (pa_cons pe_int (pa_cons pe_int (pa_cons pe_int (pa_cons pe_int pa_nil)))))) (pa_cons (pe_tupF (pa_cons pe_int (pa_cons pe_int (pa_cons pe_int (pa_cons pe_int (pa_cons pe_int pa_nil)))))) (pa_cons (pe_tupF (pa_cons pe_int (pa_cons pe_int (pa_cons pe_int (pa_cons pe_int (pa_cons pe_int pa_nil)))))) (pa_cons (pe_tupF (pa_cons pe_int (pa_cons pe_int (pa_cons pe_int (pa_cons pe_int (pa_cons pe_int pa_nil)))))) pa_nil))))) pa_nil))))) pss_nil)
      (pss_one (ps_ret (pe_callTy (cr_tupF K) (by rfl) T.z_tuple (by decide +kernel) (pa_cons (pe_call (ok_law_mixed T) (hr.mono (by decide)) (by rfl) T.g_law_mixed T.f_law_mixed.kp T.b_law_mixed .nil pass0 (pa_cons (pv 0) (pa_cons (pe_listRg rfl (by rfl) T.z_list (prg_2 (by rfl) T.z_range pe_int (pe_op op_add (pv 1) pe_int))) pa_nil))) pa_nil))))))))), ?_⟩
    refine ⟨_, rfl, p, 9, rfl, hp, by decide, by decide, fun H1 d e1 hp1 d0 d1 => ?_⟩
    refine ⟨_, rfl, rfl, _, rfl, ite2 (fun h => ?_) (fun h => ?_)⟩
    · refine ⟨_, rfl, _, _, rfl, rfl, _, _, rfl, rfl, rgOk (by decide) (by decide) (by omega) (by omega), fun t H2 nt e2 hF => ?_⟩
      rw [rgV_rg] at hF
      exact q H2 _ _ (e1.then e2) (hp1.same e2) (order_up h1 h5) ⟨t, rfl, hF⟩
    · refine ⟨_, rfl, rfl, _, rfl, ite2 (fun h => ?_) (fun h => ?_)⟩
      · refine ⟨_, rfl, _, rfl, _, _, rfl, by omega, fun t H2 nt e2 hF => ?_⟩
        rw [rgD_rev h1 h5] at hF
        exact q H2 _ _ (e1.then e2) (hp1.same e2) (order_down h1 h5) ⟨t, rfl, hF⟩
      · by_cases hA : d < 4 ∧ n = 4
        · obtain ⟨hA1, rfl⟩ := hA
          refine ⟨_, rfl, _, _, rfl, rfl, _, rfl, iteDT hA1 ⟨_, rfl, rfl, _, rfl, iteDT rfl ?_⟩⟩
          refine ⟨_, rfl, sz_ok (by show 4 ≤ 100000; decide), fun t1 H2 n1 e2 f1 => ⟨sz_ok (by show 4 ≤ 100000; decide), fun t2 H3 n2 e3 f2 => ⟨sz_ok (by show 2 ≤ 100000; decide), fun l nl => ?_⟩⟩⟩
          have e4 := same_new (o := .lst [.ref t1, .ref t2]) nl
          have e14 := (e2.trans e3).trans e4
          refine ⟨p, l, _, rfl, hp1.same e14, pot_ne ((hp1.same e2).same e3) nl, upd_same, by show 1 ≤ 2; decide, by show 2 ≤ 1000; decide, fun H' x e5 hp5 hx => ?_⟩
          obtain ⟨_, _, hp4, _⟩ := hp1.same e14
          rcases List.mem_cons.mp hx with rfl | hx
          · exact q H' _ [4, 2, 3, 1] ((e1.then e14).trans e5) hp5 (by decide +kernel) (e5.tup hp4 ⟨t1, rfl, (f1.mono e3).mono e4⟩)
          · rcases List.mem_singleton.mp hx with rfl
            exact q H' _ [3, 4, 1, 2] ((e1.then e14).trans e5) hp5 (by decide +kernel) (e5.tup hp4 ⟨t2, rfl, f2.mono e4⟩)
        · refine ⟨_, rfl, _, _, rfl, rfl, _, rfl, two ?_ (fun h1 z => ⟨_, rfl, rfl, _, rfl, iteDF (fun z2 => hA ⟨of_decide_eq_true h1, by injection z2 with z2; omega⟩) z⟩) (fun _ z => iteF z)⟩
          by_cases hB : d < 4 ∧ n = 5
          · obtain ⟨hB1, rfl⟩ := hB
            refine ⟨_, rfl, _, _, rfl, rfl, _, rfl, iteDT hB1 ⟨_, rfl, rfl, _, rfl, iteDT rfl ?_⟩⟩
            refine ⟨_, rfl, sz_ok (by show 5 ≤ 100000; decide), fun t1 H2 n1 e2 f1 => ⟨sz_ok (by show 5 ≤ 100000; decide), fun t2 H3 n2 e3 f2 => ⟨sz_ok (by show 5 ≤ 100000; decide), fun t3 H4 n3 e4 f3 =>
              ⟨sz_ok (by show 5 ≤ 100000; decide), fun t4 H5 n4 e5 f4 => ⟨sz_ok (by show 4 ≤ 100000; decide), fun l nl => ?_⟩⟩⟩⟩⟩
            have e6 := same_new (o := .lst [.ref t1, .ref t2, .ref t3, .ref t4]) nl
            have e16 := (((e2.trans e3).trans e4).trans e5).trans e6
            refine ⟨p, l, _, rfl, hp1.same e16, pot_ne ((((hp1.same e2).same e3).same e4).same e5) nl, upd_same, by show 1 ≤ 4; decide, by show 4 ≤ 1000; decide, fun H' x e7 hp7 hx => ?_⟩
            obtain ⟨_, _, hp6, _⟩ := hp1.same e16
            rcases List.mem_cons.mp hx with rfl | hx
            · exact q H' _ [3, 5, 1, 4, 2] ((e1.then e16).trans e7) hp7 (by decide +kernel) (e7.tup hp6 ⟨t1, rfl, (((f1.mono e3).mono e4).mono e5).mono e6⟩)
            rcases List.mem_cons.mp hx with rfl | hx
            · exact q H' _ [4, 2, 5, 1, 3] ((e1.then e16).trans e7) hp7 (by decide +kernel) (e7.tup hp6 ⟨t2, rfl, ((f2.mono e4).mono e5).mono e6⟩)
            rcases List.mem_cons.mp hx with rfl | hx
            · exact q H' _ [4, 5, 3, 1, 2] ((e1.then e16).trans e7) hp7 (by decide +kernel) (e7.tup hp6 ⟨t3, rfl, (f3.mono e5).mono e6⟩)
            · rcases List.mem_singleton.mp hx with rfl
              exact q H' _ [5, 2, 3, 4, 1] ((e1.then e16).trans e7) hp7 (by decide +kernel) (e7.tup hp6 ⟨t4, rfl, f4.mono e6⟩)
          · refine ⟨_, rfl, _, _, rfl, rfl, _, rfl, two ?_ (fun h1 z => ⟨_, rfl, rfl, _, rfl, iteDF (fun z2 => hB ⟨of_decide_eq_true h1, by injection z2 with z2; omega⟩) z⟩) (fun _ z => iteF z)⟩
            refine ⟨_, rfl, _, rfl, _, _, rfl, rfl, _, _, rfl, rfl, rgOk (by decide) (by decide) (by omega) (by omega), fun l nl => ?_⟩
            have e2 := same_new (o := .lst (rgV 1 ((n : Int) + 1))) nl
            have hl2 : (upd H1 l (.lst (rgV 1 ((n : Int) + 1)))) l = some (.lst ((rg 1 ((n : Int) + 1)).map V.int)) := by
              rw [upd_same, rgV_rg]
            have hrl : (rg 1 ((n : Int) + 1)).length = n := by
              rw [rg_len]
              omega
            refine ⟨p, l, _, rfl, hp1.same e2, pot_ne hp1 nl, hl2, by omega, fun H3 f w e3 nf hfp hp3 hw hf => ?_⟩
            rw [hrl] at hw
            exact ⟨f, _, rfl, .inl ⟨SqL.of hf, fun t H4 nt e4 hF => q H4 _ w (((e1.then e2).trans e3).then e4) (hp3.same e4) hw ⟨t, rfl, hF⟩⟩⟩
def sp_law_as : Sp := fun vs H Q _ => ∃ (p : Addr) (v : V) (ns : List Int), vs = [.ref p, v] ∧ Pot H p ∧ Tup H v ns ∧
  ∀ H' u, SameX p H H' → Pot H' p → (Ord H' u ns ∧ ∀ a, u = .ref a → a ≠ p) → Q u H'
theorem ok_law_as (T : Txt K mg) : FnOk P w K mg base CX0 2 T.a_law_as T.d_law_as ["_law_pot_here", "_law_order_here"] sp_law_as := by
  refine T.f_law_as.ok sc_law_as (fun vs H Q E h => ?_) (fun cdv A outer s H vs Q E hr h => ?_)
  · obtain ⟨p, v, ns, rfl, _⟩ := h
    rfl
  · obtain ⟨p, v, ns, rfl, hp, ⟨a, rfl, ha⟩, q⟩ := h
    refine ⟨_, (pss_one (ps_ret (pe_ifExp (pt_cmpR op_eq (pe_call (ok_law_draw T) (hr.mono (by decide)) (by rfl) T.g_law_draw T.f_law_draw.kp T.b_law_draw .nil pass0 (pa_cons (pv 0) (pa_cons pe_int pa_nil))) pe_int (nomark _)) (pe_callTy (cr_listK K) (by rfl) T.z_list (by decide +kernel) (pa_cons (pv 1) pa_nil)) (pv 1)))), ?_⟩
    refine ⟨_, rfl, p, 2, rfl, hp, by decide, by decide, fun H1 d e1 hp1 d0 d1 => ?_⟩
    obtain ⟨x, y, hpp, _⟩ := id hp
    have ha1 := e1.ft hpp ha
    refine ⟨rfl, _, rfl, ite2 (fun h => ?_) (fun h => ?_)⟩
    · refine ⟨_, rfl, a, _, rfl, .inr ha1.sq, fun l nl => ?_⟩
      refine q _ _ (e1.then (same_new nl)) (hp1.same (same_new nl)) ⟨.inr ⟨l, rfl, upd_same⟩, fun b hb => ?_⟩
      cases hb
      exact pot_ne hp1 nl
    · refine ⟨_, rfl, q _ _ e1 hp1 ⟨.inl ⟨a, rfl, ha1⟩, fun b hb => ?_⟩⟩
      cases hb
      exact (ha.ne hpp)
end
end Bd

namespace Bd
open PySem PySem.Spec PyProof.Rows L2 Gp Mir
section
variable {P : Program} {w : World} {K : PySem.W.Frag} {mg : Str → Option Value} {base : Heap}
/-! ### all orders of some things -/
theorem filter_lt {l : List Int} {t : Int} (h : t ∈ l) : (l.filter fun o => o != t).length < l.length := by
  have h1 := List.length_filter_le (fun o => o != t) l
  rcases Nat.lt_or_eq_of_le h1 with h2 | h2
  · exact h2
  · have h3 := List.length_filter_eq_length_iff.mp h2 t h
    simp at h3
theorem all_nil : ∀ f : Nat, all f [] = [[]]
  | 0 => rfl
  | f + 1 => if_pos rfl
theorem flat_congr {α β : Type} {g g' : α → List β} {l : List α} (h : ∀ t ∈ l, g t = g' t) : l.flatMap g = l.flatMap g' := by
  rw [List.flatMap_def, List.flatMap_def, List.map_congr_left h]
theorem all_fuel : ∀ (f g : Nat) (l : List Int), l.length ≤ f → l.length ≤ g → all f l = all g l
  | 0, g, l, h, _ => by
    have e : l = [] := List.length_eq_zero_iff.mp (by omega)
    subst e
    rw [all_nil, all_nil]
  | f + 1, 0, l, _, h => by
    have e : l = [] := List.length_eq_zero_iff.mp (by omega)
    subst e
    rw [all_nil, all_nil]
  | f + 1, g + 1, l, h1, h2 => by
    unfold all
    split
    · rfl
    · refine flat_congr fun t ht => ?_
      have := filter_lt ht
      rw [all_fuel f g _ (by omega) (by omega)]
theorem flat_bd {α β : Type} {g : α → List β} {B : Nat} : ∀ (l : List α), (∀ t ∈ l, (g t).length ≤ B) → (l.flatMap g).length ≤ l.length * B
  | [], _ => by simp
  | x :: r, h => by
    have h1 := h x List.mem_cons_self
    have h2 := flat_bd r fun t ht => h t (List.mem_cons_of_mem _ ht)
    rw [List.flatMap_cons, List.length_append, List.length_cons, Nat.succ_mul]
    omega
theorem all_len : ∀ (f : Nat) (l : List Int), l.length ≤ 4 → (all f l).length ≤ 4 ^ f
  | 0, _, _ => by
    show 1 ≤ 1
    omega
  | f + 1, l, h => by
    unfold all
    split
    · exact Nat.pos_of_ne_zero (by simp)
    · have h1 := flat_bd (g := fun t => (all f (l.filter fun o => o != t)).map (t :: ·)) (B := 4 ^ f) l fun t ht => by
        rw [List.length_map]
        exact all_len f _ (by have := filter_lt ht; omega)
      rw [Nat.pow_succ]
      have h2 := Nat.mul_le_mul_right (4 ^ f) h
      omega
theorem all_item_len : ∀ (f : Nat) (l z : List Int), f ≤ 1000 → z ∈ all f l → z.length ≤ f
  | 0, _, z, _, h => by
    have e : z = [] := List.mem_singleton.mp h
    subst e
    exact Nat.le_refl _
  | f + 1, l, z, hf, h => by
    unfold all at h
    split at h
    · have e : z = [] := List.mem_singleton.mp h
      subst e
      exact Nat.zero_le _
    · obtain ⟨t, _, h⟩ := List.mem_flatMap.mp h
      obtain ⟨r, hr, rfl⟩ := List.mem_map.mp h
      have := all_item_len f _ r (by omega) hr
      simp only [List.length_cons]
      omega
theorem all_step {l : List Int} {t : Int} (ht : t ∈ l) : all (l.filter fun o => o != t).length (l.filter fun o => o != t) = all (l.length - 1) (l.filter fun o => o != t) := by
  have := filter_lt ht
  exact all_fuel _ _ _ (Nat.le_refl _) (by omega)
theorem all_cons {l : List Int} (h : l ≠ []) : all l.length l = l.flatMap fun t => (all (l.length - 1) (l.filter fun o => o != t)).map (t :: ·) := by
  cases l with
  | nil => exact absurd rfl h
  | cons x r => exact if_neg h
theorem flat_step {α β : Type} (g : α → List β) {l : List α} {i : Nat} {t : α} (h : l[i]? = some t) : (l.take (i + 1)).flatMap g = (l.take i).flatMap g ++ g t := by
  rw [List.take_add_one, h, List.flatMap_append]
  congr 1
  show List.flatMap g [t] = g t
  simp
def sp_law_all (n : Nat) : Sp := fun vs H Q _ => ∃ (l : Addr) (ns : List Int), vs = [.ref l] ∧ H l = some (.lst (ns.map V.int)) ∧ ns.length < n ∧ n ≤ 5 ∧
  ∀ H' p ys, Same H H' → H p = none → H' p = some (.lst ys) → Tups H' ys (all ns.length ns) → Q (.ref p) H'
theorem ok_law_all (T : Txt K mg) : ∀ n, FnOk P w K mg base CX0 n T.a_law_all T.d_law_all ["_law_things"] (sp_law_all n)
  | 0 => ⟨fun vs H Q E h => by
      obtain ⟨_, _, _, _, h, _⟩ := h
      omega, fun A outer s H args us vs Q E _ _ _ _ h => by
      obtain ⟨_, _, _, _, h, _⟩ := h
      omega⟩
  | n + 1 => by
    have ih := ok_law_all T n
    refine T.f_law_all.ok sc_law_all (fun vs H Q E h => ?_) (fun cdv A outer s H vs Q E hr h => ?_)
    · obtain ⟨l, ns, rfl, _⟩ := h
      rfl
    · obtain ⟨l, ns, rfl, hl, hn, h5, q⟩ := h
      refine ⟨_, (pss_cons (ps_if (pt_cmpR (op_eqDK K hr.units) (pv 0) (pe_lst pa_nil) (nomark _)) (pss_one (ps_ret (pe_lst (pa_cons (pe_tupF pa_nil) pa_nil)))) pss_nil)
      (pss_cons (ps_set (i := 1) sc_law_all.nd rfl (.inl rfl) (pe_lst pa_nil))
      (pss_cons (ps_for PassesOwn.never rfl (pi_listK K (pv 0)) (pg_name (i := 2) sc_law_all.nd rfl (.inr rfl)) (pss_one (ps_expr (pe_bmK K PySem.F.plainAttrs_list PySem.F.slot_list_extend PySem.F.type_list_extend mt_extend (pv 1) (pa_cons (pe_lc (own := [("_law_rest", 3)]) rfl sc_law_all.nd (pi_listK K (pe_call ih (hr.mono (Nat.le_refl _)) (by rfl) T.g_law_all T.f_law_all.kp T.b_law_all .nil pass0 (pa_cons (pe_lc (own := [("_law_other", 4)]) rfl sc_law_all.nd (pi_listK K (pv 0)) (blkOk_by (N := N_law_all) (sc := (defScope s_law_all)) (own := [("_law_other", 4)]) (by decide +kernel)) (fun _ _ _ _ _ => (pg_name (i := 4) sc_law_all.nd rfl (.inl rfl))) (fun _ _ _ _ _ => pts_one (pt_cmpR op_ne (pv 4) (pv 2) (nomark _))) (fun _ _ _ _ _ => (pv 4))) pa_nil))) (blkOk_by (N := N_law_all) (sc := (defScope s_law_all)) (own := [("_law_rest", 3)]) (by decide +kernel)) (fun _ _ _ _ _ => (pg_name (i := 3) sc_law_all.nd rfl (.inl rfl))) (fun _ _ _ _ _ => pts_nil) (fun _ _ _ _ _ => (pe_op (op_catF K) (pe_tupF (pa_cons (pv 2) pa_nil)) (pv 3)))) pa_nil)))))
      (pss_one (ps_ret (pv 1)))))), ?_⟩
      refine ⟨_, rfl, sz_ok (by decide), fun e ne => ?_⟩
      have e1 : Same H (upd H e (.lst [])) := same_new ne
      refine ⟨lstD ns, lstD [], dpLst (e1 _ _ hl), dpLst upd_same, shaped_lst _, shaped_lst _, _, rfl, ?_⟩
      rw [eqv_lst]
      generalize (upd H e (.lst [])) = H1 at e1
      refine ite2 (fun h => ?_) (fun h => ?_)
      · have h : ns = [] := by simpa using h
        subst h
        refine ⟨sz_ok (by decide), fun t H2 nt e2 f2 => ⟨sz_ok (by show 1 ≤ 100000; decide), fun z nz => ?_⟩⟩
        exact q _ z _ ((e1.trans e2).trans (same_new nz)) ((e1.trans e2).free nz) upd_same (.cons ⟨t, rfl, f2.mono (same_new nz)⟩ .nil)
      · have hne : ns ≠ [] := fun z => h (by rw [z]; rfl)
        refine ⟨sz_ok (by decide), fun f nf => ?_⟩
        have e2 : Same H1 (upd H1 f (.lst [])) := same_new nf
        have hf2 : (upd H1 f (.lst [])) f = some (.lst []) := upd_same
        generalize (upd H1 f (.lst [])) = H2 at e2 hf2
        have e12 := e1.trans e2
        have nf0 : H f = none := e1.free nf
        have hl2 := e12 _ _ hl
        have hlf : l ≠ f := ne_of_none hl nf0
        refine ⟨_, rfl, l, rfl, ⟨_, SqL.of hl2⟩, ?_⟩
        refine for_it (walk_list (xs := ns.map V.int)) (fun i σ H' => ∃ (fs : List V) (y2 : Option V),
          σ = [some (.ref l), some (.ref f), y2, none, none] ∧ SameX f H2 H' ∧ H' f = some (.lst fs) ∧
          Tups H' fs ((ns.take i).flatMap fun t => (all (ns.length - 1) (ns.filter fun o => o != t)).map (t :: ·)))
          ⟨[], none, rfl, .refl, hf2, .nil⟩
          (fun i σ H' _ h => ?_) (fun i x σ H4 H5 hi h hy => ?_) (fun σ H' h => ?_)
        · obtain ⟨fs, y2, _, e, _⟩ := h
          exact SqL.of (e _ _ hlf hl2)
        · obtain ⟨fs, y2, rfl, e4, hf4, ht4⟩ := h
          obtain ⟨t, rfl, rfl, ht⟩ := yat_ints hy
          have htm : t ∈ ns := List.mem_of_getElem? ht
          have hlt := filter_lt htm
          have hl5 := e4 _ _ hlf hl2
          refine ⟨_, rfl, .inl ⟨rfl, _, SqL.of hf4⟩, _, rfl, l, rfl, ⟨_, SqL.of hl5⟩, ?_⟩
          refine lc_v walk_list ns (by rw [List.length_map]) (by omega) (fun o => if (o != t) = true then some (.int o) else none) (fun H' e => same_lst hl5 e)
            (fun j z y H6 H7 hz e hy K0 Kx k0 k1 => ?_) (fun D H6 hD e hlD => ?_)
          · obtain ⟨z', rfl, rfl, hz'⟩ := yat_ints hy
            have q1 := Option.some.inj (hz.symm.trans hz')
            subst q1
            refine ⟨rfl, _, rfl, _, rfl, rfl, _, rfl, ?_⟩
            have e9 : (!decide (V.int z = V.int t)) = (z != t) := by
              by_cases hz : z = t
              · subst hz
                simp
              · have : ¬ (V.int z = V.int t) := fun e => hz (by injection e)
                simp [hz]
            rw [e9]
            exact ite2 (fun h => ⟨_, rfl, k1 _ _ (.refl _) (if_pos h)⟩) fun h => k0 _ (.refl _) (if_neg h)
          · rw [filterMap_ite (fun o => o != t) V.int] at hlD
            refine ⟨D, _, rfl, hlD, by omega, by omega, fun H7 p ys e7 np hp hT => ⟨p, rfl, ⟨ys, SqL.of hp⟩, ?_⟩⟩
            rw [all_step htm] at hT
            have hal := all_len (ns.length - 1) (ns.filter fun o => o != t) (by omega)
            have hal2 : (all (ns.length - 1) (ns.filter fun o => o != t)).length ≤ 256 := Nat.le_trans hal (Nat.le_trans (Nat.pow_le_pow_right (by decide) (show ns.length - 1 ≤ 4 by omega)) (by decide))
            refine lc_t walk_list (all (ns.length - 1) (ns.filter fun o => o != t)) (Paired.length hT).symm (by omega) (fun r => some (t :: r)) (fun H' e => same_lst hp e)
              (fun j z y H8 H9 hz e8 hy K0 Kx k0 k1 => ?_) (fun D2 zs H8 hD2 e8 hl2 hT8 => ?_)
            · obtain ⟨rfl, hy⟩ := hy
              obtain ⟨z', hz', hTz⟩ := tups_at hT hy
              have q1 := Option.some.inj (hz.symm.trans hz')
              subst q1
              obtain ⟨b, rfl, hb⟩ := hTz.mono e8
              refine ⟨rfl, _, rfl, sz_ok (by show 1 ≤ 100000; decide), fun u H10 nu e10 f10 => ?_⟩
              have hb10 := hb.mono e10
              have hz9 : z.length ≤ 1000 := Nat.le_trans (all_item_len (ns.length - 1) _ _ (by omega) (List.mem_of_getElem? hz)) (by omega)
              refine ⟨_, rfl, u, b, _, _, rfl, rfl, f10.sq, hb10.sq, by simp, sz_ok (by simp; omega), fun h0 => ?_, fun _ v H11 nv e11 f11 => k1 _ (t :: z) _ (e10.trans e11) rfl ⟨v, rfl, f11⟩⟩
              have h0' : z = [] := List.map_eq_nil_iff.mp h0
              subst h0'
              exact k1 _ [t] _ e10 rfl ⟨u, rfl, f10⟩
            · rw [filterMap_some] at hT8
              have hff := (e7.trans e8) _ _ (e _ _ hf4)
              refine ⟨f, D2, fs, zs, rfl, rfl, hff, hl2, ?_, ?_⟩
              · have h1 := Paired.length ht4
                have h2 := Paired.length hT8
                have h3 := flat_le (fun t => (all (ns.length - 1) (ns.filter fun o => o != t)).map (t :: ·)) ns i
                have h4 := all_len ns.length ns (by omega)
                rw [all_cons hne] at h4
                have h6 : 4 ^ ns.length ≤ 256 := Nat.le_trans (Nat.pow_le_pow_right (by decide) (show ns.length ≤ 4 by omega)) (by decide)
                rw [List.length_map] at h2
                exact sz_ok (by omega)
              · refine ⟨fs ++ zs, _, rfl, (((e4.then e).then e7).then e8).put, upd_same, ?_⟩
                rw [flat_step _ ht]
                exact paired_append ((((ht4.mono e).mono e7).mono e8).stab hff) (hT8.stab hff)
        · obtain ⟨fs, y2, rfl, e4, hf4, ht4⟩ := h
          rw [List.take_of_length_le (by simp), ← all_cons hne] at ht4
          exact ⟨_, rfl, q H' f fs (e4.same e12 nf0) nf0 hf4 ht4⟩
/-! ### counts -/
theorem cut_take {ns : List Int} {m : Int} (h : 0 ≤ m) : cutV (ns.map V.int) none (some m) = (ns.take m.toNat).map V.int := by
  obtain ⟨k, rfl⟩ : ∃ k : Nat, m = (k : Int) := ⟨m.toNat, by omega⟩
  unfold cutV
  rw [HT.sIx_none, HT.sIx_nat, List.drop_zero, Nat.sub_zero, List.length_map, ← List.map_take, Int.toNat_natCast]
  by_cases hk : k ≤ ns.length
  · rw [Nat.min_eq_left hk]
  · rw [Nat.min_eq_right (by omega), List.take_of_length_le (Nat.le_refl _), List.take_of_length_le (by omega)]
theorem sum_ones : ∀ (n : Nat), (List.replicate n (1 : Int)).sum = (n : Int)
  | 0 => rfl
  | n + 1 => by
    rw [List.replicate_succ, List.sum_cons, sum_ones n]
    omega
def sp_law_count : Sp := fun vs H Q _ => ∃ (v c : V) (ns : List Int) (m k : Int), vs = [v, c] ∧ Tup H v ns ∧ Pr H c m k ∧ 0 ≤ m ∧ ns.length ≤ 1000 ∧ ∀ H', Same H H' → Q (.int (count ns m k)) H'
theorem ok_law_count (T : Txt K mg) : FnOk P w K mg base CX0 1 T.a_law_count T.d_law_count ["_law_order_here", "_law_corner"] sp_law_count := by
  refine T.f_law_count.ok sc_law_count (fun vs H Q E h => ?_) (fun cdv A outer s H vs Q E hr h => ?_)
  · obtain ⟨v, c, ns, m, k, rfl, _⟩ := h
    rfl
  · obtain ⟨v, c, ns, m, k, rfl, ⟨a, rfl, ha⟩, ⟨b, rfl, hb⟩, hm, hl, q⟩ := h
    refine ⟨_, (pss_one (ps_ret (pe_callB (cr_sumK K) (by rfl) T.z_sum (by decide +kernel) (pa_cons (pe_lc (own := [("_law_thing", 2)]) rfl sc_law_count.nd (pi_tupK K (pe_slice (sl_tupAK K) (pv 0) po_none (po_some (pe_ix (ix_tupK K) (pv 1) pe_int (fun _ _ => rfl))))) (blkOk_by (N := N_law_count) (sc := (defScope s_law_count)) (own := [("_law_thing", 2)]) (by decide +kernel)) (fun _ _ _ _ _ => (pg_name (i := 2) sc_law_count.nd rfl (.inl rfl))) (fun _ _ _ _ _ => pts_one (pt_cmpR op_ge (pv 2) (pe_ix (ix_tupK K) (pv 1) pe_int (fun _ _ => rfl)) (nomark _))) (fun _ _ _ _ _ => pe_int)) pa_nil)))), ?_⟩
    refine ⟨_, rfl, _, rfl, b, _, _, _, rfl, rfl, SqT.of hb, rfl, _, rfl, a, _, rfl, ha.sq, fun h => ?_, fun h t nt => ?_⟩
    · have ht : SqT K H a ((ns.take m.toNat).map V.int) := by
        have h2 := cut_take (ns := ns) hm
        have h3 : cutV (ns.map V.int) none (some m) = ns.map V.int := by
          unfold cutV
          rw [h.1, h.2, List.drop_zero, Nat.sub_zero, List.take_length]
        rw [← h2, h3]
        exact ha.sq
      have hf : FT H a ((ns.take m.toNat).map V.int) := by
        have h2 := cut_take (ns := ns) hm
        have h3 : cutV (ns.map V.int) none (some m) = ns.map V.int := by
          unfold cutV
          rw [h.1, h.2, List.drop_zero, Nat.sub_zero, List.take_length]
        rw [← h2, h3]
        exact ha
      refine ⟨_, rfl, ⟨_, ht⟩, ?_⟩
      refine lc_v (walk_tup (xs := (ns.take m.toNat).map V.int)) (ns.take m.toNat) (by rw [List.length_map]) (by rw [List.length_take]; omega) (fun t => if decide (k ≤ t) = true then some (.int 1) else none) (fun H' e => (hf.mono e).sq)
        (fun j z y H6 H7 hz e hy K0 Kx k0 k1 => ?_) (fun D H6 hD e hlD => ?_)
      · obtain ⟨z', rfl, rfl, hz'⟩ := yat_ints hy
        have q1 := Option.some.inj (hz.symm.trans hz')
        subst q1
        refine ⟨rfl, _, rfl, _, rfl, b, _, _, _, rfl, rfl, SqT.of (e _ _ hb), rfl, _, _, rfl, rfl, _, rfl, ?_⟩
        exact ite2 (fun h => k1 _ _ (.refl _) (if_pos h)) fun h => k0 _ (.refl _) (if_neg h)
      · rw [filterMap_ite (fun t => decide (k ≤ t)) (fun _ => V.int 1)] at hlD
        refine ⟨D, List.replicate ((ns.take m.toNat).filter fun t => decide (k ≤ t)).length 1, rfl, SqL.of ?_, ?_⟩
        · rw [hlD, List.map_const', List.map_replicate]
        · rw [sum_ones]
          exact q _ e
    · rw [cut_take hm] at *
      have e1 := same_new (o := .tup ((ns.take m.toNat).map V.int)) nt
      have ht : (upd H t (.tup ((ns.take m.toNat).map V.int))) t = some (.tup ((ns.take m.toNat).map V.int)) := upd_same
      have hb1 := e1 _ _ hb
      generalize (upd H t (.tup ((ns.take m.toNat).map V.int))) = H1 at e1 ht hb1
      refine ⟨_, rfl, ⟨_, SqT.of ht⟩, ?_⟩
      refine lc_v (walk_tup (xs := (ns.take m.toNat).map V.int)) (ns.take m.toNat) (by rw [List.length_map]) (by rw [List.length_take]; omega) (fun t => if decide (k ≤ t) = true then some (.int 1) else none) (fun H' e => SqT.of (e _ _ ht))
        (fun j z y H6 H7 hz e hy K0 Kx k0 k1 => ?_) (fun D H6 hD e hlD => ?_)
      · obtain ⟨z', rfl, rfl, hz'⟩ := yat_ints hy
        have q1 := Option.some.inj (hz.symm.trans hz')
        subst q1
        refine ⟨rfl, _, rfl, _, rfl, b, _, _, _, rfl, rfl, SqT.of (e _ _ hb1), rfl, _, _, rfl, rfl, _, rfl, ?_⟩
        exact ite2 (fun h => k1 _ _ (.refl _) (if_pos h)) fun h => k0 _ (.refl _) (if_neg h)
      · rw [filterMap_ite (fun t => decide (k ≤ t)) (fun _ => V.int 1)] at hlD
        refine ⟨D, List.replicate ((ns.take m.toNat).filter fun t => decide (k ≤ t)).length 1, rfl, SqL.of ?_, ?_⟩
        · rw [hlD, List.map_const', List.map_replicate]
        · rw [sum_ones]
          exact q _ (e1.trans e)
theorem Pr.stab {H : Hp} {D : Addr} {xs zs : List V} {v : V} {m k : Int} (hD : H D = some (.lst xs)) (h : Pr H v m k) : Pr (upd H D (.lst zs)) v m k := by
  obtain ⟨a, h1, h2⟩ := h
  refine ⟨a, h1, ?_⟩
  rw [upd_ne (fun z => by
    rw [z, hD] at h2
    cases h2)]
  exact h2
abbrev Prs (H : Hp) (vs : List V) (cs : List (Int × Int)) : Prop := Paired (fun v c => Pr H v c.1 c.2) vs cs
theorem Prs.mono {H H' : Hp} {vs : List V} {cs : List (Int × Int)} (h : Prs H vs cs) (e : Same H H') : Prs H' vs cs := Paired.mapP h fun _ _ z => z.mono e
theorem Prs.stab {H : Hp} {D : Addr} {xs zs : List V} {vs : List V} {cs : List (Int × Int)} (hD : H D = some (.lst xs)) (h : Prs H vs cs) : Prs (upd H D (.lst zs)) vs cs := Paired.mapP h fun _ _ z => z.stab hD
theorem corners_len (n : Int) (h : n ≤ 9) : (corners n).length ≤ 81 := by
  have h1 := flat_bd (g := fun p => (rg 1 (n + 1)).map fun l => (p, l)) (B := 9) (rg 1 (n + 1)) fun t _ => by
    rw [List.length_map, rg_len]
    omega
  rw [rg_len] at h1
  unfold corners
  have : (n + 1 - 1).toNat * 9 ≤ 9 * 9 := Nat.mul_le_mul_right 9 (by omega)
  omega
def sp_law_corners : Sp := fun vs H Q _ => ∃ (n : Int), vs = [.int n] ∧ 0 ≤ n ∧ n ≤ 9 ∧ ∀ H' p ys, Same H H' → H p = none → H' p = some (.lst ys) → Prs H' ys (corners n) → Q (.ref p) H'
theorem ok_law_corners (T : Txt K mg) : FnOk P w K mg base CX0 1 T.a_law_corners T.d_law_corners ["_law_size"] sp_law_corners := by
  refine T.f_law_corners.ok sc_law_corners (fun vs H Q E h => ?_) (fun cdv A outer s H vs Q E hr h => ?_)
  · obtain ⟨n, rfl, _⟩ := h
    rfl
  · obtain ⟨n, rfl, h0, h9, q⟩ := h
    refine ⟨_, (pss_cons (ps_set (i := 1) sc_law_corners.nd rfl (.inl rfl) (pe_lst pa_nil))
      (pss_cons (ps_for PassesOwn.never rfl (pi_range2 (by rfl) T.z_range (pa_cons pe_int (pa_cons (pe_op op_add (pv 0) pe_int) pa_nil))) (pg_name (i := 2) sc_law_corners.nd rfl (.inr rfl)) (pss_one (ps_expr (pe_bmK K PySem.F.plainAttrs_list PySem.F.slot_list_extend PySem.F.type_list_extend mt_extend (pv 1) (pa_cons (pe_lc (own := [("_law_least", 3)]) rfl sc_law_corners.nd (pi_range2 (by rfl) T.z_range (pa_cons pe_int (pa_cons (pe_op op_add (pv 0) pe_int) pa_nil))) (blkOk_by (N := N_law_corners) (sc := (defScope s_law_corners)) (own := [("_law_least", 3)]) (by decide +kernel)) (fun _ _ _ _ _ => (pg_name (i := 3) sc_law_corners.nd rfl (.inl rfl))) (fun _ _ _ _ _ => pts_nil) (fun _ _ _ _ _ => (pe_tup (pa_cons (pv 2) (pa_cons (pv 3) pa_nil))))) pa_nil)))))
      (pss_one (ps_ret (pv 1))))), ?_⟩
    refine ⟨sz_ok (by decide), fun f nf => ?_⟩
    have e1 : Same H (upd H f (.lst [])) := same_new nf
    have hf1 : (upd H f (.lst [])) f = some (.lst []) := upd_same
    generalize (upd H f (.lst [])) = H1 at e1 hf1
    refine ⟨_, rfl, _, _, rfl, rfl, _, _, rfl, ⟨by decide, by decide, by omega, by omega⟩, ?_⟩
    refine for_it walk_range (fun i σ H' => ∃ (fs : List V) (y2 : Option V), σ = [some (.int n), some (.ref f), y2, none] ∧ SameX f H1 H' ∧ H' f = some (.lst fs) ∧
      Prs H' fs (((rg 1 (n + 1)).take i).flatMap fun p => (rg 1 (n + 1)).map fun l => (p, l)))
      ⟨[], none, rfl, .refl, hf1, .nil⟩
      (fun _ _ _ _ _ => trivial) (fun i x σ H4 H5 hi h hy => ?_) (fun σ H' h => ?_)
    · obtain ⟨fs, y2, rfl, e4, hf4, ht4⟩ := h
      obtain ⟨rfl, rfl⟩ := hy
      have hri : (rg 1 (n + 1))[i]? = some (1 + (i : Int)) := by
        unfold rg
        rw [List.getElem?_map, List.getElem?_range hi]
        rfl
      refine ⟨_, rfl, .inl ⟨rfl, _, SqL.of hf4⟩, _, rfl, _, _, rfl, rfl, _, _, rfl, ⟨by decide, by decide, by omega, by omega⟩, ?_⟩
      refine lc_rel walk_range (rg 1 (n + 1)) (rg_len _ _) (by rw [rg_len]; omega) (fun l => some (1 + (i : Int), l)) (fun v c H => Pr H v c.1 c.2) (fun e h => h.mono e) (fun hD h => h.stab hD) (fun _ _ => trivial)
        (fun j z y H6 H7 hz e hy K0 Kx k0 k1 => ?_) (fun D zs H6 hD e hlD hP => ?_)
      · obtain ⟨rfl, rfl⟩ := hy
        have hz := rg_at hz
        subst hz
        refine ⟨rfl, _, rfl, _, rfl, sz_ok (by show 2 ≤ 100000; decide), fun t nt => ?_⟩
        exact k1 _ (1 + (i : Int), 1 + (j : Int)) _ (same_new nt) rfl ⟨t, rfl, upd_same⟩
      · rw [filterMap_some] at hP
        have hff := e _ _ hf4
        refine ⟨f, D, fs, zs, rfl, rfl, hff, hlD, ?_, ?_⟩
        · have h1 := Paired.length ht4
          have h2 := Paired.length hP
          have h3 := flat_le (fun p => (rg 1 (n + 1)).map fun l => (p, l)) (rg 1 (n + 1)) i
          have h4 := corners_len n h9
          unfold corners at h4
          rw [List.length_map, rg_len] at h2
          exact sz_ok (by omega)
        · refine ⟨fs ++ zs, _, rfl, (e4.then e).put, upd_same, ?_⟩
          rw [flat_step _ hri]
          exact paired_append ((ht4.mono e).stab hff) (Prs.stab hff hP)
    · obtain ⟨fs, y2, rfl, e4, hf4, ht4⟩ := h
      rw [List.take_of_length_le (by rw [rg_len]; exact Nat.le_refl _)] at ht4
      exact ⟨_, rfl, q H' f fs (e4.same e1 nf) nf hf4 ht4⟩
theorem corners_mem {n : Int} {c : Int × Int} (h : c ∈ corners n) : 1 ≤ c.1 ∧ c.1 ≤ n ∧ 1 ≤ c.2 ∧ c.2 ≤ n := by
  obtain ⟨p, hp, h⟩ := List.mem_flatMap.mp h
  obtain ⟨l, hl, rfl⟩ := List.mem_map.mp h
  have h1 := rg_mem hp
  have h2 := rg_mem hl
  refine ⟨?_, ?_, ?_, ?_⟩ <;> simp only <;> omega
def sp_law_lower : Sp := fun vs H Q _ => ∃ (v u : V) (a b : List Int), vs = [v, u] ∧ Tup H v a ∧ Tup H u b ∧ a.length ≤ 9 ∧ b.length ≤ 1000 ∧ ∀ H', Same H H' → Q (.bl (lawLow a b)) H'
theorem ok_law_lower (T : Txt K mg) : FnOk P w K mg base CX0 2 T.a_law_lower T.d_law_lower ["_law_one", "_law_two"] sp_law_lower := by
  refine T.f_law_lower.ok sc_law_lower (fun vs H Q E h => ?_) (fun cdv A outer s H vs Q E hr h => ?_)
  · obtain ⟨v, u, a, b, rfl, _⟩ := h
    rfl
  · obtain ⟨v, u, a, b, rfl, hv, hu, ha9, hb9, q⟩ := h
    obtain ⟨va, rfl, ha⟩ := id hv
    refine ⟨_, (pss_one (ps_ret (pe_callB (cr_allK K) (by rfl) T.z_all (by decide +kernel) (pa_cons (pe_lc (own := [("_law_corner", 2)]) rfl sc_law_lower.nd (pi_listK K (pe_call (ok_law_corners T) (hr.mono (by decide)) (by rfl) T.g_law_corners T.f_law_corners.kp T.b_law_corners .nil pass0 (pa_cons (pe_callB (cr_lenK K) (by rfl) T.z_len (by decide +kernel) (pa_cons (pv 0) pa_nil)) pa_nil))) (blkOk_by (N := N_law_lower) (sc := (defScope s_law_lower)) (own := [("_law_corner", 2)]) (by decide +kernel)) (fun _ _ _ _ _ => (pg_name (i := 2) sc_law_lower.nd rfl (.inl rfl))) (fun _ _ _ _ _ => pts_nil) (fun _ _ _ _ _ => (pe_cmpR op_le (pe_call (ok_law_count T) (hr.mono (by decide)) (by rfl) T.g_law_count T.f_law_count.kp T.b_law_count .nil pass0 (pa_cons (pv 0) (pa_cons (pv 2) pa_nil))) (pe_call (ok_law_count T) (hr.mono (by decide)) (by rfl) T.g_law_count T.f_law_count.kp T.b_law_count .nil pass0 (pa_cons (pv 1) (pa_cons (pv 2) pa_nil))) (nomark _)))) pa_nil)))), ?_⟩
    refine ⟨_, rfl, va, _, rfl, .inr ha.sq, _, rfl, by omega, by simp only [List.length_map]; omega, fun H1 p ys e1 np hp hP => ⟨p, rfl, ⟨ys, SqL.of hp⟩, ?_⟩⟩
    rw [List.length_map] at hP
    have hcl := corners_len (a.length : Int) (by omega)
    refine lc_v walk_list (corners a.length) (Paired.length hP).symm (by omega) (fun c => some (.bl (decide (count a c.1 c.2 ≤ count b c.1 c.2)))) (fun H' e => same_lst hp e)
      (fun j z y H6 H7 hz e hy K0 Kx k0 k1 => ?_) (fun D H6 hD e hlD => ?_)
    · obtain ⟨rfl, hy⟩ := hy
      obtain ⟨z', hz', hPz⟩ := paired_at hP hy
      have q1 := Option.some.inj (hz.symm.trans hz')
      subst q1
      have hc := corners_mem (List.mem_of_getElem? hz)
      have hs := e1.trans e
      refine ⟨rfl, _, rfl, _, rfl, _, y, a, z.1, z.2, rfl, hv.mono hs, hPz.mono e, by omega, by omega, fun H8 e8 => ⟨_, rfl, _, rfl, u, y, b, z.1, z.2, rfl, hu.mono (hs.trans e8), (hPz.mono e).mono e8, by omega, hb9, fun H9 e9 => ⟨_, _, rfl, rfl, k1 _ _ (e8.trans e9) rfl⟩⟩⟩
    · rw [filterMap_some] at hlD
      refine ⟨D, (corners a.length).map fun c => decide (count a c.1 c.2 ≤ count b c.1 c.2), rfl, SqL.of ?_, ?_⟩
      · rw [hlD, List.map_map]
        rfl
      · have : ((corners a.length).map fun c => decide (count a c.1 c.2 ≤ count b c.1 c.2)).all id = lawLow a b := by
          rw [List.all_map]
          rfl
        rw [this]
        exact q _ (e1.trans e)
def sp_law_falls : Sp := fun vs H Q _ => ∃ (v : V) (ns : List Int), vs = [v] ∧ Tup H v ns ∧ 1 ≤ ns.length ∧ ns.length ≤ 1000 ∧ ∀ H', Same H H' → Q (.int ((falls ns).length : Nat)) H'
theorem ok_law_falls (T : Txt K mg) : FnOk P w K mg base CX0 1 T.a_law_falls T.d_law_falls ["_law_order_here"] sp_law_falls := by
  refine T.f_law_falls.ok sc_law_falls (fun vs H Q E h => ?_) (fun cdv A outer s H vs Q E hr h => ?_)
  · obtain ⟨v, ns, rfl, _⟩ := h
    rfl
  · obtain ⟨v, ns, rfl, ⟨a, rfl, ha⟩, l1, l2, q⟩ := h
    refine ⟨_, (pss_one (ps_ret (pe_callB (cr_lenK K) (by rfl) T.z_len (by decide +kernel) (pa_cons (pe_lc (own := [("_law_place", 1)]) rfl sc_law_falls.nd (pi_range1 (by rfl) T.z_range (pa_cons (pe_op op_sub (pe_callB (cr_lenK K) (by rfl) T.z_len (by decide +kernel) (pa_cons (pv 0) pa_nil)) pe_int) pa_nil)) (blkOk_by (N := N_law_falls) (sc := (defScope s_law_falls)) (own := [("_law_place", 1)]) (by decide +kernel)) (fun _ _ _ _ _ => (pg_name (i := 1) sc_law_falls.nd rfl (.inl rfl))) (fun _ _ _ _ _ => pts_one (pt_cmpR op_gt (pe_ix (ix_tupK K) (pv 0) (pv 1) (fun _ _ => rfl)) (pe_ix (ix_tupK K) (pv 0) (pe_op op_add (pv 1) pe_int) (fun _ _ => rfl)) (nomark _))) (fun _ _ _ _ _ => (pv 1))) pa_nil)))), ?_⟩
    refine ⟨_, rfl, a, _, rfl, .inr ha.sq, _, _, rfl, rfl, _, rfl, by simp only [List.length_map]; omega, by simp only [List.length_map]; omega, ?_⟩
    refine lc_v walk_range (List.range (ns.length - 1)) (by simp only [List.length_map, List.length_range]; omega) (by simp; omega) (fun (i : Nat) => if decide (ns.getD (i + 1) 0 < ns.getD i 0) = true then some (.int (i : Int)) else none) (fun _ _ => trivial)
      (fun i d x H4 H5 hd e hy K0 Kx k0 k1 => ?_) (fun D H4 hD e hl => ?_)
    · obtain ⟨rfl, hx⟩ := hy
      obtain ⟨hd1, hd2⟩ := List.getElem?_eq_some_iff.mp hd
      rw [List.getElem_range] at hd2
      subst hd2
      rw [List.length_range] at hd1
      have hx' : x = .int (i : Int) := hx.trans (congrArg V.int (Int.zero_add _))
      subst hx'
      refine ⟨rfl, _, rfl, _, rfl, a, _, _, _, rfl, rfl, (ha.mono e).sq, atI_nat (getD_at (by omega)), _, rfl, _, rfl, _, _, rfl, rfl, a, _, _, _, rfl, rfl, (ha.mono e).sq, at_of (j := i + 1) (by omega) (getD_at (by omega)), _, _, rfl, rfl, _, rfl, ite2 (fun h => ?_) (fun h => ?_)⟩
      · exact ⟨_, rfl, k1 _ _ (.refl _) (if_pos h)⟩
      · exact k0 _ (.refl _) (if_neg h)
    · rw [filterMap_ite (fun (i : Nat) => decide (ns.getD (i + 1) 0 < ns.getD i 0)) (fun (i : Nat) => V.int (i : Int))] at hl
      refine ⟨D, _, rfl, .inl (SqL.of hl), ?_⟩
      have : (((List.range (ns.length - 1)).filter fun (i : Nat) => decide (ns.getD (i + 1) 0 < ns.getD i 0)).map fun (i : Nat) => V.int (i : Int)).length = (falls ns).length := by
        unfold falls
        rw [List.length_map, List.length_map]
      rw [this]
      exact q _ e
/-! ### undone, by a sort of pairs -/
theorem rg_nodup (a b : Int) : (rg a b).Nodup := by
  unfold rg
  refine List.pairwise_map.mpr (List.Pairwise.imp ?_ (List.nodup_range (n := (b - a).toNat)))
  intro x y h
  omega
theorem valid_nodup {ns : List Int} (h : Valid ns) : ns.Nodup := h.2.2.symm.nodup (rg_nodup _ _)
theorem undone_rg (ns : List Int) : undone ns = (rg 1 ((ns.length : Int) + 1)).map fun t => ((ns.idxOf t : Nat) : Int) + 1 := by
  unfold undone rg
  rw [List.map_map]
  have e : (((ns.length : Int) + 1 - 1).toNat) = ns.length := by omega
  rw [e]
  refine List.map_congr_left fun i _ => ?_
  show _ = ((ns.idxOf (1 + (i : Int)) : Nat) : Int) + 1
  rw [Int.add_comm 1 (i : Int)]
def pairsOf (ns : List Int) : List (Int × Int) := ns.zipIdx.map fun z => (z.1, (z.2 : Int) + 1)
theorem pairs_undone {ns : List Int} {qs : List (Int × Int)} (h : Valid ns) (hp : qs.Perm (pairsOf ns)) (hs : qs.Pairwise fun a b => a.1 ≤ b.1) : qs.map (·.2) = undone ns := by
  have e1 : qs.map (·.1) = rg 1 ((ns.length : Int) + 1) := by
    refine sorted_valid h ?_ (List.pairwise_map.mpr hs)
    have := hp.map (·.1)
    refine this.trans ?_
    unfold pairsOf
    rw [List.map_map]
    show (ns.zipIdx.map Prod.fst).Perm ns
    rw [List.zipIdx_map_fst]
  have e2 : ∀ z ∈ qs, z.2 = ((ns.idxOf z.1 : Nat) : Int) + 1 := by
    intro z hz
    have hz' := hp.mem_iff.mp hz
    obtain ⟨y, hy, rfl⟩ := List.mem_map.mp hz'
    obtain ⟨i, hi⟩ := List.getElem?_of_mem hy
    obtain ⟨h1, h2⟩ := zipIdx_at hi
    obtain ⟨h3, h4⟩ := List.getElem?_eq_some_iff.mp h1
    have h5 := List.Nodup.idxOf_getElem (valid_nodup h) i h3
    rw [h4] at h5
    show ((y.2 : Nat) : Int) + 1 = ((ns.idxOf y.1 : Nat) : Int) + 1
    rw [h5, h2]
  rw [undone_rg, ← e1, List.map_map]
  exact List.map_congr_left e2
/-- the pair that stands at v -/
def pairAt (H : Hp) : V → Int × Int
  | .ref a => match H a with
    | some (.tup [.int m, .int n]) => (m, n)
    | _ => (0, 0)
  | _ => (0, 0)
theorem pairAt_of {H : Hp} {v : V} {m k : Int} (h : Pr H v m k) : pairAt H v = (m, k) := by
  obtain ⟨a, rfl, h⟩ := h
  simp [pairAt, h]
theorem pairs_sorted {H : Hp} : ∀ {ys : List V} {qs : List (Int × Int)}, Prs H ys qs → SrtO.Srtd (ltP (pairAt H)) ys → qs.Pairwise fun a b => a.1 ≤ b.1
  | _, _, .nil, _ => .nil
  | x :: ys, q :: qs, .cons r t, hs => by
    obtain ⟨p1, p2⟩ := List.pairwise_cons.mp hs
    refine List.pairwise_cons.mpr ⟨fun z hz => ?_, pairs_sorted t p2⟩
    obtain ⟨i, hi⟩ := List.getElem?_of_mem hz
    have hlen := Paired.length t
    have hi' := (List.getElem?_eq_some_iff.mp hi).1
    have hx : ys[i]? = some (ys[i]'(by omega)) := List.getElem?_eq_getElem _
    obtain ⟨o, ho, hT⟩ := paired_at t hx
    rw [hi] at ho
    cases ho
    have := p1 _ (List.mem_of_getElem? hx)
    have := SrtO.lexB_no.mp this
    rw [pairAt_of r, pairAt_of hT] at this
    simp only at this
    omega
def sp_law_undone : Sp := fun vs H Q _ => ∃ (v : V) (ns : List Int), vs = [v] ∧ Tup H v ns ∧ Valid ns ∧ ∀ H' u, Same H H' → Tup H' u (undone ns) → Q u H'
theorem ok_law_undone (T : Txt K mg) : FnOk P w K mg base CX0 1 T.a_law_undone T.d_law_undone ["_law_order_here"] sp_law_undone := by
  refine T.f_law_undone.ok sc_law_undone (fun vs H Q E h => ?_) (fun cdv A outer s H vs Q E hr h => ?_)
  · obtain ⟨v, ns, rfl, _⟩ := h
    rfl
  · obtain ⟨v, ns, rfl, ⟨a, rfl, ha⟩, hok, q⟩ := h
    have l2 := hok.2.1
    refine ⟨_, (pss_one (ps_ret (pe_callTy (cr_tupF K) (by rfl) T.z_tuple (by decide +kernel) (pa_cons (pe_lc (own := [("_law_thing", 1), ("_law_place", 2)]) rfl sc_law_undone.nd (pi_listK K (pe_callB (cr_sortPOK K) (by rfl) T.z_sorted (by decide +kernel) (pa_cons (pe_lc (own := [("_law_at", 3), ("_law_thing", 1)]) rfl sc_law_undone.nd (pi_enumTK K (by rfl) T.z_enumerate (pa_cons (pv 0) pa_nil)) (blkOk_by (N := N_law_undone) (sc := (defScope s_law_undone)) (own := [("_law_at", 3), ("_law_thing", 1)]) (by decide +kernel)) (fun _ _ _ _ _ => (pg_tupK K (n := 2) (by rfl) (pgs_cons (pg_name (i := 3) sc_law_undone.nd rfl (.inl rfl)) (pgs_cons (pg_name (i := 1) sc_law_undone.nd rfl (.inl rfl)) pgs_nil)))) (fun _ _ _ _ _ => pts_nil) (fun _ _ _ _ _ => (pe_tup (pa_cons (pv 1) (pa_cons (pe_op op_add (pv 3) pe_int) pa_nil))))) pa_nil))) (blkOk_by (N := N_law_undone) (sc := (defScope s_law_undone)) (own := [("_law_thing", 1), ("_law_place", 2)]) (by decide +kernel)) (fun _ _ _ _ _ => (pg_tupK K (n := 2) (by rfl) (pgs_cons (pg_name (i := 1) sc_law_undone.nd rfl (.inl rfl)) (pgs_cons (pg_name (i := 2) sc_law_undone.nd rfl (.inl rfl)) pgs_nil)))) (fun _ _ _ _ _ => pts_nil) (fun _ _ _ _ _ => (pv 2))) pa_nil)))), ?_⟩
    refine ⟨_, rfl, a, _, rfl, ha.sq, ?_⟩
    have hl : (pairsOf ns).length = ns.length := by simp [pairsOf]
    refine lc_rel walk_enumT ns.zipIdx (by simp) (by simp; omega) (fun z => some (z.1, (z.2 : Int) + 1)) (fun v c H => Pr H v c.1 c.2) (fun e h => h.mono e) (fun hD h => h.stab hD) (fun H' e => (ha.mono e).sq)
      (fun j z y H6 H7 hz e hy K0 Kx k0 k1 => ?_) (fun D zs H6 hD e hlD hP => ?_)
    · obtain ⟨T8, d, rfl, nT8, rfl, hd⟩ := yenum_ints hy
      obtain ⟨z1, z2⟩ := zipIdx_at hz
      have q1 := Option.some.inj (hd.symm.trans z1)
      subst q1 z2
      refine ⟨T8, _, rfl, SqT.of upd_same, rfl, _, _, rfl, _, _, rfl, rfl, rfl, _, rfl, _, rfl, _, _, rfl, rfl, sz_ok (by show 2 ≤ 100000; decide), fun t nt => ?_⟩
      exact k1 _ _ _ ((same_new nT8).trans (same_new nt)) rfl ⟨t, rfl, upd_same⟩
    · rw [filterMap_some] at hP
      have hP' : Prs H6 zs (pairsOf ns) := hP
      refine ⟨D, zs, pairAt H6, rfl, SqL.of hlD, fun x hx => ?_, fun ys p hsr hst np => ⟨p, rfl, ⟨ys, SqL.of upd_same⟩, ?_⟩⟩
      · obtain ⟨c, _, hc⟩ := paired_mem hP' hx
        rw [pairAt_of hc]
        obtain ⟨t, h1, h2⟩ := hc
        exact ⟨t, h1, h2⟩
      · obtain ⟨qs, hq, hqp⟩ := paired_perm hst.perm hP'
        have hund := pairs_undone hok hqp (pairs_sorted hq hsr)
        have hql : qs.length = ns.length := by rw [hqp.length_eq, hl]
        have e7 := same_new (o := .lst ys) np
        have hp7 : (upd H6 p (.lst ys)) p = some (.lst ys) := upd_same
        have hq7 : Prs (upd H6 p (.lst ys)) ys qs := Prs.mono hq e7
        generalize (upd H6 p (.lst ys)) = H7 at e7 hp7 hq7
        refine lc_v walk_list qs (Paired.length hq).symm (by omega) (fun z => some (.int z.2)) (fun H' e => same_lst hp7 e)
          (fun j z y H8 H9 hz e hy K0 Kx k0 k1 => ?_) (fun D2 H8 hD2 e8 hl2 => ?_)
        · obtain ⟨rfl, hy⟩ := hy
          obtain ⟨z', hz', hPz⟩ := paired_at hq7 hy
          have q1 := Option.some.inj (hz.symm.trans hz')
          subst q1
          obtain ⟨b, rfl, hb⟩ := hPz.mono e
          exact ⟨b, _, rfl, SqT.of hb, rfl, _, _, rfl, _, _, rfl, rfl, rfl, _, rfl, k1 _ _ (.refl _) rfl⟩
        · rw [filterMap_some] at hl2
          refine ⟨D2, (undone ns).map V.int, rfl, .inl ⟨SqL.of ?_, fun t H10 nt e10 hF => q _ _ (((e.trans e7).trans e8).trans e10) ⟨t, rfl, hF⟩⟩⟩
          rw [hl2, ← hund, List.map_map]
          rfl
def sp_law_single : Sp := fun vs H Q _ => ∃ (v : V) (ns : List Int), vs = [v] ∧ Tup H v ns ∧ Valid ns ∧ ∀ H', Same H H' → Q (.bl (single ns)) H'
theorem ok_law_single (T : Txt K mg) : FnOk P w K mg base CX0 2 T.a_law_single T.d_law_single ["_law_order_here"] sp_law_single := by
  refine T.f_law_single.ok sc_law_single (fun vs H Q E h => ?_) (fun cdv A outer s H vs Q E hr h => ?_)
  · obtain ⟨v, ns, rfl, _⟩ := h
    rfl
  · obtain ⟨v, ns, rfl, hv, hok, q⟩ := h
    have l1 := hok.1
    have l2 := hok.2.1
    have dec : ∀ n : Nat, decide (V.int ((n : Nat) : Int) = V.int 1) = (n == 1) := by
      intro n
      by_cases hn : n = 1
      · subst hn
        rfl
      · have : ¬ (V.int ((n : Nat) : Int) = V.int 1) := fun z => hn (by
          injection z with z
          omega)
        rw [decide_eq_false this]
        exact (beq_eq_false_iff_ne.mpr hn).symm
    refine ⟨_, (pss_one (ps_ret (pe_and (pe_cmpR op_eq (pe_call (ok_law_falls T) (hr.mono (by decide)) (by rfl) T.g_law_falls T.f_law_falls.kp T.b_law_falls .nil pass0 (pa_cons (pv 0) pa_nil)) pe_int (nomark _)) (pe_one (pe_cmpR op_eq (pe_call (ok_law_falls T) (hr.mono (by decide)) (by rfl) T.g_law_falls T.f_law_falls.kp T.b_law_falls .nil pass0 (pa_cons (pe_call (ok_law_undone T) (hr.mono (by decide)) (by rfl) T.g_law_undone T.f_law_undone.kp T.b_law_undone .nil pass0 (pa_cons (pv 0) pa_nil)) pa_nil)) pe_int (nomark _)))))), ?_⟩
    refine ⟨_, rfl, v, ns, rfl, hv, l1, by omega, fun H1 e1 => ⟨rfl, _, rfl, ?_⟩⟩
    rw [dec]
    refine ite2 (fun h => ?_) (fun h => ?_)
    · refine ⟨_, rfl, v, ns, rfl, hv.mono e1, hok, fun H2 u e2 t2 => ⟨u, undone ns, rfl, t2, by rw [undone_len]; exact l1, by rw [undone_len]; omega, fun H3 e3 => ⟨rfl, ?_⟩⟩⟩
      rw [dec]
      have q' := q H3 ((e1.trans e2).trans e3)
      unfold single at q'
      rw [h, Bool.true_and] at q'
      exact q'
    · have q' := q H1 e1
      unfold single at q'
      rw [Bool.eq_false_iff.mpr h, Bool.false_and] at q'
      exact q'
/-! ### what the law says of the bearing -/
theorem nil_isEmpty (l : List (List Int)) : (l == []) = l.isEmpty := by
  cases l <;> rfl
def sp_law_bearing : Sp := fun vs H Q _ => ∃ (v : V) (sl : Addr) (ss : List V) (ns : List Int) (S : List (List Int)), vs = [v, .ref sl] ∧ Tup H v ns ∧ H sl = some (.lst ss) ∧ Tups H ss S ∧ ns.length ≤ 9 ∧ (∀ o ∈ S, o.length ≤ 9) ∧ S.length ≤ 1000 ∧
  ∀ H' p ys, Same H H' → H p = none → H' p = some (.lst ys) → Tups H' ys (lawBearing ns S) → Q (.ref p) H'
theorem ok_law_bearing (T : Txt K mg) : FnOk P w K mg base CX0 3 T.a_law_bearing T.d_law_bearing ["_law_order_here", "_law_singles_here"] sp_law_bearing := by
  refine T.f_law_bearing.ok sc_law_bearing (fun vs H Q E h => ?_) (fun cdv A outer s H vs Q E hr h => ?_)
  · obtain ⟨v, sl, ss, ns, S, rfl, _⟩ := h
    rfl
  · obtain ⟨v, sl, ss, ns, S, rfl, hv, hsl, hS, h9, hS9, hS1, q⟩ := h
    refine ⟨_, (pss_cons (ps_set (i := 2) sc_law_bearing.nd rfl (.inr rfl) (pe_lc (own := [("_law_one", 3)]) rfl sc_law_bearing.nd (pi_listK K (pv 1)) (blkOk_by (N := N_law_bearing) (sc := (defScope s_law_bearing)) (own := [("_law_one", 3)]) (by decide +kernel)) (fun _ _ _ _ _ => (pg_name (i := 3) sc_law_bearing.nd rfl (.inl rfl))) (fun _ _ _ _ _ => pts_one (pt_val (pe_call (ok_law_lower T) (hr.mono (by decide)) (by rfl) T.g_law_lower T.f_law_lower.kp T.b_law_lower .nil pass0 (pa_cons (pv 3) (pa_cons (pv 0) pa_nil))))) (fun _ _ _ _ _ => (pv 3))))
      (pss_one (ps_ret (pe_lc (own := [("_law_one", 3)]) rfl sc_law_bearing.nd (pi_listK K (pv 2)) (blkOk_by (N := N_law_bearing) (sc := (defScope s_law_bearing)) (own := [("_law_one", 3)]) (by decide +kernel)) (fun _ _ _ _ _ => (pg_name (i := 3) sc_law_bearing.nd rfl (.inr rfl))) (fun _ _ _ _ _ => pts_one (pt_cmpR (op_eqDK K hr.units) (pe_lc (own := [("_law_other", 4)]) rfl sc_law_bearing.nd (pi_listK K (pv 2)) (blkOk_by (N := N_law_bearing) (sc := (relS cs_law_bearing_1 (defScope s_law_bearing))) (own := [("_law_other", 4)]) (by decide +kernel)) (fun _ _ _ _ _ => (pg_name (i := 4) sc_law_bearing.nd rfl (.inl rfl))) (fun _ _ _ _ _ => pts_one (PW.pt (pw_and (pt_cmpR (op_neDK K hr.units) (pv 4) (pv 3) (nomark _)) (pw_and1 (pt_val (pe_call (ok_law_lower T) (hr.mono (by decide)) (by rfl) T.g_law_lower T.f_law_lower.kp T.b_law_lower .nil pass0 (pa_cons (pv 3) (pa_cons (pv 4) pa_nil)))))))) (fun _ _ _ _ _ => (pv 4))) (pe_lst pa_nil) (nomark _))) (fun _ _ _ _ _ => (pv 3)))))), ?_⟩
    refine ⟨_, rfl, sl, rfl, ⟨ss, SqL.of hsl⟩, ?_⟩
    refine lc_t walk_list S (Paired.length hS).symm (by omega) (fun o => if lawLow o ns = true then some o else none) (fun H' e => same_lst hsl e)
      (fun j z y H6 H7 hz e hy K0 Kx k0 k1 => ?_) (fun D zs H6 hD e hlD hP => ?_)
    · obtain ⟨rfl, hy⟩ := hy
      obtain ⟨z', hz', hTz⟩ := tups_at hS hy
      have q1 := Option.some.inj (hz.symm.trans hz')
      subst q1
      refine ⟨rfl, _, rfl, _, rfl, y, v, z, ns, rfl, hTz.mono e, hv.mono e, hS9 z (List.mem_of_getElem? hz), by omega, fun H8 e8 => ⟨_, rfl, ?_⟩⟩
      exact ite2 (fun h => ⟨_, rfl, k1 _ _ _ e8 (if_pos h) ((hTz.mono e).mono e8)⟩) fun h => k0 _ e8 (if_neg h)
    · rw [filterMap_ite (fun o => lawLow o ns) (fun o => o), List.map_id'] at hP
      have hP' : Tups H6 zs (lawBelow ns S) := hP
      have hbl : (lawBelow ns S).length ≤ S.length := List.length_filter_le _ _
      have hb9 : ∀ o ∈ lawBelow ns S, o.length ≤ 9 := fun o ho => hS9 o (List.mem_filter.mp ho).1
      unfold lawBearing at q
      generalize lawBelow ns S = B at hP' hbl hb9 q
      refine ⟨_, rfl, D, rfl, ⟨zs, SqL.of hlD⟩, ?_⟩
      refine lc_t walk_list B (Paired.length hP').symm (by omega) (fun s => if (B.filter fun o => (o != s) && lawLow s o).isEmpty = true then some s else none) (fun H' e => same_lst hlD e)
        (fun j z y H8 H9 hz e8 hy K0 Kx k0 k1 => ?_) (fun D2 ys H8 hD2 e8 hl2 hT2 => ?_)
      · obtain ⟨rfl, hy⟩ := hy
        obtain ⟨z', hz', hTz⟩ := tups_at hP' hy
        have q1 := Option.some.inj (hz.symm.trans hz')
        subst q1
        have hz9 := hb9 z (List.mem_of_getElem? hz)
        have hlD9 := e8 _ _ hlD
        have hP9 := hP'.mono e8
        refine ⟨rfl, _, rfl, D, rfl, ⟨zs, SqL.of hlD9⟩, ?_⟩
        refine lc_t walk_list B (Paired.length hP').symm (by omega) (fun o => if ((o != z) && lawLow z o) = true then some o else none) (fun H' e => same_lst hlD9 e)
          (fun j2 z2 y2 H10 H11 hz2 e10 hy2 L0 Lx l0 l1 => ?_) (fun D3 ws H10 hD3 e10 hl3 hT3 => ?_)
        · obtain ⟨rfl, hy2⟩ := hy2
          obtain ⟨z', hz', hTz2⟩ := tups_at hP9 hy2
          have q1 := Option.some.inj (hz2.symm.trans hz')
          subst q1
          have hA := hTz2.mono e10
          have hB := (hTz.mono e8).mono e10
          refine ⟨rfl, _, rfl, _, rfl, tupD z2, tupD z, dpTup hA, dpTup hB, shaped_tup _, shaped_tup _, _, rfl, ?_⟩
          rw [eqv_tup]
          refine ite2 (fun h => ?_) (fun h => ?_)
          · refine ⟨_, rfl, _, rfl, _, y2, z, z2, rfl, hB, hA, hz9, by have := hb9 z2 (List.mem_of_getElem? hz2); omega, fun H12 e12 => ⟨_, rfl, ?_⟩⟩
            refine ite2 (fun h2 => ⟨_, rfl, l1 _ _ _ e12 (if_pos ?_) (hA.mono e12)⟩) fun h2 => l0 _ e12 (if_neg ?_)
            · show (!(z2 == z) && lawLow z z2) = true
              rw [h, h2]
              rfl
            · show ¬ (!(z2 == z) && lawLow z z2) = true
              rw [h, Bool.true_and]
              exact h2
          · refine iteF (l0 _ (.refl _) (if_neg ?_))
            show ¬ (!(z2 == z) && lawLow z z2) = true
            rw [Bool.eq_false_iff.mpr h, Bool.false_and]
            exact Bool.false_ne_true
        · rw [filterMap_ite (fun o => (o != z) && lawLow z o) (fun o => o), List.map_id'] at hT3
          refine ⟨sz_ok (by decide), fun e ne => ?_⟩
          have e11 := same_new (o := .lst []) ne
          refine ⟨osD _, osD [], dpOs (e11 _ _ hl3) (hT3.mono e11), dpOs upd_same .nil, shaped_os _, shaped_os _, _, rfl, ?_⟩
          rw [eqv_os, nil_isEmpty]
          have hs := e10.trans e11
          exact ite2 (fun h => ⟨_, rfl, k1 _ _ _ hs (if_pos h) ((hTz.mono e8).mono hs)⟩) fun h => k0 _ hs (if_neg h)
      · rw [filterMap_ite (fun s => (B.filter fun o => (o != s) && lawLow s o).isEmpty) (fun o => o), List.map_id'] at hT2
        exact q H8 D2 ys (e.trans e8) (e.free hD2) hl2 hT2
/-! ### the singles -/
theorem valid_all {n : Nat} (h1 : 1 ≤ n) (h2 : n < 5) : ∀ o ∈ all n (rg 1 ((n : Int) + 1)), Valid o := by
  have : ∀ n ∈ [1, 2, 3, 4], ∀ o ∈ all n (rg 1 (((n : Nat) : Int) + 1)), 1 ≤ o.length ∧ o.length ≤ 9 ∧ (o.isPerm (rg 1 ((o.length : Int) + 1))) = true := by decide +kernel
  intro o ho
  obtain ⟨a, b, c⟩ := this n (by simp; omega) o ho
  exact ⟨a, b, List.isPerm_iff.mp c⟩
def fivesOf (c : Int × Int) : List (List Int) := (rg (leastCount c.1 c.2 + 1) (mostCount 5 c.1 c.2 + 1)).map fun k => least 5 c.1 c.2 k
theorem fives_ok : (∀ o ∈ (corners 5).flatMap fivesOf, o.length = 5 ∧ ∀ m ∈ o, 0 ≤ m ∧ m < 16) ∧ ((corners 5).flatMap fivesOf).length = 20 := by
  constructor
  · decide +kernel
  · decide +kernel
theorem least_rg {n : Int} {c : Int × Int} {t : Int} (h : t ∈ rg (leastCount c.1 c.2 + 1) (mostCount n c.1 c.2 + 1)) : 0 ≤ t ∧ t ≤ mostCount n c.1 c.2 := by
  have h1 := rg_mem h
  have h2 : 0 ≤ leastCount c.1 c.2 := by
    unfold leastCount
    split <;> omega
  omega
theorem rg_get {a b : Int} {i : Nat} (h : i < (b - a).toNat) : (rg a b)[i]? = some (a + (i : Nat)) := by
  unfold rg
  rw [List.getElem?_map, List.getElem?_range h]
  rfl
def sp_law_singles : Sp := fun vs H Q _ => ∃ (n : Nat), vs = [.int (n : Int)] ∧ 1 ≤ n ∧ n ≤ 5 ∧ ∀ H' p ys, Same H H' → H p = none → H' p = some (.lst ys) → Tups H' ys (lawSingles n) → Q (.ref p) H'
theorem ok_law_singles (T : Txt K mg) : FnOk P w K mg base CX0 6 T.a_law_singles T.d_law_singles ["_law_size"] sp_law_singles := by
  refine T.f_law_singles.ok sc_law_singles (fun vs H Q E h => ?_) (fun cdv A outer s H vs Q E hr h => ?_)
  · obtain ⟨n, rfl, _⟩ := h
    rfl
  · obtain ⟨n, rfl, h1, h5, q⟩ := h
    refine ⟨_, (pss_cons (ps_if (pt_cmpR op_lt (pv 0) pe_int (nomark _)) (pss_one (ps_ret (pe_lc (own := [("_law_order_here", 4)]) rfl sc_law_singles.nd (pi_listK K (pe_call (ok_law_all T 5) (hr.mono (Nat.le_refl _)) (by rfl) T.g_law_all T.f_law_all.kp T.b_law_all .nil pass0 (pa_cons (pe_listRg rfl (by rfl) T.z_list (prg_2 (by rfl) T.z_range pe_int (pe_op op_add (pv 0) pe_int))) pa_nil))) (blkOk_by (N := N_law_singles) (sc := (defScope s_law_singles)) (own := [("_law_order_here", 4)]) (by decide +kernel)) (fun _ _ _ _ _ => (pg_name (i := 4) sc_law_singles.nd rfl (.inl rfl))) (fun _ _ _ _ _ => pts_one (pt_val (pe_call (ok_law_single T) (hr.mono (by decide)) (by rfl) T.g_law_single T.f_law_single.kp T.b_law_single .nil pass0 (pa_cons (pv 4) pa_nil)))) (fun _ _ _ _ _ => (pv 4))))) pss_nil)
      (pss_cons (ps_set (i := 1) sc_law_singles.nd rfl (.inl rfl) (pe_lst pa_nil))
      (pss_cons (ps_for PassesOwn.never rfl (pi_listK K (pe_call (ok_law_corners T) (hr.mono (by decide)) (by rfl) T.g_law_corners T.f_law_corners.kp T.b_law_corners .nil pass0 (pa_cons (pv 0) pa_nil))) (pg_name (i := 2) sc_law_singles.nd rfl (.inl rfl)) (pss_one (ps_for PassesOwn.never rfl (pi_range2 (by rfl) T.z_range (pa_cons (pe_op op_add (pe_callB (call_max2 rfl) (by rfl) T.z_max (by decide +kernel) (pa_cons pe_int (pa_cons (pe_op op_add (pe_op op_sub (pe_ix (ix_tupK K) (pv 2) pe_int (fun _ _ => rfl)) (pe_ix (ix_tupK K) (pv 2) pe_int (fun _ _ => rfl))) pe_int) pa_nil))) pe_int) (pa_cons (pe_op op_add (pe_callB (call_min2 rfl) (by rfl) T.z_min (by decide +kernel) (pa_cons (pe_ix (ix_tupK K) (pv 2) pe_int (fun _ _ => rfl)) (pa_cons (pe_op op_add (pe_op op_sub (pv 0) (pe_ix (ix_tupK K) (pv 2) pe_int (fun _ _ => rfl))) pe_int) pa_nil))) pe_int) pa_nil))) (pg_name (i := 3) sc_law_singles.nd rfl (.inl rfl)) (pss_one (ps_expr (pe_bmK K PySem.F.plainAttrs_list PySem.F.slot_list_append PySem.F.type_list_append mt_append (pv 1) (pa_cons (pe_call (ok_least_with T) (hr.mono (by decide)) (by rfl) T.g_least_with T.f_least_with.kp T.b_least_with .nil pass0 (pa_cons (pv 0) (pa_cons (pv 2) (pa_cons (pv 3) pa_nil)))) pa_nil)))))))
      (pss_one (ps_ret (pe_callB (cr_sortTK K (d := 5) (by decide)) (by rfl) T.z_sorted (by decide +kernel) (pa_cons (pv 1) pa_nil))))))), ?_⟩
    refine ⟨_, rfl, _, _, rfl, rfl, _, rfl, ite2 (fun h => ?_) (fun h => ?_)⟩
    · have h : (n : Int) < 5 := of_decide_eq_true h
      have ez : lawSingles n = (all n (rg 1 ((n : Int) + 1))).filter single := by
        unfold lawSingles
        rw [if_pos h, Int.toNat_natCast]
      rw [ez] at q
      have hrl : (rg 1 ((n : Int) + 1)).length = n := by
        rw [rg_len]
        omega
      refine ⟨_, rfl, _, _, rfl, rfl, _, _, rfl, rfl, rgOk (by decide) (by decide) (by omega) (by omega), fun l nl => ?_⟩
      have e1 := same_new (o := .lst (rgV 1 ((n : Int) + 1))) nl
      refine ⟨l, rg 1 ((n : Int) + 1), rfl, by rw [upd_same, rgV_rg], by omega, by decide, fun H2 p ys e2 np hp hP => ⟨p, rfl, ⟨ys, SqL.of hp⟩, ?_⟩⟩
      rw [hrl] at hP
      have hal := all_len n (rg 1 ((n : Int) + 1)) (by omega)
      have hal2 : 4 ^ n ≤ 256 := Nat.le_trans (Nat.pow_le_pow_right (by decide) (show n ≤ 4 by omega)) (by decide)
      refine lc_t walk_list (all n (rg 1 ((n : Int) + 1))) (Paired.length hP).symm (by omega) (fun o => if single o = true then some o else none) (fun H' e => same_lst hp e)
        (fun j z y H6 H7 hz e hy K0 Kx k0 k1 => ?_) (fun D zs H6 hD e hlD hT => ?_)
      · obtain ⟨rfl, hy⟩ := hy
        obtain ⟨z', hz', hTz⟩ := tups_at hP hy
        have q1 := Option.some.inj (hz.symm.trans hz')
        subst q1
        refine ⟨rfl, _, rfl, y, z, rfl, hTz.mono e, valid_all h1 (by omega) z (List.mem_of_getElem? hz), fun H8 e8 => ⟨_, rfl, ?_⟩⟩
        exact ite2 (fun h => ⟨_, rfl, k1 _ _ _ e8 (if_pos h) ((hTz.mono e).mono e8)⟩) fun h => k0 _ e8 (if_neg h)
      · rw [filterMap_ite single (fun o => o), List.map_id'] at hT
        exact q _ D zs ((e1.trans e2).trans e) ((e1.trans e2).free hD) hlD hT
    · have h : ¬ ((n : Int) < 5) := fun z => h (decide_eq_true z)
      have hn : n = 5 := by omega
      subst hn
      have ez : lawSingles ((5 : Nat) : Int) = sortC ((corners 5).flatMap fivesOf) := rfl
      rw [ez] at q
      refine ⟨sz_ok (by decide), fun f nf => ?_⟩
      have e1 : Same H (upd H f (.lst [])) := same_new nf
      have hf1 : (upd H f (.lst [])) f = some (.lst []) := upd_same
      generalize (upd H f (.lst [])) = H1 at e1 hf1
      refine ⟨_, rfl, 5, rfl, by decide, by decide, fun H2 p ys e2 np hp hP => ⟨p, rfl, ⟨ys, SqL.of hp⟩, ?_⟩⟩
      have hf2 := e2 _ _ hf1
      have hpf : p ≠ f := (ne_of_none hf1 np).symm
      refine for_it (walk_list (xs := ys)) (fun i σ H' => ∃ (fs : List V) (y2 y3 : Option V), σ = [some (.int (5 : Nat)), some (.ref f), y2, y3, none] ∧ SameX f H2 H' ∧ H' f = some (.lst fs) ∧
        Tups H' fs (((corners 5).take i).flatMap fivesOf))
        ⟨[], none, none, rfl, .refl, hf2, .nil⟩
        (fun i σ H' _ h => ?_) (fun i x σ H4 H5 hi h hy => ?_) (fun σ H' h => ?_)
      · obtain ⟨fs, y2, y3, _, e, _⟩ := h
        exact SqL.of (e _ _ hpf hp)
      · obtain ⟨fs, y2, y3, rfl, e4, hf4, ht4⟩ := h
        obtain ⟨rfl, hy⟩ := hy
        obtain ⟨c, hc, hPc⟩ := paired_at hP hy
        have hcm := corners_mem (List.mem_of_getElem? hc)
        have hne : ∀ b, x = .ref b → b ≠ f := fun b hb => by
          obtain ⟨b', hb', hx⟩ := hPc
          rw [hb] at hb'
          cases hb'
          intro z
          rw [z, hf2] at hx
          cases hx
        obtain ⟨b, rfl, hb⟩ := hPc
        have hbf := hne b rfl
        have hb5 := e4 _ _ hbf hb
        have hmn := most_le 5 c.1 c.2
        have hmn2 : -1000 ≤ mostCount 5 c.1 c.2 := by
          unfold mostCount
          split <;> omega
        have hlm : 0 ≤ leastCount c.1 c.2 ∧ leastCount c.1 c.2 ≤ 1000 := by
          unfold leastCount
          split <;> omega
        refine ⟨_, rfl, b, _, _, _, rfl, rfl, SqT.of hb5, rfl, _, rfl, b, _, _, _, rfl, rfl, SqT.of hb5, rfl, _, _, rfl, rfl, _, _, rfl, rfl, _, _, rfl, _, _, rfl, rfl, _, rfl, b, _, _, _, rfl, rfl, SqT.of hb5, rfl, _, rfl, _, rfl, b, _, _, _, rfl, rfl, SqT.of hb5, rfl, _, _, rfl, rfl, _, _, rfl, rfl, _, _, rfl, _, _, rfl, rfl, leastCount c.1 c.2 + 1, mostCount 5 c.1 c.2 + 1, rfl, ⟨by omega, by omega, by omega, by omega⟩, ?_⟩
        refine for_it walk_range (fun j σ H' => ∃ (fs : List V) (y3 : Option V), σ = [some (.int (5 : Nat)), some (.ref f), some (.ref b), y3, none] ∧ SameX f H2 H' ∧ H' f = some (.lst fs) ∧
          Tups H' fs ((((corners 5).take i).flatMap fivesOf) ++ ((rg (leastCount c.1 c.2 + 1) (mostCount 5 c.1 c.2 + 1)).take j).map fun k => least 5 c.1 c.2 k))
          ⟨fs, y3, rfl, e4, hf4, by
            show Tups H5 fs (_ ++ [])
            rw [List.append_nil]
            exact ht4⟩
          (fun _ _ _ _ _ => trivial) (fun j x σ H6 H7 hj h hy => ?_) (fun σ H' h => ?_)
        · obtain ⟨fs, y3, rfl, e6, hf6, ht6⟩ := h
          obtain ⟨rfl, rfl⟩ := hy
          have hg := rg_get hj
          have hgm := least_rg (List.mem_of_getElem? hg)
          have hb7 := e6 _ _ hbf hb
          refine ⟨_, rfl, .inl ⟨rfl, _, SqL.of hf6⟩, _, rfl, _, rfl, _, rfl, _, 5, c.1, c.2, _, rfl, ⟨b, rfl, hb7⟩, by decide, by omega, by omega, hgm.1, hgm.2, fun H8 v8 e8 t8 => ?_⟩
          have hf8 := e8 _ _ hf6
          have ht8 := ht6.mono e8
          have hlen : fs.length < 64 := by
            have h1 := Paired.length ht6
            have h2 := flat_le fivesOf (corners 5) (i + 1)
            rw [flat_step fivesOf hc, List.length_append] at h2
            have h3 : (((rg (leastCount c.1 c.2 + 1) (mostCount 5 c.1 c.2 + 1)).take j).map fun k => least 5 c.1 c.2 k).length ≤ (fivesOf c).length := by
              unfold fivesOf
              rw [List.length_map, List.length_map]
              exact (List.take_sublist _ _).length_le
            have h4 := fives_ok.2
            rw [List.length_append] at h1
            omega
          refine ⟨f, fs, v8, rfl, rfl, hf8, sz_lt (by omega), ?_⟩
          refine ⟨fs ++ [v8], _, rfl, (e6.then e8).put, upd_same, ?_⟩
          rw [List.take_add_one, hg, List.map_append, ← List.append_assoc]
          exact paired_append (ht8.stab hf8) (.cons (t8.stab hf8) .nil)
        · obtain ⟨fs, y3, rfl, e6, hf6, ht6⟩ := h
          refine ⟨fs, _, _, rfl, e6, hf6, ?_⟩
          rw [flat_step fivesOf hc]
          have ez : (rg (leastCount c.1 c.2 + 1) (mostCount 5 c.1 c.2 + 1)).take (mostCount 5 c.1 c.2 + 1 - (leastCount c.1 c.2 + 1)).toNat = rg (leastCount c.1 c.2 + 1) (mostCount 5 c.1 c.2 + 1) := List.take_of_length_le (by rw [rg_len]; exact Nat.le_refl _)
          rw [ez] at ht6
          exact ht6
      · obtain ⟨fs, y2, y3, rfl, e4, hf4, ht4⟩ := h
        rw [List.take_of_length_le (by rw [Paired.length hP]; exact Nat.le_refl _)] at ht4
        obtain ⟨g1, g2⟩ := fives_ok
        refine ⟨_, rfl, f, fs, rfl, SqL.of hf4, by rw [Paired.length ht4, g2]; decide, fun x hx => ?_, fun zs p2 hp2 hs np2 => ?_⟩
        · obtain ⟨o, ho, hT⟩ := paired_mem ht4 hx
          exact ⟨o, tup_I hT, (g1 o ho).1, (g1 o ho).2⟩
        · have hsame : Same H H' := e4.same (e1.trans e2) nf
          have := sorted_tups_data ht4 g1 hp2 hs
          exact q _ p2 zs (hsame.trans (same_new np2)) (hsame.free np2) upd_same (this.mono (same_new np2))
end
end Bd

namespace Bd
open PySem PySem.Spec PyProof.Rows L2 Gp Mir
/-! ### how many are at least q -/
def cnt (l : List Int) (q : Int) : Nat := (l.filter fun t => decide (q ≤ t)).length
theorem cnt_cons (x : Int) (l : List Int) (q : Int) : cnt (x :: l) q = (if q ≤ x then 1 else 0) + cnt l q := by
  unfold cnt
  rw [List.filter_cons]
  by_cases h : q ≤ x
  · rw [if_pos (decide_eq_true h), if_pos h, List.length_cons]
    omega
  · rw [if_neg (by simpa using h), if_neg h]
    omega
theorem cnt_nil (q : Int) : cnt [] q = 0 := rfl
theorem cnt_append (a b : List Int) (q : Int) : cnt (a ++ b) q = cnt a q + cnt b q := by
  unfold cnt
  rw [List.filter_append, List.length_append]
theorem cnt_perm {a b : List Int} (h : a.Perm b) (q : Int) : cnt a q = cnt b q := (h.filter _).length_eq
theorem cnt_le (l : List Int) (q : Int) : cnt l q ≤ l.length := List.length_filter_le _ _
theorem cnt_full {l : List Int} {q : Int} (h : ∀ x ∈ l, q ≤ x) : cnt l q = l.length := List.length_filter_eq_length_iff.mpr fun x hx => decide_eq_true (h x hx)
theorem cnt_none {l : List Int} {q : Int} (h : ∀ x ∈ l, x < q) : cnt l q = 0 := by
  unfold cnt
  rw [List.length_eq_zero_iff, List.filter_eq_nil_iff]
  intro x hx
  have := h x hx
  simp
  omega
theorem full_of_cnt {l : List Int} {q : Int} (h : l.length ≤ cnt l q) : ∀ x ∈ l, q ≤ x := fun x hx =>
  of_decide_eq_true (List.length_filter_eq_length_iff.mp (Nat.le_antisymm (cnt_le l q) h) x hx)
theorem count_cnt (ns : List Int) (m k : Int) : count ns m k = ((cnt (ns.take m.toNat) k : Nat) : Int) := rfl
/-- of sorted lists: fewer above each bound is place by place smaller -/
theorem anyGt_of : ∀ {a b : List Int}, a.Pairwise (· ≤ ·) → b.Pairwise (· ≤ ·) → a.length = b.length → (∀ q, cnt a q ≤ cnt b q) → anyGt a b = false
  | [], _, _, _, _, _ => rfl
  | x :: a, [], _, _, h, _ => by simp at h
  | x :: a, y :: b, ha, hb, hl, hq => by
    obtain ⟨a1, a2⟩ := List.pairwise_cons.mp ha
    obtain ⟨b1, b2⟩ := List.pairwise_cons.mp hb
    have hl' : a.length = b.length := by simpa using hl
    have hxy : x ≤ y := by
      have h1 := hq x
      rw [cnt_full (l := x :: a) (fun z hz => by
        rcases List.mem_cons.mp hz with e | hz
        · omega
        · exact a1 z hz)] at h1
      rw [hl] at h1
      exact full_of_cnt h1 y List.mem_cons_self
    have ih := anyGt_of a2 b2 hl' fun q => by
      have h1 := hq q
      rw [cnt_cons, cnt_cons] at h1
      by_cases h2 : q ≤ x
      · rw [if_pos h2, if_pos (by omega)] at h1
        omega
      · by_cases h3 : q ≤ y
        · have h4 : cnt b q = b.length := cnt_full fun z hz => by have := b1 z hz; omega
          have h5 := cnt_le a q
          omega
        · rw [if_neg h2, if_neg h3] at h1
          omega
    unfold anyGt at ih ⊢
    rw [List.zip_cons_cons, List.any_cons, ih, Bool.or_false]
    exact decide_eq_false (by show ¬ (y < x); omega)
theorem lowGo_of : ∀ {a b near far : List Int}, near.Pairwise (· ≤ ·) → far.Pairwise (· ≤ ·) → near.length = far.length → a.length = b.length →
    (∀ j q, cnt (near ++ a.take j) q ≤ cnt (far ++ b.take j) q) → lowGo near far a b = true
  | [], b, near, far, _, _, _, hl, _ => by
    have e : b = [] := List.length_eq_zero_iff.mp (by simpa using hl.symm)
    subst e
    rfl
  | x :: a, [], _, _, _, _, _, hl, _ => by simp at hl
  | x :: a, y :: b, near, far, hn, hf, hl1, hl, hq => by
    have s1 := ins_sorted x near hn
    have s2 := ins_sorted y far hf
    have l12 : (ins x near).length = (ins y far).length := by rw [ins_len, ins_len, hl1]
    have p1 : ∀ j, (ins x near ++ a.take j).Perm (near ++ (x :: a).take (j + 1)) := fun j => by
      rw [List.take_succ_cons]
      exact ((ins_perm x near).append_right _).trans List.perm_middle.symm
    have p2 : ∀ j, (ins y far ++ b.take j).Perm (far ++ (y :: b).take (j + 1)) := fun j => by
      rw [List.take_succ_cons]
      exact ((ins_perm y far).append_right _).trans List.perm_middle.symm
    have hq' : ∀ j q, cnt (ins x near ++ a.take j) q ≤ cnt (ins y far ++ b.take j) q := fun j q => by
      rw [cnt_perm (p1 j), cnt_perm (p2 j)]
      exact hq (j + 1) q
    have g : anyGt (ins x near) (ins y far) = false := anyGt_of s1 s2 l12 fun q => by
      have := hq' 0 q
      rw [List.take_zero, List.take_zero, List.append_nil, List.append_nil] at this
      exact this
    unfold lowGo
    rw [g]
    rw [if_neg (by decide)]
    exact lowGo_of s1 s2 l12 (by simpa using hl) hq'
theorem low_of {a b : List Int} (hl : a.length = b.length) (h : ∀ j q, cnt (a.take j) q ≤ cnt (b.take j) q) : low a b = true :=
  lowGo_of .nil .nil rfl hl fun j q => by
    rw [List.nil_append, List.nil_append]
    exact h j q
/-! ### counts of an order -/
theorem cnt_succ : ∀ {l : List Int} (k : Int), l.Nodup → cnt l k ≤ cnt l (k + 1) + (if k ∈ l then 1 else 0)
  | [], k, _ => by
    rw [cnt_nil]
    omega
  | x :: l, k, h => by
    obtain ⟨h1, h2⟩ := List.pairwise_cons.mp h
    have ih := cnt_succ (l := l) k h2
    rw [cnt_cons, cnt_cons]
    by_cases e : x = k
    · subst e
      have hk : ¬ x ∈ l := fun z => h1 x z rfl
      rw [if_neg hk] at ih
      rw [if_pos (Int.le_refl x), if_neg (by omega), if_pos List.mem_cons_self]
      omega
    · have hm : (k ∈ x :: l) = (k ∈ l) := by
        rw [List.mem_cons]
        simp [show ¬ (k = x) from fun z => e z.symm]
      simp only [hm]
      by_cases h3 : k ≤ x
      · rw [if_pos h3, if_pos (by omega)]
        omega
      · rw [if_neg h3, if_neg (by omega)]
        omega
theorem cnt_gap {l : List Int} (h : l.Nodup) : ∀ (d : Nat) (k : Int), cnt l k ≤ cnt l (k + (d : Int)) + d
  | 0, k => by
    have : k + ((0 : Nat) : Int) = k := by omega
    rw [this]
    omega
  | d + 1, k => by
    have h1 := cnt_succ (l := l) k h
    have h2 := cnt_gap h d (k + 1)
    have e : k + 1 + (d : Int) = k + ((d + 1 : Nat) : Int) := by omega
    rw [e] at h2
    split at h1 <;> omega
theorem cnt_mono {l : List Int} {k q : Int} (h : q ≤ k) : cnt l k ≤ cnt l q := by
  induction l with
  | nil => exact Nat.le_refl _
  | cons x l ih =>
    rw [cnt_cons, cnt_cons]
    by_cases h1 : k ≤ x
    · rw [if_pos h1, if_pos (by omega)]
      omega
    · rw [if_neg h1]
      split <;> omega
theorem cnt_take_le (l : List Int) (q : Int) (i j : Nat) : cnt (l.take i) q ≤ cnt (l.take j) q + (i - j) := by
  by_cases h : i ≤ j
  · have e : l.take j = l.take i ++ (l.take j).drop i := by
      have h1 := (List.take_append_drop i (l.take j)).symm
      rw [List.take_take, Nat.min_eq_left h] at h1
      exact h1
    rw [e, cnt_append]
    omega
  · have e : l.take i = l.take j ++ (l.take i).drop j := by
      have h1 := (List.take_append_drop j (l.take i)).symm
      rw [List.take_take, Nat.min_eq_left (by omega)] at h1
      exact h1
    have h2 := cnt_le ((l.take i).drop j) q
    rw [List.length_drop, List.length_take] at h2
    rw [e, cnt_append]
    omega
theorem take_nodup {l : List Int} (h : l.Nodup) (i : Nat) : (l.take i).Nodup := h.sublist (List.take_sublist _ _)
/-- what an order has at (p, q), when it has c at (m, k) -/
theorem cnt_low {w : List Int} (h : Valid w) {m p : Nat} {k q : Int} (hp : p ≤ w.length) (hk : 1 ≤ k) (hq : 1 ≤ q) :
    0 ≤ (cnt (w.take p) q : Int) ∧ (p : Int) - q + 1 ≤ cnt (w.take p) q ∧ (cnt (w.take m) k : Int) - (m - p : Nat) - (q - k).toNat ≤ cnt (w.take p) q := by
  have hn := take_nodup (valid_nodup h) p
  refine ⟨by omega, ?_, ?_⟩
  · have h1 := cnt_gap hn (q - 1).toNat 1
    have e : 1 + ((q - 1).toNat : Int) = q := by omega
    rw [e, cnt_full fun x hx => ((valid_mem h).mp (List.mem_of_mem_take hx)).1, List.length_take] at h1
    omega
  · have h1 := cnt_take_le w k m p
    by_cases hkq : k ≤ q
    · have h2 := cnt_gap hn (q - k).toNat k
      have e : k + ((q - k).toNat : Int) = q := by omega
      rw [e] at h2
      omega
    · have h2 := cnt_mono (l := w.take p) (show q ≤ k by omega)
      omega
theorem cnt_high {w : List Int} (h : Valid w) {m : Nat} {k : Int} (hk2 : k ≤ (w.length : Int) + 1) : (cnt (w.take m) k : Int) ≤ m ∧ (cnt (w.take m) k : Int) ≤ w.length - k + 1 := by
  have hn := take_nodup (valid_nodup h) m
  constructor
  · have := cnt_le (w.take m) k
    rw [List.length_take] at this
    omega
  · have h1 := cnt_gap hn ((w.length : Int) + 1 - k).toNat k
    have e : k + (((w.length : Int) + 1 - k).toNat : Int) = (w.length : Int) + 1 := by omega
    have h0 : cnt (w.take m) ((w.length : Int) + 1) = 0 := cnt_none fun x hx => by
      have := ((valid_mem h).mp (List.mem_of_mem_take hx)).2
      omega
    rw [e, h0] at h1
    omega
/-! ### the table -/
theorem rowStep_at {t : Int} {row : List Int} {j : Nat} {c : Int} (h : (rowStep t row)[j]? = some c) : ∃ c0, row[j]? = some c0 ∧ c = c0 + (if (j : Int) + 1 ≤ t then 1 else 0) := by
  unfold rowStep at h
  rw [List.getElem?_map, List.getElem?_zipIdx] at h
  cases e : row[j]? with
  | none => simp [e] at h
  | some c0 =>
    refine ⟨c0, rfl, ?_⟩
    simp [e] at h
    rw [← h]
    by_cases hj : (j : Int) < t
    · rw [if_pos hj, if_pos (by omega)]
    · rw [if_neg hj, if_neg (by omega)]
      omega
theorem tableGo_at : ∀ {ns row r : List Int} {i j : Nat} {c : Int}, (tableGo row ns)[i]? = some r → r[j]? = some c → ∃ c0, row[j]? = some c0 ∧ c = c0 + (cnt (ns.take (i + 1)) ((j : Int) + 1) : Nat)
  | [], _, _, _, _, _, h, _ => by simp [tableGo] at h
  | t :: ns, row, r, 0, j, c, h, hc => by
    have e : rowStep t row = r := by simpa [tableGo] using h
    subst e
    obtain ⟨c0, h1, h2⟩ := rowStep_at hc
    refine ⟨c0, h1, ?_⟩
    rw [h2]
    show _ = c0 + ((cnt (t :: ns.take 0) _ : Nat) : Int)
    rw [List.take_zero, cnt_cons, cnt_nil]
    split <;> simp
  | t :: ns, row, r, i + 1, j, c, h, hc => by
    obtain ⟨c1, h1, h2⟩ := tableGo_at (ns := ns) (row := rowStep t row) (i := i) (by simpa [tableGo] using h) hc
    obtain ⟨c0, h3, h4⟩ := rowStep_at h1
    refine ⟨c0, h3, ?_⟩
    rw [List.take_succ_cons, cnt_cons, h2, h4]
    split <;> omega
theorem singlesL_mem {ns o : List Int} (h : o ∈ singlesL ns) : ∃ (m k : Nat), 1 ≤ m ∧ m ≤ ns.length ∧ 1 ≤ k ∧ k ≤ ns.length ∧ leastCount m k < (cnt (ns.take m) k : Nat) ∧ o = least ns.length m k (cnt (ns.take m) k : Nat) := by
  obtain ⟨z, hz, ho⟩ := List.mem_flatMap.mp h
  obtain ⟨i, hi⟩ := List.getElem?_of_mem hz
  obtain ⟨h1, h2⟩ := zipIdx_at hi
  unfold singlesRow at ho
  obtain ⟨y, hy, rfl⟩ := List.mem_map.mp ho
  obtain ⟨hy1, hy2⟩ := List.mem_filter.mp hy
  obtain ⟨j, hj⟩ := List.getElem?_of_mem hy1
  obtain ⟨h3, h4⟩ := zipIdx_at hj
  have hrow := table_mem (List.mem_of_getElem? h1)
  have hi' := (List.getElem?_eq_some_iff.mp h1).1
  rw [table_len] at hi'
  have hj' := (List.getElem?_eq_some_iff.mp h3).1
  rw [hrow.2] at hj'
  obtain ⟨c0, h5, h6⟩ := tableGo_at h1 h3
  have h7 : c0 = 0 := by
    rw [List.getElem?_replicate] at h5
    split at h5
    · exact (Option.some.inj h5).symm
    · cases h5
      rfl
  rw [h7, Int.zero_add] at h6
  have h8 := of_decide_eq_true hy2
  rw [h2, h4, h6] at h8
  refine ⟨i + 1, j + 1, by omega, by omega, by omega, by omega, ?_, ?_⟩
  · have e1 : ((i + 1 : Nat) : Int) = (i : Int) + 1 := by omega
    have e2 : ((j + 1 : Nat) : Int) = (j : Int) + 1 := by omega
    rw [e1, e2]
    exact h8
  · rw [h2, h4, h6]
    have e1 : ((i + 1 : Nat) : Int) = (i : Int) + 1 := by omega
    have e2 : ((j + 1 : Nat) : Int) = (j : Int) + 1 := by omega
    rw [e1, e2]
theorem singlesL_len (ns : List Int) : (singlesL ns).length ≤ ns.length * ns.length := by
  have h := flat_bd (g := fun p : List Int × Nat => singlesRow ns.length ((p.2 : Int) + 1) p.1) (B := ns.length) (table ns).zipIdx fun z hz => by
    obtain ⟨i, hi⟩ := List.getElem?_of_mem hz
    obtain ⟨h1, _⟩ := zipIdx_at hi
    unfold singlesRow
    rw [List.length_map]
    refine Nat.le_trans (List.length_filter_le _ _) ?_
    rw [List.length_zipIdx, (table_mem (List.mem_of_getElem? h1)).2]
    exact Nat.le_refl _
  rw [List.length_zipIdx, table_len] at h
  exact h
end Bd

namespace Bd
open PySem PySem.Spec PyProof.Rows L2 Gp Mir
/-- the most that the least order of (m, k, c) has at (p, q) -/
def roof (m k c : Int) (p q : Nat) : Int := max 0 (max ((p : Int) - q + 1) (c - (m.toNat - p : Nat) - ((q : Int) - k).toNat))
def leastChk (n : Nat) (m k c : Int) : Bool :=
  let o := least n m k c
  (o.length == n) && o.isPerm (rg 1 ((n : Int) + 1)) && single o && ((List.range (n + 1)).all fun p => (List.range (n + 1)).all fun q => decide ((cnt (o.take p) q : Int) ≤ roof m k c p q) || (q == 0))
def leastChks : Bool := (List.range 8).all fun n => (rg 1 ((n : Int) + 1)).all fun m => (rg 1 ((n : Int) + 1)).all fun k => (rg (leastCount m k + 1) (mostCount n m k + 1)).all fun c => leastChk n m k c
theorem leastChks_ok : leastChks = true := by decide +kernel
theorem mem_rg {a b x : Int} (h1 : a ≤ x) (h2 : x < b) : x ∈ rg a b := List.mem_map.mpr ⟨(x - a).toNat, List.mem_range.mpr (by omega), by omega⟩
theorem most_of {n m k c : Int} (h1 : c ≤ m) (h2 : c ≤ n - k + 1) : c ≤ mostCount n m k := by
  unfold mostCount
  split <;> omega
theorem least_chk {n : Nat} {m k c : Int} (hn : n ≤ 7) (hm : 1 ≤ m ∧ m ≤ n) (hk : 1 ≤ k ∧ k ≤ n) (h1 : leastCount m k < c) (h2 : c ≤ mostCount n m k) : leastChk n m k c = true := by
  have h := List.all_eq_true.mp leastChks_ok n (List.mem_range.mpr (by omega))
  have h := List.all_eq_true.mp h m (mem_rg (by omega) (by omega))
  have h := List.all_eq_true.mp h k (mem_rg (by omega) (by omega))
  exact List.all_eq_true.mp h c (mem_rg (by omega) (by omega))
theorem below_ok {w o : List Int} (hw : Valid w) (h7 : w.length ≤ 7) (ho : o ∈ singlesL w) : Valid o ∧ o.length = w.length ∧ single o = true ∧ low o w = true := by
  obtain ⟨m, k, hm1, hm2, hk1, hk2, hc, rfl⟩ := singlesL_mem ho
  obtain ⟨c1, c2⟩ := cnt_high hw (m := m) (k := (k : Int)) (by omega)
  have hchk := least_chk h7 (show 1 ≤ (m : Int) ∧ (m : Int) ≤ w.length by omega) (show 1 ≤ (k : Int) ∧ (k : Int) ≤ w.length by omega) hc (most_of c1 c2)
  generalize hcc : ((cnt (w.take m) k : Nat) : Int) = c at *
  unfold leastChk at hchk
  generalize least w.length m k c = o at *
  simp only [Bool.and_eq_true] at hchk
  obtain ⟨⟨⟨e1, e2⟩, e3⟩, e4⟩ := hchk
  have e1 : o.length = w.length := by simpa using e1
  have hv : Valid o := ⟨by rw [e1]; exact hw.1, by rw [e1]; exact hw.2.1, by rw [e1]; exact List.isPerm_iff.mp e2⟩
  refine ⟨hv, e1, e3, low_of e1 ?_⟩
  have main : ∀ p q : Nat, p ≤ w.length → 1 ≤ q → q ≤ w.length → cnt (o.take p) q ≤ cnt (w.take p) q := by
    intro p q hp hq1 hq2
    have h := List.all_eq_true.mp e4 p (List.mem_range.mpr (by omega))
    have h := List.all_eq_true.mp h q (List.mem_range.mpr (by omega))
    have hq0 : (q == 0) = false := by
      rw [beq_eq_false_iff_ne]
      omega
    rw [hq0, Bool.or_false] at h
    have h := of_decide_eq_true h
    obtain ⟨l0, l1, l2⟩ := cnt_low hw (m := m) (p := p) (k := (k : Int)) (q := (q : Int)) hp (by omega) (by omega)
    rw [hcc] at l2
    unfold roof at h
    rw [Int.toNat_natCast] at h
    omega
  intro j q
  -- any j, any q
  have tk : ∀ l : List Int, l.length = w.length → l.take j = l.take (min j w.length) := by
    intro l hl
    by_cases hj : j ≤ w.length
    · rw [Nat.min_eq_left hj]
    · rw [Nat.min_eq_right (by omega), List.take_of_length_le (by omega), List.take_of_length_le (by omega)]
  rw [tk o e1, tk w rfl]
  have hp : min j w.length ≤ w.length := Nat.min_le_right _ _
  generalize min j w.length = p at hp
  by_cases hq1 : q ≤ 1
  · rw [cnt_full (l := w.take p) fun x hx => by
      have := ((valid_mem hw).mp (List.mem_of_mem_take hx)).1
      omega]
    have := cnt_le (o.take p) q
    rw [List.length_take] at this ⊢
    omega
  · by_cases hq2 : q ≤ w.length
    · have := main p q.toNat hp (by omega) (by omega)
      rw [show ((q.toNat : Nat) : Int) = q by omega] at this
      exact this
    · rw [cnt_none (l := o.take p) fun x hx => by
        have := ((valid_mem hv).mp (List.mem_of_mem_take hx)).2
        omega]
      exact Nat.zero_le _
theorem goodS {w : List Int} (hw : Valid w) (h7 : w.length ≤ 7) : GoodS w := by
  refine ⟨fun o ho => ?_, ?_⟩
  · obtain ⟨h1, h2, _, _⟩ := below_ok hw h7 ho
    refine ⟨h2, fun m hm => ?_⟩
    have := (valid_mem h1).mp hm
    omega
  · have h := singlesL_len w
    have h2 := Nat.mul_le_mul h7 h7
    omega
theorem bearing_mem {w o : List Int} (h : o ∈ bearing w) : o ∈ singlesL w := singlesC_mem (List.mem_filter.mp h).1
theorem bearing_len (w : List Int) : (bearing w).length ≤ w.length * w.length := by
  refine Nat.le_trans (List.length_filter_le _ _) ?_
  rw [singlesC_len]
  exact singlesL_len w
/-! ### what mixing gives -/
theorem picks_perm {α : Type} : ∀ {l : List α} {z : α × List α}, z ∈ picks l → (z.1 :: z.2).Perm l
  | [], z, h => by cases h
  | x :: r, z, h => by
    rcases List.mem_cons.mp h with e | h
    · subst e
      exact .refl _
    · obtain ⟨y, hy, rfl⟩ := List.mem_map.mp h
      exact (List.Perm.swap x y.1 y.2).trans ((picks_perm hy).cons x)
theorem perms_perm {α : Type} : ∀ {n : Nat} {l w : List α}, l.length = n → w ∈ perms n l → w.Perm l
  | 0, l, w, hl, h => by
    have e : w = [] := List.mem_singleton.mp h
    have e2 : l = [] := List.length_eq_zero_iff.mp hl
    subst e e2
    exact .refl _
  | n + 1, l, w, hl, h => by
    obtain ⟨z, hz, h⟩ := List.mem_flatMap.mp h
    obtain ⟨r, hr, rfl⟩ := List.mem_map.mp h
    have h1 := picks_perm hz
    have h2 := h1.length_eq
    have h3 := perms_perm (l := z.2) (by simp at h2; omega) hr
    exact (h3.cons z.1).trans h1
theorem orders_valid {n : Nat} {w : List Int} (h1 : 1 ≤ n) (h9 : n ≤ 9) (h : w ∈ orders n) : Valid w ∧ w.length = n := by
  have hl : (rg 1 ((n : Int) + 1)).length = n := by
    rw [rg_len]
    omega
  have hp := perms_perm hl h
  have e : w.length = n := by rw [hp.length_eq, hl]
  exact ⟨⟨by omega, by omega, by rw [e]; exact hp⟩, e⟩
theorem valid_small {w : List Int} (h : Valid w) : Small w ∧ w.length ≤ 9 := ⟨fun m hm => by
  have := (valid_mem h).mp hm
  have := h.2.1
  omega, h.2.1⟩
end Bd

namespace Bd
open PySem PySem.Spec PyProof.Rows L2 Gp Mir
/-! ### orders of up to five things -/
def factsB (n : Nat) (S : List (List Int)) (w : List Int) (B : List (List Int)) : Bool :=
  (B == lawBearing w S) && (B.isEmpty == (w == rg 1 ((n : Int) + 1))) && (!single w || (B == [w])) && (orders n).all fun o => low w o == B.all fun b => low b o
def factsA (n : Nat) (S : List (List Int)) : Bool := (orders n).all fun w => factsB n S w (bearing w)
theorem factsA_ok1 : ([1, 2, 3, 4].all fun n => factsA n (lawSingles n)) = true := by decide +kernel
theorem factsA_ok5 : factsA 5 (lawSingles 5) = true := by decide +kernel
def factsS (n : Nat) (S : List (List Int)) : Bool := decide ((S.length : Int) = ((n : Int) + 1) * n * ((n : Int) - 1) / 6) && (S.all fun o => single o && (orders n).contains o) && decide S.Nodup
theorem factsS_ok : ([1, 2, 3, 4, 5].all fun n => factsS n (lawSingles n)) = true := by decide +kernel
end Bd

namespace Bd
open PySem PySem.Spec PyProof.Rows L2 Gp Mir
/-! ### a comprehension whose turns draw -/
section
variable {J : It} {n : Nat} {Y : Nat → Hp → V → Hp → Prop} {g : TG} {tt : TT} {te : TE} {vs : List Nat} {σ : L2.St} {H1 : Hp} {Qd : Addr → Hp → Prop}
theorem lc_pot {G : Hp → Prop} (wk : Walk J n G Y) (hsz : n ≤ 40000) (p : Addr) (hp : Pot H1 p) (C : List Int → Prop) (hG : ∀ H', G H')
    (turn : ∀ i x H H', SameX p H1 H → Pot H p → Y i H x H' → ∀ (K0 : Hp → Prop) (K : V → Hp → Prop),
      (∀ H3 b y, SameX p H H3 → Pot H3 p → C b → Tup H3 y b → K y H3) → TurnOk g tt te vs σ x H' K0 K)
    (fin : ∀ D ys os H', H1 D = none → SameX p H1 H' → Pot H' p → H' D = some (.lst ys) → Tups H' ys os → os.length = n → (∀ o ∈ os, C o) → Qd D H') :
    ∀ D, H1 D = none → ∃ W : Nat → Nat → Hp → Prop, (∃ m, W 0 m (upd H1 D (.lst []))) ∧ ∀ i m H, W i m H →
      (J.stop i H ∧ Qd D H) ∨ (J.go i H ∧ ∃ Nx : Hp → Prop, (∀ H', Nx H' → ∃ m', m' < m ∧ W (i + 1) m' H') ∧ ∀ x H', J.yld i H x H' → g x (wipe σ vs) H' fun σ2 H2 => wipe σ2 vs = wipe σ vs ∧ tt σ2 H2 fun b H3 =>
        if b = true then te σ2 H3 fun y H4 => ∃ acc, H4 D = some (.lst acc) ∧ acc.length < sizeLine ∧ Nx (upd H4 D (.lst (acc ++ [y]))) else Nx H3) := by
  intro D hD
  have hDp : D ≠ p := pot_ne hp hD
  refine lc_it wk (Qd := fun H => Qd D H) (fun i H => SameX p H1 H ∧ Pot H p ∧ ∃ ys os, H D = some (.lst ys) ∧ os.length = i ∧ Tups H ys os ∧ ∀ o ∈ os, C o)
    ⟨.of (same_new hD), hp.same (same_new hD), [], [], upd_same, rfl, .nil, fun o ho => absurd ho List.not_mem_nil⟩ (fun i H _ _ => hG H) (fun i x H H' hi h y => ?_) (fun H h => ?_)
  · obtain ⟨p1, p2, ys, os, p3, p4, p5, p6⟩ := h
    refine turn i x H H' p1 p2 y (fun H3 => _) _ (fun H3 b v e hP hC hT => ?_)
    have hD3 : H3 D = some (.lst ys) := e D _ hDp p3
    obtain ⟨_, _, hpp, _⟩ := id p2
    have hlen := Paired.length p5
    refine ⟨ys, hD3, sz_lt (by omega), (p1.trans e).mut hD, hP.put hDp, ys ++ [v], os ++ [b], upd_same, by simp [p4], ?_, fun o ho => ?_⟩
    · exact paired_append ((e.tups hpp p5).stab hD3) (.cons (hT.stab hD3) .nil)
    · rcases List.mem_append.mp ho with h | h
      · exact p6 o h
      · rw [List.mem_singleton.mp h]
        exact hC
  · obtain ⟨p1, p2, ys, os, p3, p4, p5, p6⟩ := h
    exact fin D ys os H hD p1 p2 p3 p5 p4 p6
end
theorem tups_addrs {K : PySem.W.Frag} {H : Hp} : ∀ {ss : List V} {S : List (List Int)}, Tups H ss S → ∃ ks : List (Addr × List Int), ss = ks.map (fun p => V.ref p.1) ∧ S = ks.map (·.2) ∧ ∀ p ∈ ks, SqT K H p.1 (p.2.map V.int)
  | _, _, .nil => ⟨[], rfl, rfl, fun _ h => absurd h List.not_mem_nil⟩
  | _, _, .cons r t => by
    obtain ⟨a, rfl, ha⟩ := r
    obtain ⟨ks, rfl, rfl, hk⟩ := tups_addrs (K := K) t
    refine ⟨(a, _) :: ks, rfl, rfl, fun p hp => ?_⟩
    rcases List.mem_cons.mp hp with e | hp
    · subst e
      exact ha.sq
    · exact hk p hp
theorem set_len {L ks : List (Addr × List Int)} (h1 : ∀ p ∈ L, p ∈ ks) (h2 : ∀ p ∈ ks, p.2 ∈ L.map (·.2)) (n1 : (L.map (·.2)).Nodup) (n2 : (ks.map (·.2)).Nodup) : L.length = ks.length := by
  have h : (L.map (·.2)).Perm (ks.map (·.2)) := (List.perm_ext_iff_of_nodup n1 n2).mpr fun o => by
    constructor
    · intro ho
      obtain ⟨z, hz, rfl⟩ := List.mem_map.mp ho
      exact List.mem_map.mpr ⟨z, h1 z hz, rfl⟩
    · intro ho
      obtain ⟨z, hz, rfl⟩ := List.mem_map.mp ho
      exact h2 z hz
  have := h.length_eq
  rwa [List.length_map, List.length_map] at this
theorem paired_take {α β : Type} {R : α → β → Prop} : ∀ {l : List α} {m : List β}, Paired R l m → ∀ i, Paired R (l.take i) (m.take i)
  | _, _, .nil, _ => by
    rw [List.take_nil, List.take_nil]
    exact .nil
  | _, _, .cons _ _, 0 => .nil
  | _, _, .cons r t, i + 1 => .cons r (paired_take t i)
/-! ### the facts, one by one -/
theorem facts_at {n : Nat} (h1 : 1 ≤ n) (h5 : n ≤ 5) {w : List Int} (hw : w ∈ orders n) : factsB n (lawSingles n) w (bearing w) = true := by
  have h : factsA n (lawSingles n) = true := by
    by_cases e : n = 5
    · subst e
      exact factsA_ok5
    · exact List.all_eq_true.mp factsA_ok1 n (by simp; omega)
  exact List.all_eq_true.mp h w hw
structure Fx (n : Nat) (w : List Int) : Prop where
  bear : lawBearing w (lawSingles n) = bearing w
  nil : (bearing w).isEmpty = (w == rg 1 ((n : Int) + 1))
  one : single w = true → bearing w = [w]
  low : ∀ o ∈ orders n, Mir.low w o = (bearing w).all fun b => Mir.low b o
theorem fx {n : Nat} (h1 : 1 ≤ n) (h5 : n ≤ 5) {w : List Int} (hw : w ∈ orders n) : Fx n w := by
  have h := facts_at h1 h5 hw
  unfold factsB at h
  simp only [Bool.and_eq_true] at h
  obtain ⟨⟨⟨a, b⟩, c⟩, d⟩ := h
  refine ⟨(eq_of_beq a).symm, eq_of_beq b, fun hs => ?_, fun o ho => eq_of_beq (List.all_eq_true.mp d o ho)⟩
  rw [hs] at c
  simpa using c
structure Sx (n : Nat) (S : List (List Int)) : Prop where
  len : (S.length : Int) = ((n : Int) + 1) * n * ((n : Int) - 1) / 6
  all : ∀ o ∈ S, single o = true ∧ o ∈ orders n
  nd : S.Nodup
  few : S.length ≤ 20
theorem sx {n : Nat} (h1 : 1 ≤ n) (h5 : n ≤ 5) : Sx n (lawSingles n) := by
  have h : factsS n (lawSingles n) = true := List.all_eq_true.mp factsS_ok n (by simp; omega)
  unfold factsS at h
  simp only [Bool.and_eq_true] at h
  obtain ⟨⟨a, b⟩, c⟩ := h
  have a := of_decide_eq_true a
  refine ⟨a, fun o ho => ?_, of_decide_eq_true c, ?_⟩
  · have := List.all_eq_true.mp b o ho
    simp only [Bool.and_eq_true] at this
    exact ⟨this.1, List.contains_iff_mem.mp this.2⟩
  · have : ∀ n ∈ [1, 2, 3, 4, 5], ((((n : Nat) : Int) + 1) * n * ((n : Int) - 1) / 6) ≤ 20 := by decide
    have := this n (by simp; omega)
    omega
/-! ### law_right -/
/-- what stands all the while -/
structure Kept (n : Nat) (p sl du : Addr) (v u : V) (w : List Int) (ss ds : List V) (H : Hp) : Prop where
  pot : Pot H p
  ord : Tup H v w
  told : Ord H u w
  tne : ∀ a, u = .ref a → a ≠ p
  sne : sl ≠ p
  dne : du ≠ p
  sl : H sl = some (.lst ss)
  S : Tups H ss (lawSingles n)
  du : H du = some (.lst ds)
  D : Tups H ds (bearing w)
section
variable {n : Nat} {p sl du : Addr} {v u : V} {w : List Int} {ss ds : List V} {H H' : Hp}
theorem Kept.same (k : Kept n p sl du v u w ss ds H) (e : Same H H') : Kept n p sl du v u w ss ds H' :=
  ⟨k.pot.same e, k.ord.mono e, k.told.mono e, k.tne, k.sne, k.dne, e _ _ k.sl, k.S.mono e, e _ _ k.du, k.D.mono e⟩
theorem Kept.move (k : Kept n p sl du v u w ss ds H) (e : SameX p H H') (hp : Pot H' p) : Kept n p sl du v u w ss ds H' := by
  obtain ⟨_, _, hpp, _⟩ := id k.pot
  refine ⟨hp, e.tup hpp k.ord, ?_, k.tne, k.sne, k.dne, e _ _ k.sne k.sl, e.tups hpp k.S, e _ _ k.dne k.du, e.tups hpp k.D⟩
  rcases k.told with h | ⟨a, h1, h2⟩
  · exact .inl (e.tup hpp h)
  · exact .inr ⟨a, h1, e _ _ (k.tne a h1) h2⟩
end
section
variable {P : Program} {w : World} {K : PySem.W.Frag} {mg : Str → Option Value} {base : Heap}
def sp_law_right : Sp := fun vs H Q _ => ∃ (p : Addr), vs = [.ref p] ∧ Pot H p ∧ ∀ H', Q (.bl true) H'
theorem ok_law_right (T : Txt K mg) : FnG P w K mg base 7 T.a_law_right T.d_law_right ["_law_pot_here"] sp_law_right := by
  refine fng_of T.f_law_right sc_law_right (fun vs H Q E h => ?_) (fun cdv A outer s H vs Q E hgd hr h => ?_)
  · obtain ⟨p, rfl, _⟩ := h
    rfl
  · obtain ⟨p, rfl, hp, q⟩ := h
    refine ⟨_, (pss_cons (ps_set (i := 1) sc_law_right.nd rfl (.inr rfl) (pe_call (ok_law_pick T) (hr.mono (by decide)) (by rfl) T.g_law_pick T.f_law_pick.kp T.b_law_pick .nil pass0 (pa_cons (pv 0) (pa_cons (pe_lst (pa_cons pe_int (pa_cons pe_int (pa_cons pe_int (pa_cons pe_int (pa_cons pe_int (pa_cons pe_int pa_nil))))))) pa_nil))))
      (pss_cons (ps_par (i := 2) (j := 3) (by rfl) sc_law_right.nd rfl rfl (by decide) rfl rfl (pa_cons (pe_call (ok_law_order T) (hr.mono (by decide)) (by rfl) T.g_law_order T.f_law_order.kp T.b_law_order .nil pass0 (pa_cons (pv 0) (pa_cons (pv 1) pa_nil))) (pa_cons (pe_call (ok_law_singles T) (hr.mono (by decide)) (by rfl) T.g_law_singles T.f_law_singles.kp T.b_law_singles .nil pass0 (pa_cons (pv 1) pa_nil)) pa_nil)) (by rfl))
      (pss_cons (ps_if (PW.pt (pw_or (pt_cmpR op_ne (pe_callB (cr_lenK K) (by rfl) T.z_len (by decide +kernel) (pa_cons (pv 3) pa_nil)) (pe_op op_fdiv (pe_op op_mul (pe_op op_mul (pe_op op_add (pv 1) pe_int) (pv 1)) (pe_op op_sub (pv 1) pe_int)) pe_int) (nomark _)) (pw_or (pt_not (pt_val (pe_callB (cr_allK K) (by rfl) T.z_all (by decide +kernel) (pa_cons (pe_lc (own := [("_law_one", 11)]) rfl sc_law_right.nd (pi_listK K (pv 3)) (blkOk_by (N := N_law_right) (sc := (defScope s_law_right)) (own := [("_law_one", 11)]) (by decide +kernel)) (fun _ _ _ _ _ => (pg_name (i := 11) sc_law_right.nd rfl (.inl rfl))) (fun _ _ _ _ _ => pts_nil) (fun _ _ _ _ _ => (pe_call (ok_law_single T) (hr.mono (by decide)) (by rfl) T.g_law_single T.f_law_single.kp T.b_law_single .nil pass0 (pa_cons (pv 11) pa_nil)))) pa_nil)))) (pw_or1 (pt_cmpR op_ne (pe_callB cr_lenTO (by rfl) T.z_len (by decide +kernel) (pa_cons (pe_callTy (cr_setOfT rfl hr.units) (by rfl) T.z_set (by decide +kernel) (pa_cons (pv 3) pa_nil)) pa_nil)) (pe_callB (cr_lenK K) (by rfl) T.z_len (by decide +kernel) (pa_cons (pv 3) pa_nil)) (nomark _)))))) (pss_one (ps_ret pe_bl)) pss_nil)
      (pss_cons (ps_par (i := 4) (j := 5) (by rfl) sc_law_right.nd rfl rfl (by decide) rfl rfl (pa_cons (pe_call (ok_law_as T) (hr.mono (by decide)) (by rfl) T.g_law_as T.f_law_as.kp T.b_law_as .nil pass0 (pa_cons (pv 0) (pa_cons (pv 2) pa_nil))) (pa_cons (pe_call (ok_law_bearing T) (hr.mono (by decide)) (by rfl) T.g_law_bearing T.f_law_bearing.kp T.b_law_bearing .nil pass0 (pa_cons (pv 2) (pa_cons (pv 3) pa_nil))) pa_nil)) (by rfl))
      (pss_cons (ps_if (PW.pt (pw_or (pt_cmpR op_ne (pe_callB (cr_reprK K hgd hr.units) (by rfl) T.z_repr (by decide +kernel) (pa_cons (pe_call (ok_bearing T) (hr.mono (by decide)) (by rfl) T.g_bearing T.f_bearing.kp T.b_bearing .nil pass0 (pa_cons (pv 4) pa_nil)) pa_nil)) (pe_callB (cr_reprK K hgd hr.units) (by rfl) T.z_repr (by decide +kernel) (pa_cons (pv 5) pa_nil)) (nomark _)) (pw_or1 (pt_cmpR op_ne (pe_cmpR (op_eqDK K hr.units) (pv 5) (pe_lst pa_nil) (nomark _)) (pe_cmpR (op_eqDK K hr.units) (pv 2) (pe_tupRgF rfl (by rfl) T.z_tuple (prg_2 (by rfl) T.z_range pe_int (pe_op op_add (pv 1) pe_int))) (nomark _)) (nomark _))))) (pss_one (ps_ret pe_bl)) pss_nil)
      (pss_cons (ps_set (i := 6) sc_law_right.nd rfl (.inl rfl) (pe_callKw (ok_bearing T) (hr.mono (by decide)) (by rfl) T.g_bearing T.f_bearing.kp T.k_bearing pass0 (pv 4)))
      (pss_cons (ps_expr (pe_bmK K PySem.F.plainAttrs_list PySem.F.slot_list_append PySem.F.type_list_append mt_append (pv 6) (pa_cons (pv 2) pa_nil)))
      (pss_cons (ps_if (pt_cmpR op_ne (pe_callB (cr_reprK K hgd hr.units) (by rfl) T.z_repr (by decide +kernel) (pa_cons (pe_call (ok_bearing T) (hr.mono (by decide)) (by rfl) T.g_bearing T.f_bearing.kp T.b_bearing .nil pass0 (pa_cons (pv 4) pa_nil)) pa_nil)) (pe_callB (cr_reprK K hgd hr.units) (by rfl) T.z_repr (by decide +kernel) (pa_cons (pv 5) pa_nil)) (nomark _)) (pss_one (ps_ret pe_bl)) pss_nil)
      (pss_cons (ps_for PassesOwn.never rfl (pi_listK K (pe_op op_cat (pe_lc (own := [("_law_turn", 10)]) rfl sc_law_right.nd (pi_range1 (by rfl) T.z_range (pa_cons pe_int pa_nil)) (blkOk_by (N := N_law_right) (sc := (defScope s_law_right)) (own := [("_law_turn", 10)]) (by decide +kernel)) (fun _ _ _ _ _ => (pg_name (i := 10) sc_law_right.nd rfl (.inl rfl))) (fun _ _ _ _ _ => pts_nil) (fun _ _ _ _ _ => (pe_call (ok_law_order T) (hr.mono (by decide)) (by rfl) T.g_law_order T.f_law_order.kp T.b_law_order .nil pass0 (pa_cons (pv 0) (pa_cons (pv 1) pa_nil))))) (pe_slice (sl_listK K) (pv 3) po_none (po_some pe_int)))) (pg_name (i := 7) sc_law_right.nd rfl (.inr rfl)) (pss_cons (ps_set (i := 8) sc_law_right.nd rfl (.inl rfl) (pe_call (ok_law_single T) (hr.mono (by decide)) (by rfl) T.g_law_single T.f_law_single.kp T.b_law_single .nil pass0 (pa_cons (pv 7) pa_nil)))
      (pss_cons (ps_if (pt_cmpR op_ne (pe_callB (cr_reprK K hgd hr.units) (by rfl) T.z_repr (by decide +kernel) (pa_cons (pe_lst (pa_cons (pe_call (ok_is_single T) (hr.mono (by decide)) (by rfl) T.g_is_single T.f_is_single.kp T.b_is_single .nil pass0 (pa_cons (pv 7) pa_nil)) (pa_cons (pe_callKw (ok_is_single T) (hr.mono (by decide)) (by rfl) T.g_is_single T.f_is_single.kp T.k_is_single pass0 (pe_callTy (cr_listK K) (by rfl) T.z_list (by decide +kernel) (pa_cons (pv 7) pa_nil))) pa_nil))) pa_nil)) (pe_callB (cr_reprK K hgd hr.units) (by rfl) T.z_repr (by decide +kernel) (pa_cons (pe_lst (pa_cons (pv 8) (pa_cons (pv 8) pa_nil))) pa_nil)) (nomark _)) (pss_one (ps_ret pe_bl)) pss_nil)
      (pss_cons (ps_if (pt_cmpR op_ne (pe_call (ok_is_below T) (hr.mono (by decide)) (by rfl) T.g_is_below T.f_is_below.kp T.b_is_below .nil pass0 (pa_cons (pv 2) (pa_cons (pv 7) pa_nil))) (pe_callB (cr_allK K) (by rfl) T.z_all (by decide +kernel) (pa_cons (pe_lc (own := [("_law_one", 11)]) rfl sc_law_right.nd (pi_listK K (pv 5)) (blkOk_by (N := N_law_right) (sc := (defScope s_law_right)) (own := [("_law_one", 11)]) (by decide +kernel)) (fun _ _ _ _ _ => (pg_name (i := 11) sc_law_right.nd rfl (.inl rfl))) (fun _ _ _ _ _ => pts_nil) (fun _ _ _ _ _ => (pe_call (ok_is_below T) (hr.mono (by decide)) (by rfl) T.g_is_below T.f_is_below.kp T.b_is_below .nil pass0 (pa_cons (pv 11) (pa_cons (pv 7) pa_nil))))) pa_nil)) (nomark _)) (pss_one (ps_ret pe_bl)) pss_nil)
      (pss_one (ps_if (PW.pt (pw_and (pt_val (pv 8)) (pw_and1 (pt_cmpR (op_neDK K hr.units) (pe_call (ok_bearing T) (hr.mono (by decide)) (by rfl) T.g_bearing T.f_bearing.kp T.b_bearing .nil pass0 (pa_cons (pv 7) pa_nil)) (pe_lst (pa_cons (pv 7) pa_nil)) (nomark _))))) (pss_one (ps_ret pe_bl)) pss_nil))))))
      (pss_cons (ps_set (i := 9) sc_law_right.nd rfl (.inr rfl) (pe_callTy (cr_tupF K) (by rfl) T.z_tuple (by decide +kernel) (pa_cons (pe_call (ok_law_mixed T) (hr.mono (by decide)) (by rfl) T.g_law_mixed T.f_law_mixed.kp T.b_law_mixed .nil pass0 (pa_cons (pv 0) (pa_cons (pe_listRg rfl (by rfl) T.z_list (prg_2 (by rfl) T.z_range pe_int pe_int)) pa_nil))) pa_nil)))
      (pss_one (ps_ret (pe_and (pe_cmpR op_eq (pe_call (ok_is_single T) (hr.mono (by decide)) (by rfl) T.g_is_single T.f_is_single.kp T.b_is_single .nil pass0 (pa_cons (pv 9) pa_nil)) (pe_call (ok_law_single T) (hr.mono (by decide)) (by rfl) T.g_law_single T.f_law_single.kp T.b_law_single .nil pass0 (pa_cons (pv 9) pa_nil)) (nomark _)) (pe_one (pe_callB (cr_allK K) (by rfl) T.z_all (by decide +kernel) (pa_cons (pe_lc (own := [("_law_one", 11)]) rfl sc_law_right.nd (pi_listK K (pe_call (ok_bearing T) (hr.mono (by decide)) (by rfl) T.g_bearing T.f_bearing.kp T.b_bearing .nil pass0 (pa_cons (pv 9) pa_nil))) (blkOk_by (N := N_law_right) (sc := (defScope s_law_right)) (own := [("_law_one", 11)]) (by decide +kernel)) (fun _ _ _ _ _ => (pg_name (i := 11) sc_law_right.nd rfl (.inl rfl))) (fun _ _ _ _ _ => pts_nil) (fun _ _ _ _ _ => (pe_and (pe_call (ok_is_single T) (hr.mono (by decide)) (by rfl) T.g_is_single T.f_is_single.kp T.b_is_single .nil pass0 (pa_cons (pv 11) pa_nil)) (pe_one (pe_call (ok_is_below T) (hr.mono (by decide)) (by rfl) T.g_is_below T.f_is_below.kp T.b_is_below .nil pass0 (pa_cons (pv 11) (pa_cons (pv 9) pa_nil))))))) pa_nil)))))))))))))))), ?_⟩
    -- the size
    refine ⟨_, rfl, sz_ok (by show 6 ≤ 100000; decide), fun l nl => ?_⟩
    refine ⟨p, l, _, rfl, hp.same (same_new nl), pot_ne hp nl, upd_same, by show 1 ≤ 6; decide, by show 6 ≤ 1000; decide, fun H1 x e1 hp1 hx => ?_⟩
    obtain ⟨n, rfl, h1, h5⟩ : ∃ n : Nat, x = .int (n : Int) ∧ 1 ≤ n ∧ n ≤ 5 := by
      simp only [List.mem_cons, List.not_mem_nil, or_false] at hx
      rcases hx with rfl | rfl | rfl | rfl | rfl | rfl
      · exact ⟨1, rfl, by decide, by decide⟩
      · exact ⟨2, rfl, by decide, by decide⟩
      · exact ⟨3, rfl, by decide, by decide⟩
      · exact ⟨4, rfl, by decide, by decide⟩
      · exact ⟨4, rfl, by decide, by decide⟩
      · exact ⟨5, rfl, by decide, by decide⟩
    -- the order and the singles
    refine ⟨_, rfl, _, rfl, p, n, rfl, hp1, h1, h5, fun H2 v ws e2 hp2 hw hv => ?_⟩
    refine ⟨_, rfl, n, rfl, h1, h5, fun H3 sl ss e3 nsl hsl hS => ⟨_, _, rfl, ?_⟩⟩
    have X := sx h1 h5
    have F := fx h1 h5 hw
    obtain ⟨hval, hwl⟩ := orders_valid h1 (by omega) hw
    have hgood := goodS hval (by omega)
    have hp3 := hp2.same e3
    have hv3 := hv.mono e3
    have hsp := pot_ne hp2 nsl
    have hSv : ∀ o ∈ lawSingles n, Valid o ∧ o.length = n := fun o ho => orders_valid h1 (by omega) (X.all o ho).2
    -- the first test
    have tlen : (!decide (V.int ((ss.length : Nat) : Int) = V.int (((n : Int) + 1) * n * ((n : Int) - 1) / 6))) = false := by
      have e : ((ss.length : Nat) : Int) = ((n : Int) + 1) * n * ((n : Int) - 1) / 6 := by
        rw [Paired.length hS]
        exact X.len
      rw [e, decide_eq_true rfl]
      rfl
    refine ⟨_, rfl, sl, _, rfl, .inl (SqL.of hsl), _, rfl, _, _, rfl, rfl, _, rfl, _, _, rfl, rfl, .inl (by omega), _, rfl, _, _, rfl, rfl, _, _, rfl, rfl, .inr (by omega), _, _, rfl, rfl, ⟨by decide, by decide⟩, rfl, _, rfl, iteB0 tlen ?_⟩
    refine ⟨_, rfl, sl, rfl, ⟨ss, SqL.of hsl⟩, ?_⟩
    refine lc_v walk_list (lawSingles n) (Paired.length hS).symm (by have := X.few; omega) (fun o => some (.bl (single o))) (fun H' e => same_lst hsl e)
      (fun j z y H6 H7 hz e hy K0 Kx k0 k1 => ?_) (fun D H4 hD e4 hlD => ?_)
    · obtain ⟨rfl, hy⟩ := hy
      obtain ⟨z', hz', hTz⟩ := tups_at hS hy
      have q1 := Option.some.inj (hz.symm.trans hz')
      subst q1
      exact ⟨rfl, _, rfl, y, z, rfl, hTz.mono e, (hSv z (List.mem_of_getElem? hz)).1, fun H8 e8 => k1 _ _ e8 rfl⟩
    · rw [filterMap_some] at hlD
      have hall : ((lawSingles n).map single).all id = true := by
        rw [List.all_map]
        exact List.all_eq_true.mpr fun o ho => (X.all o ho).1
      refine ⟨D, (lawSingles n).map single, rfl, SqL.of (by rw [hlD, List.map_map]; rfl), _, rfl, iteN hall ?_⟩
      -- the set
      obtain ⟨ks, eks, ekS, hks⟩ := tups_addrs (K := K) (hS.mono e4)
      have hsl4 := e4 _ _ hsl
      refine ⟨_, rfl, sl, ks, rfl, SqL.of (by rw [← eks]; exact hsl4), hks, ?_, fun a L na i1 i2 => ⟨a, L, rfl, upd_same, fun hnd => ?_⟩⟩
      · have i := congrArg List.length ekS
        rw [List.length_map] at i
        have := X.few
        omega
      have e5 := same_new (o := SetTO P w a L) na
      have hsl5 := e5 _ _ hsl4
      have tset : (!decide (V.int ((L.length : Nat) : Int) = V.int ((ss.length : Nat) : Int))) = false := by
        have i := set_len i1 i2 hnd (by rw [← ekS]; exact X.nd)
        have j := congrArg List.length eks
        rw [List.length_map] at j
        rw [i, j, decide_eq_true rfl]
        rfl
      refine ⟨_, rfl, sl, _, rfl, .inl (SqL.of hsl5), rfl, _, rfl, iteB0 tset ?_⟩
      have e35 := e4.trans e5
      have hp5 := hp3.same e35
      have hv5 := hv3.mono e35
      have hS5 := hS.mono e35
      clear hks eks ekS i1 i2 tset
      -- told and due
      refine ⟨_, rfl, _, rfl, p, v, ws, rfl, hp5, hv5, fun H6 u e6 hp6 hu => ?_⟩
      obtain ⟨_, _, hpp5, _⟩ := id hp5
      have hsl6 := e6 _ _ hsp hsl5
      have hv6 := e6.tup hpp5 hv5
      have hS6 := e6.tups hpp5 hS5
      refine ⟨_, rfl, _, rfl, v, sl, ss, ws, lawSingles n, rfl, hv6, hsl6, hS6, by omega, fun o ho => by have := (hSv o ho).2; omega, by have := X.few; omega, fun H7 du ds e7 ndu hdu hD => ⟨_, _, rfl, ?_⟩⟩
      rw [F.bear] at hD
      have k7 : Kept n p sl du v u ws ss ds H7 := ⟨hp6.same e7, hv6.mono e7, hu.1.mono e7, hu.2, hsp, pot_ne hp6 ndu, e7 _ _ hsl6, hS6.mono e7, hdu, hD⟩
      clear hu
      have hB : ∀ b ∈ bearing ws, Small b ∧ b.length ≤ 9 := fun b hb => valid_small (below_ok hval (by omega) (bearing_mem hb)).1
      have hBl : (bearing ws).length ≤ 1000 := by
        have h := bearing_len ws
        have h2 : ws.length * ws.length ≤ 5 * 5 := Nat.mul_le_mul (by omega) (by omega)
        omega
      have ros := showable_os hB
      have rosl := shown_os hB hBl
      have same_rep : ∀ z : Str, (!decide (V.str z = V.str z)) = false := fun z => by
        rw [decide_eq_true rfl]
        rfl
      -- the second test
      refine ⟨_, rfl, u, ws, rfl, k7.told, hval, hgood, fun H8 b8 bs8 e8 nb8 hb8 hB8 => ?_⟩
      have k8 := k7.same e8
      refine ⟨b8, osD (bearing ws), rfl, dpOs hb8 hB8, ros, noDict_os _, depth_os _, rosl, _, rfl, du, osD (bearing ws), rfl, dpOs k8.du k8.D, ros, noDict_os _, depth_os _, rosl, rfl, _, rfl, iteB0 (same_rep _) ?_⟩
      refine ⟨_, rfl, sz_ok (by decide), fun em nem => ?_⟩
      have e9 := same_new (o := .lst []) nem
      refine ⟨osD (bearing ws), osD [], dpOs (e9 _ _ k8.du) (k8.D.mono e9), dpOs upd_same .nil, shaped_os _, shaped_os _, ?_⟩
      have k9 := k8.same e9
      generalize (upd H8 em (.lst [])) = H9 at e9 k9
      refine ⟨_, rfl, _, rfl, _, _, rfl, rfl, _, _, rfl, rfl, rgOk (by decide) (by decide) (by omega) (by omega), fun t H10 nt e10 hF10 => ?_⟩
      have k10 := k9.same e10
      refine ⟨tupD ws, tupD (rg 1 ((n : Int) + 1)), dpTup k10.ord, dpTup ⟨t, rfl, by rw [← rgV_rg]; exact hF10⟩, shaped_tup _, shaped_tup _, rfl, _, rfl, ?_⟩
      have tnil : (!decide (V.bl (PyData.eqv (osD (bearing ws)) (osD [])) = V.bl (PyData.eqv (tupD ws) (tupD (rg 1 ((n : Int) + 1)))))) = false := by
        rw [eqv_os, eqv_tup, nil_isEmpty, F.nil, decide_eq_true rfl]
        rfl
      refine iteB0 tnil ?_
      -- first
      refine ⟨_, rfl, u, ws, rfl, k10.told, hval, hgood, fun H11 fi fs e11 nfi hfi hF11 => ?_⟩
      have lfs : fs.length ≤ 1000 := by rw [Paired.length hF11]; exact hBl
      refine ⟨_, rfl, .inl ⟨rfl, _, SqL.of hfi⟩, _, rfl, fi, fs, v, rfl, rfl, hfi, sz_lt (by omega), ?_⟩
      have e12 : Same H10 (upd H11 fi (.lst (fs ++ [v]))) := same_mut e11 nfi
      have k12 := k10.same e12
      generalize (upd H11 fi (.lst (fs ++ [v]))) = H12 at e12 k12
      -- the third test
      refine ⟨_, rfl, u, ws, rfl, k12.told, hval, hgood, fun H13 b13 bs13 e13 nb13 hb13 hB13 => ?_⟩
      have k13 := k12.same e13
      refine ⟨b13, osD (bearing ws), rfl, dpOs hb13 hB13, ros, noDict_os _, depth_os _, rosl, _, rfl, du, osD (bearing ws), rfl, dpOs k13.du k13.D, ros, noDict_os _, depth_os _, rosl, rfl, _, rfl, iteB0 (same_rep _) ?_⟩
      -- ten orders and six singles
      refine ⟨_, rfl, by decide, by decide, ?_⟩
      refine lc_pot walk_range (by decide) p k13.pot (fun o => o ∈ orders n) (fun _ => trivial)
        (fun i x H14 H15 e14 hp14 hy K0 Kx k1 => ?_) (fun D2 ys os H14 hD2 e14 hp14 hl14 hT14 hos hC => ?_)
      · obtain ⟨rfl, rfl⟩ := hy
        exact ⟨rfl, _, rfl, _, rfl, p, n, rfl, hp14, h1, h5, fun H16 y o e16 hp16 ho hT => k1 _ o y e16 hp16 ho hT⟩
      have k14 := k13.move e14 hp14
      have hos' : os.length = 10 := by simpa using hos
      have hD2p := pot_ne k13.pot hD2
      refine ⟨_, rfl, _, rfl, sl, ss, rfl, SqL.of k14.sl, fun c nc => ?_⟩
      have e15 := same_new (o := .lst (cutV ss none (some 6))) nc
      have k15 := k14.same e15
      have hl15 := e15 _ _ hl14
      have hT15 := hT14.mono e15
      have hc15 : (upd H14 c (.lst (cutV ss none (some 6)))) c = some (.lst (cutV ss none (some 6))) := upd_same
      obtain ⟨six, hsix, hsixo⟩ : ∃ six, Tups (upd H14 c (.lst (cutV ss none (some 6)))) (cutV ss none (some 6)) six ∧ ∀ o ∈ six, o ∈ orders n := by
        have hcut : cutV ss none (some 6) = ss.take (min 6 ss.length) := by
          unfold cutV
          rw [HT.sIx_none, show (some (6 : Int)) = some ((6 : Nat) : Int) from rfl, HT.sIx_nat, List.drop_zero, Nat.sub_zero]
        refine ⟨(lawSingles n).take (min 6 ss.length), ?_, fun o ho => (X.all o (List.mem_of_mem_take ho)).2⟩
        rw [hcut]
        exact paired_take k15.S _
      have hcutl : (cutV ss none (some 6)).length ≤ 1000 := by
        have i := cutV_length ss none (some 6)
        have j := Paired.length hS
        have k := X.few
        omega
      generalize cutV ss none (some 6) = cs at *
      generalize (upd H14 c (.lst cs)) = H15 at e15 k15 hl15 hT15 hc15 hsix
      have hys := Paired.length hT15
      refine ⟨D2, c, ys, cs, rfl, rfl, hl15, hc15, sz_ok (by omega), fun al nal => ?_⟩
      have e16 := same_new (o := .lst (ys ++ cs)) nal
      have k16 := k15.same e16
      have hal : (upd H15 al (.lst (ys ++ cs))) al = some (.lst (ys ++ cs)) := upd_same
      have hTA := paired_append (hT15.mono e16) (hsix.mono e16)
      have hAo : ∀ o ∈ os ++ six, o ∈ orders n := fun o ho => (List.mem_append.mp ho).elim (hC o) (hsixo o)
      generalize (upd H15 al (.lst (ys ++ cs))) = H16 at e16 k16 hal hTA
      generalize os ++ six = As at hTA hAo
      generalize ys ++ cs = xs at hTA hal
      refine ⟨al, rfl, ⟨xs, SqL.of hal⟩, ?_⟩
      refine for_it (walk_list (xs := xs)) (fun i σ H' => ∃ (y7 y8 : Option V),
        σ = [some (.ref p), some (.int n), some v, some (.ref sl), some u, some (.ref du), some (.ref fi), y7, y8, none, none, none] ∧ Same H16 H')
        ⟨none, none, rfl, .refl _⟩
        (fun i σ H' _ h => ?_) (fun i x σ H17 H17' hi h hy => ?_) (fun σ H17 h => ?_)
      · obtain ⟨y7, y8, _, e⟩ := h
        exact SqL.of (e _ _ hal)
      · obtain ⟨y7, y8, rfl, e17⟩ := h
        obtain ⟨rfl, hx⟩ := hy
        obtain ⟨o, ho, hT⟩ := tups_at hTA hx
        have hoo := hAo o (List.mem_of_getElem? ho)
        obtain ⟨ov, ol⟩ := orders_valid h1 (by omega) hoo
        have ogood := goodS ov (by omega)
        have FO := fx h1 h5 hoo
        have k17 := k16.same e17
        have hT17 := hT.mono e17
        refine ⟨_, rfl, x, o, rfl, hT17, ov, fun H18 e18 => ?_⟩
        have hT18 := hT17.mono e18
        -- the two ways to ask
        refine ⟨_, rfl, x, o, rfl, .inl hT18, ov, fun H19 e19 => ?_⟩
        obtain ⟨xa, rfl, hxa⟩ := hT18.mono e19
        refine ⟨_, rfl, xa, _, rfl, .inr hxa.sq, fun li nli => ?_⟩
        have e20 := same_new (o := .lst (o.map V.int)) nli
        refine ⟨.ref li, o, rfl, .inr ⟨li, rfl, upd_same⟩, ov, fun H21 e21 => ⟨sz_ok (by show 2 ≤ 100000; decide), fun r1 nr1 => ?_⟩⟩
        have e22 := same_new (o := .lst [.bl (single o), .bl (single o)]) nr1
        obtain ⟨d1, d2, d3, d4⟩ := blD_ok (single o) (single o)
        refine ⟨r1, blD (single o) (single o), rfl, .lst (SqL.of upd_same) (.cons (.bl _) (.cons (.bl _) .nil)), d1, d2, d3, d4, _, rfl, _, rfl, sz_ok (by show 2 ≤ 100000; decide), fun r2 nr2 => ?_⟩
        have e23 := same_new (o := .lst [.bl (single o), .bl (single o)]) nr2
        refine ⟨r2, blD (single o) (single o), rfl, .lst (SqL.of upd_same) (.cons (.bl _) (.cons (.bl _) .nil)), d1, d2, d3, d4, rfl, _, rfl, iteB0 (same_rep _) ?_⟩
        have e1823 : Same H17' _ := ((((e18.trans e19).trans e20).trans e21).trans e22).trans e23
        clear e19 e20 e21 e22 e23
        generalize (upd (upd H21 r1 (.lst [.bl (single o), .bl (single o)])) r2 (.lst [.bl (single o), .bl (single o)])) = H23 at e1823
        have k23 := k17.same e1823
        have hT23 := hT17.mono e1823
        -- below
        refine ⟨_, rfl, _, rfl, v, _, ws, o, rfl, .inl k23.ord, .inl hT23, hval, ov, by omega, fun H24 e24 => ?_⟩
        have k24 := k23.same e24
        have hT24 := hT23.mono e24
        refine ⟨_, rfl, du, rfl, ⟨ds, SqL.of k24.du⟩, ?_⟩
        refine lc_v walk_list (bearing ws) (Paired.length k24.D).symm (by omega) (fun b => some (.bl (low b o))) (fun H' e => same_lst k24.du e)
          (fun j z y H26 H27 hz e hy K0 Kx k0 k1 => ?_) (fun D3 H25 hD3 e25 hl25 => ?_)
        · obtain ⟨rfl, hy⟩ := hy
          obtain ⟨z', hz', hTz⟩ := tups_at k24.D hy
          have q1 := Option.some.inj (hz.symm.trans hz')
          subst q1
          obtain ⟨zv, zl, _, _⟩ := below_ok hval (by omega) (bearing_mem (List.mem_of_getElem? hz))
          exact ⟨rfl, _, rfl, _, rfl, y, _, z, o, rfl, .inl (hTz.mono e), .inl (hT24.mono e), zv, ov, by omega, fun H28 e28 => k1 _ _ e28 rfl⟩
        rw [filterMap_some] at hl25
        refine ⟨D3, (bearing ws).map fun b => low b o, rfl, SqL.of (by rw [hl25, List.map_map]; rfl), rfl, _, rfl, ?_⟩
        have tlow : (!decide (V.bl (low ws o) = V.bl (((bearing ws).map fun b => low b o).all id))) = false := by
          have i : ((bearing ws).map fun b => low b o).all id = (bearing ws).all fun b => low b o := by
            rw [List.all_map]
            rfl
          rw [i, F.low o hoo, decide_eq_true rfl]
          rfl
        refine iteB0 tlow ?_
        -- of a single
        refine ⟨_, rfl, _, rfl, ite2 (fun hs => ?_) (fun hs => ?_)⟩
        · refine ⟨_, rfl, _, o, rfl, .inl (hT24.mono e25), ov, ogood, fun H26 bb bbs e26 nbb hbb hBB => ⟨_, rfl, sz_ok (by show 1 ≤ 100000; decide), fun r3 nr3 => ?_⟩⟩
          have e27 := same_new (o := .lst [.ref xa]) nr3
          refine ⟨osD (bearing o), osD [o], dpOs (e27 _ _ hbb) (hBB.mono e27), dpOs upd_same (.cons (((hT24.mono e25).mono e26).mono e27) .nil), shaped_os _, shaped_os _, _, rfl, iteN ?_ ?_⟩
          · rw [eqv_os, FO.one hs]
            exact beq_self_eq_true _
          · exact ⟨_, _, rfl, (((((e17.trans e1823).trans e24).trans e25).trans e26).trans e27)⟩
        · exact iteF ⟨_, _, rfl, (((e17.trans e1823).trans e24).trans e25)⟩
      · obtain ⟨y7, y8, rfl, e17⟩ := h
        have k17 := k16.same e17
        -- seven things
        refine ⟨_, rfl, _, _, rfl, rfl, rgOk (by decide) (by decide) (by decide) (by decide), fun l2 nl2 => ?_⟩
        have e18 := same_new (o := .lst (rgV 1 8)) nl2
        have h78 : (upd H17 l2 (.lst (rgV 1 8))) l2 = some (.lst ((rg 1 8).map V.int)) := by rw [upd_same, rgV_rg]
        refine ⟨p, l2, rg 1 8, rfl, (k17.same e18).pot, pot_ne k17.pot nl2, h78, by decide, fun H19 f w7 e19 nf hfp hp19 hw7 hf => ?_⟩
        obtain ⟨v7, l7⟩ := orders_valid (n := 7) (by decide) (by decide) hw7
        have g7 := goodS v7 (by omega)
        refine ⟨f, _, rfl, .inl ⟨SqL.of hf, fun t7 H20 nt7 e20 hF7 => ?_⟩⟩
        have T7 : Tup H20 (.ref t7) w7 := ⟨t7, rfl, hF7⟩
        refine ⟨_, rfl, _, w7, rfl, .inl T7, v7, fun H21 e21 => ⟨_, rfl, _, w7, rfl, T7.mono e21, v7, fun H22 e22 => ⟨rfl, _, rfl, iteDT rfl ?_⟩⟩⟩
        have T22 := (T7.mono e21).mono e22
        refine ⟨_, rfl, _, w7, rfl, .inl T22, v7, g7, fun H23 b bs e23 nb hb hB => ⟨b, rfl, ⟨bs, SqL.of hb⟩, ?_⟩⟩
        have T23 := T22.mono e23
        have lb := bearing_len w7
        rw [l7] at lb
        refine lc_v walk_list (bearing w7) (Paired.length hB).symm (by omega) (fun _ => some (.bl true)) (fun H' e => same_lst hb e)
          (fun j z y H26 H27 hz e hy K0 Kx k0 k1 => ?_) (fun D3 H25 hD3 e25 hl25 => ?_)
        · obtain ⟨rfl, hy⟩ := hy
          obtain ⟨z', hz', hTz⟩ := tups_at hB hy
          have q1 := Option.some.inj (hz.symm.trans hz')
          subst q1
          obtain ⟨zv, zl, zs, zlow⟩ := below_ok v7 (by omega) (bearing_mem (List.mem_of_getElem? hz))
          refine ⟨rfl, _, rfl, y, z, rfl, .inl (hTz.mono e), zv, fun H28 e28 => ⟨_, rfl, iteB1 zs ?_⟩⟩
          refine ⟨_, rfl, _, rfl, y, _, z, w7, rfl, .inl ((hTz.mono e).mono e28), .inl ((T23.mono e).mono e28), zv, v7, zl, fun H29 e29 => k1 _ _ (e28.trans e29) ?_⟩
          rw [zlow]
        · rw [filterMap_some] at hl25
          refine ⟨D3, (bearing w7).map fun _ => true, rfl, SqL.of (by rw [hl25, List.map_map]; rfl), ?_⟩
          have ht : ((bearing w7).map fun _ => true).all id = true := by
            rw [List.all_map]
            exact List.all_eq_true.mpr fun _ _ => rfl
          rw [ht]
          exact q _
def sp_law : Sp := fun vs H Q _ => ∃ (a : Addr) (ns : List Int), vs = [.ref a] ∧ SqL K H a (ns.map V.int) ∧ ∀ H', Q (.bl true) H'
theorem ok_law (T : Txt K mg) : FnG P w K mg base 8 T.a_law T.d_law ["_law_script"] (sp_law (K := K)) := by
  refine fng_of T.f_law sc_law (fun vs H Q E h => ?_) (fun cdv A outer s H vs Q E hgd hr h => ?_)
  · obtain ⟨a, ns, rfl, _⟩ := h
    rfl
  · obtain ⟨a, ns, rfl, ha, q⟩ := h
    refine ⟨_, (pss_one (ps_ret (pe_callG (ok_law_right T) hgd (hr.mono (by decide)) (by rfl) T.g_law_right T.f_law_right.kp T.b_law_right pass0 (pa_cons (pe_call (ok_law_pot T) (hr.mono (by decide)) (by rfl) T.g_law_pot T.f_law_pot.kp T.b_law_pot .nil pass0 (pa_cons (pv 0) (pa_cons pe_int pa_nil))) pa_nil)))), ?_⟩
    exact ⟨_, rfl, a, ns, rfl, ha, fun H1 p e1 np hp => ⟨p, rfl, hp, fun H' => q H'⟩⟩
end
end Bd

open PySem PySem.W PyProof.Rows
namespace Bd
open PySem PySem.Spec PyProof.Rows L2 Gp Mir
/-! ### the head: the promise of a def that is called where guards is some [] -/
section
variable {P : Program} {w : World} {K : PySem.W.Frag} {mg mb : Str → Option Value} {k : Nat} {fa a : Addr} {fd : FuncData} {x : Str} {sp : Sp} {s1 : Shared} {vs : List Value} {ns : List Int}
abbrev EndsTrue (s1 : Shared) : Except Value Flow → Shared → Prop := fun r s' =>
  r = .ok (.ret (.bool true)) ∧ OldK s1.heap s'.heap ∧ s'.os = s1.os ∧ AllBare s'.gens
/-- what is asked of the heap that is tracked when the law is entered -/
structure Entry (P : Program) (w : World) (K : PySem.W.Frag) (s1 : Shared) (a : Addr) (ns : List Int) (H : Hp) : Prop where
  only : Only H
  sq : SqL K H a (ns.map V.int)
  ok : HOk P w H s1.heap
  at_a : ∀ b, H b ≠ none → b = a
  out : H a ≠ none → K.lookup a = none
theorem run_at (KX : K.In s1.heap) (hns : s1.heap.Ns mainGlobals mg) (hb : s1.heap.Ns builtinsNs mb)
    (hbb : ∀ x : Str, x ≠ "__name__" → mb x = bootBuiltins x) (hlim : s1.heap.NoLimit) (hg : s1.gens = #[])
    (ha : s1.heap.get? a = some { cls := .type "list", data := .seq vs.toArray }) (hr : Room k callerA)
    (F : ∀ base : Heap, K.In base → base.Ns mainGlobals mg → FnG P w K mg base k fa fd [x] sp)
    (hbind : ∀ (s : Shared) (u : Value), BindsTo s fd ⟨[u], []⟩ [(x, u)]) {H : Hp} (N : Entry P w K s1 a ns H)
    (hsp : sp [.ref a] H (fun v _ => v = .bl true) fun _ _ _ => False) :
    codeAny (model P w) callerA (.call (.ref fa) ⟨[.ref a], []⟩) (EndsTrue s1) s1 := by
  have tracked : ∀ {b : Addr} {u : HO}, H b = some u → b = a := fun {b u} e =>
    N.at_a b (by
      rw [e]
      exact Option.some_ne_none u)
  have keepDict : ∀ {b : Addr} {o : Obj} {es : Array DictEntry} {ep : Nat}, s1.heap.get? b = some o → o.data = .dict es ep → (hidT s1.heap H).get? b = some o := by
    intro b o es ep e d
    refine hidT_get e ?_
    cases q : H b with
    | none => rfl
    | some u =>
      have hba := tracked q
      subst hba
      rw [ha] at e
      cases e
      have d2 : (Data.seq vs.toArray : Data) = Data.dict es ep := d
      cases d2
  have keepNs : ∀ {b : Addr} {m : Str → Option Value}, s1.heap.Ns b m → (hidT s1.heap H).Ns b m := by
    intro b m h
    obtain ⟨o, es, ep, e, d, r⟩ := h
    exact ⟨o, es, ep, keepDict e d, d, r⟩
  have keepK : K.In (hidT s1.heap H) := by
    intro b o e
    refine hidT_get (KX b o e) ?_
    cases q : H b with
    | none => rfl
    | some u =>
      have hba := tracked q
      subst hba
      rw [N.out (by
        rw [q]
        exact Option.some_ne_none u)] at e
      cases e
  have lim : (hidT s1.heap H).NoLimit := by
    obtain ⟨mc, l1, l2⟩ := hlim
    exact ⟨mc, keepNs l1, l2⟩
  have M : Mod K mg (hidT s1.heap H) := ⟨keepK, keepNs hns, ⟨mb, keepNs hb, hbb⟩, lim⟩
  have none_in : ∀ b : Addr, b ∉ ([] : List Addr) := fun b => List.not_mem_nil
  have env : Env0 P w K mg (hidT s1.heap H) callerA [] s1 H :=
    ⟨rfl, M, fun b o e => of_hidT e, Nat.le_of_eq (hidT_size _ _), trivial, fun b h => absurd h (none_in b), N.ok, .of_eq hg⟩
  have ran := (F _ keepK (keepNs hns)).run callerA [] s1 H ⟨[.ref a], []⟩ [.ref a] [.ref a] _ _ rfl hr env (hbind s1 (.ref a)) (.cons rfl .nil) hsp
  refine codeAny_mono ran fun r s' h => ?_
  match r, h with
  | .error e, h => exact False.elim h
  | .ok .next, h => exact False.elim h
  | .ok .brk, h => exact False.elim h
  | .ok .cont, h => exact False.elim h
  | .ok (.ret u), h =>
    obtain ⟨v, H2, os, bare, un, ok2, rel, tru⟩ := h
    have tru' : v = .bl true := tru
    subst tru'
    have hu : u = Value.bool true := rel
    subst hu
    refine ⟨rfl, ?_, os, bare⟩
    refine OldK.of_keep fun b o e => ?_
    cases q : H b with
    | none => exact un.keep b o e q (none_in b) (none_in b)
    | some u =>
      rcases N.only b with z | ⟨ob, xs, z⟩
      · rw [q] at z
        cases z
      · have after := un.frzs b ob _ z
        have o1 := (N.ok b _ z).1
        have o2 := (ok2 b _ after).1
        rw [e] at o1
        cases o1
        exact o2
theorem run_law (KX : K.In s1.heap) (hns : s1.heap.Ns mainGlobals mg) (hb : s1.heap.Ns builtinsNs mb)
    (hbb : ∀ x : Str, x ≠ "__name__" → mb x = bootBuiltins x) (hlim : s1.heap.NoLimit) (hg : s1.gens = #[])
    (ha : s1.heap.get? a = some { cls := .type "list", data := .seq vs.toArray }) (hi : IntsAre vs ns) (hl : ns.length ≤ sizeLine) (hr : Room k callerA)
    (F : ∀ base : Heap, K.In base → base.Ns mainGlobals mg → FnG P w K mg base k fa fd [x] sp)
    (hbind : ∀ (s : Shared) (u : Value), BindsTo s fd ⟨[u], []⟩ [(x, u)])
    (hsp : ∀ H : Hp, SqL K H a (ns.map V.int) → sp [.ref a] H (fun v _ => v = .bl true) fun _ _ _ => False) :
    codeAny (model P w) callerA (.call (.ref fa) ⟨[.ref a], []⟩) (EndsTrue s1) s1 := by
  have rel := vals_ints hi
  have len := hi.length
  cases hk : K.lookup a with
  | some o =>
    have same := KX a o hk
    rw [ha] at same
    cases same
    have sq : SqL K (fun _ => none) a (ns.map V.int) :=
      .inr ⟨_, vs.toArray, _, hk, rfl, rfl, rfl, (by
        rw [List.size_toArray, len]
        exact hl), (by simpa using rel)⟩
    refine run_at KX hns hb hbb hlim hg ha hr F hbind (H := fun _ => none) ⟨fun b => .inl rfl, sq, ?_, fun b z => absurd rfl z, fun z => absurd rfl z⟩ (hsp _ sq)
    intro b u z
    have z2 : (none : Option HO) = some u := z
    cases z2
  | none =>
    let ob : Obj := { cls := .type "list", data := .seq vs.toArray }
    let H0 : Hp := fun b => if b = a then some (.frz ob (.lst (ns.map V.int))) else none
    have at1 : H0 a = some (.frz ob (.lst (ns.map V.int))) := if_pos rfl
    have off : ∀ b, b ≠ a → H0 b = none := fun b n => if_neg n
    have sq : SqL K H0 a (ns.map V.int) := .inl (.inr ⟨ob, at1⟩)
    refine run_at KX hns hb hbb hlim hg ha hr F hbind (H := H0) ⟨fun b => ?_, sq, fun b u z => ?_, fun b z => ?_, fun _ => hk⟩ (hsp _ sq)
    · by_cases e : b = a
      · rw [e]
        exact .inr ⟨_, _, at1⟩
      · exact .inl (off b e)
    · by_cases e : b = a
      · subst e
        rw [at1] at z
        cases z
        exact ⟨ha, (by
          rw [List.length_map]
          exact hl), vs, _, rel, ha⟩
      · rw [off b e] at z
        cases z
    · by_cases e : b = a
      · exact e
      · exact absurd (off b e) z
end
/-- the goal that is left behind the head -/
theorem walk_G {l : PySem.W.OpenLaw} {n k : Nat} {q : Program} {loose : List Str} {XP : (Str → Option Value) → Heap → Prop} {YP : World → Heap → Prop} {d : DefRec} {K : Params → PySem.W.Frag} {x : Str}
    (hn : l.most = some n) (hn2 : n ≤ sizeLine) (hdf : d.params.defaults = []) (hr : Room k callerA)
    (hY : ∀ (w : World) (h : Heap), YP w h → (K w.params).In h)
    (F : ∀ (w : World) (mg : Str → Option Value) (fa : Addr) (h : Heap), (K w.params).In h → h.Ns mainGlobals mg → mg d.name = some (.ref fa) →
      ∃ (fd : FuncData) (sp : Sp), (∀ (s : Shared) (u : Value), BindsTo s fd ⟨[u], []⟩ [(x, u)]) ∧
        (∀ base : Heap, K w.params |>.In base → base.Ns mainGlobals mg → FnG l.prog w (K w.params) mg base k fa fd [x] sp) ∧
        ∀ (H : Hp) (a : Addr) (ns : List Int), SqL (K w.params) H a (ns.map V.int) → sp [.ref a] H (fun v _ => v = .bl true) fun _ _ _ => False) :
    PySem.W.WalkO q loose XP YP l.row.toRowW d [] (fun f vs => PySem.call f vs) := by
  refine Att.attach_call hn hdf fun w s0 s1 mg mb fa o pm cd doc a vs ns G Y ho hd hcd hmg hobj hints hlen hg => ?_
  have KX := hY w _ Y
  obtain ⟨fd, sp, hb, hF, hsp⟩ := F w mg fa _ KX G.T.g hmg
  exact run_law KX G.T.g G.T.b G.T.builtins G.T.nolimit hg hobj hints (Nat.le_trans hlen hn2) hr hF hb fun H hS => hsp H a ns hS
theorem all_mk {l : PySem.W.OpenLaw} {w : World} {K : PySem.W.Frag} {h : Heap} {mg : Str → Option Value} {fa : Addr} (X : K.In h) (G : h.Ns mainGlobals mg) (hfa : mg "law" = some (.ref fa))
    {f0 : Addr} {od0 an0 : Option Addr} {sl0 : Array (Option Value)} {oc0 kV0 dc0 pm0 cd0 ct0 : Value}
    (a0 : PySem.W.nsIn K mainGlobals "is_integer" = some (some (.ref f0))) (l0 : K.lookup f0 = some ⟨oc0, od0, .func (PySem.W.fnOf "is_integer" "is_integer" (defArgs s_is_integer) (defBody s_is_integer) (defScope s_is_integer) .none kV0 dc0 pm0 an0 cd0 ct0), sl0⟩) (c0 : PySem.W.codeIn K cd0 "is_integer" = true) (k0 : PySem.W.keepIn K (.ref f0) = true)
    {f1 : Addr} {od1 an1 : Option Addr} {sl1 : Array (Option Value)} {oc1 kV1 dc1 pm1 cd1 ct1 : Value}
    (a1 : PySem.W.nsIn K mainGlobals "is_count" = some (some (.ref f1))) (l1 : K.lookup f1 = some ⟨oc1, od1, .func (PySem.W.fnOf "is_count" "is_count" (defArgs s_is_count) (defBody s_is_count) (defScope s_is_count) .none kV1 dc1 pm1 an1 cd1 ct1), sl1⟩) (c1 : PySem.W.codeIn K cd1 "is_count" = true) (k1 : PySem.W.keepIn K (.ref f1) = true)
    {f2 : Addr} {od2 an2 : Option Addr} {sl2 : Array (Option Value)} {oc2 kV2 dc2 pm2 cd2 ct2 : Value}
    (a2 : PySem.W.nsIn K mainGlobals "is_list" = some (some (.ref f2))) (l2 : K.lookup f2 = some ⟨oc2, od2, .func (PySem.W.fnOf "is_list" "is_list" (defArgs s_is_list) (defBody s_is_list) (defScope s_is_list) .none kV2 dc2 pm2 an2 cd2 ct2), sl2⟩) (c2 : PySem.W.codeIn K cd2 "is_list" = true) (k2 : PySem.W.keepIn K (.ref f2) = true)
    {f3 : Addr} {od3 an3 : Option Addr} {sl3 : Array (Option Value)} {oc3 kV3 dc3 pm3 cd3 ct3 : Value}
    (a3 : PySem.W.nsIn K mainGlobals "is_order" = some (some (.ref f3))) (l3 : K.lookup f3 = some ⟨oc3, od3, .func (PySem.W.fnOf "is_order" "is_order" (defArgs s_is_order) (defBody s_is_order) (defScope s_is_order) .none kV3 dc3 pm3 an3 cd3 ct3), sl3⟩) (c3 : PySem.W.codeIn K cd3 "is_order" = true) (k3 : PySem.W.keepIn K (.ref f3) = true)
    {f4 : Addr} {od4 an4 : Option Addr} {sl4 : Array (Option Value)} {oc4 kV4 dc4 pm4 cd4 ct4 : Value}
    (a4 : PySem.W.nsIn K mainGlobals "want_many" = some (some (.ref f4))) (l4 : K.lookup f4 = some ⟨oc4, od4, .func (PySem.W.fnOf "want_many" "want_many" (defArgs s_want_many) (defBody s_want_many) (defScope s_want_many) .none kV4 dc4 pm4 an4 cd4 ct4), sl4⟩) (c4 : PySem.W.codeIn K cd4 "want_many" = true) (k4 : PySem.W.keepIn K (.ref f4) = true)
    {f5 : Addr} {od5 an5 : Option Addr} {sl5 : Array (Option Value)} {oc5 kV5 dc5 pm5 cd5 ct5 : Value}
    (a5 : PySem.W.nsIn K mainGlobals "want_order" = some (some (.ref f5))) (l5 : K.lookup f5 = some ⟨oc5, od5, .func (PySem.W.fnOf "want_order" "want_order" (defArgs s_want_order) (defBody s_want_order) (defScope s_want_order) .none kV5 dc5 pm5 an5 cd5 ct5), sl5⟩) (c5 : PySem.W.codeIn K cd5 "want_order" = true) (k5 : PySem.W.keepIn K (.ref f5) = true)
    {f6 : Addr} {od6 an6 : Option Addr} {sl6 : Array (Option Value)} {oc6 kV6 dc6 pm6 cd6 ct6 : Value}
    (a6 : PySem.W.nsIn K mainGlobals "want_alike" = some (some (.ref f6))) (l6 : K.lookup f6 = some ⟨oc6, od6, .func (PySem.W.fnOf "want_alike" "want_alike" (defArgs s_want_alike) (defBody s_want_alike) (defScope s_want_alike) .none kV6 dc6 pm6 an6 cd6 ct6), sl6⟩) (c6 : PySem.W.codeIn K cd6 "want_alike" = true) (k6 : PySem.W.keepIn K (.ref f6) = true)
    {f7 : Addr} {od7 an7 : Option Addr} {sl7 : Array (Option Value)} {oc7 kV7 dc7 pm7 cd7 ct7 : Value}
    (a7 : PySem.W.nsIn K mainGlobals "is_lower" = some (some (.ref f7))) (l7 : K.lookup f7 = some ⟨oc7, od7, .func (PySem.W.fnOf "is_lower" "is_lower" (defArgs s_is_lower) (defBody s_is_lower) (defScope s_is_lower) .none kV7 dc7 pm7 an7 cd7 ct7), sl7⟩) (c7 : PySem.W.codeIn K cd7 "is_lower" = true) (k7 : PySem.W.keepIn K (.ref f7) = true)
    {f8 : Addr} {od8 an8 : Option Addr} {sl8 : Array (Option Value)} {oc8 kV8 dc8 pm8 cd8 ct8 : Value}
    (a8 : PySem.W.nsIn K mainGlobals "want_two" = some (some (.ref f8))) (l8 : K.lookup f8 = some ⟨oc8, od8, .func (PySem.W.fnOf "want_two" "want_two" (defArgs s_want_two) (defBody s_want_two) (defScope s_want_two) .none kV8 dc8 pm8 an8 cd8 ct8), sl8⟩) (c8 : PySem.W.codeIn K cd8 "want_two" = true) (k8 : PySem.W.keepIn K (.ref f8) = true)
    {f9 : Addr} {od9 an9 : Option Addr} {sl9 : Array (Option Value)} {oc9 kV9 dc9 pm9 cd9 ct9 : Value}
    (a9 : PySem.W.nsIn K mainGlobals "is_below" = some (some (.ref f9))) (l9 : K.lookup f9 = some ⟨oc9, od9, .func (PySem.W.fnOf "is_below" "is_below" (defArgs s_is_below) (defBody s_is_below) (defScope s_is_below) .none kV9 dc9 pm9 an9 cd9 ct9), sl9⟩) (c9 : PySem.W.codeIn K cd9 "is_below" = true) (k9 : PySem.W.keepIn K (.ref f9) = true)
    {f10 : Addr} {od10 an10 : Option Addr} {sl10 : Array (Option Value)} {oc10 kV10 dc10 pm10 cd10 ct10 : Value}
    (a10 : PySem.W.nsIn K mainGlobals "undone_of" = some (some (.ref f10))) (l10 : K.lookup f10 = some ⟨oc10, od10, .func (PySem.W.fnOf "undone_of" "undone_of" (defArgs s_undone_of) (defBody s_undone_of) (defScope s_undone_of) .none kV10 dc10 pm10 an10 cd10 ct10), sl10⟩) (c10 : PySem.W.codeIn K cd10 "undone_of" = true) (k10 : PySem.W.keepIn K (.ref f10) = true)
    {f11 : Addr} {od11 an11 : Option Addr} {sl11 : Array (Option Value)} {oc11 kV11 dc11 pm11 cd11 ct11 : Value}
    (a11 : PySem.W.nsIn K mainGlobals "falls_in" = some (some (.ref f11))) (l11 : K.lookup f11 = some ⟨oc11, od11, .func (PySem.W.fnOf "falls_in" "falls_in" (defArgs s_falls_in) (defBody s_falls_in) (defScope s_falls_in) .none kV11 dc11 pm11 an11 cd11 ct11), sl11⟩) (c11 : PySem.W.codeIn K cd11 "falls_in" = true) (k11 : PySem.W.keepIn K (.ref f11) = true)
    {f12 : Addr} {od12 an12 : Option Addr} {sl12 : Array (Option Value)} {oc12 kV12 dc12 pm12 cd12 ct12 : Value}
    (a12 : PySem.W.nsIn K mainGlobals "is_corner" = some (some (.ref f12))) (l12 : K.lookup f12 = some ⟨oc12, od12, .func (PySem.W.fnOf "is_corner" "is_corner" (defArgs s_is_corner) (defBody s_is_corner) (defScope s_is_corner) .none kV12 dc12 pm12 an12 cd12 ct12), sl12⟩) (c12 : PySem.W.codeIn K cd12 "is_corner" = true) (k12 : PySem.W.keepIn K (.ref f12) = true)
    {f13 : Addr} {od13 an13 : Option Addr} {sl13 : Array (Option Value)} {oc13 kV13 dc13 pm13 cd13 ct13 : Value}
    (a13 : PySem.W.nsIn K mainGlobals "want_corner" = some (some (.ref f13))) (l13 : K.lookup f13 = some ⟨oc13, od13, .func (PySem.W.fnOf "want_corner" "want_corner" (defArgs s_want_corner) (defBody s_want_corner) (defScope s_want_corner) .none kV13 dc13 pm13 an13 cd13 ct13), sl13⟩) (c13 : PySem.W.codeIn K cd13 "want_corner" = true) (k13 : PySem.W.keepIn K (.ref f13) = true)
    {f14 : Addr} {od14 an14 : Option Addr} {sl14 : Array (Option Value)} {oc14 kV14 dc14 pm14 cd14 ct14 : Value}
    (a14 : PySem.W.nsIn K mainGlobals "table_of" = some (some (.ref f14))) (l14 : K.lookup f14 = some ⟨oc14, od14, .func (PySem.W.fnOf "table_of" "table_of" (defArgs s_table_of) (defBody s_table_of) (defScope s_table_of) .none kV14 dc14 pm14 an14 cd14 ct14), sl14⟩) (c14 : PySem.W.codeIn K cd14 "table_of" = true) (k14 : PySem.W.keepIn K (.ref f14) = true)
    {f15 : Addr} {od15 an15 : Option Addr} {sl15 : Array (Option Value)} {oc15 kV15 dc15 pm15 cd15 ct15 : Value}
    (a15 : PySem.W.nsIn K mainGlobals "least_count" = some (some (.ref f15))) (l15 : K.lookup f15 = some ⟨oc15, od15, .func (PySem.W.fnOf "least_count" "least_count" (defArgs s_least_count) (defBody s_least_count) (defScope s_least_count) .none kV15 dc15 pm15 an15 cd15 ct15), sl15⟩) (c15 : PySem.W.codeIn K cd15 "least_count" = true) (k15 : PySem.W.keepIn K (.ref f15) = true)
    {f16 : Addr} {od16 an16 : Option Addr} {sl16 : Array (Option Value)} {oc16 kV16 dc16 pm16 cd16 ct16 : Value}
    (a16 : PySem.W.nsIn K mainGlobals "most_count" = some (some (.ref f16))) (l16 : K.lookup f16 = some ⟨oc16, od16, .func (PySem.W.fnOf "most_count" "most_count" (defArgs s_most_count) (defBody s_most_count) (defScope s_most_count) .none kV16 dc16 pm16 an16 cd16 ct16), sl16⟩) (c16 : PySem.W.codeIn K cd16 "most_count" = true) (k16 : PySem.W.keepIn K (.ref f16) = true)
    {f17 : Addr} {od17 an17 : Option Addr} {sl17 : Array (Option Value)} {oc17 kV17 dc17 pm17 cd17 ct17 : Value}
    (a17 : PySem.W.nsIn K mainGlobals "least_of" = some (some (.ref f17))) (l17 : K.lookup f17 = some ⟨oc17, od17, .func (PySem.W.fnOf "least_of" "least_of" (defArgs s_least_of) (defBody s_least_of) (defScope s_least_of) .none kV17 dc17 pm17 an17 cd17 ct17), sl17⟩) (c17 : PySem.W.codeIn K cd17 "least_of" = true) (k17 : PySem.W.keepIn K (.ref f17) = true)
    {f18 : Addr} {od18 an18 : Option Addr} {sl18 : Array (Option Value)} {oc18 kV18 dc18 pm18 cd18 ct18 : Value}
    (a18 : PySem.W.nsIn K mainGlobals "least_with" = some (some (.ref f18))) (l18 : K.lookup f18 = some ⟨oc18, od18, .func (PySem.W.fnOf "least_with" "least_with" (defArgs s_least_with) (defBody s_least_with) (defScope s_least_with) .none kV18 dc18 pm18 an18 cd18 ct18), sl18⟩) (c18 : PySem.W.codeIn K cd18 "least_with" = true) (k18 : PySem.W.keepIn K (.ref f18) = true)
    {f19 : Addr} {od19 an19 : Option Addr} {sl19 : Array (Option Value)} {oc19 kV19 dc19 pm19 cd19 ct19 : Value}
    (a19 : PySem.W.nsIn K mainGlobals "is_single" = some (some (.ref f19))) (l19 : K.lookup f19 = some ⟨oc19, od19, .func (PySem.W.fnOf "is_single" "is_single" (defArgs s_is_single) (defBody s_is_single) (defScope s_is_single) .none kV19 dc19 pm19 an19 cd19 ct19), sl19⟩) (c19 : PySem.W.codeIn K cd19 "is_single" = true) (k19 : PySem.W.keepIn K (.ref f19) = true)
    {f20 : Addr} {od20 an20 : Option Addr} {sl20 : Array (Option Value)} {oc20 kV20 dc20 pm20 cd20 ct20 : Value}
    (a20 : PySem.W.nsIn K mainGlobals "singles_below" = some (some (.ref f20))) (l20 : K.lookup f20 = some ⟨oc20, od20, .func (PySem.W.fnOf "singles_below" "singles_below" (defArgs s_singles_below) (defBody s_singles_below) (defScope s_singles_below) .none kV20 dc20 pm20 an20 cd20 ct20), sl20⟩) (c20 : PySem.W.codeIn K cd20 "singles_below" = true) (k20 : PySem.W.keepIn K (.ref f20) = true)
    {f21 : Addr} {od21 an21 : Option Addr} {sl21 : Array (Option Value)} {oc21 kV21 dc21 pm21 cd21 ct21 : Value}
    (a21 : PySem.W.nsIn K mainGlobals "bearing" = some (some (.ref f21))) (l21 : K.lookup f21 = some ⟨oc21, od21, .func (PySem.W.fnOf "bearing" "bearing" (defArgs s_bearing) (defBody s_bearing) (defScope s_bearing) .none kV21 dc21 pm21 an21 cd21 ct21), sl21⟩) (c21 : PySem.W.codeIn K cd21 "bearing" = true) (k21 : PySem.W.keepIn K (.ref f21) = true)
    {f22 : Addr} {od22 an22 : Option Addr} {sl22 : Array (Option Value)} {oc22 kV22 dc22 pm22 cd22 ct22 : Value}
    (a22 : PySem.W.nsIn K mainGlobals "_law_pot" = some (some (.ref f22))) (l22 : K.lookup f22 = some ⟨oc22, od22, .func (PySem.W.fnOf "_law_pot" "_law_pot" (defArgs s_law_pot) (defBody s_law_pot) (defScope s_law_pot) .none kV22 dc22 pm22 an22 cd22 ct22), sl22⟩) (c22 : PySem.W.codeIn K cd22 "_law_pot" = true) (k22 : PySem.W.keepIn K (.ref f22) = true)
    {f23 : Addr} {od23 an23 : Option Addr} {sl23 : Array (Option Value)} {oc23 kV23 dc23 pm23 cd23 ct23 : Value}
    (a23 : PySem.W.nsIn K mainGlobals "_law_draw" = some (some (.ref f23))) (l23 : K.lookup f23 = some ⟨oc23, od23, .func (PySem.W.fnOf "_law_draw" "_law_draw" (defArgs s_law_draw) (defBody s_law_draw) (defScope s_law_draw) .none kV23 dc23 pm23 an23 cd23 ct23), sl23⟩) (c23 : PySem.W.codeIn K cd23 "_law_draw" = true) (k23 : PySem.W.keepIn K (.ref f23) = true)
    {f24 : Addr} {od24 an24 : Option Addr} {sl24 : Array (Option Value)} {oc24 kV24 dc24 pm24 cd24 ct24 : Value}
    (a24 : PySem.W.nsIn K mainGlobals "_law_pick" = some (some (.ref f24))) (l24 : K.lookup f24 = some ⟨oc24, od24, .func (PySem.W.fnOf "_law_pick" "_law_pick" (defArgs s_law_pick) (defBody s_law_pick) (defScope s_law_pick) .none kV24 dc24 pm24 an24 cd24 ct24), sl24⟩) (c24 : PySem.W.codeIn K cd24 "_law_pick" = true) (k24 : PySem.W.keepIn K (.ref f24) = true)
    {f25 : Addr} {od25 an25 : Option Addr} {sl25 : Array (Option Value)} {oc25 kV25 dc25 pm25 cd25 ct25 : Value}
    (a25 : PySem.W.nsIn K mainGlobals "_law_mixed" = some (some (.ref f25))) (l25 : K.lookup f25 = some ⟨oc25, od25, .func (PySem.W.fnOf "_law_mixed" "_law_mixed" (defArgs s_law_mixed) (defBody s_law_mixed) (defScope s_law_mixed) .none kV25 dc25 pm25 an25 cd25 ct25), sl25⟩) (c25 : PySem.W.codeIn K cd25 "_law_mixed" = true) (k25 : PySem.W.keepIn K (.ref f25) = true)
    {f26 : Addr} {od26 an26 : Option Addr} {sl26 : Array (Option Value)} {oc26 kV26 dc26 pm26 cd26 ct26 : Value}
    (a26 : PySem.W.nsIn K mainGlobals "_law_order" = some (some (.ref f26))) (l26 : K.lookup f26 = some ⟨oc26, od26, .func (PySem.W.fnOf "_law_order" "_law_order" (defArgs s_law_order) (defBody s_law_order) (defScope s_law_order) .none kV26 dc26 pm26 an26 cd26 ct26), sl26⟩) (c26 : PySem.W.codeIn K cd26 "_law_order" = true) (k26 : PySem.W.keepIn K (.ref f26) = true)
    {f27 : Addr} {od27 an27 : Option Addr} {sl27 : Array (Option Value)} {oc27 kV27 dc27 pm27 cd27 ct27 : Value}
    (a27 : PySem.W.nsIn K mainGlobals "_law_as" = some (some (.ref f27))) (l27 : K.lookup f27 = some ⟨oc27, od27, .func (PySem.W.fnOf "_law_as" "_law_as" (defArgs s_law_as) (defBody s_law_as) (defScope s_law_as) .none kV27 dc27 pm27 an27 cd27 ct27), sl27⟩) (c27 : PySem.W.codeIn K cd27 "_law_as" = true) (k27 : PySem.W.keepIn K (.ref f27) = true)
    {f28 : Addr} {od28 an28 : Option Addr} {sl28 : Array (Option Value)} {oc28 kV28 dc28 pm28 cd28 ct28 : Value}
    (a28 : PySem.W.nsIn K mainGlobals "_law_all" = some (some (.ref f28))) (l28 : K.lookup f28 = some ⟨oc28, od28, .func (PySem.W.fnOf "_law_all" "_law_all" (defArgs s_law_all) (defBody s_law_all) (defScope s_law_all) .none kV28 dc28 pm28 an28 cd28 ct28), sl28⟩) (c28 : PySem.W.codeIn K cd28 "_law_all" = true) (k28 : PySem.W.keepIn K (.ref f28) = true)
    {f29 : Addr} {od29 an29 : Option Addr} {sl29 : Array (Option Value)} {oc29 kV29 dc29 pm29 cd29 ct29 : Value}
    (a29 : PySem.W.nsIn K mainGlobals "_law_count" = some (some (.ref f29))) (l29 : K.lookup f29 = some ⟨oc29, od29, .func (PySem.W.fnOf "_law_count" "_law_count" (defArgs s_law_count) (defBody s_law_count) (defScope s_law_count) .none kV29 dc29 pm29 an29 cd29 ct29), sl29⟩) (c29 : PySem.W.codeIn K cd29 "_law_count" = true) (k29 : PySem.W.keepIn K (.ref f29) = true)
    {f30 : Addr} {od30 an30 : Option Addr} {sl30 : Array (Option Value)} {oc30 kV30 dc30 pm30 cd30 ct30 : Value}
    (a30 : PySem.W.nsIn K mainGlobals "_law_corners" = some (some (.ref f30))) (l30 : K.lookup f30 = some ⟨oc30, od30, .func (PySem.W.fnOf "_law_corners" "_law_corners" (defArgs s_law_corners) (defBody s_law_corners) (defScope s_law_corners) .none kV30 dc30 pm30 an30 cd30 ct30), sl30⟩) (c30 : PySem.W.codeIn K cd30 "_law_corners" = true) (k30 : PySem.W.keepIn K (.ref f30) = true)
    {f31 : Addr} {od31 an31 : Option Addr} {sl31 : Array (Option Value)} {oc31 kV31 dc31 pm31 cd31 ct31 : Value}
    (a31 : PySem.W.nsIn K mainGlobals "_law_lower" = some (some (.ref f31))) (l31 : K.lookup f31 = some ⟨oc31, od31, .func (PySem.W.fnOf "_law_lower" "_law_lower" (defArgs s_law_lower) (defBody s_law_lower) (defScope s_law_lower) .none kV31 dc31 pm31 an31 cd31 ct31), sl31⟩) (c31 : PySem.W.codeIn K cd31 "_law_lower" = true) (k31 : PySem.W.keepIn K (.ref f31) = true)
    {f32 : Addr} {od32 an32 : Option Addr} {sl32 : Array (Option Value)} {oc32 kV32 dc32 pm32 cd32 ct32 : Value}
    (a32 : PySem.W.nsIn K mainGlobals "_law_falls" = some (some (.ref f32))) (l32 : K.lookup f32 = some ⟨oc32, od32, .func (PySem.W.fnOf "_law_falls" "_law_falls" (defArgs s_law_falls) (defBody s_law_falls) (defScope s_law_falls) .none kV32 dc32 pm32 an32 cd32 ct32), sl32⟩) (c32 : PySem.W.codeIn K cd32 "_law_falls" = true) (k32 : PySem.W.keepIn K (.ref f32) = true)
    {f33 : Addr} {od33 an33 : Option Addr} {sl33 : Array (Option Value)} {oc33 kV33 dc33 pm33 cd33 ct33 : Value}
    (a33 : PySem.W.nsIn K mainGlobals "_law_undone" = some (some (.ref f33))) (l33 : K.lookup f33 = some ⟨oc33, od33, .func (PySem.W.fnOf "_law_undone" "_law_undone" (defArgs s_law_undone) (defBody s_law_undone) (defScope s_law_undone) .none kV33 dc33 pm33 an33 cd33 ct33), sl33⟩) (c33 : PySem.W.codeIn K cd33 "_law_undone" = true) (k33 : PySem.W.keepIn K (.ref f33) = true)
    {f34 : Addr} {od34 an34 : Option Addr} {sl34 : Array (Option Value)} {oc34 kV34 dc34 pm34 cd34 ct34 : Value}
    (a34 : PySem.W.nsIn K mainGlobals "_law_single" = some (some (.ref f34))) (l34 : K.lookup f34 = some ⟨oc34, od34, .func (PySem.W.fnOf "_law_single" "_law_single" (defArgs s_law_single) (defBody s_law_single) (defScope s_law_single) .none kV34 dc34 pm34 an34 cd34 ct34), sl34⟩) (c34 : PySem.W.codeIn K cd34 "_law_single" = true) (k34 : PySem.W.keepIn K (.ref f34) = true)
    {f35 : Addr} {od35 an35 : Option Addr} {sl35 : Array (Option Value)} {oc35 kV35 dc35 pm35 cd35 ct35 : Value}
    (a35 : PySem.W.nsIn K mainGlobals "_law_bearing" = some (some (.ref f35))) (l35 : K.lookup f35 = some ⟨oc35, od35, .func (PySem.W.fnOf "_law_bearing" "_law_bearing" (defArgs s_law_bearing) (defBody s_law_bearing) (defScope s_law_bearing) .none kV35 dc35 pm35 an35 cd35 ct35), sl35⟩) (c35 : PySem.W.codeIn K cd35 "_law_bearing" = true) (k35 : PySem.W.keepIn K (.ref f35) = true)
    {f36 : Addr} {od36 an36 : Option Addr} {sl36 : Array (Option Value)} {oc36 kV36 dc36 pm36 cd36 ct36 : Value}
    (a36 : PySem.W.nsIn K mainGlobals "_law_singles" = some (some (.ref f36))) (l36 : K.lookup f36 = some ⟨oc36, od36, .func (PySem.W.fnOf "_law_singles" "_law_singles" (defArgs s_law_singles) (defBody s_law_singles) (defScope s_law_singles) .none kV36 dc36 pm36 an36 cd36 ct36), sl36⟩) (c36 : PySem.W.codeIn K cd36 "_law_singles" = true) (k36 : PySem.W.keepIn K (.ref f36) = true)
    {f37 : Addr} {od37 an37 : Option Addr} {sl37 : Array (Option Value)} {oc37 kV37 dc37 pm37 cd37 ct37 : Value}
    (a37 : PySem.W.nsIn K mainGlobals "_law_right" = some (some (.ref f37))) (l37 : K.lookup f37 = some ⟨oc37, od37, .func (PySem.W.fnOf "_law_right" "_law_right" (defArgs s_law_right) (defBody s_law_right) (defScope s_law_right) .none kV37 dc37 pm37 an37 cd37 ct37), sl37⟩) (c37 : PySem.W.codeIn K cd37 "_law_right" = true) (k37 : PySem.W.keepIn K (.ref f37) = true)
    {f38 : Addr} {od38 an38 : Option Addr} {sl38 : Array (Option Value)} {oc38 kV38 dc38 pm38 cd38 ct38 : Value}
    (a38 : PySem.W.nsIn K mainGlobals "law" = some (some (.ref f38))) (l38 : K.lookup f38 = some ⟨oc38, od38, .func (PySem.W.fnOf "law" "law" (defArgs s_law) (defBody s_law) (defScope s_law) .none kV38 dc38 pm38 an38 cd38 ct38), sl38⟩) (c38 : PySem.W.codeIn K cd38 "law" = true) (k38 : PySem.W.keepIn K (.ref f38) = true)
    (z0 : PySem.W.nsIn K mainGlobals "len" = some none)
    (z1 : PySem.W.nsIn K mainGlobals "isinstance" = some none)
    (z2 : PySem.W.nsIn K mainGlobals "sorted" = some none)
    (z3 : PySem.W.nsIn K mainGlobals "all" = some none)
    (z4 : PySem.W.nsIn K mainGlobals "any" = some none)
    (z5 : PySem.W.nsIn K mainGlobals "zip" = some none)
    (z6 : PySem.W.nsIn K mainGlobals "range" = some none)
    (z7 : PySem.W.nsIn K mainGlobals "tuple" = some none)
    (z8 : PySem.W.nsIn K mainGlobals "list" = some none)
    (z9 : PySem.W.nsIn K mainGlobals "max" = some none)
    (z10 : PySem.W.nsIn K mainGlobals "min" = some none)
    (z11 : PySem.W.nsIn K mainGlobals "enumerate" = some none)
    (z12 : PySem.W.nsIn K mainGlobals "abs" = some none)
    (z13 : PySem.W.nsIn K mainGlobals "int" = some none)
    (z14 : PySem.W.nsIn K mainGlobals "divmod" = some none)
    (z15 : PySem.W.nsIn K mainGlobals "sum" = some none)
    (z16 : PySem.W.nsIn K mainGlobals "repr" = some none)
    (z17 : PySem.W.nsIn K mainGlobals "set" = some none)
    (z18 : PySem.W.nsIn K mainGlobals "bool" = some none)
    {t0 : Tok} (q0 : PySem.W.nsIn K mainGlobals "MOST_THINGS_basics" = some (some (.int 9 t0)))
    {t1 : Tok} (q1 : PySem.W.nsIn K mainGlobals "MOST_THINGS_corners" = some (some (.int 9 t1)))
    : ∃ (fd : FuncData) (sp : Sp), (∀ (s : Shared) (u : Value), BindsTo s fd ⟨[u], []⟩ [("_law_script", u)]) ∧
      (∀ base : Heap, K.In base → base.Ns mainGlobals mg → FnG l.prog w K mg base 8 fa fd ["_law_script"] sp) ∧
      ∀ (H : Hp) (a : Addr) (ns : List Int), SqL K H a (ns.map V.int) → sp [.ref a] H (fun v _ => v = .bl true) fun _ _ _ => False := by
  have e := hfa.symm.trans (PySem.W.mg_of X G a38)
  cases e
  have F0 := fun_mk (st := s_is_integer) l0 c0 k0
  have b0 := F0.binds (ps := ["value"]) fun _ _ _ _ _ _ us hl => match us, hl with | [_], _ => rfl
  have F1 := fun_mk (st := s_is_count) l1 c1 k1
  have b1 := F1.binds (ps := ["value"]) fun _ _ _ _ _ _ us hl => match us, hl with | [_], _ => rfl
  have F2 := fun_mk (st := s_is_list) l2 c2 k2
  have b2 := F2.binds (ps := ["value"]) fun _ _ _ _ _ _ us hl => match us, hl with | [_], _ => rfl
  have F3 := fun_mk (st := s_is_order) l3 c3 k3
  have b3 := F3.binds (ps := ["value"]) fun _ _ _ _ _ _ us hl => match us, hl with | [_], _ => rfl
  have F4 := fun_mk (st := s_want_many) l4 c4 k4
  have b4 := F4.binds (ps := ["value", "low", "high"]) fun _ _ _ _ _ _ us hl => match us, hl with | [_, _, _], _ => rfl
  have F5 := fun_mk (st := s_want_order) l5 c5 k5
  have b5 := F5.binds (ps := ["value"]) fun _ _ _ _ _ _ us hl => match us, hl with | [_], _ => rfl
  have F6 := fun_mk (st := s_want_alike) l6 c6 k6
  have b6 := F6.binds (ps := ["order", "other"]) fun _ _ _ _ _ _ us hl => match us, hl with | [_, _], _ => rfl
  have F7 := fun_mk (st := s_is_lower) l7 c7 k7
  have b7 := F7.binds (ps := ["order", "other"]) fun _ _ _ _ _ _ us hl => match us, hl with | [_, _], _ => rfl
  have F8 := fun_mk (st := s_want_two) l8 c8 k8
  have b8 := F8.binds (ps := ["order", "other"]) fun _ _ _ _ _ _ us hl => match us, hl with | [_, _], _ => rfl
  have F9 := fun_mk (st := s_is_below) l9 c9 k9
  have b9 := F9.binds (ps := ["order", "other"]) fun _ _ _ _ _ _ us hl => match us, hl with | [_, _], _ => rfl
  have F10 := fun_mk (st := s_undone_of) l10 c10 k10
  have b10 := F10.binds (ps := ["order"]) fun _ _ _ _ _ _ us hl => match us, hl with | [_], _ => rfl
  have F11 := fun_mk (st := s_falls_in) l11 c11 k11
  have b11 := F11.binds (ps := ["order"]) fun _ _ _ _ _ _ us hl => match us, hl with | [_], _ => rfl
  have F12 := fun_mk (st := s_is_corner) l12 c12 k12
  have b12 := F12.binds (ps := ["value", "size"]) fun _ _ _ _ _ _ us hl => match us, hl with | [_, _], _ => rfl
  have F13 := fun_mk (st := s_want_corner) l13 c13 k13
  have b13 := F13.binds (ps := ["size", "value"]) fun _ _ _ _ _ _ us hl => match us, hl with | [_, _], _ => rfl
  have F14 := fun_mk (st := s_table_of) l14 c14 k14
  have b14 := F14.binds (ps := ["order"]) fun _ _ _ _ _ _ us hl => match us, hl with | [_], _ => rfl
  have F15 := fun_mk (st := s_least_count) l15 c15 k15
  have b15 := F15.binds (ps := ["corner"]) fun _ _ _ _ _ _ us hl => match us, hl with | [_], _ => rfl
  have F16 := fun_mk (st := s_most_count) l16 c16 k16
  have b16 := F16.binds (ps := ["size", "corner"]) fun _ _ _ _ _ _ us hl => match us, hl with | [_, _], _ => rfl
  have F17 := fun_mk (st := s_least_of) l17 c17 k17
  have b17 := F17.binds (ps := ["size", "corner", "many"]) fun _ _ _ _ _ _ us hl => match us, hl with | [_, _, _], _ => rfl
  have F18 := fun_mk (st := s_least_with) l18 c18 k18
  have b18 := F18.binds (ps := ["size", "corner", "many"]) fun _ _ _ _ _ _ us hl => match us, hl with | [_, _, _], _ => rfl
  have F19 := fun_mk (st := s_is_single) l19 c19 k19
  have b19 := F19.binds (ps := ["order"]) fun _ _ _ _ _ _ us hl => match us, hl with | [_], _ => rfl
  have F20 := fun_mk (st := s_singles_below) l20 c20 k20
  have b20 := F20.binds (ps := ["order"]) fun _ _ _ _ _ _ us hl => match us, hl with | [_], _ => rfl
  have F21 := fun_mk (st := s_bearing) l21 c21 k21
  have b21 := F21.binds (ps := ["order"]) fun _ _ _ _ _ _ us hl => match us, hl with | [_], _ => rfl
  have F22 := fun_mk (st := s_law_pot) l22 c22 k22
  have b22 := F22.binds (ps := ["_law_script", "_law_k"]) fun _ _ _ _ _ _ us hl => match us, hl with | [_, _], _ => rfl
  have F23 := fun_mk (st := s_law_draw) l23 c23 k23
  have b23 := F23.binds (ps := ["_law_pot_here", "_law_many"]) fun _ _ _ _ _ _ us hl => match us, hl with | [_, _], _ => rfl
  have F24 := fun_mk (st := s_law_pick) l24 c24 k24
  have b24 := F24.binds (ps := ["_law_pot_here", "_law_some"]) fun _ _ _ _ _ _ us hl => match us, hl with | [_, _], _ => rfl
  have F25 := fun_mk (st := s_law_mixed) l25 c25 k25
  have b25 := F25.binds (ps := ["_law_pot_here", "_law_some"]) fun _ _ _ _ _ _ us hl => match us, hl with | [_, _], _ => rfl
  have F26 := fun_mk (st := s_law_order) l26 c26 k26
  have b26 := F26.binds (ps := ["_law_pot_here", "_law_size"]) fun _ _ _ _ _ _ us hl => match us, hl with | [_, _], _ => rfl
  have F27 := fun_mk (st := s_law_as) l27 c27 k27
  have b27 := F27.binds (ps := ["_law_pot_here", "_law_order_here"]) fun _ _ _ _ _ _ us hl => match us, hl with | [_, _], _ => rfl
  have F28 := fun_mk (st := s_law_all) l28 c28 k28
  have b28 := F28.binds (ps := ["_law_things"]) fun _ _ _ _ _ _ us hl => match us, hl with | [_], _ => rfl
  have F29 := fun_mk (st := s_law_count) l29 c29 k29
  have b29 := F29.binds (ps := ["_law_order_here", "_law_corner"]) fun _ _ _ _ _ _ us hl => match us, hl with | [_, _], _ => rfl
  have F30 := fun_mk (st := s_law_corners) l30 c30 k30
  have b30 := F30.binds (ps := ["_law_size"]) fun _ _ _ _ _ _ us hl => match us, hl with | [_], _ => rfl
  have F31 := fun_mk (st := s_law_lower) l31 c31 k31
  have b31 := F31.binds (ps := ["_law_one", "_law_two"]) fun _ _ _ _ _ _ us hl => match us, hl with | [_, _], _ => rfl
  have F32 := fun_mk (st := s_law_falls) l32 c32 k32
  have b32 := F32.binds (ps := ["_law_order_here"]) fun _ _ _ _ _ _ us hl => match us, hl with | [_], _ => rfl
  have F33 := fun_mk (st := s_law_undone) l33 c33 k33
  have b33 := F33.binds (ps := ["_law_order_here"]) fun _ _ _ _ _ _ us hl => match us, hl with | [_], _ => rfl
  have F34 := fun_mk (st := s_law_single) l34 c34 k34
  have b34 := F34.binds (ps := ["_law_order_here"]) fun _ _ _ _ _ _ us hl => match us, hl with | [_], _ => rfl
  have F35 := fun_mk (st := s_law_bearing) l35 c35 k35
  have b35 := F35.binds (ps := ["_law_order_here", "_law_singles_here"]) fun _ _ _ _ _ _ us hl => match us, hl with | [_, _], _ => rfl
  have F36 := fun_mk (st := s_law_singles) l36 c36 k36
  have b36 := F36.binds (ps := ["_law_size"]) fun _ _ _ _ _ _ us hl => match us, hl with | [_], _ => rfl
  have F37 := fun_mk (st := s_law_right) l37 c37 k37
  have b37 := F37.binds (ps := ["_law_pot_here"]) fun _ _ _ _ _ _ us hl => match us, hl with | [_], _ => rfl
  have F38 := fun_mk (st := s_law) l38 c38 k38
  have b38 := F38.binds (ps := ["_law_script"]) fun _ _ _ _ _ _ us hl => match us, hl with | [_], _ => rfl
  let T : Txt K mg := {
    a_is_integer := f0, d_is_integer := _, f_is_integer := F0, g_is_integer := PySem.W.mg_of X G a0, b_is_integer := b0
    a_is_count := f1, d_is_count := _, f_is_count := F1, g_is_count := PySem.W.mg_of X G a1, b_is_count := b1
    a_is_list := f2, d_is_list := _, f_is_list := F2, g_is_list := PySem.W.mg_of X G a2, b_is_list := b2
    a_is_order := f3, d_is_order := _, f_is_order := F3, g_is_order := PySem.W.mg_of X G a3, b_is_order := b3
    a_want_many := f4, d_want_many := _, f_want_many := F4, g_want_many := PySem.W.mg_of X G a4, b_want_many := b4
    a_want_order := f5, d_want_order := _, f_want_order := F5, g_want_order := PySem.W.mg_of X G a5, b_want_order := b5
    a_want_alike := f6, d_want_alike := _, f_want_alike := F6, g_want_alike := PySem.W.mg_of X G a6, b_want_alike := b6
    a_is_lower := f7, d_is_lower := _, f_is_lower := F7, g_is_lower := PySem.W.mg_of X G a7, b_is_lower := b7
    a_want_two := f8, d_want_two := _, f_want_two := F8, g_want_two := PySem.W.mg_of X G a8, b_want_two := b8
    a_is_below := f9, d_is_below := _, f_is_below := F9, g_is_below := PySem.W.mg_of X G a9, b_is_below := b9
    a_undone_of := f10, d_undone_of := _, f_undone_of := F10, g_undone_of := PySem.W.mg_of X G a10, b_undone_of := b10
    a_falls_in := f11, d_falls_in := _, f_falls_in := F11, g_falls_in := PySem.W.mg_of X G a11, b_falls_in := b11
    a_is_corner := f12, d_is_corner := _, f_is_corner := F12, g_is_corner := PySem.W.mg_of X G a12, b_is_corner := b12
    a_want_corner := f13, d_want_corner := _, f_want_corner := F13, g_want_corner := PySem.W.mg_of X G a13, b_want_corner := b13
    a_table_of := f14, d_table_of := _, f_table_of := F14, g_table_of := PySem.W.mg_of X G a14, b_table_of := b14
    a_least_count := f15, d_least_count := _, f_least_count := F15, g_least_count := PySem.W.mg_of X G a15, b_least_count := b15
    a_most_count := f16, d_most_count := _, f_most_count := F16, g_most_count := PySem.W.mg_of X G a16, b_most_count := b16
    a_least_of := f17, d_least_of := _, f_least_of := F17, g_least_of := PySem.W.mg_of X G a17, b_least_of := b17
    a_least_with := f18, d_least_with := _, f_least_with := F18, g_least_with := PySem.W.mg_of X G a18, b_least_with := b18
    a_is_single := f19, d_is_single := _, f_is_single := F19, g_is_single := PySem.W.mg_of X G a19, b_is_single := b19
    a_singles_below := f20, d_singles_below := _, f_singles_below := F20, g_singles_below := PySem.W.mg_of X G a20, b_singles_below := b20
    a_bearing := f21, d_bearing := _, f_bearing := F21, g_bearing := PySem.W.mg_of X G a21, b_bearing := b21
    a_law_pot := f22, d_law_pot := _, f_law_pot := F22, g_law_pot := PySem.W.mg_of X G a22, b_law_pot := b22
    a_law_draw := f23, d_law_draw := _, f_law_draw := F23, g_law_draw := PySem.W.mg_of X G a23, b_law_draw := b23
    a_law_pick := f24, d_law_pick := _, f_law_pick := F24, g_law_pick := PySem.W.mg_of X G a24, b_law_pick := b24
    a_law_mixed := f25, d_law_mixed := _, f_law_mixed := F25, g_law_mixed := PySem.W.mg_of X G a25, b_law_mixed := b25
    a_law_order := f26, d_law_order := _, f_law_order := F26, g_law_order := PySem.W.mg_of X G a26, b_law_order := b26
    a_law_as := f27, d_law_as := _, f_law_as := F27, g_law_as := PySem.W.mg_of X G a27, b_law_as := b27
    a_law_all := f28, d_law_all := _, f_law_all := F28, g_law_all := PySem.W.mg_of X G a28, b_law_all := b28
    a_law_count := f29, d_law_count := _, f_law_count := F29, g_law_count := PySem.W.mg_of X G a29, b_law_count := b29
    a_law_corners := f30, d_law_corners := _, f_law_corners := F30, g_law_corners := PySem.W.mg_of X G a30, b_law_corners := b30
    a_law_lower := f31, d_law_lower := _, f_law_lower := F31, g_law_lower := PySem.W.mg_of X G a31, b_law_lower := b31
    a_law_falls := f32, d_law_falls := _, f_law_falls := F32, g_law_falls := PySem.W.mg_of X G a32, b_law_falls := b32
    a_law_undone := f33, d_law_undone := _, f_law_undone := F33, g_law_undone := PySem.W.mg_of X G a33, b_law_undone := b33
    a_law_single := f34, d_law_single := _, f_law_single := F34, g_law_single := PySem.W.mg_of X G a34, b_law_single := b34
    a_law_bearing := f35, d_law_bearing := _, f_law_bearing := F35, g_law_bearing := PySem.W.mg_of X G a35, b_law_bearing := b35
    a_law_singles := f36, d_law_singles := _, f_law_singles := F36, g_law_singles := PySem.W.mg_of X G a36, b_law_singles := b36
    a_law_right := f37, d_law_right := _, f_law_right := F37, g_law_right := PySem.W.mg_of X G a37, b_law_right := b37
    a_law := fa, d_law := _, f_law := F38, g_law := PySem.W.mg_of X G a38, b_law := b38
    k_bearing := fun s u => .of_eq rfl
    k_is_single := fun s u => .of_eq rfl
    z_len := PySem.W.mg_none_of X G z0
    z_isinstance := PySem.W.mg_none_of X G z1
    z_sorted := PySem.W.mg_none_of X G z2
    z_all := PySem.W.mg_none_of X G z3
    z_any := PySem.W.mg_none_of X G z4
    z_zip := PySem.W.mg_none_of X G z5
    z_range := PySem.W.mg_none_of X G z6
    z_tuple := PySem.W.mg_none_of X G z7
    z_list := PySem.W.mg_none_of X G z8
    z_max := PySem.W.mg_none_of X G z9
    z_min := PySem.W.mg_none_of X G z10
    z_enumerate := PySem.W.mg_none_of X G z11
    z_abs := PySem.W.mg_none_of X G z12
    z_int := PySem.W.mg_none_of X G z13
    z_divmod := PySem.W.mg_none_of X G z14
    z_sum := PySem.W.mg_none_of X G z15
    z_repr := PySem.W.mg_none_of X G z16
    z_set := PySem.W.mg_none_of X G z17
    z_bool := PySem.W.mg_none_of X G z18
    t_MOST_THINGS_basics := t0, c_MOST_THINGS_basics := PySem.W.mg_of X G q0
    t_MOST_THINGS_corners := t1, c_MOST_THINGS_corners := PySem.W.mg_of X G q1
    }
  exact ⟨T.d_law, sp_law (K := K), fun s u => .of_eq rfl, fun base _ _ => ok_law T, fun H a ns hS => ⟨a, ns, rfl, hS, fun _ => rfl⟩⟩

end Bd

open PySem PySem.W PyProof.Rows
theorem PySem.Challenge.cw_lowerboards_k28_whole_singles_and_bearin_holds : PySem.Challenge.rw_lowerboards_k28_whole_singles_and_bearin.Holds := by
  w_on; o_law; k_head; (case hw => w_witness2)
  k_fill
  refine Bd.walk_G (l := PySem.Challenge.rw_lowerboards_k28_whole_singles_and_bearin) (n := 63) (k := 8) (x := "_law_script") rfl (by decide) rfl ⟨rfl, by decide, by decide⟩ (fun w h Y => PySem.W.kIn_of Y) ?F
  case F =>
    intro w mg fa h KX G hmg
    refine' Bd.all_mk (l := PySem.Challenge.rw_lowerboards_k28_whole_singles_and_bearin) (w := w) KX G hmg ?a0 ?l0 ?c0 ?k0 ?a1 ?l1 ?c1 ?k1 ?a2 ?l2 ?c2 ?k2 ?a3 ?l3 ?c3 ?k3 ?a4 ?l4 ?c4 ?k4 ?a5 ?l5 ?c5 ?k5 ?a6 ?l6 ?c6 ?k6 ?a7 ?l7 ?c7 ?k7 ?a8 ?l8 ?c8 ?k8 ?a9 ?l9 ?c9 ?k9 ?a10 ?l10 ?c10 ?k10 ?a11 ?l11 ?c11 ?k11 ?a12 ?l12 ?c12 ?k12 ?a13 ?l13 ?c13 ?k13 ?a14 ?l14 ?c14 ?k14 ?a15 ?l15 ?c15 ?k15 ?a16 ?l16 ?c16 ?k16 ?a17 ?l17 ?c17 ?k17 ?a18 ?l18 ?c18 ?k18 ?a19 ?l19 ?c19 ?k19 ?a20 ?l20 ?c20 ?k20 ?a21 ?l21 ?c21 ?k21 ?a22 ?l22 ?c22 ?k22 ?a23 ?l23 ?c23 ?k23 ?a24 ?l24 ?c24 ?k24 ?a25 ?l25 ?c25 ?k25 ?a26 ?l26 ?c26 ?k26 ?a27 ?l27 ?c27 ?k27 ?a28 ?l28 ?c28 ?k28 ?a29 ?l29 ?c29 ?k29 ?a30 ?l30 ?c30 ?k30 ?a31 ?l31 ?c31 ?k31 ?a32 ?l32 ?c32 ?k32 ?a33 ?l33 ?c33 ?k33 ?a34 ?l34 ?c34 ?k34 ?a35 ?l35 ?c35 ?k35 ?a36 ?l36 ?c36 ?k36 ?a37 ?l37 ?c37 ?k37 ?a38 ?l38 ?c38 ?k38 ?z0 ?z1 ?z2 ?z3 ?z4 ?z5 ?z6 ?z7 ?z8 ?z9 ?z10 ?z11 ?z12 ?z13 ?z14 ?z15 ?z16 ?z17 ?z18 ?q0 ?q1
    (case a0 => k_is)
    (case l0 => k_is)
    (case c0 => k_is)
    (case k0 => k_is)
    (case a1 => k_is)
    (case l1 => k_is)
    (case c1 => k_is)
    (case k1 => k_is)
    (case a2 => k_is)
    (case l2 => k_is)
    (case c2 => k_is)
    (case k2 => k_is)
    (case a3 => k_is)
    (case l3 => k_is)
    (case c3 => k_is)
    (case k3 => k_is)
    (case a4 => k_is)
    (case l4 => k_is)
    (case c4 => k_is)
    (case k4 => k_is)
    (case a5 => k_is)
    (case l5 => k_is)
    (case c5 => k_is)
    (case k5 => k_is)
    (case a6 => k_is)
    (case l6 => k_is)
    (case c6 => k_is)
    (case k6 => k_is)
    (case a7 => k_is)
    (case l7 => k_is)
    (case c7 => k_is)
    (case k7 => k_is)
    (case a8 => k_is)
    (case l8 => k_is)
    (case c8 => k_is)
    (case k8 => k_is)
    (case a9 => k_is)
    (case l9 => k_is)
    (case c9 => k_is)
    (case k9 => k_is)
    (case a10 => k_is)
    (case l10 => k_is)
    (case c10 => k_is)
    (case k10 => k_is)
    (case a11 => k_is)
    (case l11 => k_is)
    (case c11 => k_is)
    (case k11 => k_is)
    (case a12 => k_is)
    (case l12 => k_is)
    (case c12 => k_is)
    (case k12 => k_is)
    (case a13 => k_is)
    (case l13 => k_is)
    (case c13 => k_is)
    (case k13 => k_is)
    (case a14 => k_is)
    (case l14 => k_is)
    (case c14 => k_is)
    (case k14 => k_is)
    (case a15 => k_is)
    (case l15 => k_is)
    (case c15 => k_is)
    (case k15 => k_is)
    (case a16 => k_is)
    (case l16 => k_is)
    (case c16 => k_is)
    (case k16 => k_is)
    (case a17 => k_is)
    (case l17 => k_is)
    (case c17 => k_is)
    (case k17 => k_is)
    (case a18 => k_is)
    (case l18 => k_is)
    (case c18 => k_is)
    (case k18 => k_is)
    (case a19 => k_is)
    (case l19 => k_is)
    (case c19 => k_is)
    (case k19 => k_is)
    (case a20 => k_is)
    (case l20 => k_is)
    (case c20 => k_is)
    (case k20 => k_is)
    (case a21 => k_is)
    (case l21 => k_is)
    (case c21 => k_is)
    (case k21 => k_is)
    (case a22 => k_is)
    (case l22 => k_is)
    (case c22 => k_is)
    (case k22 => k_is)
    (case a23 => k_is)
    (case l23 => k_is)
    (case c23 => k_is)
    (case k23 => k_is)
    (case a24 => k_is)
    (case l24 => k_is)
    (case c24 => k_is)
    (case k24 => k_is)
    (case a25 => k_is)
    (case l25 => k_is)
    (case c25 => k_is)
    (case k25 => k_is)
    (case a26 => k_is)
    (case l26 => k_is)
    (case c26 => k_is)
    (case k26 => k_is)
    (case a27 => k_is)
    (case l27 => k_is)
    (case c27 => k_is)
    (case k27 => k_is)
    (case a28 => k_is)
    (case l28 => k_is)
    (case c28 => k_is)
    (case k28 => k_is)
    (case a29 => k_is)
    (case l29 => k_is)
    (case c29 => k_is)
    (case k29 => k_is)
    (case a30 => k_is)
    (case l30 => k_is)
    (case c30 => k_is)
    (case k30 => k_is)
    (case a31 => k_is)
    (case l31 => k_is)
    (case c31 => k_is)
    (case k31 => k_is)
    (case a32 => k_is)
    (case l32 => k_is)
    (case c32 => k_is)
    (case k32 => k_is)
    (case a33 => k_is)
    (case l33 => k_is)
    (case c33 => k_is)
    (case k33 => k_is)
    (case a34 => k_is)
    (case l34 => k_is)
    (case c34 => k_is)
    (case k34 => k_is)
    (case a35 => k_is)
    (case l35 => k_is)
    (case c35 => k_is)
    (case k35 => k_is)
    (case a36 => k_is)
    (case l36 => k_is)
    (case c36 => k_is)
    (case k36 => k_is)
    (case a37 => k_is)
    (case l37 => k_is)
    (case c37 => k_is)
    (case k37 => k_is)
    (case a38 => k_is)
    (case l38 => k_is)
    (case c38 => k_is)
    (case k38 => k_is)
    (case z0 => k_is)
    (case z1 => k_is)
    (case z2 => k_is)
    (case z3 => k_is)
    (case z4 => k_is)
    (case z5 => k_is)
    (case z6 => k_is)
    (case z7 => k_is)
    (case z8 => k_is)
    (case z9 => k_is)
    (case z10 => k_is)
    (case z11 => k_is)
    (case z12 => k_is)
    (case z13 => k_is)
    (case z14 => k_is)
    (case z15 => k_is)
    (case z16 => k_is)
    (case z17 => k_is)
    (case z18 => k_is)
    (case q0 => k_is)
    (case q1 => k_is)

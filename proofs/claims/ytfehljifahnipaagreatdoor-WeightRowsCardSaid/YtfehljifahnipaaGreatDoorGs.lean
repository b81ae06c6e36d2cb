/- What the library's functions on strings do, as the shelf lays it at this program; the framework's part on strings. -/
import Derived.Test.YtfehljifahnipaaGreatDoorGb
import Derived.Shelf.Strings.OnBuilder
import Derived.Shelf.Strconv.Itoa3
import Derived.Shelf.Strconv.AtoiAll
import Derived.Shelf.Strings.Split
import Derived.Lib.SplitLaws
import Derived.Lib.AtoiErrMem
import Derived.Lib.AppendStr
import Derived.Laws.BytesArg
import Derived.Lib.LaidTab
set_option linter.unusedVariables false
set_option linter.unusedSimpArgs false
set_option maxHeartbeats 4000000
set_option maxRecDepth 8000
namespace Gw
open Go Go.RowKit Go.Deep
/-! ### strings -/
def encStr : Enc ByteArray := ⟨1, fun x => [.string x], fun _ => rfl, fun x u h => by simp at h; subst h; rfl⟩
/-- A cell of a variable that stands. -/
def cel (a : Addr) (v : Value) : Own := ⟨fun k => k = a.block, fun w => w.cell? a = some v, fun w w' h hk => by rw [World.cell?_of_block (w := w)]; exact hk; exact h a.block rfl⟩
theorem newRow {α : Type} {e : Enc α} {T : TypeId} (w : World) (cs : Array Value) (xs : List α) (hc : cs.toList = xs.flatMap e.enc) (hm : xs.length ≤ maxLen) : St NoS w (w.alloc (.cells cs T)) [] [rowO T e (some ⟨w.heap.size, 0, none⟩) xs.length xs] := by
  have h := St.alloc1 w (.cells cs T)
  have := h.map1 0 (rowO T e (some ⟨w.heap.size, 0, none⟩) xs.length xs) (fun h => rowO.ofBlk h hc hm) (fun _ h => by obtain ⟨_, h1, h2⟩ := h; injection h1 with h1; subst h1; exact h2) [] (by simp) (by simp)
  exact this
def splitP (s sep : ByteArray) : List ByteArray := Lib.splitB sep 0 (Lib.countB s sep) s
theorem split_calls {P : Program} {f : FuncId} {T : TypeId} {g : Nat} (hc : ∀ (s sep : ByteArray) (m : Int) (w : World) (_ : s.size < 4294967281) (_ : w.cell? ⟨g, 0, none⟩ = some (.int .i64 m)) (_ : 1 ≤ sep.size), Calls P f #[.string s, .string sep] w fun e w' =>
      e = .returned (.slice (some ⟨w.heap.size, 0, none⟩) (Lib.countB s sep + 1) (Lib.countB s sep + 1)) ∧ w' = w.alloc (.cells ((Lib.splitB sep 0 (Lib.countB s sep) s).map Value.string).toArray T))
    (s sep : ByteArray) (m : Int) (w : World) (hG : RO NoS w (cel ⟨g, 0, none⟩ (.int .i64 m))) (hs : s.size < 4294967281 ∧ 1 ≤ sep.size) :
    CallsR P f #[.string s, .string sep] w (fun v w' => ∃ (A : Option Addr) (c : Nat), v = .slice A (splitP s sep).length c ∧ St NoS w w' [] [rowO T encStr A c (splitP s sep)]) := by
  refine (hc s sep m w hs.1 hG.1 hs.2).mono fun e w' ⟨he, hw⟩ => ⟨_, he, some ⟨w.heap.size, 0, none⟩, (splitP s sep).length, ?_, ?_⟩
  · have hlen := Lib.splitB_all sep hs.2 0 (Lib.countB s sep) s rfl
    unfold splitP
    rw [hlen]
  · rw [hw]
    have hle := Lib.countB_le sep hs.2 s.size s (Nat.le_refl _)
    have hlen := Lib.splitB_all sep hs.2 0 (Lib.countB s sep) s rfl
    refine newRow w _ (splitP s sep) ?_ (by unfold splitP; rw [hlen]; unfold maxLen; omega)
    unfold splitP
    induction Lib.splitB sep 0 (Lib.countB s sep) s with
    | nil => rfl
    | cons a r ih => simpa [encStr] using ih
def atoiP (s : ByteArray) : Option Int := match Lib.atoiAll s.data.toList with
  | .ok v => if s.size ≤ 9223372036854775806 then some v else none
  | _ => none
theorem atoi_calls {P : Program} {f : FuncId} {T : TypeId} (hc : ∀ (s : ByteArray) (_ : s.size ≤ 9223372036854775806) (v : Int) (_ : Lib.atoiAll s.data.toList = .ok v) (w : World), Calls P f #[.string s] w fun e w' => e = .returned (.tuple #[.int .i64 v, .nilIface]) ∧ (w' = w ∨ ∃ t, w' = Lib.bytesWorld w T t))
    (s : ByteArray) (v : Int) (w : World) (h : atoiP s = some v) : CallsR P f #[.string s] w (fun r w' => r = .tuple #[.int .i64 v, .nilIface] ∧ Keeps NoS w w') := by
  unfold atoiP at h
  split at h
  · rename_i u hu
    split at h
    · rename_i hl
      injection h with h
      subst h
      refine (hc s hl u hu w).mono fun e w' ⟨he, hw⟩ => ⟨_, he, rfl, ?_⟩
      rcases hw with rfl | ⟨t, rfl⟩
      · exact Keeps.refl _ _
      · exact Keeps.of_below (Lib.bytesWorld_below w T t)
    · cases h
  · cases h
def itoaP (n : Int) : Option ByteArray := if 0 ≤ n ∧ n < 100 then some ⟨(Lib.decDigits n.toNat).toArray⟩ else none
theorem itoa_calls {P : Program} {f : FuncId} (hc : ∀ (i : Nat) (_ : i < 100) (w : World), Calls P f #[.int .i64 i] w fun e w' => e = .returned (.string ⟨(Lib.decDigits i).toArray⟩) ∧ w' = w)
    (n : Int) (r : ByteArray) (w : World) (h : itoaP n = some r) : CallsR P f #[.int .i64 n] w (fun v w' => v = .string r ∧ Keeps NoS w w') := by
  unfold itoaP at h
  split at h
  · rename_i hn
    injection h with h
    subst h
    have := hc n.toNat (by omega) w
    rw [Int.toNat_of_nonneg hn.1] at this
    refine this.mono fun e w' ⟨he, hw⟩ => ⟨_, he, rfl, ?_⟩
    subst hw; exact Keeps.refl _ _
  · cases h
def joinP (xs : List ByteArray) (sep : ByteArray) : Option ByteArray := if (Lib.join (xs.map (·.data.toList)) sep.data.toList).length ≤ 140737488355328 ∧ xs.length ≤ 140737488355328 then some ⟨(Lib.join (xs.map (·.data.toList)) sep.data.toList).toArray⟩ else none
theorem join_calls {P : Program} {f : FuncId} {T : TypeId} (hc : ∀ (bk o c : Nat) (xs : List ByteArray) (sep : ByteArray) (w : World) (_ : ∀ (j : Nat) x, xs[j]? = some x → w.cell? ⟨bk, o + j, none⟩ = some (.string x)) (_ : bk < w.heap.size) (_ : xs.length ≤ 140737488355328) (_ : xs.length ≤ c) (_ : (Lib.join (xs.map (·.data.toList)) sep.data.toList).length ≤ 140737488355328),
      Calls P f #[.slice (some ⟨bk, o, none⟩) xs.length c, .string sep] w fun e w' => e = .returned (.string ⟨(Lib.join (xs.map (·.data.toList)) sep.data.toList).toArray⟩) ∧ Below w.heap.size w w')
    (hn : ∀ (a : Option Addr) (c : Nat) (sep : ByteArray) (w : World), Calls P f #[.slice a 0 c, .string sep] w fun e w' => e = .returned (.string ByteArray.empty) ∧ w' = w)
    (xs : List ByteArray) (sep : ByteArray) (A : Option Addr) (c : Nat) (r : ByteArray) (w : World) (hO : RO NoS w (rowO T encStr A c xs)) (h : joinP xs sep = some r) : CallsR P f #[.slice A xs.length c, .string sep] w (fun v w' => v = .string r ∧ Keeps NoS w w') := by
  unfold joinP at h
  split at h
  · rename_i hj
    injection h with h
    subst h
    have hcap := rowO.cap hO.1
    cases xs with
    | nil =>
      refine (hn A c sep w).mono fun e w' ⟨he, hw⟩ => ⟨_, he, ?_, ?_⟩
      · rfl
      · subst hw; exact Keeps.refl _ _
    | cons x r =>
      have hR := rowO.rd hO.1
      have h0 := hR.1 0 x rfl
      have hO1 : w.ownsRow 0 T encStr.sz (.slice A (x :: r).length c) (x :: r).length ((x :: r).flatMap encStr.enc) := hO.1
      obtain ⟨bk, rfl⟩ : ∃ bk, A = some ⟨bk, 0, none⟩ := by
        rcases hO1.2 with ⟨h1, h2⟩ | ⟨g, cap, cur, hv, _⟩
        · simp at h2
        · injection hv with hv _ _
          exact ⟨g, hv⟩
      have hbk : bk < w.heap.size := (hO.2 bk ⟨_, rfl, rfl⟩).1
      refine (hc bk 0 c (x :: r) sep w (fun j y hy => ?_) hbk hj.2 hcap hj.1).mono fun e w' ⟨he, hw⟩ => ⟨_, he, rfl, Keeps.of_below hw⟩
      have := (hR.1 j y hy).2 0 (.string y) rfl
      have e1 : ((adr (some ⟨bk, 0, none⟩)).add (j * encStr.sz)).add 0 = ⟨bk, 0 + j, none⟩ := by
        unfold adr Addr.add encStr
        by_cases hj : j = 0 <;> simp [hj]
      rwa [e1] at this
  · cases h
def strEq (a b : ByteArray) : Bool := a.data.toList == b.data.toList
theorem strEq_raw (a b : ByteArray) : (a.toList == b.toList) = strEq a b := by unfold strEq; rw [ByteArray.toList_eq, ByteArray.toList_eq]
/-! ### strings, the second part: bytes, an index into a string, sums of strings, numbers as strings and back -/
def encU8 : Enc Int := ⟨1, fun x => [.int .u8 x], fun _ => rfl, fun x u h => by simp at h; subst h; rfl⟩
def u8s (s : ByteArray) : List Int := s.data.toList.map fun b => ((b.toNat : Nat) : Int)
theorem u8s_len (s : ByteArray) : (u8s s).length = s.size := by unfold u8s; rw [List.length_map]; rfl
inductive SOp (α : Type) where
  | index (t : TypeId) (x i : α)
  | conv (s t : TypeId) (x : α)
  | cat (x y : α)
def sgOp (o : Oper) : Option (Nat × SOp Operand) := match o.dst with
  | some d => (match o.op with
    | .index t x i => some (d, .index t x i)
    | .convert s t x => some (d, .conv s t x)
    | .binOp .add _ x y _ => some (d, .cat x y)
    | _ => none)
  | none => none
def sopSem : SOp Value → TypeId → Sem Value
  | .index t x i, _ => Instr.index t x i
  | .conv s t x, _ => convert s t x
  | .cat (.string a) (.string b), _ => Op.stringOp .add a b
  | .cat _ _, _ => stuck ""
def sopMap {α β : Type} (f : α → β) : SOp α → SOp β
  | .index t x i => .index t (f x) (f i)
  | .conv s t x => .conv s t (f x)
  | .cat x y => .cat (f x) (f y)
theorem sgOp_exec {P : Program} {o : Oper} {d : Nat} {r : SOp Operand} (h : sgOp o = some (d, r)) : o.dst = some d ∧ ∀ (ρ : Operand → Value) (w w1 : World) (v : Value), (sopSem (sopMap ρ r) o.type).run P w = .ok v w1 → (execOp ρ o).run P w = .ok (.value v) w1 := by
  unfold sgOp at h
  split at h
  · rename_i d' hd
    split at h
    · rename_i hop
      injection h with h; injection h with h1 h2
      subst h1 h2
      refine ⟨hd, fun ρ w w1 v hr => ?_⟩
      unfold execOp
      simp only [sopMap, sopSem] at hr
      simp only [hop, Sem.run_bind, hr, Result.andThen_ok, Sem.run_pure]
    · rename_i hop
      injection h with h; injection h with h1 h2
      subst h1 h2
      refine ⟨hd, fun ρ w w1 v hr => ?_⟩
      unfold execOp
      simp only [sopMap, sopSem] at hr
      simp only [hop, Sem.run_bind, hr, Result.andThen_ok, Sem.run_pure]
    · rename_i t x y u hop
      injection h with h; injection h with h1 h2
      subst h1 h2
      refine ⟨hd, fun ρ w w1 v hr => ?_⟩
      simp only [sopMap] at hr
      cases hx : ρ x with
      | string a =>
        cases hy : ρ y with
        | string b =>
          rw [hx, hy] at hr
          simp only [sopSem] at hr
          have hg : (eqGuard .add t x y (ρ x) (ρ y)).run P w = .ok () w := by
            unfold eqGuard; rfl
          have hb : (binOp .add t (ρ x) (ρ y)).run P w = .ok v w1 := by
            rw [hx, hy]; unfold binOp; exact hr
          unfold execOp
          simp only [hop, Sem.run_bind, hg, hb, Result.andThen_ok, Sem.run_pure]
        | _ => rw [hx, hy] at hr; simp only [sopSem] at hr; cases hr
      | _ => rw [hx] at hr; simp only [sopSem] at hr; cases hr
    · cases h
  · cases h
def evSi (P : Program) (ops : Array Oper) (lst : List (Nat × Oper)) (fl : List Nat) (N : Nat) (fb : Operand → Value) (i : Nat) (E : Env) : Option (Nat × SOp Value) :=
  match lst.drop i with
  | (k, o) :: _ => bif wantE ops E o && !memN k fl then (match sgOp o with
    | some (d, r) => bif Nat.blt d N then some (d, sopMap (rho E fb) r) else none
    | none => none) else none
  | [] => none
theorem WL.sop {P : Program} {ops : Array Oper} {lst : List (Nat × Oper)} {Q : Exit → Act → World → Prop} {F : FF} {N : Nat} {i : Nat} {E : Env} {w : World} {d : Nat} {r : SOp Value}
    (h : ∀ fb, evSi P ops lst F.2.1 N fb i E = some (d, r)) (v : Value) (hr : ∀ ty, (sopSem r ty).run P w = .ok v w)
    (k : CellsA F lst i w ∧ WL P ops lst Q F (i + 1) N ((d, v) :: E) w) : WL P ops lst Q F i N E w := by
  intro fb a ha
  have h := h fb
  unfold evSi at h
  split at h
  · rename_i k_ o rs ho
    cases hw2 : (wantE ops E o && !memN k_ F.2.1)
    · rw [hw2] at h; cases h
    · rw [hw2] at h
      simp only [cond_true] at h
      simp only [Bool.and_eq_true, Bool.not_eq_true'] at hw2
      obtain ⟨hw, hfl⟩ := hw2
      split at h
      · rename_i d' r' hap
        obtain ⟨hdst, hex⟩ := sgOp_exec (P := P) hap
        cases hb2 : (Nat.blt d' N)
        · rw [hb2] at h; cases h
        · rw [hb2] at h
          simp only [cond_true] at h
          injection h with h; injection h with h1 h2
          subst h1
          have hr2 := hex (rho E fb) w w v (by rw [h2]; exact hr o.type)
          rw [ho]
          unfold wpL
          rw [if_pos (wantE_of ha hw)]
          rw [if_neg (by rw [hfl]; simp)]; left
          unfold Oper.wpA
          rw [ha.ev, hr2]
          simp only [upA]
          have := k.2 fb (a.put o.dst _) (by rw [hdst]; exact ha.put (blt_lt hb2) _)
          rw [drop_cons ho] at this
          exact ⟨.inr (k.1.at ho), this⟩
      · cases h
  · cases h
theorem bts_run {P : Program} {src dst e : TypeId} (hs : P.underlying src = some (.slice e)) (he : P.underlying e = some (.int .u8)) (hd : P.underlying dst = some .string) {A : Option Addr} {c : Nat} {l : List Int} {w : World} (hR : (rowR encU8 A c l).ok w) : (convert src dst (.slice A l.length c)).run P w = .ok (.string (strOfNums l)) w := by
  cases l with
  | nil =>
    rw [run_convert_bytes_string w src dst e A _ c hs he hd]
    cases A with
    | none => rfl
    | some a =>
      have hl : (loadCells a 0).run P w = .ok (([] : List Int).map (Value.int .u8)).toArray w := by
        have := run_loadCells_list (P := P) w a [] (fun j v hj => by cases hj)
        simpa using this
      rw [show ([] : List Int).length = 0 from rfl, run_bytesToString w a 0 c [] hl]; rfl
  | cons x r =>
    have hA : A = some (adr A) := (hR.1 0 x rfl).1
    have hl : (loadCells (adr A) (x :: r).length).run P w = .ok ((x :: r).map (Value.int .u8)).toArray w := by
      have := run_loadCells_list (P := P) w (adr A) ((x :: r).map (Value.int .u8)) (fun j v hj => by
        rw [List.getElem?_map, Option.map_eq_some_iff] at hj
        obtain ⟨y, hy, rfl⟩ := hj
        have := (hR.1 j y hy).2 0 (.int .u8 y) rfl
        have e1 : ((adr A).add (j * encU8.sz)).add 0 = (adr A).add j := by
          show ((adr A).add (j * 1)).add 0 = _
          rw [Nat.mul_one]; unfold Addr.add; simp
        rwa [e1] at this)
      simpa using this
    rw [hA, run_convert_bytes_string w src dst e _ _ c hs he hd, run_bytesToString w _ _ c (x :: r) hl, foldl_push_bytes]
    simp [strOfNums, ByteArray.empty, ByteArray.emptyWithCapacity]
    rfl
theorem flat_u8 (l : List Int) : l.flatMap encU8.enc = l.map (Value.int .u8) := by
  induction l with
  | nil => rfl
  | cons a l ih => rw [List.flatMap_cons, ih]; rfl
theorem strCells_u8 (s : ByteArray) : Lib.strCells s = (u8s s).flatMap encU8.enc := by
  rw [flat_u8]
  unfold Lib.strCells u8s
  rw [List.map_map]; rfl
def evAs (P : Program) (ops : Array Oper) (lst : List (Nat × Oper)) (fl : List Nat) (N : Nat) (fb : Operand → Value) (i : Nat) (E : Env) : Option (Nat × TypeId × TypeId × Value × Value) :=
  match lst.drop i with
  | (k, o) :: _ => bif wantE ops E o && !memN k fl then (match apCall o with
    | some (d, s, x, t, u) => bif Nat.blt d N then some (d, t, u, rho E fb s, rho E fb x) else none
    | none => none) else none
  | [] => none
theorem WL.appendS {P : Program} {ops : Array Oper} {lst : List (Nat × Oper)} {Q : Exit → Act → World → Prop} {F : FF} {N : Nat} {i : Nat} {E : Env} {S : Nat → Prop} {w0 w : World} {R L : List Own} (hS : St S w0 w R L)
    (j : Nat) {T tS tX : TypeId} {A : Option Addr} {c : Nat} {xs : List Int} {s : ByteArray} {d : Nat} (hj : at_ L j = rowO T encU8 A c xs)
    (h : ∀ fb, evAs P ops lst F.2.1 N fb i E = some (d, tS, tX, .slice A xs.length c, .string s))
    (ht : P.underlying tS = some (.slice T)) (hu : P.underlying tX = some .string) (hinf : (P.info? T).map (fun i => (i.zero, i.size, i.bytes)) = some (some (.int .u8 0), 1, 1))
    (hl : xs.length + s.size ≤ 100000000000) (ks : List Nat) (hd : ∀ k, k ∈ ks → k ∉ [j]) (hn : ks.Nodup)
    (k : ∀ A' c' w1, St S w0 w1 R (rowO T encU8 A' c' (xs ++ u8s s) :: sel L ks) → CellsA F lst i w1 ∧ WL P ops lst Q F (i + 1) N ((d, .slice A' (xs ++ u8s s).length c') :: E) w1) : WL P ops lst Q F i N E w := by
  intro fb a ha
  have h := h fb
  unfold evAs at h
  split at h
  · rename_i k_ o r ho
    cases hw2 : (wantE ops E o && !memN k_ F.2.1)
    · rw [hw2] at h; cases h
    · rw [hw2] at h
      simp only [cond_true] at h
      simp only [Bool.and_eq_true, Bool.not_eq_true'] at hw2
      obtain ⟨hw, hfl⟩ := hw2
      split at h
      · rename_i d' s' x t u hap
        obtain ⟨hdst, hop⟩ := apCall_eq hap
        cases hb : (Nat.blt d' N)
        · rw [hb] at h; cases h
        · rw [hb] at h
          simp only [cond_true] at h
          injection h with h; injection h with h1 h2; injection h2 with h2 h3; injection h3 with h3 h4; injection h4 with h4 h5
          subst h1 h2 h3
          have hown : (rowO T encU8 A c xs).ok w := by have := (hS.own j).1; rw [hj] at this; exact this
          obtain ⟨i', hi', hz0, hz1, hz2⟩ := info_parts hinf
          obtain ⟨v', w', hr, hown', hg, _⟩ := Lib.run_append_own_string (P := P) (w := w) 0 t u o.type T i' ht hu hi' hz0 hz1 hz2 (.slice A xs.length c) xs.length (xs.flatMap encU8.enc) hown s (by unfold maxLen; omega) (by omega) (Nat.zero_le _)
          obtain ⟨A', c', rfl⟩ := own_form hown'
          have ho' : (rowO T encU8 A' c' (xs ++ u8s s)).ok w' := by
            show w'.ownsRow 0 T 1 (.slice A' (xs ++ u8s s).length c') (xs ++ u8s s).length ((xs ++ u8s s).flatMap encU8.enc)
            rw [List.length_append, u8s_len, List.flatMap_append, ← strCells_u8]
            exact hown'
          have hk' : Keeps (ownFp A) w w' := ⟨hg.os, hg.tape, hg.output, hg.size, fun k hk hn => hg.block k hk (fun e => by
            cases A with
            | none => simp [Value.ownBlock] at e
            | some a0 => simp [Value.ownBlock] at e; exact hn ⟨a0, rfl, e⟩)⟩
          have hf' : ∀ g, ownFp A' g → (ownFp A g ∨ w.heap.size ≤ g) ∧ g < w'.heap.size := fun g hgA => by
            obtain ⟨ad, rfl, rfl⟩ := hgA
            refine ⟨?_, (hown'.lt ad.block rfl).2⟩
            rcases hown.2 with ⟨hv, hn0⟩ | ⟨g, cap, cur, hv, _, hgc, _, hcm, hcs, _⟩
            · injection hv with hA hl0 hc0
              right
              have hx0 : xs = [] := List.eq_nil_of_length_eq_zero hl0
              subst hx0 hA hc0
              obtain ⟨v2, w2, hr2, ho2, _⟩ := Lib.run_append_own_string (P := P) (w := w) w.heap.size t u o.type T i' ht hu hi' hz0 hz1 hz2 (.slice none 0 0) 0 [] (World.ownsRow_nil w w.heap.size T 1) s (by unfold maxLen; simp at hl; omega) (by simp at hl; omega) (Nat.le_refl _)
              have he : (Result.ok v2 w2 : Result Value) = .ok (.slice (some ad) (([] : List Int).length + s.size) c') w' := hr2.symm.trans hr
              injection he with he1 he2
              subst he1 he2
              exact (ho2.lt ad.block rfl).1
            · injection hv with hA hl0 hc0
              subst hA hc0
              by_cases hroom : xs.length + s.size ≤ c
              · left
                have hr2 := Lib.run_append_room_string (P := P) (w := w) t u o.type T i' ht hu hi' hz1 g xs.length c cur hgc s hroom (by have : cur.size = c * 1 := hcs; omega)
                have he := hr2.symm.trans hr
                injection he with he1 he2
                injection he1 with he1 _ _
                injection he1 with he1
                exact ⟨_, rfl, congrArg Addr.block he1.symm⟩
              · right
                have hr2 := Lib.run_append_grow_string (P := P) (w := w) t u o.type T i' (.int .u8 0) ht hu hi' hz0 ⟨g, 0, none⟩ xs.length c (xs.flatMap encU8.enc) (by rw [hz1, flat_u8]; simp) (fun j v hj => hown.cells (g := g) rfl j v hj) s (by omega) (by omega) (by rw [hz2]; exact growslice_fits (by omega) (by omega))
                have he := hr2.symm.trans hr
                injection he with he1 he2
                injection he1 with he1 _ _
                injection he1 with he1
                rw [← he1]; exact Nat.le_refl _
          rw [ho]
          unfold wpL
          rw [if_pos (wantE_of ha hw)]
          rw [if_neg (by rw [hfl]; simp)]; left
          unfold Oper.wpA execOp
          rw [ha.ev]
          simp only [hop, resolve, invoke, builtin, Sem.run_bind, Sem.run_pure, Result.andThen_ok, List.map_toArray, List.map_cons, List.map_nil, h4, h5, hr, upA]
          have hS' := hS.call (St.one hk' ho' hf') [j] ks (fun g hg => ⟨j, by simp, by rw [hj]; exact hg⟩) hd hn
          have := (k A' c' w' hS').2 fb (a.put o.dst _) (by rw [hdst]; exact ha.put (blt_lt hb) _)
          rw [drop_cons ho] at this
          rw [List.length_append, u8s_len] at this
          exact ⟨.inr ((k A' c' w' hS').1.at ho), this⟩
      · cases h
  · cases h
/-- What the library's variables hold: the limit of a length, the powers of ten, the two errors. -/
structure Glo where
  m : Int
  es : Value
  er : Value
def isErr (v : Value) : Prop := v = .nilIface ∨ ∃ te pe, v = .iface te pe
def gloO (P : Program) (gm gt gs gr : Nat) (G : Glo) : Own :=
  ⟨fun k => k = gm ∨ k = gt ∨ k = gs ∨ k = gr,
   fun w => w.cell? ⟨gm, 0, none⟩ = some (.int .i64 G.m) ∧ (P.globalNamed "internal/strconv.uint64pow10" = some gt ∧ Lib.TabIs P w "internal/strconv.uint64pow10" .u64 Lib.pow10Tab) ∧ (w.cell? ⟨gs, 0, none⟩ = some G.es ∧ isErr G.es) ∧ (w.cell? ⟨gr, 0, none⟩ = some G.er ∧ isErr G.er),
   fun w w' h hk => by
    refine ⟨?_, ⟨hk.2.1.1, ?_⟩, ⟨?_, hk.2.2.1.2⟩, ⟨?_, hk.2.2.2.2⟩⟩
    · rw [World.cell?_of_block (w := w)]; exact hk.1; exact h gm (.inl rfl)
    · have h1 := hk.2.1.2
      unfold Lib.TabIs World.var? at h1 ⊢
      rw [hk.2.1.1] at h1 ⊢
      simp only [Option.bind_some] at h1 ⊢
      rw [h gt (.inr (.inl rfl))]; exact h1
    · rw [World.cell?_of_block (w := w)]; exact hk.2.2.1.1; exact h gs (.inr (.inr (.inl rfl)))
    · rw [World.cell?_of_block (w := w)]; exact hk.2.2.2.1; exact h gr (.inr (.inr (.inr rfl)))⟩
def itoaN (n : Int) : Option ByteArray := if -9223372036854775808 ≤ n ∧ n ≤ 9223372036854775807 then some ⟨(Lib.itoa n).toArray⟩ else none
theorem itoaN_calls {P : Program} {f : FuncId} (hc : ∀ (n : Int) (_ : -9223372036854775808 ≤ n) (_ : n ≤ 9223372036854775807) (w : World) (_ : Lib.TabIs P w "internal/strconv.uint64pow10" .u64 Lib.pow10Tab), Calls P f #[.int .i64 n] w fun e w' => e = .returned (.string ⟨(Lib.itoa n).toArray⟩) ∧ ∃ k os, w' = Sort.grow (w.drewN k) os)
    {gm gt gs gr : Nat} {G : Glo} (n : Int) (r : ByteArray) (w : World) (hG : RO NoS w (gloO P gm gt gs gr G)) (h : itoaN n = some r) : CallsR P f #[.int .i64 n] w (fun v w' => v = .string r ∧ Keeps NoS w w') := by
  unfold itoaN at h
  split at h
  · rename_i hn
    injection h with h
    subst h
    refine (hc n hn.1 hn.2 w hG.1.2.1.2).mono fun e w' ⟨he, hw⟩ => ⟨_, he, rfl, ?_⟩
    obtain ⟨k, os, rfl⟩ := hw
    exact ⟨rfl, rfl, rfl, by simp, fun j hj _ => by
      show (w.heap ++ os)[j]? = w.heap[j]?
      rw [Array.getElem?_append_left hj]⟩
  · cases h
def errV (b : Bool) (x : Value) : Prop := if b = true then ∃ te pe, x = .iface te pe else x = .nilIface
theorem errV_true {b : Bool} {x : Value} (hb : b = true) (h : errV b x) : ∃ te pe, x = .iface te pe := by unfold errV at h; rwa [if_pos hb] at h
theorem errV_false {b : Bool} {x : Value} (hb : b = false) (h : errV b x) : x = .nilIface := by unfold errV at h; rwa [if_neg (by rw [hb]; decide)] at h
def atoiN (s : ByteArray) : Option (Int × Bool) := if s.size ≤ 281474976710656 then some (match Lib.atoiAll s.data.toList with
  | .ok v => (v, false)
  | Lib.NumEnd.syntax => (0, true)
  | .range => (Lib.atoiSat s.data.toList, true)) else none
theorem atoiN_calls {P : Program} {f : FuncId} {T : TypeId} {gm gt gs gr : Nat} {t168 t210 : TypeId} (hc : ∀ (s : ByteArray) (_ : s.size ≤ 9223372036854775806) (v : Int) (_ : Lib.atoiAll s.data.toList = .ok v) (w : World), Calls P f #[.string s] w fun e w' => e = .returned (.tuple #[.int .i64 v, .nilIface]) ∧ (w' = w ∨ ∃ t, w' = Lib.bytesWorld w T t))
    (hs : ∀ (s : ByteArray) (_ : s.size ≤ 281474976710656) (_ : Lib.atoiAll s.data.toList = Lib.NumEnd.syntax) (ev : Value) (w : World) (_ : w.cell? ⟨gs, 0, none⟩ = some ev) (_ : ev = .nilIface ∨ ∃ te pe, ev = .iface te pe), Calls P f #[.string s] w fun e w' => ∃ N, e = .returned (.tuple #[.int .i64 (0), .iface t168 (.pointer (some ⟨N, 0, none⟩))]) ∧ w.heap.size ≤ N ∧ w'.heap[N]? = some (.cells #[.string ⟨#[65, 116, 111, 105]⟩, .string s, ev] t210 (0, 0)) ∧ Below w.heap.size w w')
    (hr : ∀ (s : ByteArray) (_ : s.size ≤ 281474976710656) (_ : Lib.atoiAll s.data.toList = .range) (ev : Value) (w : World) (_ : w.cell? ⟨gr, 0, none⟩ = some ev) (_ : ev = .nilIface ∨ ∃ te pe, ev = .iface te pe), Calls P f #[.string s] w fun e w' => ∃ N, e = .returned (.tuple #[.int .i64 (Lib.atoiSat s.data.toList), .iface t168 (.pointer (some ⟨N, 0, none⟩))]) ∧ w.heap.size ≤ N ∧ w'.heap[N]? = some (.cells #[.string ⟨#[65, 116, 111, 105]⟩, .string s, ev] t210 (0, 0)) ∧ Below w.heap.size w w')
    {G : Glo} (s : ByteArray) (r : Int × Bool) (w : World) (hG : RO NoS w (gloO P gm gt gs gr G)) (h : atoiN s = some r) : CallsR P f #[.string s] w (fun v w' => ∃ x, v = .tuple #[.int .i64 r.1, x] ∧ errV r.2 x ∧ Keeps NoS w w') := by
  unfold atoiN at h
  split at h
  · rename_i hsz
    injection h with h
    rcases ha : Lib.atoiAll s.data.toList with v | _ | _
    · rw [ha] at h; subst h
      refine (hc s (by omega) v ha w).mono fun e w' ⟨he, hw⟩ => ⟨_, he, _, rfl, rfl, ?_⟩
      rcases hw with rfl | ⟨t, rfl⟩
      · exact Keeps.refl _ _
      · exact Keeps.of_below (Lib.bytesWorld_below w T t)
    · rw [ha] at h; subst h
      refine (hs s hsz ha G.es w hG.1.2.2.1.1 hG.1.2.2.1.2).mono fun e w' ⟨N, he, _, _, hb⟩ => ⟨_, he, _, rfl, ⟨_, _, rfl⟩, Keeps.of_below hb⟩
    · rw [ha] at h; subst h
      refine (hr s hsz ha G.er w hG.1.2.2.2.1 hG.1.2.2.2.2).mono fun e w' ⟨N, he, _, _, hb⟩ => ⟨_, he, _, rfl, ⟨_, _, rfl⟩, Keeps.of_below hb⟩
  · cases h
theorem gloO.cel {P : Program} {gm gt gs gr : Nat} {G : Glo} {w : World} (h : RO NoS w (gloO P gm gt gs gr G)) : RO NoS w (cel ⟨gm, 0, none⟩ (.int .i64 G.m)) := ⟨h.1.1, fun g hg => h.2 g (.inl hg)⟩
end Gw
namespace Go.Proofs
open Go.Shelf
def Tryz.lays156_ren : Go.Shelf.Ren := ⟨fun | 156 => 84 | 165 => 101 | 166 => 102 | 169 => 103 | 240 => 115 | 241 => 116 | 276 => 129 | 277 => 130 | n => n, fun | 31 => 79 | 9 => 9 | 3 => 3 | 4 => 4 | 0 => 0 | 20 => 20 | 72 => 137 | 76 => 84 | 70 => 135 | 37 => 129 | 75 => 83 | 127 => 154 | 164 => 164 | 5 => 5 | 80 => 139 | n => n, fun | n => n⟩
theorem Tryz.lays156 : Go.Proofs.Lays.n156 Tryz.prog Tryz.lays156_ren := {
  mixed := by kernel_rfl
  f156 := Tryz.func84.trans (congrArg some (by kernel_rfl))
  f165 := Tryz.func101.trans (congrArg some (by kernel_rfl))
  f166 := Tryz.func102.trans (congrArg some (by kernel_rfl))
  f169 := Tryz.func103.trans (congrArg some (by kernel_rfl))
  f240 := Tryz.func115.trans (congrArg some (by kernel_rfl))
  f241 := Tryz.func116.trans (congrArg some (by kernel_rfl))
  f276 := Tryz.func129.trans (congrArg some (by kernel_rfl))
  f277 := Tryz.func130.trans (congrArg some (by kernel_rfl))
  t0 := Tryz.underlying0
  a0 := Tryz.isAgg0
  z0 := Tryz.sizeOf0
  v0 := Tryz.zeroValue0
  t3 := Tryz.underlying3
  a3 := Tryz.isAgg3
  z3 := Tryz.sizeOf3
  v3 := Tryz.zeroValue3
  t4 := Tryz.underlying4
  a4 := Tryz.isAgg4
  z4 := Tryz.sizeOf4
  v4 := Tryz.zeroValue4
  t9 := Tryz.underlying9
  a9 := Tryz.isAgg9
  z9 := Tryz.sizeOf9
  v9 := Tryz.zeroValue9
  t20 := Tryz.underlying20
  a20 := Tryz.isAgg20
  z20 := Tryz.sizeOf20
  v20 := Tryz.zeroValue20
  t31 := Tryz.underlying79
  a31 := Tryz.isAgg79
  z31 := Tryz.sizeOf79
  v31 := Tryz.zeroValue79
  t37 := Tryz.underlying129
  a37 := Tryz.isAgg129
  z37 := Tryz.sizeOf129
  v37 := Tryz.zeroValue129
  t70 := Tryz.underlying135
  a70 := Tryz.isAgg135
  z70 := Tryz.sizeOf135
  v70 := Tryz.zeroValue135
  t72 := Tryz.underlying137
  a72 := Tryz.isAgg137
  z72 := Tryz.sizeOf137
  v72 := Tryz.zeroValue137
  t75 := Tryz.underlying83
  a75 := Tryz.isAgg83
  z75 := Tryz.sizeOf83
  v75 := Tryz.zeroValue83
  t76 := Tryz.underlying84
  a76 := Tryz.isAgg84
  z76 := Tryz.sizeOf84
  v76 := Tryz.zeroValue84
  t127 := Tryz.underlying154
  a127 := Tryz.isAgg154
  z127 := Tryz.sizeOf154
  v127 := Tryz.zeroValue154
  t164 := Tryz.underlying164
  a164 := Tryz.isAgg164
  z164 := Tryz.sizeOf164
  v164 := Tryz.zeroValue164 }
theorem Tryz.Builder_Extra_156 : Builder.Extra Tryz.prog Tryz.lays156_ren := {
  sizeBuilder := by kernel_rfl
  liesBuilder := by kernel_rfl
  t5 := Tryz.underlying5
  a5 := Tryz.isAgg5
  z5 := Tryz.sizeOf5
  v5 := Tryz.zeroValue5
  infoByte := by kernel_rfl
  cellsByte := by kernel_rfl
  sizeByte := by kernel_rfl
  neB5 := by decide }
open Go.RowKit in
theorem Tryz.strings_Join_none (a : Option Addr) (c : Nat) (sep : ByteArray) (w : World) :
    Calls Tryz.prog 84 #[.slice a 0 c, .string sep] w fun e w' => e = .returned (.string ⟨#[]⟩) ∧ w' = w := Any.strings_Join_none Tryz.lays156 Tryz.Builder_Extra_156 a c sep w
open Go.RowKit in
theorem Tryz.strings_Join (bk o c : Nat) (xs : List ByteArray) (sep : ByteArray) (w : World) (hcells : ∀ (j : Nat) x, xs[j]? = some x → w.cell? ⟨bk, o + j, none⟩ = some (.string x)) (hbk : bk < w.heap.size) (hN : xs.length ≤ 140737488355328) (hcap : xs.length ≤ c) (hlen : (Lib.join (xs.map (·.data.toList)) sep.data.toList).length ≤ 140737488355328) :
    Calls Tryz.prog 84 #[.slice (some ⟨bk, o, none⟩) xs.length c, .string sep] w fun e w' => e = .returned (.string ⟨(Lib.join (xs.map (·.data.toList)) sep.data.toList).toArray⟩) ∧ Below w.heap.size w w' := Any.strings_Join Tryz.lays156 Tryz.Builder_Extra_156 bk o c xs sep w hcells hbk hN hcap hlen
def Tryz.laysM171_ren : Go.Shelf.Ren := ⟨fun | 171 => 83 | 243 => 100 | 246 => 114 | 283 => 125 | 284 => 126 | 285 => 127 | 286 => 128 | 129 => 117 | 317 => 133 | 318 => 134 | 319 => 135 | 320 => 136 | 337 => 137 | 338 => 138 | n => n, fun | 3 => 3 | 9 => 9 | 2 => 2 | 4 => 4 | 171 => 160 | 0 => 0 | 53 => 87 | 37 => 129 | 5 => 5 | 173 => 162 | 212 => 175 | 51 => 171 | 20 => 20 | 213 => 176 | 46 => 140 | 232 => 179 | 233 => 180 | n => n, fun | 17 => 8 | 18 => 9 | 19 => 10 | n => n⟩
theorem Tryz.laysM171 : Go.Proofs.LaysM.n171 Tryz.prog Tryz.laysM171_ren := {
  mixed := by kernel_rfl
  f129 := Tryz.func117.trans (congrArg some (by kernel_rfl))
  f171 := Tryz.func83.trans (congrArg some (by kernel_rfl))
  f243 := Tryz.func100.trans (congrArg some (by kernel_rfl))
  f246 := Tryz.func114.trans (congrArg some (by kernel_rfl))
  f283 := Tryz.func125.trans (congrArg some (by kernel_rfl))
  f284 := Tryz.func126.trans (congrArg some (by kernel_rfl))
  f285 := Tryz.func127.trans (congrArg some (by kernel_rfl))
  f286 := Tryz.func128.trans (congrArg some (by kernel_rfl))
  f317 := Tryz.func133.trans (congrArg some (by kernel_rfl))
  f318 := Tryz.func134.trans (congrArg some (by kernel_rfl))
  f319 := Tryz.func135.trans (congrArg some (by kernel_rfl))
  f320 := Tryz.func136.trans (congrArg some (by kernel_rfl))
  f337 := Tryz.func137.trans (congrArg some (by kernel_rfl))
  f338 := Tryz.func138.trans (congrArg some (by kernel_rfl))
  t0 := Tryz.underlying0
  a0 := Tryz.isAgg0
  z0 := Tryz.sizeOf0
  v0 := Tryz.zeroValue0
  t2 := Tryz.underlying2
  a2 := Tryz.isAgg2
  z2 := Tryz.sizeOf2
  v2 := Tryz.zeroValue2
  t3 := Tryz.underlying3
  a3 := Tryz.isAgg3
  z3 := Tryz.sizeOf3
  v3 := Tryz.zeroValue3
  t4 := Tryz.underlying4
  a4 := Tryz.isAgg4
  z4 := Tryz.sizeOf4
  v4 := Tryz.zeroValue4
  t5 := Tryz.underlying5
  a5 := Tryz.isAgg5
  z5 := Tryz.sizeOf5
  v5 := Tryz.zeroValue5
  t9 := Tryz.underlying9
  a9 := Tryz.isAgg9
  z9 := Tryz.sizeOf9
  v9 := Tryz.zeroValue9
  t20 := Tryz.underlying20
  a20 := Tryz.isAgg20
  z20 := Tryz.sizeOf20
  v20 := Tryz.zeroValue20
  t37 := Tryz.underlying129
  a37 := Tryz.isAgg129
  z37 := Tryz.sizeOf129
  v37 := Tryz.zeroValue129
  t46 := Tryz.underlying140
  a46 := Tryz.isAgg140
  z46 := Tryz.sizeOf140
  v46 := Tryz.zeroValue140
  t51 := Tryz.underlying171
  a51 := Tryz.isAgg171
  z51 := Tryz.sizeOf171
  v51 := Tryz.zeroValue171
  t53 := Tryz.underlying87
  a53 := Tryz.isAgg87
  z53 := Tryz.sizeOf87
  v53 := Tryz.zeroValue87
  t171 := Tryz.underlying160
  a171 := Tryz.isAgg160
  z171 := Tryz.sizeOf160
  v171 := Tryz.zeroValue160
  t173 := Tryz.underlying162
  a173 := Tryz.isAgg162
  z173 := Tryz.sizeOf162
  v173 := Tryz.zeroValue162
  t212 := Tryz.underlying175
  a212 := Tryz.isAgg175
  z212 := Tryz.sizeOf175
  v212 := Tryz.zeroValue175
  t213 := Tryz.underlying176
  a213 := Tryz.isAgg176
  z213 := Tryz.sizeOf176
  t232 := Tryz.underlying179
  a232 := Tryz.isAgg179
  z232 := Tryz.sizeOf179
  v232 := Tryz.zeroValue179
  t233 := Tryz.underlying180
  a233 := Tryz.isAgg180
  z233 := Tryz.sizeOf180
  v233 := Tryz.zeroValue180
  g17 := by kernel_rfl
  g18 := by kernel_rfl
  g19 := by kernel_rfl
  i0 := by kernel_rfl
  i2 := by kernel_rfl
  i3 := by kernel_rfl
  i4 := by kernel_rfl
  i5 := by kernel_rfl
  i9 := by kernel_rfl
  i20 := by kernel_rfl
  i37 := by kernel_rfl
  i46 := by kernel_rfl
  i51 := by kernel_rfl
  i53 := by kernel_rfl
  i171 := by kernel_rfl
  i173 := by kernel_rfl
  i212 := by kernel_rfl
  i232 := by kernel_rfl
  i233 := by kernel_rfl
  m17 := by kernel_rfl
  m18 := by kernel_rfl
  m19 := by kernel_rfl }
open Go.RowKit Go.Sort Go.Lib in
theorem Tryz.strconv_Itoa (n : Int) (h0 : -9223372036854775808 ≤ n) (h1 : n ≤ 9223372036854775807) (w : World) (htab : Lib.TabIs Tryz.prog w "internal/strconv.uint64pow10" .u64 Lib.pow10Tab) :
    Calls Tryz.prog 83 #[.int .i64 n] w fun e w' => e = .returned (.string ⟨(Lib.itoa n).toArray⟩) ∧ ∃ k os, w' = grow (w.drewN k) os := Any.strconv_Itoa Tryz.laysM171 n h0 h1 w htab
def Tryz.laysC172_ren : Go.Shelf.Ren := ⟨fun | 172 => 61 | 244 => 81 | 245 => 82 | 247 => 95 | 279 => 96 | 280 => 97 | 281 => 98 | 282 => 99 | 287 => 111 | 316 => 112 | 171 => 83 | 205 => 113 | 321 => 123 | 322 => 124 | 243 => 100 | 246 => 114 | 283 => 125 | 284 => 126 | 285 => 127 | 286 => 128 | 129 => 117 | 317 => 133 | 318 => 134 | 319 => 135 | 320 => 136 | 337 => 137 | 338 => 138 | n => n, fun | 9 => 9 | 3 => 3 | 75 => 83 | 76 => 84 | 4 => 4 | 5 => 5 | 167 => 128 | 37 => 129 | 0 => 0 | 85 => 130 | 2 => 2 | 168 => 132 | 53 => 87 | 175 => 147 | 46 => 140 | 210 => 151 | 127 => 154 | 145 => 159 | 143 => 157 | 21 => 21 | 171 => 160 | 173 => 162 | 212 => 175 | 51 => 171 | 20 => 20 | 213 => 176 | 232 => 179 | 233 => 180 | 80 => 139 | n => n, fun | 15 => 3 | 16 => 4 | 17 => 8 | 18 => 9 | 19 => 10 | n => n⟩
theorem Tryz.laysC172 : Go.Proofs.LaysC.n172 Tryz.prog Tryz.laysC172_ren := {
  mixed := by kernel_rfl
  f129 := Tryz.func117.trans (congrArg some (by kernel_rfl))
  f171 := Tryz.func83.trans (congrArg some (by kernel_rfl))
  f172 := Tryz.func61.trans (congrArg some (by kernel_rfl))
  f205 := Tryz.func113.trans (congrArg some (by kernel_rfl))
  f243 := Tryz.func100.trans (congrArg some (by kernel_rfl))
  f244 := Tryz.func81.trans (congrArg some (by kernel_rfl))
  f245 := Tryz.func82.trans (congrArg some (by kernel_rfl))
  f246 := Tryz.func114.trans (congrArg some (by kernel_rfl))
  f247 := Tryz.func95.trans (congrArg some (by kernel_rfl))
  f279 := Tryz.func96.trans (congrArg some (by kernel_rfl))
  f280 := Tryz.func97.trans (congrArg some (by kernel_rfl))
  f281 := Tryz.func98.trans (congrArg some (by kernel_rfl))
  f282 := Tryz.func99.trans (congrArg some (by kernel_rfl))
  f283 := Tryz.func125.trans (congrArg some (by kernel_rfl))
  f284 := Tryz.func126.trans (congrArg some (by kernel_rfl))
  f285 := Tryz.func127.trans (congrArg some (by kernel_rfl))
  f286 := Tryz.func128.trans (congrArg some (by kernel_rfl))
  f287 := Tryz.func111.trans (congrArg some (by kernel_rfl))
  f316 := Tryz.func112.trans (congrArg some (by kernel_rfl))
  f317 := Tryz.func133.trans (congrArg some (by kernel_rfl))
  f318 := Tryz.func134.trans (congrArg some (by kernel_rfl))
  f319 := Tryz.func135.trans (congrArg some (by kernel_rfl))
  f320 := Tryz.func136.trans (congrArg some (by kernel_rfl))
  f321 := Tryz.func123.trans (congrArg some (by kernel_rfl))
  f322 := Tryz.func124.trans (congrArg some (by kernel_rfl))
  f337 := Tryz.func137.trans (congrArg some (by kernel_rfl))
  f338 := Tryz.func138.trans (congrArg some (by kernel_rfl))
  t0 := Tryz.underlying0
  a0 := Tryz.isAgg0
  z0 := Tryz.sizeOf0
  v0 := Tryz.zeroValue0
  t2 := Tryz.underlying2
  a2 := Tryz.isAgg2
  z2 := Tryz.sizeOf2
  v2 := Tryz.zeroValue2
  t3 := Tryz.underlying3
  a3 := Tryz.isAgg3
  z3 := Tryz.sizeOf3
  v3 := Tryz.zeroValue3
  t4 := Tryz.underlying4
  a4 := Tryz.isAgg4
  z4 := Tryz.sizeOf4
  v4 := Tryz.zeroValue4
  t5 := Tryz.underlying5
  a5 := Tryz.isAgg5
  z5 := Tryz.sizeOf5
  v5 := Tryz.zeroValue5
  t9 := Tryz.underlying9
  a9 := Tryz.isAgg9
  z9 := Tryz.sizeOf9
  v9 := Tryz.zeroValue9
  t20 := Tryz.underlying20
  a20 := Tryz.isAgg20
  z20 := Tryz.sizeOf20
  v20 := Tryz.zeroValue20
  t21 := Tryz.underlying21
  a21 := Tryz.isAgg21
  z21 := Tryz.sizeOf21
  v21 := Tryz.zeroValue21
  t37 := Tryz.underlying129
  a37 := Tryz.isAgg129
  z37 := Tryz.sizeOf129
  v37 := Tryz.zeroValue129
  t46 := Tryz.underlying140
  a46 := Tryz.isAgg140
  z46 := Tryz.sizeOf140
  v46 := Tryz.zeroValue140
  t51 := Tryz.underlying171
  a51 := Tryz.isAgg171
  z51 := Tryz.sizeOf171
  v51 := Tryz.zeroValue171
  t53 := Tryz.underlying87
  a53 := Tryz.isAgg87
  z53 := Tryz.sizeOf87
  v53 := Tryz.zeroValue87
  t75 := Tryz.underlying83
  a75 := Tryz.isAgg83
  z75 := Tryz.sizeOf83
  v75 := Tryz.zeroValue83
  t76 := Tryz.underlying84
  a76 := Tryz.isAgg84
  z76 := Tryz.sizeOf84
  v76 := Tryz.zeroValue84
  t85 := Tryz.underlying130
  a85 := Tryz.isAgg130
  z85 := Tryz.sizeOf130
  v85 := Tryz.zeroValue130
  t127 := Tryz.underlying154
  a127 := Tryz.isAgg154
  z127 := Tryz.sizeOf154
  v127 := Tryz.zeroValue154
  t143 := Tryz.underlying157
  a143 := Tryz.isAgg157
  z143 := Tryz.sizeOf157
  v143 := Tryz.zeroValue157
  t145 := Tryz.underlying159
  a145 := Tryz.isAgg159
  z145 := Tryz.sizeOf159
  v145 := Tryz.zeroValue159
  t167 := Tryz.underlying128
  a167 := Tryz.isAgg128
  z167 := Tryz.sizeOf128
  v167 := Tryz.zeroValue128
  t168 := Tryz.underlying132
  a168 := Tryz.isAgg132
  z168 := Tryz.sizeOf132
  v168 := Tryz.zeroValue132
  t171 := Tryz.underlying160
  a171 := Tryz.isAgg160
  z171 := Tryz.sizeOf160
  v171 := Tryz.zeroValue160
  t173 := Tryz.underlying162
  a173 := Tryz.isAgg162
  z173 := Tryz.sizeOf162
  v173 := Tryz.zeroValue162
  t175 := Tryz.underlying147
  a175 := Tryz.isAgg147
  z175 := Tryz.sizeOf147
  v175 := Tryz.zeroValue147
  t210 := Tryz.underlying151
  a210 := Tryz.isAgg151
  z210 := Tryz.sizeOf151
  v210 := Tryz.zeroValue151
  t212 := Tryz.underlying175
  a212 := Tryz.isAgg175
  z212 := Tryz.sizeOf175
  v212 := Tryz.zeroValue175
  t213 := Tryz.underlying176
  a213 := Tryz.isAgg176
  z213 := Tryz.sizeOf176
  t232 := Tryz.underlying179
  a232 := Tryz.isAgg179
  z232 := Tryz.sizeOf179
  v232 := Tryz.zeroValue179
  t233 := Tryz.underlying180
  a233 := Tryz.isAgg180
  z233 := Tryz.sizeOf180
  v233 := Tryz.zeroValue180
  g15 := by kernel_rfl
  g16 := by kernel_rfl
  g17 := by kernel_rfl
  g18 := by kernel_rfl
  g19 := by kernel_rfl
  t80 := Tryz.underlying139
  a80 := Tryz.isAgg139
  z80 := Tryz.sizeOf139
  v80 := Tryz.zeroValue139
  i0 := by kernel_rfl
  i2 := by kernel_rfl
  i3 := by kernel_rfl
  i4 := by kernel_rfl
  i5 := by kernel_rfl
  i9 := by kernel_rfl
  i20 := by kernel_rfl
  i21 := by kernel_rfl
  i37 := by kernel_rfl
  i46 := by kernel_rfl
  i51 := by kernel_rfl
  i53 := by kernel_rfl
  i75 := by kernel_rfl
  i76 := by kernel_rfl
  i80 := by kernel_rfl
  i85 := by kernel_rfl
  i127 := by kernel_rfl
  i143 := by kernel_rfl
  i145 := by kernel_rfl
  i167 := by kernel_rfl
  i168 := by kernel_rfl
  i171 := by kernel_rfl
  i173 := by kernel_rfl
  i175 := by kernel_rfl
  i210 := by kernel_rfl
  i212 := by kernel_rfl
  i232 := by kernel_rfl
  i233 := by kernel_rfl
  m15 := by kernel_rfl
  m16 := by kernel_rfl
  m17 := by kernel_rfl
  m18 := by kernel_rfl
  m19 := by kernel_rfl
  c0 := by kernel_rfl
  c2 := by kernel_rfl
  c3 := by kernel_rfl
  c4 := by kernel_rfl
  c5 := by kernel_rfl
  c9 := by kernel_rfl
  c20 := by kernel_rfl
  c21 := by kernel_rfl
  c37 := by kernel_rfl
  c46 := by kernel_rfl
  c51 := by kernel_rfl
  c53 := by kernel_rfl
  c75 := by kernel_rfl
  c76 := by kernel_rfl
  c80 := by kernel_rfl
  c85 := by kernel_rfl
  c127 := by kernel_rfl
  c143 := by kernel_rfl
  c145 := by kernel_rfl
  c167 := by kernel_rfl
  c168 := by kernel_rfl
  c171 := by kernel_rfl
  c173 := by kernel_rfl
  c175 := by kernel_rfl
  c210 := by kernel_rfl
  c212 := by kernel_rfl
  c213 := by kernel_rfl
  c232 := by kernel_rfl
  c233 := by kernel_rfl }
open Go.RowKit in
theorem Tryz.strconv_Atoi_ok (s : ByteArray) (hmax : s.size ≤ 9223372036854775806) (v : Int) (h : Lib.atoiAll s.data.toList = .ok v) (w : World) :
    Calls Tryz.prog 61 #[.string s] w fun e w' => e = .returned (.tuple #[.int .i64 v, .nilIface]) ∧ (w' = w ∨ ∃ t, w' = Lib.bytesWorld w 5 t) := Any.strconv_Atoi_ok Tryz.laysC172 s hmax v h w
open Go.RowKit in
theorem Tryz.strconv_Atoi_syntax (s : ByteArray) (hlim : s.size ≤ 281474976710656) (h : Lib.atoiAll s.data.toList = Lib.NumEnd.syntax) (ev : Value) (w : World) (hv : w.cell? ⟨3, 0, none⟩ = some ev) (hev : ev = .nilIface ∨ ∃ te pe, ev = .iface te pe) :
    Calls Tryz.prog 61 #[.string s] w fun e w' => ∃ N, e = .returned (.tuple #[.int .i64 (0), .iface 132 (.pointer (some ⟨N, 0, none⟩))]) ∧ w.heap.size ≤ N ∧ w'.heap[N]? = some (.cells #[.string ⟨#[65, 116, 111, 105]⟩, .string s, ev] 151 (0, 0)) ∧ Below w.heap.size w w' := Any.strconv_Atoi_syntax Tryz.laysC172 s hlim h ev w hv hev
open Go.RowKit in
theorem Tryz.strconv_Atoi_range (s : ByteArray) (hlim : s.size ≤ 281474976710656) (h : Lib.atoiAll s.data.toList = .range) (ev : Value) (w : World) (hv : w.cell? ⟨4, 0, none⟩ = some ev) (hev : ev = .nilIface ∨ ∃ te pe, ev = .iface te pe) :
    Calls Tryz.prog 61 #[.string s] w fun e w' => ∃ N, e = .returned (.tuple #[.int .i64 (Lib.atoiSat s.data.toList), .iface 132 (.pointer (some ⟨N, 0, none⟩))]) ∧ w.heap.size ≤ N ∧ w'.heap[N]? = some (.cells #[.string ⟨#[65, 116, 111, 105]⟩, .string s, ev] 151 (0, 0)) ∧ Below w.heap.size w w' := Any.strconv_Atoi_range Tryz.laysC172 s hlim h ev w hv hev
def Tryz.lays146_ren : Go.Shelf.Ren := ⟨fun | 146 => 60 | 221 => 80 | 268 => 92 | 138 => 93 | 143 => 94 | 195 => 107 | 197 => 108 | 218 => 109 | 219 => 110 | 260 => 118 | 217 => 119 | 225 => 120 | 224 => 121 | 267 => 122 | 266 => 131 | 314 => 132 | n => n, fun | 9 => 9 | 31 => 79 | 3 => 3 | 4 => 4 | 0 => 0 | 105 => 144 | 21 => 21 | 5 => 5 | 46 => 140 | 119 => 167 | 139 => 170 | 138 => 169 | 146 => 172 | 51 => 171 | n => n, fun | 1 => 5 | 3 => 6 | 4 => 7 | n => n⟩
theorem Tryz.lays146 : Go.Proofs.Lays.n146 Tryz.prog Tryz.lays146_ren := {
  mixed := by kernel_rfl
  f138 := Tryz.func93.trans (congrArg some (by kernel_rfl))
  f143 := Tryz.func94.trans (congrArg some (by kernel_rfl))
  f146 := Tryz.func60.trans (congrArg some (by kernel_rfl))
  f195 := Tryz.func107.trans (congrArg some (by kernel_rfl))
  f197 := Tryz.func108.trans (congrArg some (by kernel_rfl))
  f217 := Tryz.func119.trans (congrArg some (by kernel_rfl))
  f218 := Tryz.func109.trans (congrArg some (by kernel_rfl))
  f219 := Tryz.func110.trans (congrArg some (by kernel_rfl))
  f221 := Tryz.func80.trans (congrArg some (by kernel_rfl))
  f224 := Tryz.func121.trans (congrArg some (by kernel_rfl))
  f225 := Tryz.func120.trans (congrArg some (by kernel_rfl))
  f260 := Tryz.func118.trans (congrArg some (by kernel_rfl))
  f266 := Tryz.func131.trans (congrArg some (by kernel_rfl))
  f267 := Tryz.func122.trans (congrArg some (by kernel_rfl))
  f268 := Tryz.func92.trans (congrArg some (by kernel_rfl))
  f314 := Tryz.func132.trans (congrArg some (by kernel_rfl))
  t0 := Tryz.underlying0
  a0 := Tryz.isAgg0
  z0 := Tryz.sizeOf0
  v0 := Tryz.zeroValue0
  t3 := Tryz.underlying3
  a3 := Tryz.isAgg3
  z3 := Tryz.sizeOf3
  v3 := Tryz.zeroValue3
  t4 := Tryz.underlying4
  a4 := Tryz.isAgg4
  z4 := Tryz.sizeOf4
  v4 := Tryz.zeroValue4
  t5 := Tryz.underlying5
  a5 := Tryz.isAgg5
  z5 := Tryz.sizeOf5
  v5 := Tryz.zeroValue5
  t9 := Tryz.underlying9
  a9 := Tryz.isAgg9
  z9 := Tryz.sizeOf9
  v9 := Tryz.zeroValue9
  t21 := Tryz.underlying21
  a21 := Tryz.isAgg21
  z21 := Tryz.sizeOf21
  v21 := Tryz.zeroValue21
  t31 := Tryz.underlying79
  a31 := Tryz.isAgg79
  z31 := Tryz.sizeOf79
  v31 := Tryz.zeroValue79
  t46 := Tryz.underlying140
  a46 := Tryz.isAgg140
  z46 := Tryz.sizeOf140
  v46 := Tryz.zeroValue140
  t51 := Tryz.underlying171
  a51 := Tryz.isAgg171
  z51 := Tryz.sizeOf171
  v51 := Tryz.zeroValue171
  t105 := Tryz.underlying144
  a105 := Tryz.isAgg144
  z105 := Tryz.sizeOf144
  v105 := Tryz.zeroValue144
  t119 := Tryz.underlying167
  a119 := Tryz.isAgg167
  z119 := Tryz.sizeOf167
  t138 := Tryz.underlying169
  a138 := Tryz.isAgg169
  z138 := Tryz.sizeOf169
  v138 := Tryz.zeroValue169
  t139 := Tryz.underlying170
  a139 := Tryz.isAgg170
  z139 := Tryz.sizeOf170
  v139 := Tryz.zeroValue170
  t146 := Tryz.underlying172
  a146 := Tryz.isAgg172
  z146 := Tryz.sizeOf172
  v146 := Tryz.zeroValue172
  g1 := by kernel_rfl
  g3 := by kernel_rfl
  g4 := by kernel_rfl }
open Go.RowKit Go.Lib in
theorem Tryz.strings_Split (s sep : ByteArray) (m : Int) (w : World) (hs : s.size < 4294967281) (hm : w.cell? ⟨5, 0, none⟩ = some (.int .i64 m)) (h1 : 1 ≤ sep.size) :
    Calls Tryz.prog 60 #[.string s, .string sep] w fun e w' =>
      e = .returned (.slice (some ⟨w.heap.size, 0, none⟩) (Lib.countB s sep + 1) (Lib.countB s sep + 1)) ∧ w' = w.alloc (.cells ((Lib.splitB sep 0 (Lib.countB s sep) s).map Value.string).toArray 9) := Any.strings_Split Tryz.lays146 (by kernel_rfl) s sep m w hs hm h1
end Go.Proofs

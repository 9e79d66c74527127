import PyProof.Rows.All
import Wide.All
import OpenK.AllK
import Wide.FinOn
import KE.KStateDown
import Lean
import HandS.ForMost
import HandS.WordsExc
import HandS.Defaults
import HandS.Conv
import HandS.Zip
import HandS.SortRule
import HandS.Style
import HandS.IsInst
import HandS.TupMul
import HandS.TupAny
import HandS.Star
import HandS.Slots
import HandS.SlotsVar
import HandS.SlotsOwn
import HandS.Property
import HandS.OwnEq
import HandS.Wide
import HandS.WideMore
import HandS.WideBits
import HandS.Walk
import HandS.Flow
import HandS.Deep
import HandS.NoneIn
import HandS.TryOnly
import HandS.EndBits
import HandS.Head0
import HandS.Head1
import HandS.Head2
import HandS.HeadEnd
import HandS.HeadHook1
import HandS.HeadHook2
import KE.KDictZip
import KE.KDictPairs
import KE.KIndexOf
import KE.KIndexWalk
import PySem.Challenge.RW_lentblocks_k68_whole_rows_by_a_watch_and
set_option Elab.async false
set_option linter.all false
set_option maxRecDepth 100000
/-! The text by places, the defs, the facts of the head. -/
namespace Lb
open PySem PySem.Spec PyProof.Rows L2

abbrev PW : Program := PySem.Challenge.pw_lentblocks_k68_whole_rows_by_a_watch_and
def top (i : Nat) : Stmt := PySem.Challenge.pw_lentblocks_k68_whole_rows_by_a_watch_and.main.body.getD i (.Pass ⟨0, 0, 0, 0⟩)
/-- a def of the module: its name, its place -/
abbrev gdef (x : Str) (i : Nat) : He.DefD := ⟨(x, none), x, x, defArgs (top i), defBody (top i), defScope (top i), [], []⟩
/-- a method: class, name, qualified name, the class's place, its place there -/
abbrev mdef (c m q : Str) (i j : Nat) : He.DefD := ⟨(c, some m), m, q, defArgs (inClass (top i) j), defBody (inClass (top i) j), defScope (inClass (top i) j), [], []⟩
def gfn : List He.DefD := [gdef "is_number" 10, gdef "tupled" 12, gdef "is_deed" 17, gdef "is_row" 18, gdef "asks_of" 19, gdef "out_at" 20, gdef "height" 21, gdef "raised" 23, gdef "first_free" 24, gdef "first_place" 25, gdef "played" 26,
  gdef "first_places" 27, gdef "first_stands" 28, gdef "ends_of" 29, gdef "serves_first" 30, gdef "lent" 32, gdef "without_block" 33, gdef "ratios" 38, gdef "common_part" 40, gdef "unit" 42, gdef "is_even" 43, gdef "check_even" 44, gdef "lines" 45, gdef "least_pool" 46]
def lfn : List He.DefD := [gdef "_law_box" 48, gdef "_law_take" 49, gdef "_law_cells" 50, gdef "_law_of" 51, gdef "_law_same" 52, gdef "_law_deeds" 53, gdef "_law_played_right" 54, gdef "_law_undone_right" 55, gdef "_law_case_right" 56, gdef "_law_opponent" 57,
  gdef "_law_by_hand_right" 58, gdef "_law_right" 59, gdef "law" 60]
def wInit : He.DefD := ⟨("Watch", some "__init__"), "__init__", "Watch.__init__", defArgs (inClass (top 34) 1), defBody (inClass (top 34) 1), defScope (inClass (top 34) 1), [.adr (He.dflAt ("Watch", some "__init__") 0)], []⟩
def wfn : List He.DefD := [wInit, mdef "Watch" "live" "Watch.live" 34 6, mdef "Watch" "height" "Watch.height" 34 7, mdef "Watch" "reach" "Watch.reach" 34 8, mdef "Watch" "refused" "Watch.refused" 34 9, mdef "Watch" "__len__" "Watch.__len__" 34 10,
  mdef "Watch" "__eq__" "Watch.__eq__" 34 12, mdef "Watch" "ask" "Watch.ask" 34 13, mdef "Watch" "give" "Watch.give" 34 14, mdef "Watch" "back" "Watch.back" 34 15]
def bfn : List He.DefD := [mdef "Board" "__init__" "Board.__init__" 36 0, mdef "Board" "__getitem__" "Board.__getitem__" 36 5, mdef "Board" "take_over" "Board.take_over" 36 8, mdef "Board" "put" "Board.put" 36 9, mdef "Board" "ask" "Board.ask" 36 13,
  mdef "Board" "give" "Board.give" 36 14, mdef "Board" "undo" "Board.undo" 36 15, mdef "Board" "live" "Board.live" 36 17, mdef "Board" "place" "Board.place" 36 18]
def dfn : List He.DefD := gfn ++ lfn ++ wfn ++ bfn
/-! ### properties: the getter behind the property object -/
open PySem.W in
def propAt (K : Frag) (c m : Str) : Addr := match findIn K (.ref (He.ga K c)) m with
  | some (some (.ref p)) => p
  | _ => 0
open PySem.W in
def getterAt (K : Frag) (c m : Str) : Addr := match recIn K (propAt K c m) "property" with
  | some (.ref g :: _) => g
  | _ => 0
/-- one getter: class, name, qualified name, places -/
structure GetD where
  cls : Str
  name : Str
  qual : Str
  i : Nat
  j : Nat
def GetD.st (d : GetD) : Stmt := inClass (top d.i) d.j
abbrev GVal : Type := Option (Str × Str × Arguments × FuncBody × Scope × Addr × List (Str × Addr) × Value × Addr)
open PySem.W in
def GetD.obs (K : Frag) (d : GetD) : GVal := match K.lookup (getterAt K d.cls d.name) with
  | some ⟨_, _, .func fd, _⟩ => some (fd.name, fd.qualname, fd.params, fd.body, fd.scope, fd.globals, fd.closure, fd.defaults, fd.builtins)
  | _ => none
def GetD.val (d : GetD) : GVal := some (d.name, d.qual, defArgs d.st, .stmts (defBody d.st), defScope d.st, mainGlobals, [], .none, builtinsNs)
open PySem.W in
def GetD.ok (K : Frag) (d : GetD) : Bool := He.eqO (findIn K (.ref (He.ga K d.cls)) d.name) (some (some (.ref (propAt K d.cls d.name)))) &&
  (He.eqO (specialIn K (.ref (propAt K d.cls d.name)) "__get__") (some (some (.builtin "property.__get__"))) && (decide (takesIn K (.ref (propAt K d.cls d.name)) = some true) &&
    ((match recIn K (propAt K d.cls d.name) "property" with
      | some (.ref _ :: _) => true
      | _ => false) && (match K.lookup (getterAt K d.cls d.name) with
      | some ⟨_, _, .func fd, _⟩ => codeIn K fd.code d.qual
      | _ => false))))
def getters : List GetD := [⟨"Watch", "chain", "Watch.chain", 34, 2⟩, ⟨"Watch", "pool", "Watch.pool", 34, 3⟩, ⟨"Watch", "stand", "Watch.stand", 34, 4⟩, ⟨"Watch", "told", "Watch.told", 34, 5⟩, ⟨"Board", "deeds", "Board.deeds", 36, 2⟩]
/-! ### the slots -/
open PySem.W in
def slotB (K : Frag) (c f : Str) (i : Nat) : Bool := He.eqO (findIn K (.ref (He.ga K c)) f) (some (some (.ref (propAt K c f)))) && (He.eqO (specialIn K (.ref (propAt K c f)) "__get__") (some (some (.builtin "member_descriptor.__get__"))) &&
  (decide (takesIn K (.ref (propAt K c f)) = some true) && (decide (typeIn K (.ref (propAt K c f)) = some (.type "member_descriptor")) && (decide (slotIn K (propAt K c f) (He.ga K c) = some i) && decide (i < 1000)))))
open PySem.W in
def sclsB (K : Frag) (c : Str) : Bool := plainGet K (He.ga K c) Str.empty && (isClsIn K (He.ga K c) && (plainOver K (He.ga K c) && He.eqO (findIn K (.ref (He.ga K c)) "__setattr__") (some (some (.builtin "object.__setattr__")))))
open PySem.W in
def sisiB (K : Frag) (c : Str) : Bool := He.eqO (findIn K (.ref (He.ga K c)) "__class__") (some (some (.builtin "object.__class__"))) && (He.eqO (specialIn K (.builtin "object.__class__") "__get__") (some (some (.builtin "getset_descriptor.__get__"))) &&
  (decide (takesIn K (.builtin "object.__class__") = some true) && decide (mroIn K (He.ga K c) (.type "object") = some true)))
open PySem.W in
def dflB (K : Frag) : Bool := match K.lookup (He.dflAt ("Watch", some "__init__") 0 K) with
  | some ⟨.type c, _, .seq its _, _⟩ => decide (c = "tuple") && its.isEmpty
  | _ => false
def facs : List He.Fa := (["len", "isinstance", "int", "bool", "list", "tuple", "str", "all", "max", "sum", "sorted", "zip", "enumerate", "range", "abs", "dict"] : List Str).map He.Fa.free ++
  [He.Fa.str "ASK" "ask", .str "BACK" "back", .int "PAIR" 2, .glo "Watch", .glo "Board", .cls "Board", .noat "Board" "own_pools", .noat "Board" "own_past", .mkr "Board", .mkr "Watch"] ++ gfn.map (fun d => He.Fa.glo d.name) ++ lfn.map (fun d => He.Fa.glo d.name) ++
  (["live", "height", "reach", "refused", "__len__", "__eq__", "ask", "give", "back"] : List Str).map (He.Fa.meth "Watch") ++ (["__getitem__", "take_over", "put", "ask", "give", "undo", "live", "place"] : List Str).map (He.Fa.meth "Board")
def moreB (K : PySem.W.Frag) : Bool := (getters.all fun d => d.ok K) && (slotB K "Watch" "own_chain" 0 && (slotB K "Watch" "own_pool" 1 && (slotB K "Watch" "own_stands" 2 && (slotB K "Watch" "own_told" 3 && (sclsB K "Watch" && (sisiB K "Watch" && dflB K))))))
/-! ### the Hook -/
abbrev AlL : Type := He.AlD × (List GVal × Bool)
def obsL (K : PySem.W.Frag) : AlL := (He.obsD facs dfn K, (getters.map fun d => d.obs K, moreB K))
def valL : AlL := (He.valD dfn, (getters.map GetD.val, true))
def obsLG (n : Nat) (g : Addr → Option Obj) : AlL := obsL (He.frG g (He.asD g n))
def SaysL (K : PySem.W.Frag) : Prop := obsL K = valL
def hookL (n : Nat) : PySem.W.Hook where
  α := AlL
  obs := fun s => obsLG n s.heap.get?
  val := fun _ => valL
  says := fun _ h => ∃ K : PySem.W.Frag, K.In h ∧ SaysL K
  of := fun _ _ e => ⟨_, He.frG_in, e⟩
  keeps := fun _ _ _ ⟨K, hK, c⟩ k => ⟨K, PySem.W.Frag.In.keeps hK k, c⟩
theorem obsLG_eq {n : Nat} {g : Addr → Option Obj} {s : Shared} (h : ∀ a, g a = s.heap.get? a) : obsLG n g = (hookL n).obs s := by
  have e : g = s.heap.get? := funext h
  rw [e] <;> rfl
end Lb
set_option maxHeartbeats 0
namespace Lb
open PySem PySem.W PySem.Calls PyProof.Rows
abbrev R : OpenRow := OpenLaw.row PySem.Challenge.rw_lentblocks_k68_whole_rows_by_a_watch_and
def nms1 : List PySem.Str := ["_wall", "BlockError", "NoSize", "NoPlace", "NoNumber", "NothingDone", "Known", "NoPool", "is_number", "set_of", "tupled", "ASK", "BACK", "PAIR", "is_deed", "is_row", "asks_of", "out_at", "height", "raised", "first_free", "first_place", "played", "first_places", "first_stands", "ends_of", "serves_first", "lent", "without_block", "Watch"]
def nms2 : List PySem.Str := ["Board", "ratios", "common_part", "unit", "is_even", "check_even", "lines", "least_pool", "_law_box", "_law_take", "_law_cells", "_law_of", "_law_same", "_law_deeds", "_law_played_right", "_law_undone_right", "_law_case_right", "_law_opponent", "_law_by_hand_right", "_law_right"]
def nms : List PySem.Str := nms1 ++ nms2
def obL (s : PySem.W.SharedT) : AlL := obsLG 5 (HandSHeadRun.getT s)
theorem obL_eq (s : PySem.W.SharedT) : obL s = (hookL 5).obs s.abs := obsLG_eq (HandSHeadRun.getT_eq s)
theorem run (w : World) : HandSHeadRun.RunEq R (PySem.W.view R.prog [60]) (hookL 5) obL 6000 nms w := by
  intro os
  kernel_rfl
end Lb
/-! The plain law: first fit over a chain keeps every block below its line. No program in sight. -/
namespace Lb

abbrev Blk := Int × Int

/-- the least multiple of s from n on -/
def raised (n s : Int) : Int := (n + s - 1) / s * s
theorem raised_spec {n s : Int} (hs : 0 < s) : n ≤ raised n s ∧ raised n s < n + s ∧ raised n s % s = 0 := by
  unfold raised
  have e := Int.emod_add_mul_ediv (n + s - 1) s
  have h1 := Int.emod_nonneg (n + s - 1) (Int.ne_of_gt hs)
  have h2 := Int.emod_lt_of_pos (n + s - 1) hs
  have c : s * ((n + s - 1) / s) = (n + s - 1) / s * s := Int.mul_comm _ _
  refine ⟨by omega, by omega, Int.mul_emod_left _ _⟩
/-- multiples of s that are less differ by s at least -/
theorem mult_lt {a b s : Int} (hs : 0 < s) (ha : a % s = 0) (hb : b % s = 0) (h : a < b) : a + s ≤ b := by
  have e1 := Int.emod_add_mul_ediv a s
  have e2 := Int.emod_add_mul_ediv b s
  rw [ha] at e1
  rw [hb] at e2
  have h3 : a / s < b / s := by
    refine Int.lt_of_not_ge fun q => ?_
    have := Int.mul_le_mul_of_nonneg_left q (Int.le_of_lt hs)
    omega
  have h4 : a / s + 1 ≤ b / s := h3
  have h5 := Int.mul_le_mul_of_nonneg_left h4 (Int.le_of_lt hs)
  rw [Int.mul_add] at h5
  omega

/-! ### first free -/
def ffGo (s : Int) : Int → List Blk → Int
  | p, [] => p
  | p, b :: r => if p + s ≤ b.1 then p else ffGo s (if raised (b.1 + b.2) s > p then raised (b.1 + b.2) s else p) r
def ff (st : List Blk) (s : Int) : Int := ffGo s 0 st
/-- ascending, disjoint -/
def Sep (st : List Blk) : Prop := st.Pairwise fun a b => a.1 + a.2 ≤ b.1
theorem ffGo_spec {s : Int} (hs : 0 < s) : ∀ (st : List Blk) (p0 : Int), Sep st → (∀ b ∈ st, 0 < b.2) → p0 % s = 0 →
    p0 ≤ ffGo s p0 st ∧ ffGo s p0 st % s = 0 ∧ (∀ b ∈ st, b.1 + b.2 ≤ ffGo s p0 st ∨ ffGo s p0 st + s ≤ b.1) ∧
      ∀ q, q % s = 0 → p0 ≤ q → q < ffGo s p0 st → ∃ b ∈ st, b.1 < q + s ∧ q < b.1 + b.2
  | [], p0, _, _, h0 => ⟨Int.le_refl _, h0, fun _ h => (nomatch h), fun q _ h1 h2 => absurd h2 (Int.not_lt.mpr h1)⟩
  | b :: r, p0, hS, hp, h0 => by
    obtain ⟨hb, hr⟩ := List.pairwise_cons.mp hS
    have hb2 := hp b List.mem_cons_self
    unfold ffGo
    by_cases h : p0 + s ≤ b.1
    · rw [if_pos h]
      refine ⟨Int.le_refl _, h0, fun c hc => .inr ?_, fun q _ h1 h2 => absurd h2 (Int.not_lt.mpr h1)⟩
      rcases List.mem_cons.mp hc with rfl | hc
      · exact h
      · have := hb c hc
        omega
    · rw [if_neg h]
      obtain ⟨r1, r2, r3⟩ := raised_spec (n := b.1 + b.2) hs
      generalize hp1 : (if raised (b.1 + b.2) s > p0 then raised (b.1 + b.2) s else p0) = p1
      have hm : p1 % s = 0 := by
        rw [← hp1]
        split
        · exact r3
        · exact h0
      have hge : p0 ≤ p1 := by
        rw [← hp1]
        split <;> omega
      have hge2 : b.1 + b.2 ≤ p1 := by
        rw [← hp1]
        split <;> omega
      obtain ⟨i1, i2, i3, i4⟩ := ffGo_spec hs r p1 hr (fun c hc => hp c (List.mem_cons_of_mem _ hc)) hm
      refine ⟨by omega, i2, fun c hc => ?_, fun q hq h1 h2 => ?_⟩
      · rcases List.mem_cons.mp hc with rfl | hc
        · exact .inl (by omega)
        · exact i3 c hc
      · by_cases hq1 : p1 ≤ q
        · obtain ⟨c, hc, z⟩ := i4 q hq hq1 h2
          exact ⟨c, List.mem_cons_of_mem _ hc, z⟩
        · refine ⟨b, List.mem_cons_self, by omega, ?_⟩
          have h3 : p1 = raised (b.1 + b.2) s := by
            rw [← hp1]
            split
            · rfl
            · exfalso
              rw [← hp1] at hq1
              split at hq1 <;> omega
          have := mult_lt hs hq r3 (by omega)
          omega
theorem ff_spec {s : Int} {st : List Blk} (hs : 0 < s) (hS : Sep st) (hp : ∀ b ∈ st, 0 < b.2) :
    0 ≤ ff st s ∧ ff st s % s = 0 ∧ (∀ b ∈ st, b.1 + b.2 ≤ ff st s ∨ ff st s + s ≤ b.1) ∧ ∀ q, q % s = 0 → 0 ≤ q → q < ff st s → ∃ b ∈ st, b.1 < q + s ∧ q < b.1 + b.2 :=
  ffGo_spec hs st 0 hS hp (Int.zero_emod _)
theorem ffGo_le {s M : Int} (hs : 0 < s) (h0 : 0 ≤ M) : ∀ (st : List Blk) (p : Int), p ≤ M → (∀ b ∈ st, b.1 + b.2 + s ≤ M) → ffGo s p st ≤ M
  | [], p, hp, _ => hp
  | b :: r, p, hp, h => by
    unfold ffGo
    split
    · exact hp
    · refine ffGo_le hs h0 r _ ?_ fun c hc => h c (List.mem_cons_of_mem _ hc)
      have := h b List.mem_cons_self
      have := (raised_spec (n := b.1 + b.2) hs).2.1
      split <;> omega

/-! ### what is out -/
def live (st : List Blk) : Int := (st.map (·.2)).sum
theorem live_nil : live [] = 0 := rfl
theorem live_cons (b : Blk) (st : List Blk) : live (b :: st) = b.2 + live st := by
  unfold live
  rw [List.map_cons, List.sum_cons]
def insB (b : Blk) : List Blk → List Blk
  | [] => [b]
  | c :: r => if b.1 < c.1 then b :: c :: r else c :: insB b r
theorem insB_perm (b : Blk) : ∀ st : List Blk, (insB b st).Perm (b :: st)
  | [] => List.Perm.refl _
  | c :: r => by
    unfold insB
    split
    · exact List.Perm.refl _
    · exact ((insB_perm b r).cons c).trans (List.Perm.swap b c r)
theorem live_perm {a b : List Blk} (h : a.Perm b) : live a = live b := by
  induction h with
  | nil => rfl
  | cons x _ ih => rw [live_cons, live_cons, ih]
  | swap x y l => rw [live_cons, live_cons, live_cons, live_cons]; omega
  | trans _ _ h1 h2 => rw [h1, h2]
theorem live_ins (b : Blk) (st : List Blk) : live (insB b st) = live st + b.2 := by
  rw [live_perm (insB_perm b st), live_cons]
  omega
theorem mem_ins {a b : Blk} {st : List Blk} : a ∈ insB b st ↔ a = b ∨ a ∈ st := by
  rw [(insB_perm b st).mem_iff, List.mem_cons]
theorem ins_sep {b : Blk} (hb : 0 < b.2) : ∀ {st : List Blk}, Sep st → (∀ c ∈ st, 0 < c.2) → (∀ c ∈ st, c.1 + c.2 ≤ b.1 ∨ b.1 + b.2 ≤ c.1) → Sep (insB b st)
  | [], _, _, _ => List.pairwise_singleton _ _
  | c :: r, h, hp, hd => by
    obtain ⟨h1, h2⟩ := List.pairwise_cons.mp h
    have hc := hd c List.mem_cons_self
    have hc2 := hp c List.mem_cons_self
    unfold insB
    by_cases hlt : b.1 < c.1
    · rw [if_pos hlt]
      refine List.pairwise_cons.mpr ⟨fun d hd' => ?_, h⟩
      have hbc : b.1 + b.2 ≤ c.1 := by omega
      rcases List.mem_cons.mp hd' with rfl | hd'
      · exact hbc
      · have := h1 d hd'
        omega
    · rw [if_neg hlt]
      refine List.pairwise_cons.mpr ⟨fun d hd' => ?_, ins_sep hb h2 (fun d q => hp d (List.mem_cons_of_mem _ q)) fun d q => hd d (List.mem_cons_of_mem _ q)⟩
      rcases mem_ins.mp hd' with rfl | hd'
      · omega
      · exact h1 d hd'
theorem sep_filter {p : Blk → Bool} {st : List Blk} (h : Sep st) : Sep (st.filter p) := List.Pairwise.filter p h
/-- in a stand the first cell tells the block -/
theorem sep_inj : ∀ {st : List Blk}, Sep st → (∀ c ∈ st, 0 < c.2) → ∀ a ∈ st, ∀ b ∈ st, a.1 = b.1 → a = b
  | [], _, _, _, h, _, _, _ => (nomatch h)
  | c :: r, h, hp, a, ha, b, hb, e => by
    obtain ⟨h1, h2⟩ := List.pairwise_cons.mp h
    have hc2 := hp c List.mem_cons_self
    rcases List.mem_cons.mp ha with ea | ha'
    · rcases List.mem_cons.mp hb with eb | hb'
      · rw [ea, eb]
      · have := h1 b hb'
        subst ea
        omega
    · rcases List.mem_cons.mp hb with eb | hb'
      · have := h1 a ha'
        subst eb
        omega
      · exact sep_inj h2 (fun d q => hp d (List.mem_cons_of_mem _ q)) a ha' b hb' e
theorem sep_nodup {st : List Blk} (h : Sep st) (hp : ∀ c ∈ st, 0 < c.2) : st.Nodup := by
  induction st with
  | nil => exact List.nodup_nil
  | cons c r ih =>
    obtain ⟨h1, h2⟩ := List.pairwise_cons.mp h
    have hc2 := hp c List.mem_cons_self
    refine List.nodup_cons.mpr ⟨fun q => ?_, ih h2 fun d q => hp d (List.mem_cons_of_mem _ q)⟩
    have := h1 c q
    omega
/-- one block taken out -/
theorem live_out {b : Blk} : ∀ {st : List Blk}, Sep st → (∀ c ∈ st, 0 < c.2) → b ∈ st → live (st.filter fun c => decide (c.1 ≠ b.1)) = live st - b.2
  | [], _, _, h => (nomatch h)
  | c :: r, h, hp, hb => by
    obtain ⟨h1, h2⟩ := List.pairwise_cons.mp h
    have hc2 := hp c List.mem_cons_self
    have hp2 : ∀ d ∈ r, 0 < d.2 := fun d q => hp d (List.mem_cons_of_mem _ q)
    rcases List.mem_cons.mp hb with rfl | hb
    · rw [List.filter_cons_of_neg (by simp), live_cons]
      rw [List.filter_eq_self.mpr fun d hd => ?_]
      · omega
      · have := h1 d hd
        exact decide_eq_true (by omega)
    · have := h1 b hb
      have hne : c.1 ≠ b.1 := by omega
      rw [List.filter_cons_of_pos (by simp [hne]), live_cons, live_cons, live_out h2 hp2 hb]
      omega
/-- taken out by its first cell, or as it is: the same -/
theorem out_same {b : Blk} {st : List Blk} (h : Sep st) (hp : ∀ c ∈ st, 0 < c.2) (hb : b ∈ st) : (st.filter fun c => decide (c ≠ b)) = st.filter fun c => decide (c.1 ≠ b.1) := by
  refine List.filter_congr fun c hc => ?_
  by_cases e : c.1 = b.1
  · rw [sep_inj h hp c hc b hb e]
    simp
  · have e2 : c ≠ b := fun q => e (by rw [q])
    rw [decide_eq_true e, decide_eq_true e2]

/-! ### sums over slots -/
def sumTo (f : Nat → Int) : Nat → Int
  | 0 => 0
  | n + 1 => sumTo f n + f n
theorem sumTo_mono {f g : Nat → Int} : ∀ {n : Nat}, (∀ k, k < n → f k ≤ g k) → sumTo f n ≤ sumTo g n
  | 0, _ => Int.le_refl _
  | n + 1, h => by
    have h1 := sumTo_mono (n := n) fun k hk => h k (Nat.lt_succ_of_lt hk)
    have h2 := h n (Nat.lt_succ_self n)
    show sumTo f n + f n ≤ sumTo g n + g n
    omega
theorem sumTo_add (f g : Nat → Int) : ∀ n : Nat, sumTo (fun k => f k + g k) n = sumTo f n + sumTo g n
  | 0 => rfl
  | n + 1 => by
    show sumTo (fun k => f k + g k) n + (f n + g n) = sumTo f n + f n + (sumTo g n + g n)
    rw [sumTo_add f g n]
    omega
theorem sumTo_zero : ∀ n : Nat, sumTo (fun _ => 0) n = 0
  | 0 => rfl
  | n + 1 => by
    show sumTo (fun _ => 0) n + 0 = 0
    rw [sumTo_zero n]
    rfl
/-- how many cells of [x, y) are in the block -/
def ov (b : Blk) (x y : Int) : Int := max 0 (min y (b.1 + b.2) - max x b.1)
theorem ov_nonneg (b : Blk) (x y : Int) : 0 ≤ ov b x y := Int.le_max_left _ _
theorem ov_add {b : Blk} {x y : Int} (hx : 0 ≤ x) (hy : x ≤ y) (hb : 0 ≤ b.2) : ov b 0 x + ov b x y = ov b 0 y := by
  unfold ov
  omega
theorem ov_le {b : Blk} {x y : Int} (hb : 0 ≤ b.2) : ov b x y ≤ b.2 := by
  unfold ov
  omega
theorem ov_sum {b : Blk} {s : Int} (hs : 0 ≤ s) (hb : 0 ≤ b.2) : ∀ n : Nat, sumTo (fun k => ov b ((k : Int) * s) ((k : Int) * s + s)) n = ov b 0 ((n : Int) * s)
  | 0 => by
    show 0 = ov b 0 (((0 : Nat) : Int) * s)
    have e : ((0 : Nat) : Int) * s = 0 := by
      rw [show ((0 : Nat) : Int) = 0 from rfl, Int.zero_mul]
    rw [e]
    unfold ov
    omega
  | n + 1 => by
    show sumTo (fun k => ov b ((k : Int) * s) ((k : Int) * s + s)) n + ov b ((n : Int) * s) ((n : Int) * s + s) = _
    rw [ov_sum hs hb n]
    have e : ((n + 1 : Nat) : Int) * s = (n : Int) * s + s := by
      rw [show ((n + 1 : Nat) : Int) = (n : Int) + 1 from rfl, Int.add_mul, Int.one_mul]
    rw [e]
    exact ov_add (Int.mul_nonneg (Int.natCast_nonneg n) hs) (by omega) hb
def liveIn (st : List Blk) (x y : Int) : Int := (st.map fun b => ov b x y).sum
theorem liveIn_cons (b : Blk) (st : List Blk) (x y : Int) : liveIn (b :: st) x y = ov b x y + liveIn st x y := by
  unfold liveIn
  rw [List.map_cons, List.sum_cons]
theorem liveIn_nonneg : ∀ (st : List Blk) (x y : Int), 0 ≤ liveIn st x y
  | [], _, _ => Int.le_refl _
  | b :: r, x, y => by
    rw [liveIn_cons]
    have := ov_nonneg b x y
    have := liveIn_nonneg r x y
    omega
theorem ov_le_liveIn {b : Blk} {x y : Int} : ∀ {st : List Blk}, b ∈ st → ov b x y ≤ liveIn st x y
  | [], h => (nomatch h)
  | c :: r, h => by
    rw [liveIn_cons]
    rcases List.mem_cons.mp h with rfl | h
    · have := liveIn_nonneg r x y
      omega
    · have := ov_le_liveIn (x := x) (y := y) h
      have := ov_nonneg c x y
      omega
theorem liveIn_sum {s : Int} (hs : 0 ≤ s) (n : Nat) : ∀ {st : List Blk}, (∀ b ∈ st, 0 < b.2) → sumTo (fun k => liveIn st ((k : Int) * s) ((k : Int) * s + s)) n ≤ live st
  | [], _ => by
    have e : (fun k : Nat => liveIn [] ((k : Int) * s) ((k : Int) * s + s)) = fun _ => 0 := rfl
    rw [e, sumTo_zero]
    exact Int.le_refl _
  | b :: r, h => by
    have e : (fun k : Nat => liveIn (b :: r) ((k : Int) * s) ((k : Int) * s + s)) = fun k : Nat => ov b ((k : Int) * s) ((k : Int) * s + s) + liveIn r ((k : Int) * s) ((k : Int) * s + s) :=
      funext fun k => liveIn_cons b r _ _
    have hb := Int.le_of_lt (h b List.mem_cons_self)
    rw [e, sumTo_add, ov_sum hs hb, live_cons]
    have h1 := ov_le (b := b) (x := 0) (y := (n : Int) * s) hb
    have h2 := liveIn_sum hs n (st := r) fun c hc => h c (List.mem_cons_of_mem _ hc)
    omega

/-! ### a chain with its lines -/
/-- the least size that may touch the k-th slot of size s -/
def wOf (s : Int) (k : Nat) : List (Int × Int) → Int
  | [] => s
  | p :: r => if p.1 ≤ s ∧ (k : Int) * s < p.2 ∧ p.1 < wOf s k r then p.1 else wOf s k r
theorem wOf_le {s : Int} {k : Nat} : ∀ cl : List (Int × Int), wOf s k cl ≤ s
  | [] => Int.le_refl _
  | p :: r => by
    unfold wOf
    split
    · rename_i h
      exact h.1
    · exact wOf_le r
theorem wOf_mem {s : Int} {k : Nat} {p : Int × Int} (h1 : p.1 ≤ s) (h2 : (k : Int) * s < p.2) : ∀ {cl : List (Int × Int)}, p ∈ cl → wOf s k cl ≤ p.1
  | [], h => (nomatch h)
  | c :: r, h => by
    unfold wOf
    rcases List.mem_cons.mp h with rfl | h
    · split
      · exact Int.le_refl _
      · rename_i q
        refine Int.le_of_not_gt fun z => q ⟨h1, h2, z⟩
    · have := wOf_mem h1 h2 h
      split
      · rename_i q
        omega
      · exact this
/-- what is asked of a chain's pairs (size, line) and a budget -/
def fine (cl : List (Int × Int)) (B : Int) : Bool :=
  cl.all fun p => decide (0 < p.1) && (decide (p.1 ≤ 64) && (decide (p.2 % p.1 = 0) && (decide (p.2 ≤ 100000) && (decide (0 ≤ p.2) && (decide (B ≤ sumTo (fun k => wOf p.1 k cl) (p.2 / p.1).toNat) && cl.all fun q => decide (q.1 % p.1 = 0) || (decide (p.1 % q.1 = 0) && decide (q.1 ≤ p.1)))))))
structure Fine (cl : List (Int × Int)) (B : Int) : Prop where
  pos : ∀ p ∈ cl, 0 < p.1
  small : ∀ p ∈ cl, p.1 ≤ 64
  mult : ∀ p ∈ cl, p.2 % p.1 = 0
  line : ∀ p ∈ cl, 0 ≤ p.2 ∧ p.2 ≤ 100000
  full : ∀ p ∈ cl, B ≤ sumTo (fun k => wOf p.1 k cl) (p.2 / p.1).toNat
  divs : ∀ p ∈ cl, ∀ q ∈ cl, q.1 % p.1 = 0 ∨ (p.1 % q.1 = 0 ∧ q.1 ≤ p.1)
theorem fine_of {cl : List (Int × Int)} {B : Int} (h : fine cl B = true) : Fine cl B := by
  have a : ∀ p ∈ cl, 0 < p.1 ∧ p.1 ≤ 64 ∧ p.2 % p.1 = 0 ∧ p.2 ≤ 100000 ∧ 0 ≤ p.2 ∧ B ≤ sumTo (fun k => wOf p.1 k cl) (p.2 / p.1).toNat ∧ ∀ q ∈ cl, q.1 % p.1 = 0 ∨ (p.1 % q.1 = 0 ∧ q.1 ≤ p.1) := by
    intro p hp
    have h1 := List.all_eq_true.mp h p hp
    simp only [Bool.and_eq_true, Bool.or_eq_true, decide_eq_true_eq, List.all_eq_true] at h1
    exact h1
  exact ⟨fun p hp => (a p hp).1, fun p hp => (a p hp).2.1, fun p hp => (a p hp).2.2.1, fun p hp => ⟨(a p hp).2.2.2.2.1, (a p hp).2.2.2.1⟩, fun p hp => (a p hp).2.2.2.2.2.1, fun p hp => (a p hp).2.2.2.2.2.2⟩
/-- a stand whose blocks lie at their places, below their lines -/
structure Good (cl : List (Int × Int)) (st : List Blk) : Prop where
  sep : Sep st
  pos : ∀ b ∈ st, 0 < b.2
  nn : ∀ b ∈ st, 0 ≤ b.1
  ali : ∀ b ∈ st, b.1 % b.2 = 0
  low : ∀ b ∈ st, ∃ l, (b.2, l) ∈ cl ∧ b.1 + b.2 ≤ l
theorem Good.nil {cl : List (Int × Int)} : Good cl [] := ⟨List.Pairwise.nil, fun _ h => (nomatch h), fun _ h => (nomatch h), fun _ h => (nomatch h), fun _ h => (nomatch h)⟩
theorem Good.filter {cl : List (Int × Int)} {st : List Blk} (g : Good cl st) (p : Blk → Bool) : Good cl (st.filter p) :=
  ⟨sep_filter g.sep, fun b h => g.pos b (List.mem_filter.mp h).1, fun b h => g.nn b (List.mem_filter.mp h).1, fun b h => g.ali b (List.mem_filter.mp h).1, fun b h => g.low b (List.mem_filter.mp h).1⟩
theorem dvd_of_mod {a b : Int} (h : a % b = 0) : ∃ c, a = b * c := by
  have e := Int.emod_add_mul_ediv a b
  exact ⟨a / b, by omega⟩
/-- a touched slot: the block's part of it -/
theorem touch_ov {b : Blk} {q s : Int} (hs : 0 < s) (hb : 0 < b.2) (hq : q % s = 0) (ha : b.1 % b.2 = 0) (h1 : b.1 < q + s) (h2 : q < b.1 + b.2) (hd : s % b.2 = 0 ∨ (b.2 % s = 0)) :
    ov b q (q + s) = b.2 ∨ ov b q (q + s) = s := by
  rcases hd with hd | hd
  · left
    have hq2 : q % b.2 = 0 := by
      obtain ⟨c, rfl⟩ := dvd_of_mod hq
      obtain ⟨e, he⟩ := dvd_of_mod hd
      rw [he, Int.mul_assoc]
      exact Int.mul_emod_right _ _
    have hqs2 : (q + s) % b.2 = 0 := by rw [Int.add_emod, hq2, hd]; simp
    have i1 : q ≤ b.1 := by
      refine Int.le_of_not_gt fun z => ?_
      have := mult_lt hb ha hq2 z
      omega
    have i2 := mult_lt hb ha hqs2 h1
    unfold ov
    omega
  · right
    have ha2 : b.1 % s = 0 := by
      obtain ⟨c, hc⟩ := dvd_of_mod ha
      obtain ⟨e, he⟩ := dvd_of_mod hd
      rw [hc, he, Int.mul_assoc]
      exact Int.mul_emod_right _ _
    have hab2 : (b.1 + b.2) % s = 0 := by rw [Int.add_emod, ha2, hd]; simp
    have i1 : b.1 ≤ q := by
      refine Int.le_of_not_gt fun z => ?_
      have := mult_lt hs hq ha2 z
      omega
    have i2 := mult_lt hs hq hab2 h2
    unfold ov
    omega
/-- THE BOUND: while the budget lets the ask, its first place ends at its line or below -/
theorem ask_low {cl : List (Int × Int)} {B : Int} {st : List Blk} {s l : Int} (F : Fine cl B) (g : Good cl st) (hm : (s, l) ∈ cl) (hl : live st + s ≤ B) : ff st s + s ≤ l := by
  have hs : 0 < s := F.pos _ hm
  have hlm : l % s = 0 := F.mult _ hm
  obtain ⟨f1, f2, _, f4⟩ := ff_spec hs g.sep g.pos
  refine Int.le_of_not_gt fun hgt => ?_
  have hpl : l ≤ ff st s := by
    refine Int.le_of_not_gt fun z => ?_
    have := mult_lt hs f2 hlm z
    omega
  have h1 : sumTo (fun k => wOf s k cl) (l / s).toNat ≤ sumTo (fun k => liveIn st ((k : Int) * s) ((k : Int) * s + s)) (l / s).toNat := by
    refine sumTo_mono fun k hk => ?_
    have hl0 := (F.line _ hm).1
    have hk2 : (k : Int) < l / s := by
      have : (0 : Int) ≤ l / s := Int.ediv_nonneg hl0 (Int.le_of_lt hs)
      omega
    have e := Int.emod_add_mul_ediv l s
    rw [hlm] at e
    have hk3 : ((k : Int) + 1) * s ≤ l / s * s := Int.mul_le_mul_of_nonneg_right hk2 (Int.le_of_lt hs)
    rw [Int.add_mul, Int.one_mul, Int.mul_comm (l / s) s] at hk3
    have hq : ((k : Int) * s) % s = 0 := Int.mul_emod_left _ _
    obtain ⟨b, hb, t1, t2⟩ := f4 ((k : Int) * s) hq (Int.mul_nonneg (Int.natCast_nonneg k) (Int.le_of_lt hs)) (by omega)
    obtain ⟨lb, hlb, hend⟩ := g.low b hb
    refine Int.le_trans ?_ (ov_le_liveIn hb)
    have hbp := g.pos b hb
    have hd := F.divs (s, l) hm (b.2, lb) hlb
    have hks : (k : Int) * s < lb := by omega
    rcases touch_ov hs hbp hq (g.ali b hb) t1 t2 (by rcases hd with z | z; exact .inr z; exact .inl z.1) with e1 | e1
    · rw [e1]
      by_cases hle : b.2 ≤ s
      · exact wOf_mem (p := (b.2, lb)) hle hks hlb
      · have := wOf_le (s := s) (k := k) cl
        omega
    · rw [e1]
      exact wOf_le cl
  have h2 := liveIn_sum (Int.le_of_lt hs) (l / s).toNat g.pos
  have h3 := F.full _ hm
  have h3' : B ≤ sumTo (fun k => wOf s k cl) (l / s).toNat := h3
  omega
theorem Good.ask {cl : List (Int × Int)} {B : Int} {st : List Blk} {s l : Int} (F : Fine cl B) (g : Good cl st) (hm : (s, l) ∈ cl) (hl : live st + s ≤ B) : Good cl (insB (ff st s, s) st) := by
  have hs : 0 < s := F.pos _ hm
  obtain ⟨f1, f2, f3, _⟩ := ff_spec hs g.sep g.pos
  have low := ask_low F g hm hl
  refine ⟨ins_sep hs g.sep g.pos f3, fun b h => ?_, fun b h => ?_, fun b h => ?_, fun b h => ?_⟩
  · rcases mem_ins.mp h with rfl | h
    · exact hs
    · exact g.pos b h
  · rcases mem_ins.mp h with rfl | h
    · exact f1
    · exact g.nn b h
  · rcases mem_ins.mp h with rfl | h
    · exact f2
    · exact g.ali b h
  · rcases mem_ins.mp h with rfl | h
    · exact ⟨l, hm, low⟩
    · exact g.low b h
end Lb
/-! Rows of deeds, played by first place. A deed: (true, size) an ask, (false, number) a back. -/
namespace Lb
abbrev Deed := Bool × Int

structure Rs where
  sizes : List Int
  places : List Int
  outs : List Nat
  here : List Blk
  stands : List (List Blk)
def rs0 : Rs := ⟨[], [], [], [], []⟩
def askS (q : Rs) (n : Int) : Rs := ⟨q.sizes ++ [n], q.places ++ [ff q.here n], q.outs ++ [q.sizes.length], insB (ff q.here n, n) q.here, q.stands ++ [insB (ff q.here n, n) q.here]⟩
def backS (q : Rs) (k : Nat) : Rs :=
  ⟨q.sizes, q.places, q.outs.filter fun j => decide (j ≠ k), q.here.filter fun c => decide (c.1 ≠ q.places.getD k 0), q.stands ++ [q.here.filter fun c => decide (c.1 ≠ q.places.getD k 0)]⟩
def rstep (q : Rs) (d : Deed) : Rs := if d.1 = true then askS q d.2 else backS q d.2.toNat
def runF (ds : List Deed) : Rs := ds.foldl rstep rs0
theorem runF_snoc (ds : List Deed) (d : Deed) : runF (ds ++ [d]) = rstep (runF ds) d := by
  unfold runF
  rw [List.foldl_append]
  rfl
theorem runF_nil : runF [] = rs0 := rfl
/-- a row of a chain (its pairs), never above the budget -/
inductive Row (cl : List (Int × Int)) (B : Int) : List Deed → Prop
  | nil : Row cl B []
  | ask {ds : List Deed} {n l : Int} : Row cl B ds → (n, l) ∈ cl → live (runF ds).here + n ≤ B → Row cl B (ds ++ [(true, n)])
  | back {ds : List Deed} {k : Nat} : Row cl B ds → k ∈ (runF ds).outs → Row cl B (ds ++ [(false, (k : Int))])
/-- the block of an ask -/
def blkOf (q : Rs) (k : Nat) : Blk := (q.places.getD k 0, q.sizes.getD k 0)
structure RInv (cl : List (Int × Int)) (B : Int) (ds : List Deed) (q : Rs) : Prop where
  good : Good cl q.here
  len : q.places.length = q.sizes.length
  lt : ∀ k ∈ q.outs, k < q.sizes.length
  nd : q.outs.Nodup
  perm : q.here.Perm (q.outs.map (blkOf q))
  le : live q.here ≤ B
  snum : q.stands.length = ds.length
  goods : ∀ st ∈ q.stands, Good cl st ∧ live st ≤ B
  ends : ∀ k, k < q.sizes.length → ∃ l, (q.sizes.getD k 0, l) ∈ cl ∧ q.places.getD k 0 + q.sizes.getD k 0 ≤ l ∧ 0 ≤ q.places.getD k 0
theorem nodup_of_map {α β : Type} {f : α → β} : ∀ {l : List α}, (l.map f).Nodup → ∀ a ∈ l, ∀ b ∈ l, f a = f b → a = b
  | [], _, _, h, _, _, _ => (nomatch h)
  | c :: r, h, a, ha, b, hb, e => by
    rw [List.map_cons] at h
    obtain ⟨h1, h2⟩ := List.nodup_cons.mp h
    rcases List.mem_cons.mp ha with ea | ha'
    · rcases List.mem_cons.mp hb with eb | hb'
      · rw [ea, eb]
      · exact absurd (List.mem_map.mpr ⟨b, hb', by rw [← e, ea]⟩) h1
    · rcases List.mem_cons.mp hb with eb | hb'
      · exact absurd (List.mem_map.mpr ⟨a, ha', by rw [e, eb]⟩) h1
      · exact nodup_of_map h2 a ha' b hb' e
theorem getD_snoc {α : Type} (l : List α) (x d : α) (k : Nat) : (l ++ [x]).getD k d = if k < l.length then l.getD k d else if k = l.length then x else d := by
  rw [List.getD_eq_getElem?_getD, List.getD_eq_getElem?_getD]
  by_cases h : k < l.length
  · rw [if_pos h, List.getElem?_append_left h]
  · rw [if_neg h]
    by_cases e : k = l.length
    · rw [if_pos e, e, List.getElem?_append_right (Nat.le_refl _), Nat.sub_self]
      rfl
    · rw [if_neg e, List.getElem?_eq_none (by rw [List.length_append]; simp; omega)]
      rfl
theorem RInv.zero {cl : List (Int × Int)} {B : Int} (hB : 0 ≤ B) : RInv cl B [] rs0 :=
  ⟨Good.nil, rfl, fun _ h => (nomatch h), List.nodup_nil, List.Perm.refl _, hB, rfl, fun _ h => (nomatch h), fun _ h => (nomatch h)⟩
theorem RInv.ask {cl : List (Int × Int)} {B : Int} {ds : List Deed} {q : Rs} (F : Fine cl B) (I : RInv cl B ds q) {n l : Int} (hm : (n, l) ∈ cl) (hl : live q.here + n ≤ B) : RInv cl B (ds ++ [(true, n)]) (askS q n) := by
  have g2 := I.good.ask F hm hl
  have low := ask_low F I.good hm hl
  have f0 := (ff_spec (F.pos _ hm) I.good.sep I.good.pos).1
  have l2 : live (insB (ff q.here n, n) q.here) ≤ B := by
    rw [live_ins]
    exact hl
  have hb : ∀ k, k < q.sizes.length → blkOf (askS q n) k = blkOf q k := fun k hk => by
    have e1 : (askS q n).places.getD k 0 = q.places.getD k 0 := by
      show (q.places ++ [ff q.here n]).getD k 0 = _
      rw [getD_snoc, if_pos (by rw [I.len]; exact hk)]
    have e2 : (askS q n).sizes.getD k 0 = q.sizes.getD k 0 := by
      show (q.sizes ++ [n]).getD k 0 = _
      rw [getD_snoc, if_pos hk]
    unfold blkOf
    rw [e1, e2]
  have hb2 : blkOf (askS q n) q.sizes.length = (ff q.here n, n) := by
    have e1 : (askS q n).places.getD q.sizes.length 0 = ff q.here n := by
      show (q.places ++ [ff q.here n]).getD q.sizes.length 0 = _
      rw [getD_snoc, if_neg (by rw [I.len]; omega), if_pos I.len.symm]
    have e2 : (askS q n).sizes.getD q.sizes.length 0 = n := by
      show (q.sizes ++ [n]).getD q.sizes.length 0 = _
      rw [getD_snoc, if_neg (by omega), if_pos rfl]
    unfold blkOf
    rw [e1, e2]
  refine ⟨g2, ?_, fun k hk => ?_, ?_, ?_, l2, ?_, fun st hst => ?_, fun k hk => ?_⟩
  · show (q.places ++ [ff q.here n]).length = (q.sizes ++ [n]).length
    rw [List.length_append, List.length_append, I.len]
    rfl
  · have hk' : k ∈ q.outs ++ [q.sizes.length] := hk
    show k < (q.sizes ++ [n]).length
    rw [List.length_append]
    rcases List.mem_append.mp hk' with h | h
    · have := I.lt k h
      simp
      omega
    · rw [List.mem_singleton] at h
      simp
      omega
  · show (q.outs ++ [q.sizes.length]).Nodup
    refine List.nodup_append.mpr ⟨I.nd, by simp, fun a ha b hb e => ?_⟩
    rw [List.mem_singleton] at hb
    have := I.lt a ha
    omega
  · show (insB (ff q.here n, n) q.here).Perm ((q.outs ++ [q.sizes.length]).map (blkOf (askS q n)))
    rw [List.map_append]
    have e : q.outs.map (blkOf (askS q n)) = q.outs.map (blkOf q) := List.map_congr_left fun k hk => hb k (I.lt k hk)
    rw [e, List.map_cons, List.map_nil, hb2]
    exact (insB_perm _ _).trans ((I.perm.cons _).trans (List.perm_append_comm (l₁ := [(ff q.here n, n)]) (l₂ := q.outs.map (blkOf q))))
  · show (q.stands ++ [_]).length = (ds ++ [_]).length
    rw [List.length_append, List.length_append, I.snum]
    rfl
  · rcases List.mem_append.mp (show st ∈ q.stands ++ [insB (ff q.here n, n) q.here] from hst) with h | h
    · exact I.goods st h
    · rw [List.mem_singleton] at h
      rw [h]
      exact ⟨g2, l2⟩
  · have hk' : k < (q.sizes ++ [n]).length := hk
    rw [List.length_append, List.length_singleton] at hk'
    by_cases h : k < q.sizes.length
    · have e := hb k h
      unfold blkOf at e
      obtain ⟨e1, e2⟩ := Prod.mk.inj e
      rw [e1, e2]
      exact I.ends k h
    · have e : k = q.sizes.length := by omega
      have e' := hb2
      unfold blkOf at e'
      obtain ⟨e1, e2⟩ := Prod.mk.inj e'
      rw [e, e1, e2]
      exact ⟨l, hm, low, f0⟩
theorem RInv.mem {cl : List (Int × Int)} {B : Int} {ds : List Deed} {q : Rs} (I : RInv cl B ds q) {k : Nat} (hk : k ∈ q.outs) : blkOf q k ∈ q.here :=
  I.perm.mem_iff.mpr (List.mem_map.mpr ⟨k, hk, rfl⟩)
theorem RInv.back {cl : List (Int × Int)} {B : Int} {ds : List Deed} {q : Rs} (I : RInv cl B ds q) {k : Nat} (hk : k ∈ q.outs) : RInv cl B (ds ++ [(false, (k : Int))]) (backS q k) := by
  have hmem := I.mem hk
  have hlive : live (q.here.filter fun c => decide (c.1 ≠ q.places.getD k 0)) = live q.here - (blkOf q k).2 := live_out (b := blkOf q k) I.good.sep I.good.pos hmem
  have hp := I.good.pos _ hmem
  have hle := I.le
  have l2 : live (q.here.filter fun c => decide (c.1 ≠ q.places.getD k 0)) ≤ B := by omega
  have hbk : ∀ j, blkOf (backS q k) j = blkOf q j := fun _ => rfl
  refine ⟨I.good.filter _, I.len, fun j hj => I.lt j (List.mem_filter.mp hj).1, I.nd.filter _, ?_, l2, ?_, fun st hst => ?_, I.ends⟩
  · have nd2 : (q.outs.map (blkOf q)).Nodup := I.perm.nodup_iff.mp (sep_nodup I.good.sep I.good.pos)
    have e : (q.outs.filter fun j => decide (j ≠ k)).map (blkOf q) = (q.outs.map (blkOf q)).filter fun c => decide (c.1 ≠ q.places.getD k 0) := by
      rw [List.filter_map]
      congr 1
      refine List.filter_congr fun j hj => ?_
      show decide (j ≠ k) = decide ((blkOf q j).1 ≠ q.places.getD k 0)
      by_cases ejk : j = k
      · rw [ejk]
        show decide (k ≠ k) = decide ((blkOf q k).1 ≠ (blkOf q k).1)
        simp
      · have hne : (blkOf q j).1 ≠ q.places.getD k 0 := fun z => ejk (nodup_of_map nd2 j hj k hk (sep_inj I.good.sep I.good.pos _ (I.mem hj) _ hmem z))
        rw [decide_eq_true ejk, decide_eq_true hne]
    show (q.here.filter fun c => decide (c.1 ≠ q.places.getD k 0)).Perm ((q.outs.filter fun j => decide (j ≠ k)).map (blkOf q))
    rw [e]
    exact I.perm.filter _
  · show (q.stands ++ [_]).length = (ds ++ [_]).length
    rw [List.length_append, List.length_append, I.snum]
    rfl
  · rcases List.mem_append.mp (show st ∈ q.stands ++ [q.here.filter fun c => decide (c.1 ≠ q.places.getD k 0)] from hst) with h | h
    · exact I.goods st h
    · rw [List.mem_singleton] at h
      rw [h]
      exact ⟨I.good.filter _, l2⟩
theorem runF_ask (ds : List Deed) (n : Int) : runF (ds ++ [(true, n)]) = askS (runF ds) n := by
  rw [runF_snoc]
  rfl
theorem runF_back (ds : List Deed) (k : Nat) : runF (ds ++ [(false, (k : Int))]) = backS (runF ds) k := by
  rw [runF_snoc]
  rfl
theorem Row.inv {cl : List (Int × Int)} {B : Int} (F : Fine cl B) (hB : 0 ≤ B) {ds : List Deed} (r : Row cl B ds) : RInv cl B ds (runF ds) := by
  induction r with
  | nil => exact RInv.zero hB
  | ask _ hm hl ih =>
    rw [runF_ask]
    exact ih.ask F hm hl
  | back _ hk ih =>
    rw [runF_back]
    exact ih.back hk
theorem Row.init {cl : List (Int × Int)} {B : Int} {ds : List Deed} {d : Deed} (r : Row cl B (ds ++ [d])) : Row cl B ds := by
  generalize e : ds ++ [d] = es at r
  cases r with
  | nil => exact absurd e (by simp)
  | ask r _ _ => rw [(List.append_inj' e rfl).1]; exact r
  | back r _ => rw [(List.append_inj' e rfl).1]; exact r
theorem Row.take {cl : List (Int × Int)} {B : Int} {ds : List Deed} (r : Row cl B ds) : ∀ i : Nat, Row cl B (ds.take i) := by
  have key : ∀ (j : Nat), j ≤ ds.length → Row cl B (ds.take (ds.length - j)) := by
    intro j
    induction j with
    | zero =>
      intro _
      rw [Nat.sub_zero, List.take_length]
      exact r
    | succ j ih =>
      intro h
      have h1 := ih (by omega)
      have e : ds.length - j = (ds.length - (j + 1)) + 1 := by omega
      have hlt : ds.length - (j + 1) < ds.length := by omega
      rw [e, List.take_add_one, List.getElem?_eq_getElem hlt] at h1
      exact Row.init h1
  intro i
  by_cases h : i ≤ ds.length
  · have := key (ds.length - i) (by omega)
    rwa [show ds.length - (ds.length - i) = i by omega] at this
  · rw [List.take_of_length_le (by omega)]
    exact r
/-- what the i-th deed of a row is -/
theorem Row.deed {cl : List (Int × Int)} {B : Int} {ds : List Deed} (r : Row cl B ds) {i : Nat} {d : Deed} (h : ds[i]? = some d) :
    (∃ n l, d = (true, n) ∧ (n, l) ∈ cl ∧ live (runF (ds.take i)).here + n ≤ B ∧ runF (ds.take (i + 1)) = askS (runF (ds.take i)) n) ∨
      ∃ k : Nat, d = (false, (k : Int)) ∧ k ∈ (runF (ds.take i)).outs ∧ runF (ds.take (i + 1)) = backS (runF (ds.take i)) k := by
  have e1 : ds.take (i + 1) = ds.take i ++ [d] := by
    rw [List.take_add_one, h]
    rfl
  have r1 := r.take (i + 1)
  rw [e1] at r1
  generalize e : ds.take i ++ [d] = es at r1
  cases r1 with
  | nil => exact absurd e (by simp)
  | ask r hm hl =>
    obtain ⟨h1, h2⟩ := List.append_inj' e rfl
    cases h2
    refine .inl ⟨_, _, rfl, hm, by rw [h1]; exact hl, ?_⟩
    rw [e1, runF_ask]
  | back r hk =>
    obtain ⟨h1, h2⟩ := List.append_inj' e rfl
    cases h2
    refine .inr ⟨_, rfl, by rw [h1]; exact hk, ?_⟩
    rw [e1, runF_back]
/-! ### the parts of the way there -/
theorem sizes_take (ds : List Deed) : ∀ i : Nat, ∃ more, (runF ds).sizes = (runF (ds.take i)).sizes ++ more := by
  intro i
  have h : ∀ (es : List Deed) (q : Rs), ∃ more, (es.foldl rstep q).sizes = q.sizes ++ more := by
    intro es
    induction es with
    | nil => exact fun q => ⟨[], (List.append_nil _).symm⟩
    | cons d r ih =>
      intro q
      obtain ⟨m, hm⟩ := ih (rstep q d)
      rw [List.foldl_cons, hm]
      unfold rstep
      split
      · exact ⟨[d.2] ++ m, by show (q.sizes ++ [d.2]) ++ m = _; rw [List.append_assoc]⟩
      · exact ⟨m, rfl⟩
  obtain ⟨m, hm⟩ := h (ds.drop i) (runF (ds.take i))
  refine ⟨m, ?_⟩
  rw [← hm]
  unfold runF
  rw [← List.foldl_append, List.take_append_drop]
theorem places_take (ds : List Deed) : ∀ i : Nat, ∃ more, (runF ds).places = (runF (ds.take i)).places ++ more := by
  intro i
  have h : ∀ (es : List Deed) (q : Rs), ∃ more, (es.foldl rstep q).places = q.places ++ more := by
    intro es
    induction es with
    | nil => exact fun q => ⟨[], (List.append_nil _).symm⟩
    | cons d r ih =>
      intro q
      obtain ⟨m, hm⟩ := ih (rstep q d)
      rw [List.foldl_cons, hm]
      unfold rstep
      split
      · exact ⟨[ff q.here d.2] ++ m, by show (q.places ++ [ff q.here d.2]) ++ m = _; rw [List.append_assoc]⟩
      · exact ⟨m, rfl⟩
  obtain ⟨m, hm⟩ := h (ds.drop i) (runF (ds.take i))
  refine ⟨m, ?_⟩
  rw [← hm]
  unfold runF
  rw [← List.foldl_append, List.take_append_drop]
theorem stands_take (ds : List Deed) : ∀ i : Nat, ∃ more, (runF ds).stands = (runF (ds.take i)).stands ++ more := by
  intro i
  have h : ∀ (es : List Deed) (q : Rs), ∃ more, (es.foldl rstep q).stands = q.stands ++ more := by
    intro es
    induction es with
    | nil => exact fun q => ⟨[], (List.append_nil _).symm⟩
    | cons d r ih =>
      intro q
      obtain ⟨m, hm⟩ := ih (rstep q d)
      rw [List.foldl_cons, hm]
      unfold rstep
      split
      · exact ⟨[insB (ff q.here d.2, d.2) q.here] ++ m, by show (q.stands ++ [_]) ++ m = _; rw [List.append_assoc]⟩
      · exact ⟨[q.here.filter fun c => decide (c.1 ≠ q.places.getD d.2.toNat 0)] ++ m, by show (q.stands ++ [_]) ++ m = _; rw [List.append_assoc]⟩
  obtain ⟨m, hm⟩ := h (ds.drop i) (runF (ds.take i))
  refine ⟨m, ?_⟩
  rw [← hm]
  unfold runF
  rw [← List.foldl_append, List.take_append_drop]
/-- the sizes of the asks: what asks_of gives -/
def asksOf (ds : List Deed) : List Int := ds.filterMap fun d => if d.1 = true then some d.2 else none
theorem asksOf_eq (ds : List Deed) : asksOf ds = (runF ds).sizes := by
  have h : ∀ (es : List Deed) (q : Rs), (es.foldl rstep q).sizes = q.sizes ++ asksOf es := by
    intro es
    induction es with
    | nil => exact fun q => (List.append_nil _).symm
    | cons d r ih =>
      intro q
      rw [List.foldl_cons, ih]
      unfold rstep asksOf
      rw [List.filterMap_cons]
      by_cases hd : d.1 = true
      · rw [if_pos hd]
        show (q.sizes ++ [d.2]) ++ _ = _
        rw [List.append_assoc]
        simp [hd]
      · rw [if_neg hd]
        simp [hd]
        rfl
  exact (h ds rs0).symm
/-- the stand behind the i-th deed -/
theorem stands_get (ds : List Deed) {i : Nat} (h : i < ds.length) : (runF ds).stands[i]? = some (runF (ds.take (i + 1))).here := by
  have len : ∀ es : List Deed, (runF es).stands.length = es.length := by
    intro es
    have hh : ∀ (fs : List Deed) (q : Rs), (fs.foldl rstep q).stands.length = q.stands.length + fs.length := by
      intro fs
      induction fs with
      | nil => exact fun q => rfl
      | cons d r ih =>
        intro q
        rw [List.foldl_cons, ih, List.length_cons]
        unfold rstep
        split
        · show (q.stands ++ [_]).length + _ = _
          rw [List.length_append, List.length_singleton]
          omega
        · show (q.stands ++ [_]).length + _ = _
          rw [List.length_append, List.length_singleton]
          omega
    have := hh es rs0
    show (es.foldl rstep rs0).stands.length = es.length
    rw [this]
    show 0 + es.length = es.length
    omega
  obtain ⟨m, hm⟩ := stands_take ds (i + 1)
  have e1 : ds.take (i + 1) = ds.take i ++ [ds[i]] := by
    rw [List.take_add_one, List.getElem?_eq_getElem h]
    rfl
  have l1 : (runF (ds.take i)).stands.length = i := by
    rw [len, List.length_take]
    omega
  rw [hm, e1, runF_snoc]
  unfold rstep
  split
  · show ((((runF (ds.take i)).stands ++ [_]) ++ m))[i]? = _
    rw [List.append_assoc, List.getElem?_append_right (by omega), l1, Nat.sub_self]
    rfl
  · show ((((runF (ds.take i)).stands ++ [_]) ++ m))[i]? = _
    rw [List.append_assoc, List.getElem?_append_right (by omega), l1, Nat.sub_self]
    rfl
theorem stands_len (ds : List Deed) : (runF ds).stands.length = ds.length := by
  have hh : ∀ (fs : List Deed) (q : Rs), (fs.foldl rstep q).stands.length = q.stands.length + fs.length := by
    intro fs
    induction fs with
    | nil => exact fun q => rfl
    | cons d r ih =>
      intro q
      rw [List.foldl_cons, ih, List.length_cons]
      unfold rstep
      split
      · show (q.stands ++ [_]).length + _ = _
        rw [List.length_append, List.length_singleton]
        omega
      · show (q.stands ++ [_]).length + _ = _
        rw [List.length_append, List.length_singleton]
        omega
  have := hh ds rs0
  show (ds.foldl rstep rs0).stands.length = ds.length
  rw [this]
  show 0 + ds.length = ds.length
  omega
end Lb
set_option maxHeartbeats 1000000
/-! What the walks lean on: the head's facts, callees, plain data in the heap. -/
namespace Lb
open PySem PySem.Spec PyProof.Rows L2

/-! ### the head's facts -/
structure TX (K : PySem.W.Frag) (mg : Str → Option Value) : Prop where
  says : SaysL K
  mgs : ∀ (x : Str) (r : Option Value), PySem.W.nsIn K mainGlobals x = some r → mg x = r
section
variable {K : PySem.W.Frag} {mg : Str → Option Value}
theorem TX.d (T : TX K mg) : He.SaysD facs dfn K := congrArg (fun z : AlL => z.1) T.says
theorem TX.free (T : TX K mg) (i : Nat) {x : Str} (h : facs[i]? = some (.free x) := by rfl) : mg x = none := T.mgs x none (He.eqO_ok (T.d.fact i h))
theorem TX.glo (T : TX K mg) (i : Nat) {x : Str} (h : facs[i]? = some (.glo x) := by rfl) : mg x = some (.ref (He.ga K x)) := T.mgs x _ (He.eqO_ok (T.d.fact i h))
theorem TX.fn (T : TX K mg) (i : Nat) {d : He.DefD} (h : dfn[i]? = some d := by rfl) : ∃ fd, FunD K d.name d.qual d.params d.body d.scope (d.dvs K) (d.kws K) (He.fAd K d.at_) fd := T.d.def_ i h
theorem TX.str (T : TX K mg) (i : Nat) {x z : Str} (h : facs[i]? = some (.str x z) := by rfl) : ∃ t, mg x = some (.str z t) := by
  have c2 : (match PySem.W.nsIn K mainGlobals x with
    | some (some (.str y _)) => decide (y = z)
    | _ => false) = true := T.d.fact i h
  cases e : PySem.W.nsIn K mainGlobals x with
  | none =>
    rw [e] at c2
    cases c2
  | some o =>
    rw [e] at c2
    cases o with
    | none => cases c2
    | some v =>
      cases v with
      | str y t =>
        have ej : y = z := of_decide_eq_true c2
        rw [ej] at e
        exact ⟨t, T.mgs _ _ e⟩
      | _ => cases c2
theorem TX.int (T : TX K mg) (i : Nat) {x : Str} {n : Int} (h : facs[i]? = some (.int x n) := by rfl) : ∃ t, mg x = some (.int n t) := by
  have c2 : (match PySem.W.nsIn K mainGlobals x with
    | some (some (.int j _)) => decide (j = n)
    | _ => false) = true := T.d.fact i h
  cases e : PySem.W.nsIn K mainGlobals x with
  | none =>
    rw [e] at c2
    cases c2
  | some o =>
    rw [e] at c2
    cases o with
    | none => cases c2
    | some v =>
      cases v with
      | int j t =>
        have ej : j = n := of_decide_eq_true c2
        rw [ej] at e
        exact ⟨t, T.mgs _ _ e⟩
      | _ => cases c2
theorem TX.more (T : TX K mg) : moreB K = true := congrArg (fun z : AlL => z.2.2) T.says
end
/-! ### a def of the module, called by its name -/
structure Cal (P : Program) (w : World) (K : PySem.W.Frag) (mg : Str → Option Value) (base : Heap) (x : Str) (k : Nat) (ps : List Str) (sp : Sp) : Prop where
  ex : ∃ f fd, FnOk P w K mg base CX0 k f fd ps sp ∧ mg x = some (.ref f) ∧ PySem.W.keepIn K (.ref f) = true ∧ Binds K fd ps []
theorem Cal.mono {P : Program} {w : World} {K : PySem.W.Frag} {mg : Str → Option Value} {base : Heap} {x : Str} {j k : Nat} {ps : List Str} {sp : Sp} (c : Cal P w K mg base x j ps sp) (h : j ≤ k) : Cal P w K mg base x k ps sp := by
  obtain ⟨f, fd, F, r⟩ := c.ex
  exact ⟨f, fd, F.mono h, r⟩
/-- tuples stand for ever -/
def TK (H H' : Hp) : Prop := ∀ b xs, H b = some (.tup xs) → H' b = some (.tup xs)
theorem TK.refl (H : Hp) : TK H H := fun _ _ h => h
theorem TK.trans {H H1 H2 : Hp} (a : TK H H1) (b : TK H1 H2) : TK H H2 := fun c o h => b c o (a c o h)
theorem TK.of {H H' : Hp} (s : Same H H') : TK H H' := fun b xs h => s b _ h
theorem TK.new {H : Hp} {p : Addr} {o : HO} (n : H p = none) : TK H (upd H p o) := fun b xs h => by rw [upd_ne (ne_of_none h n)]; exact h
theorem TK.put {H : Hp} {p : Addr} {o u : HO} (n : H p = some u) (hu : ∀ xs, u ≠ .tup xs) : TK H (upd H p o) := fun b xs h => by
  rw [upd_ne (ne_of h n fun z => hu xs z.symm)]
  exact h
theorem _root_.L2.Same.new {H : Hp} {p : Addr} {o : HO} (n : H p = none) : Same H (upd H p o) := fun b x e => by rw [upd_ne (ne_of_none e n)]; exact e
/-- behind a new object's change what stood stands -/
theorem _root_.L2.Same.put {H H1 : Hp} {p : Addr} {o : HO} (s : Same H H1) (n : H p = none) : Same H (upd H1 p o) := fun b x e => by
  rw [upd_ne (ne_of_none e n)]
  exact s b x e
/-- every call keeps the tuples: no promise need say so -/
theorem fn_tk {P : Program} {w : World} {K : PySem.W.Frag} {mg : Str → Option Value} {base : Heap} {k : Nat} {f : Addr} {fd : FuncData} {ps : List Str} {sp : Sp} (F : FnOk P w K mg base CX0 k f fd ps sp)
    (hl : ∀ vs H Q E, sp vs H Q E → vs.length = ps.length) : FnOk P w K mg base CX0 k f fd ps (fun vs H Q E => sp vs H (fun v H' => TK H H' → Q v H') E) := by
  refine ⟨fun vs H Q E h => F.len _ _ _ _ h, fun A outer s H args us vs Q E hr e0 hb hv hs => ?_⟩
  refine codeAny_mono (F.run A outer s H args us vs _ E hr e0 hb hv hs) fun r s' hq => ?_
  cases r with
  | error e => exact hq
  | ok fl =>
    cases fl with
    | ret u =>
      obtain ⟨v, H', h1, h2, h3, h4, h5, h6⟩ := hq
      exact ⟨v, H', h1, h2, h3, h4, h5, h6 h3.tups⟩
    | next => exact hq
    | brk => exact hq
    | cont => exact hq
theorem Cal.tk {P : Program} {w : World} {K : PySem.W.Frag} {mg : Str → Option Value} {base : Heap} {x : Str} {k : Nat} {ps : List Str} {sp : Sp} (c : Cal P w K mg base x k ps sp) : Cal P w K mg base x k ps (fun vs H Q E => sp vs H (fun v H' => TK H H' → Q v H') E) := by
  obtain ⟨f, fd, F, r⟩ := c.ex
  exact ⟨f, fd, fn_tk F F.len, r⟩
section
variable {X : Cx} {k : Nat} {ps : List Str} {sp : Sp} {x : Str} {p pos : Pos} {e : Expr} {es : List Expr} {t : TA}
theorem pe_cal (c : Cal X.prog X.w X.K X.mg X.base x k ps sp) (hr : Room k X.A) (hg : Gl X x) (ha : PA X (e :: es) t) (hdb : (x == ("__debug__" : Str)) = false := by decide)
    (he : starEach (e :: es) X.env = (false, eval e X.env) :: starEach es X.env := by rfl) (hpl : (backTo pos (starEach es X.env)).any (·.1) = false := by rfl) : PE X (.Call (.Name x p) (e :: es) [] pos) (tCall sp [] E0 t) := by
  obtain ⟨f, fd, F, hm, hk, hb⟩ := c.ex
  exact pe_call F hr hg hm hk hb .nil pass0 ha hdb he hpl
theorem pe_cal0 (c : Cal X.prog X.w X.K X.mg X.base x k ps sp) (hr : Room k X.A) (hg : Gl X x) (hdb : (x == ("__debug__" : Str)) = false := by decide) : PE X (.Call (.Name x p) [] [] pos) (tCall sp [] E0 tNil) := by
  obtain ⟨f, fd, F, hm, hk, hb⟩ := c.ex
  exact pe_call0 F hr hg hm hk hb .nil pass0 hdb
end
/-- a def without defaults: from its body's walk -/
theorem TX.ok {P : Program} {w : World} {K : PySem.W.Frag} {mg : Str → Option Value} {base : Heap} (T : TX K mg) {d : He.DefD} (i : Nat) (h : dfn[i]? = some d) {j : Nat} (hg : facs[j]? = some (.glo d.name)) (h1 : d.dfl = []) (h2 : d.kwd = []) (h3 : d.at_ = (d.name, none)) {N ps : List Str} {k : Nat} {sp : Sp}
    (S : FnScope N ps d.scope) (len : ∀ vs H Q E, sp vs H Q E → vs.length = ps.length)
    (hb : ∀ (kV doc pm : Value) (an : Option Addr) (cdv ct : Value) (us : List Value), us.length = ps.length → bindArgs (PySem.W.fnOf d.name d.qual d.params d.body d.scope .none kV doc pm an cdv ct) ⟨us, []⟩ = pure (ps.zip us))
    (hbody : ∀ (f : Addr) (cdv : Value) (A : Around) (outer : List Env) (s : Shared) (H : Hp) (vs : List V) (Q : VK) (E : XK), Room k (A.deeper (envOfC d.qual d.scope s.heap.objs.size f cdv)) → sp vs H Q E →
      ∃ t, PSs (cxOf CX0 P w K mg base N d.qual d.scope f cdv A outer s H E).nox d.body t ∧ t { nx := fun _ H' => Q .non H', rt := Q } (start N vs) H) : Cal P w K mg base d.name (k + 1) ps sp := by
  obtain ⟨fd, F⟩ := T.fn i h
  have e1 : d.dvs K = [] := by
    unfold He.DefD.dvs
    rw [h1]
    rfl
  have e2 : d.kws K = [] := by
    unfold He.DefD.kws
    rw [h2]
    rfl
  have e3 : He.fAd K d.at_ = He.ga K d.name := by
    rw [h3]
    rfl
  rw [e1, e2, e3] at F
  refine ⟨He.ga K d.name, fd, F.ok S len fun cdv A outer s H vs Q E hr hs => ?_, T.glo j hg, F.kp, F.bindsN hb⟩
  obtain ⟨t, h, q⟩ := hbody _ cdv A outer s H vs Q E hr hs
  exact ⟨t, h.nox, q⟩
/-! ### plain data in the heap -/
def IsP (H : Hp) (v : V) (b : Blk) : Prop := ∃ t, v = .ref t ∧ H t = some (.tup [.int b.1, .int b.2])
abbrev Ps (H : Hp) : List V → List Blk → Prop := Paired (IsP H)
/-- a stand: a tuple of pairs; a list of pairs -/
def IsSt (H : Hp) (v : V) (bs : List Blk) : Prop := ∃ t vs, v = .ref t ∧ H t = some (.tup vs) ∧ Ps H vs bs
def word (b : Bool) : Str := if b = true then "ask" else "back"
def IsD (H : Hp) (v : V) (d : Deed) : Prop := ∃ t, v = .ref t ∧ H t = some (.tup [.str (word d.1), .int d.2])
def IsRow (H : Hp) (v : V) (ds : List Deed) : Prop := ∃ t vs, v = .ref t ∧ H t = some (.tup vs) ∧ Paired (IsD H) vs ds
/-- a tuple of ints -/
def IsCh (H : Hp) (v : V) (ch : List Int) : Prop := ∃ t, v = .ref t ∧ H t = some (.tup (ch.map V.int))
/-- a tuple of ints, to be read; the same, locked, without a dict of its own -/
def IsCn (H : Hp) (v : V) (ch : List Int) : Prop := ∃ t, v = .ref t ∧ Rd H t (.tup (ch.map V.int))
def IsCF (H : Hp) (v : V) (ch : List Int) : Prop := ∃ t o, v = .ref t ∧ H t = some (.frz o (.tup (ch.map V.int))) ∧ o.dict = none
/-- a stand, locked -/
def IsN (H : Hp) (v : V) (bs : List Blk) : Prop := ∃ t o vs, v = .ref t ∧ H t = some (.frz o (.tup vs)) ∧ o.dict = none ∧ Ps H vs bs
theorem rd_same {H H' : Hp} {a : Addr} {u : HO} (s : ∀ o, H a = some o → H' a = some o) (h : Rd H a u) : Rd H' a u := by
  rcases h with h | ⟨o, h⟩
  · exact .inl (s _ h)
  · exact .inr ⟨o, s _ h⟩
theorem IsCn.same {H H' : Hp} (s : Same H H') {v : V} {ch : List Int} (h : IsCn H v ch) : IsCn H' v ch := by
  obtain ⟨t, e, q⟩ := h
  exact ⟨t, e, rd_same (s t) q⟩
theorem IsCF.same {H H' : Hp} (s : Same H H') {v : V} {ch : List Int} (h : IsCF H v ch) : IsCF H' v ch := by
  obtain ⟨t, o, e, q, d⟩ := h
  exact ⟨t, o, e, s _ _ q, d⟩
theorem IsCF.cn {H : Hp} {v : V} {ch : List Int} (h : IsCF H v ch) : IsCn H v ch := by
  obtain ⟨t, o, e, q, _⟩ := h
  exact ⟨t, e, .inr ⟨o, q⟩⟩
theorem sqT_rd {K : PySem.W.Frag} {H : Hp} {a : Addr} {xs : List V} (h : Rd H a (.tup xs)) : SqT K H a xs := .inl h
theorem IsP.keep {H H' : Hp} (k : TK H H') {v : V} {b : Blk} (h : IsP H v b) : IsP H' v b := by
  obtain ⟨t, e, q⟩ := h
  exact ⟨t, e, k _ _ q⟩
theorem Ps.keep {H H' : Hp} (k : TK H H') {vs : List V} {bs : List Blk} (h : Ps H vs bs) : Ps H' vs bs := Paired.mapP h fun _ _ => IsP.keep k
theorem IsSt.keep {H H' : Hp} (k : TK H H') {v : V} {bs : List Blk} (h : IsSt H v bs) : IsSt H' v bs := by
  obtain ⟨t, vs, e, q, p⟩ := h
  exact ⟨t, vs, e, k _ _ q, Ps.keep k p⟩
theorem IsN.same {H H' : Hp} (s : Same H H') {v : V} {bs : List Blk} (h : IsN H v bs) : IsN H' v bs := by
  obtain ⟨t, o, vs, e, q, d, p⟩ := h
  exact ⟨t, o, vs, e, s _ _ q, d, Ps.keep (TK.of s) p⟩
theorem IsD.keep {H H' : Hp} (k : TK H H') {v : V} {d : Deed} (h : IsD H v d) : IsD H' v d := by
  obtain ⟨t, e, q⟩ := h
  exact ⟨t, e, k _ _ q⟩
theorem IsRow.keep {H H' : Hp} (k : TK H H') {v : V} {ds : List Deed} (h : IsRow H v ds) : IsRow H' v ds := by
  obtain ⟨t, vs, e, q, p⟩ := h
  exact ⟨t, vs, e, k _ _ q, Paired.mapP p fun _ _ => IsD.keep k⟩
theorem IsCh.keep {H H' : Hp} (k : TK H H') {v : V} {ch : List Int} (h : IsCh H v ch) : IsCh H' v ch := by
  obtain ⟨t, e, q⟩ := h
  exact ⟨t, e, k _ _ q⟩
theorem paired_get {α β : Type} {F : α → β → Prop} : ∀ {l : List α} {m : List β}, Paired F l m → ∀ {i : Nat} {x : α}, l[i]? = some x → ∃ y, m[i]? = some y ∧ F x y
  | _, _, .nil, i, x, h => by simp at h
  | _, _, .cons r t, 0, x, h => by
    simp at h
    subst h
    exact ⟨_, rfl, r⟩
  | _, _, .cons _ t, i + 1, x, h => by
    obtain ⟨y, h1, h2⟩ := paired_get t (i := i) (x := x) (by simpa using h)
    exact ⟨y, by simpa using h1, h2⟩
theorem paired_get' {α β : Type} {F : α → β → Prop} : ∀ {l : List α} {m : List β}, Paired F l m → ∀ {i : Nat} {y : β}, m[i]? = some y → ∃ x, l[i]? = some x ∧ F x y
  | _, _, .nil, i, x, h => by simp at h
  | _, _, .cons r t, 0, x, h => by
    simp at h
    subst h
    exact ⟨_, rfl, r⟩
  | _, _, .cons _ t, i + 1, x, h => by
    obtain ⟨y, h1, h2⟩ := paired_get' t (i := i) (y := x) (by simpa using h)
    exact ⟨y, by simpa using h1, h2⟩
theorem paired_snoc {α β : Type} {F : α → β → Prop} : ∀ {l : List α} {m : List β} {x : α} {y : β}, Paired F l m → F x y → Paired F (l ++ [x]) (m ++ [y])
  | _, _, _, _, .nil, h => .cons h .nil
  | _, _, _, _, .cons r t, h => .cons r (paired_snoc t h)
theorem paired_len {α β : Type} {F : α → β → Prop} {l : List α} {m : List β} (h : Paired F l m) : l.length = m.length := Paired.length h
theorem small {n : Nat} (h : n ≤ 100000) : n < sizeLine := Nat.lt_of_le_of_lt h (by decide)
end Lb
/-! first.py: raised, first_free, first_place. -/
namespace Lb
open PySem PySem.Spec PyProof.Rows L2
variable {P : Program} {w : World} {K : PySem.W.Frag} {mg : Str → Option Value} {base : Heap}
theorem scRaised : FnScope ["number", "size"] ["number", "size"] (gdef "raised" 23).scope := ⟨rfl, rfl, rfl, by decide +kernel, rfl, by decide +kernel, by decide +kernel⟩
def spRaised : Sp := fun vs H Q _ => ∃ n s : Int, vs = [.int n, .int s] ∧ 0 < s ∧ s < 1073741824 ∧ -(2 ^ 60) < n ∧ n < 2 ^ 60 ∧ Q (.int (raised n s)) H
theorem ok_raised (T : TX K mg) : Cal P w K mg base "raised" 1 ["number", "size"] spRaised := by
  refine T.ok (d := gdef "raised" 23) 7 rfl (j := 33) rfl rfl rfl rfl scRaised (fun vs H Q E h => ?_) (fun _ _ _ _ _ _ us hl => match us, hl with | [_, _], _ => rfl) fun f cdv A outer s H vs Q E hr h => ?_
  · obtain ⟨n, s, rfl, _⟩ := h
    rfl
  · obtain ⟨n, z, rfl, h1, h2, h3, h4, k⟩ := h
    refine ⟨_, pss_one (ps_ret (pe_op op_mul (pe_op op_fdiv (pe_op op_sub (pe_op op_add (pv 0) (pv 1)) pe_int) (pv 1)) (pv 1))), ?_⟩
    refine ⟨_, rfl, _, rfl, _, _, rfl, rfl, _, _, rfl, rfl, _, rfl, _, _, rfl, rfl, ⟨h1, h2⟩, _, rfl, _, _, rfl, rfl, .inr ⟨by omega, by omega⟩, k⟩
theorem scFF : FnScope ["stand", "size", "place", "first", "wide"] ["stand", "size"] (gdef "first_free" 24).scope := ⟨rfl, rfl, rfl, by decide +kernel, rfl, by decide +kernel, by decide +kernel⟩
/-- a stand, as a tuple or as a list -/
def IsS (H : Hp) (v : V) (bs : List Blk) : Prop := ∃ t vs, v = .ref t ∧ (Rd H t (.tup vs) ∨ H t = some (.lst vs)) ∧ Ps H vs bs
theorem IsN.s {H : Hp} {v : V} {bs : List Blk} (h : IsN H v bs) : IsS H v bs := by
  obtain ⟨t, o, vs, e, q, _, p⟩ := h
  exact ⟨t, vs, e, .inl (.inr ⟨o, q⟩), p⟩
theorem IsSt.s {H : Hp} {v : V} {bs : List Blk} (h : IsSt H v bs) : IsS H v bs := by
  obtain ⟨t, vs, e, q, p⟩ := h
  exact ⟨t, vs, e, .inl (.inl q), p⟩
/-- numbers of a stand are not great -/
def Low (bs : List Blk) : Prop := ∀ b ∈ bs, 0 ≤ b.1 ∧ 0 ≤ b.2 ∧ b.1 + b.2 ≤ 1000000000000
def spFF : Sp := fun vs H Q _ => ∃ (v : V) (s : Int) (bs : List Blk), vs = [v, .int s] ∧ IsS H v bs ∧ 0 < s ∧ s < 1073741824 ∧ Low bs ∧ Q (.int (ff bs s)) H
theorem ok_ff (T : TX K mg) : Cal P w K mg base "first_free" 2 ["stand", "size"] spFF := by
  refine T.ok (d := gdef "first_free" 24) 8 rfl (j := 34) rfl rfl rfl rfl scFF (fun vs H Q E h => ?_) (fun _ _ _ _ _ _ us hl => match us, hl with | [_, _], _ => rfl) fun f cdv A outer s H vs Q E hr h => ?_
  · obtain ⟨n, s, bs, rfl, _⟩ := h
    rfl
  · obtain ⟨v, z, bs, rfl, ⟨t, us, rfl, ht, hp⟩, h1, h2, hlow, k⟩ := h
    have CR : Cal P w K mg base "raised" 1 ["number", "size"] spRaised := ok_raised T
    have hmax : mg "max" = none := T.free 8
    have hlen : us.length = bs.length := paired_len hp
    have turn : ∀ {i : Nat} {x : V}, us[i]? = some x → ∃ b r, IsP H x b ∧ bs.drop i = b :: r ∧ bs.drop (i + 1) = r ∧ 0 ≤ b.1 ∧ 0 ≤ b.2 ∧ b.1 + b.2 ≤ 1000000000000 := by
      intro i x hx
      obtain ⟨b, hb, ip⟩ := paired_get hp hx
      obtain ⟨hi, e⟩ := List.getElem?_eq_some_iff.mp hb
      have hd : bs.drop i = b :: bs.drop (i + 1) := by rw [List.drop_eq_getElem_cons hi, e]
      exact ⟨b, _, ip, hd, rfl, hlow b (List.mem_of_getElem? hb)⟩
    let Pv : Nat → L2.St → Hp → Prop := fun i σ H' => H' = H ∧ ∃ (p : Int) (y1 y2 : Option V), σ = [some (.ref t), some (.int z), some (.int p), y1, y2] ∧ 0 ≤ p ∧ p ≤ 1000000000000 + 1073741824 ∧ ffGo z p (bs.drop i) = ff bs z
    have h0 : Pv 0 [some (.ref t), some (.int z), some (.int 0), none, none] H := ⟨rfl, 0, none, none, rfl, by decide, by decide, rfl⟩
    rcases ht with ht | ht
    · refine ⟨_, pss_cons (ps_set (i := 2) scFF.nd rfl (.inl rfl) pe_int)
        (pss_cons (ps_for PassesOwn.never rfl (pi_tup (pv 0)) (pg_tup rfl (pgs_cons (pg_name (i := 3) scFF.nd rfl (.inl rfl)) (pgs_cons (pg_name (i := 4) scFF.nd rfl (.inl rfl)) pgs_nil)))
          (pss_cons (ps_if (pt_cmpR op_le (pe_op op_add (pv 2) (pv 1)) (pv 3) (nomark _)) (pss_one (ps_ret (pv 2))) pss_nil)
          (pss_one (ps_set (i := 2) scFF.nd rfl (.inl rfl) (pe_callB (call_max2 rfl) (by rfl) hmax (by decide +kernel) (pa_cons (pv 2) (pa_cons (pe_cal CR hr (by rfl) (pa_cons (pe_op op_add (pv 3) (pv 4)) (pa_cons (pv 1) pa_nil))) pa_nil)))))))
        (pss_one (ps_ret (pv 2)))), ?_⟩
      refine ⟨_, rfl, t, rfl, ⟨_, sqT_rd ht⟩, for_tup (K := K) (a := t) (xs := us) Pv h0 (fun i σ H' _ p => by rw [p.1]; exact sqT_rd ht) ?_ ?_⟩
      · rintro i x σ H' hx ⟨rfl, p, y1, y2, rfl, hp0, hp1, he⟩
        obtain ⟨b, r, ⟨tb, rfl, htb⟩, ed, er, b0, b1, b2⟩ := turn hx
        refine ⟨tb, _, rfl, SqT.of htb, rfl, _, _, rfl, _, _, rfl, rfl, ?_⟩
        refine ⟨_, rfl, _, rfl, _, _, rfl, rfl, _, rfl, _, _, rfl, rfl, _, rfl, ite2 (fun hc => ?_) (fun hc => ?_)⟩
        · have hc' : p + z ≤ b.1 := of_decide_eq_true hc
          rw [ed] at he
          unfold ffGo at he
          rw [if_pos hc'] at he
          refine ⟨_, rfl, ?_⟩
          rw [he]
          exact k
        · have hc' : ¬ p + z ≤ b.1 := fun q => hc (decide_eq_true q)
          rw [ed] at he
          unfold ffGo at he
          rw [if_neg hc'] at he
          have rs := raised_spec (n := b.1 + b.2) h1
          refine ⟨_, rfl, _, rfl, _, rfl, _, _, rfl, rfl, _, rfl, b.1 + b.2, z, rfl, h1, h2, by omega, by omega, _, _, rfl, ?_⟩
          refine ⟨rfl, _, _, _, rfl, ?_, ?_, ?_⟩
          · split <;> omega
          · split <;> omega
          · rw [er]
            exact he
      · rintro σ H' ⟨rfl, p, y1, y2, rfl, hp0, hp1, he⟩
        rw [hlen, List.drop_length] at he
        refine ⟨_, rfl, ?_⟩
        rw [← he] at k
        exact k
    · refine ⟨_, pss_cons (ps_set (i := 2) scFF.nd rfl (.inl rfl) pe_int)
        (pss_cons (ps_for PassesOwn.never rfl (pi_list (pv 0)) (pg_tup rfl (pgs_cons (pg_name (i := 3) scFF.nd rfl (.inl rfl)) (pgs_cons (pg_name (i := 4) scFF.nd rfl (.inl rfl)) pgs_nil)))
          (pss_cons (ps_if (pt_cmpR op_le (pe_op op_add (pv 2) (pv 1)) (pv 3) (nomark _)) (pss_one (ps_ret (pv 2))) pss_nil)
          (pss_one (ps_set (i := 2) scFF.nd rfl (.inl rfl) (pe_callB (call_max2 rfl) (by rfl) hmax (by decide +kernel) (pa_cons (pv 2) (pa_cons (pe_cal CR hr (by rfl) (pa_cons (pe_op op_add (pv 3) (pv 4)) (pa_cons (pv 1) pa_nil))) pa_nil)))))))
        (pss_one (ps_ret (pv 2)))), ?_⟩
      refine ⟨_, rfl, t, rfl, ⟨_, SqL.of ht⟩, for_list (K := K) (a := t) (xs := us) Pv h0 (fun i σ H' _ p => by rw [p.1]; exact SqL.of ht) ?_ ?_⟩
      · rintro i x σ H' hx ⟨rfl, p, y1, y2, rfl, hp0, hp1, he⟩
        obtain ⟨b, r, ⟨tb, rfl, htb⟩, ed, er, b0, b1, b2⟩ := turn hx
        refine ⟨tb, _, rfl, SqT.of htb, rfl, _, _, rfl, _, _, rfl, rfl, ?_⟩
        refine ⟨_, rfl, _, rfl, _, _, rfl, rfl, _, rfl, _, _, rfl, rfl, _, rfl, ite2 (fun hc => ?_) (fun hc => ?_)⟩
        · have hc' : p + z ≤ b.1 := of_decide_eq_true hc
          rw [ed] at he
          unfold ffGo at he
          rw [if_pos hc'] at he
          refine ⟨_, rfl, ?_⟩
          rw [he]
          exact k
        · have hc' : ¬ p + z ≤ b.1 := fun q => hc (decide_eq_true q)
          rw [ed] at he
          unfold ffGo at he
          rw [if_neg hc'] at he
          have rs := raised_spec (n := b.1 + b.2) h1
          refine ⟨_, rfl, _, rfl, _, rfl, _, _, rfl, rfl, _, rfl, b.1 + b.2, z, rfl, h1, h2, by omega, by omega, _, _, rfl, ?_⟩
          refine ⟨rfl, _, _, _, rfl, ?_, ?_, ?_⟩
          · split <;> omega
          · split <;> omega
          · rw [er]
            exact he
      · rintro σ H' ⟨rfl, p, y1, y2, rfl, hp0, hp1, he⟩
        rw [hlen, List.drop_length] at he
        refine ⟨_, rfl, ?_⟩
        rw [← he] at k
        exact k
theorem scFP : FnScope ["pool", "stand", "size", "place"] ["pool", "stand", "size"] (gdef "first_place" 25).scope := ⟨rfl, rfl, rfl, by decide +kernel, rfl, by decide +kernel, by decide +kernel⟩
def fpV (pool : Int) (bs : List Blk) (s : Int) : V := if ff bs s + s ≤ pool then .int (ff bs s) else .non
def spFP : Sp := fun vs H Q _ => ∃ (pool : Int) (v : V) (s : Int) (bs : List Blk), vs = [.int pool, v, .int s] ∧ IsS H v bs ∧ 0 < s ∧ s < 1073741824 ∧ Low bs ∧ Q (fpV pool bs s) H
theorem ok_fp (T : TX K mg) : Cal P w K mg base "first_place" 3 ["pool", "stand", "size"] spFP := by
  refine T.ok (d := gdef "first_place" 25) 9 rfl (j := 35) rfl rfl rfl rfl scFP (fun vs H Q E h => ?_) (fun _ _ _ _ _ _ us hl => match us, hl with | [_, _, _], _ => rfl) fun f cdv A outer s H vs Q E hr h => ?_
  · obtain ⟨p, n, s, bs, rfl, _⟩ := h
    rfl
  · obtain ⟨pool, v, z, bs, rfl, hS, h1, h2, hlow, k⟩ := h
    have CF : Cal P w K mg base "first_free" 2 ["stand", "size"] spFF := ok_ff T
    refine ⟨_, pss_cons (ps_set (i := 3) scFP.nd rfl (.inl rfl) (pe_cal CF hr (by rfl) (pa_cons (pv 1) (pa_cons (pv 2) pa_nil))))
      (pss_one (ps_ret (pe_ifExp (pt_cmpR op_le (pe_op op_add (pv 3) (pv 2)) (pv 0) (nomark _)) (pv 3) pe_non))), ?_⟩
    refine ⟨_, rfl, _, rfl, v, z, bs, rfl, hS, h1, h2, hlow, ?_⟩
    refine ⟨_, rfl, _, rfl, _, _, rfl, rfl, _, rfl, _, _, rfl, rfl, _, rfl, ite2 (fun hc => ?_) (fun hc => ?_)⟩
    · have hc' : ff bs z + z ≤ pool := of_decide_eq_true hc
      unfold fpV at k
      rw [if_pos hc'] at k
      exact ⟨_, rfl, k⟩
    · have hc' : ¬ ff bs z + z ≤ pool := fun q => hc (decide_eq_true q)
      unfold fpV at k
      rw [if_neg hc'] at k
      exact k
end Lb
/-! plain.py, rows.py: is_number, is_deed, is_row, asks_of, out_at, height. -/
namespace Lb
open PySem PySem.Spec PyProof.Rows L2
variable {P : Program} {w : World} {K : PySem.W.Frag} {mg : Str → Option Value} {base : Heap}
theorem ty_tup {H : Hp} {a : Addr} {xs : List V} (h : H a = some (.tup xs)) : TyX K H (.ref a) (.type "tuple") := .base (.tup h)
theorem ty_lst {H : Hp} {a : Addr} {xs : List V} (h : H a = some (.lst xs)) : TyX K H (.ref a) (.type "list") := .base (.lst h)
theorem ty_int {H : Hp} {i : Int} : TyX K H (.int i) (.type "int") := .base (.int i)
theorem ty_bl {H : Hp} {b : Bool} : TyX K H (.bl b) (.type "bool") := .base (.bl b)
theorem ty_str {H : Hp} {x : Str} : TyX K H (.str x) (.type "str") := .base (.str x)
theorem ty_non {H : Hp} : TyX K H .non (.type "NoneType") := .base .non
/-! ### is_number -/
theorem scIsNum : FnScope ["value"] ["value"] (gdef "is_number" 10).scope := ⟨rfl, rfl, rfl, by decide +kernel, rfl, by decide +kernel, by decide +kernel⟩
def spIsNum : Sp := fun vs H Q _ => ∃ n : Int, vs = [.int n] ∧ Q (.bl true) H
theorem ok_isnum (T : TX K mg) : Cal P w K mg base "is_number" 1 ["value"] spIsNum := by
  refine T.ok (d := gdef "is_number" 10) 0 rfl (j := 26) rfl rfl rfl rfl scIsNum (fun vs H Q E h => ?_) (fun _ _ _ _ _ _ us hl => match us, hl with | [_], _ => rfl) fun f cdv A outer s H vs Q E hr h => ?_
  · obtain ⟨n, rfl, _⟩ := h
    rfl
  · obtain ⟨n, rfl, k⟩ := h
    have hi : mg "isinstance" = none := T.free 1
    have hint : mg "int" = none := T.free 2
    have hbool : mg "bool" = none := T.free 3
    refine ⟨_, pss_one (ps_ret (pe_and (pe_callB call_isi (by rfl) hi (by decide +kernel) (pa_cons (pv 0) (pa_cons (pe_bltn (v := .ty "int") (by rfl) hint (by decide +kernel) rfl) pa_nil)))
      (pe_one (pe_not (pe_callB call_isi (by rfl) hi (by decide +kernel) (pa_cons (pv 0) (pa_cons (pe_bltn (v := .ty "bool") (by rfl) hbool (by decide +kernel) rfl) pa_nil))))))), ?_⟩
    refine ⟨_, rfl, .int n, .ty "int", .type "int", .type "int", true, rfl, .ty _, ty_int, kit_ty (by decide +kernel), true, rfl, iteT ?_⟩
    refine ⟨_, rfl, .int n, .ty "bool", .type "int", .type "bool", false, rfl, .ty _, ty_int, kit_ty (by decide +kernel), false, rfl, k⟩
/-! ### is_deed -/
theorem scDeed : FnScope ["chain", "out", "thing"] ["chain", "out", "thing"] (gdef "is_deed" 17).scope := ⟨rfl, rfl, rfl, by decide +kernel, rfl, by decide +kernel, by decide +kernel⟩
/-- what a deed makes of what is out -/
def deedTo (ch : List Int) (bs : List Bool) (d : Deed) (bs' : List Bool) : Prop := (d.1 = true ∧ d.2 ∈ ch ∧ bs' = bs ++ [true]) ∨ (d.1 = false ∧ ∃ k : Nat, d.2 = (k : Int) ∧ bs[k]? = some true ∧ bs' = bs.set k false)
def spDeed : Sp := fun vs H Q _ => ∃ (c th : V) (o : Addr) (ch : List Int) (bs bs' : List Bool) (d : Deed), vs = [c, .ref o, th] ∧ IsCn H c ch ∧ H o = some (.lst (bs.map V.bl)) ∧ IsD H th d ∧ bs.length ≤ 1000 ∧ deedTo ch bs d bs' ∧ Q (.bl true) (upd H o (.lst (bs'.map V.bl)))
theorem inV_int {n : Int} : ∀ {ch : List Int}, inV (.int n) (ch.map V.int) = decide (n ∈ ch)
  | [] => rfl
  | c :: r => by
    have ih := inV_int (n := n) (ch := r)
    unfold inV at ih ⊢
    rw [List.map_cons, List.any_cons, ih]
    show (c == n || decide (n ∈ r)) = decide (n ∈ c :: r)
    by_cases e : c = n
    · subst e
      simp
    · have e2 : ¬ n = c := fun z => e z.symm
      simp [e, e2]
theorem flat_ints (ch : List Int) : (ch.map V.int).all flatV = true := by
  rw [List.all_eq_true]
  intro x hx
  obtain ⟨n, _, rfl⟩ := List.mem_map.mp hx
  rfl
theorem ok_deed (T : TX K mg) : Cal P w K mg base "is_deed" 2 ["chain", "out", "thing"] spDeed := by
  refine T.ok (d := gdef "is_deed" 17) 2 rfl (j := 28) rfl rfl rfl rfl scDeed (fun vs H Q E h => ?_) (fun _ _ _ _ _ _ us hl => match us, hl with | [_, _, _], _ => rfl) fun f cdv A outer s H vs Q E hr h => ?_
  · obtain ⟨c, th, o, ch, bs, bs', d, rfl, _⟩ := h
    rfl
  · obtain ⟨c, th, o, ch, bs, bs', d, rfl, ⟨tc, rfl, hc⟩, ho, ⟨td, rfl, hd⟩, hlen, hto, k⟩ := h
    have hi : mg "isinstance" = none := T.free 1
    have htup : mg "tuple" = none := T.free 5
    have hstr : mg "str" = none := T.free 6
    have hl : mg "len" = none := T.free 0
    obtain ⟨tk1, hASK⟩ := T.str 16 (x := "ASK") (z := "ask")
    obtain ⟨tk2, hBACK⟩ := T.str 17 (x := "BACK") (z := "back")
    obtain ⟨tk3, hPAIR⟩ := T.int 18 (x := "PAIR") (n := 2)
    have CN : Cal P w K mg base "is_number" 1 ["value"] spIsNum := ok_isnum T
    have isi := fun (X : Cx) (hX : X.mg = mg) => hi
    refine ⟨_, pss_cons (ps_if (PW.pt (pw_or (pt_not (pt_val (pe_callB call_isi (by rfl) hi (by decide +kernel) (pa_cons (pv 2) (pa_cons (pe_bltn (v := .ty "tuple") (by rfl) htup (by decide +kernel) rfl) pa_nil)))))
        (pw_or (pt_cmpR op_ne (pe_callB call_len_seq (by rfl) hl (by decide +kernel) (pa_cons (pv 2) pa_nil)) (pe_glob (v := .int 2) (by rfl) hPAIR ⟨_, rfl⟩) (nomark _))
        (pw_or (pt_not (pt_val (pe_callB call_isi (by rfl) hi (by decide +kernel) (pa_cons (pe_ix ix_tup (pv 2) pe_int (fun _ _ => rfl)) (pa_cons (pe_bltn (v := .ty "str") (by rfl) hstr (by decide +kernel) rfl) pa_nil)))))
        (pw_or1 (pt_not (pt_val (pe_cal CN hr (by rfl) (pa_cons (pe_ix ix_tup (pv 2) pe_int (fun _ _ => rfl)) pa_nil))))))))) (pss_one (ps_ret pe_bl)) pss_nil)
      (pss_cons (ps_if (PW.pt (pw_and (pt_cmpR op_eq (pe_ix ix_tup (pv 2) pe_int (fun _ _ => rfl)) (pe_glob (v := .str "ask") (by rfl) hASK ⟨_, rfl⟩) (nomark _))
          (pw_and1 (pt_cmpR op_in_seq (pe_ix ix_tup (pv 2) pe_int (fun _ _ => rfl)) (pv 0) (by rfl)))))
        (pss_cons (ps_expr (pe_bm PySem.F.plainAttrs_list PySem.F.slot_list_append PySem.F.type_list_append mt_append (pv 1) (pa_cons pe_bl pa_nil))) (pss_one (ps_ret pe_bl))) pss_nil)
      (pss_cons (ps_if (PW.pt (pw_or (pt_cmpR op_ne (pe_ix ix_tup (pv 2) pe_int (fun _ _ => rfl)) (pe_glob (v := .str "back") (by rfl) hBACK ⟨_, rfl⟩) (nomark _))
          (pw_or (pt_not (pt_chain op_le op_lt pe_int (pe_ix ix_tup (pv 2) pe_int (fun _ _ => rfl)) (pe_callB call_len_seq (by rfl) hl (by decide +kernel) (pa_cons (pv 1) pa_nil))))
          (pw_or1 (pt_not (pt_truth (pe_ix ix_list (pv 1) (pe_ix ix_tup (pv 2) pe_int (fun _ _ => rfl)) (fun _ _ => rfl)) (by intro _; rfl))))))) (pss_one (ps_ret pe_bl)) pss_nil)
      (pss_cons (ps_asg pe_bl (pg_sub (pv 1) (pe_ix ix_tup (pv 2) pe_int (fun _ _ => rfl)) set_list))
      (pss_one (ps_ret pe_bl))))), ?_⟩
    have i0 : atI [V.str (word d.1), V.int d.2] 0 = some (V.str (word d.1)) := atI_nat (j := 0) rfl
    have i1 : atI [V.str (word d.1), V.int d.2] 1 = some (V.int d.2) := atI_nat (j := 1) rfl
    -- the first test fails
    refine ⟨_, rfl, .ref td, .ty "tuple", .type "tuple", .type "tuple", true, rfl, .ty _, ty_tup hd, kit_ty (by decide +kernel), true, rfl, iteF ?_⟩
    refine ⟨_, rfl, td, _, rfl, .inr (SqT.of hd), rfl, _, rfl, iteF ?_⟩
    refine ⟨_, rfl, td, _, 0, _, rfl, rfl, SqT.of hd, i0, .str (word d.1), .ty "str", .type "str", .type "str", true, rfl, .ty _, ty_str, kit_ty (by decide +kernel), true, rfl, iteF ?_⟩
    refine ⟨_, rfl, td, _, 1, _, rfl, rfl, SqT.of hd, i1, d.2, rfl, true, rfl, ?_⟩
    rcases hto with ⟨e1, hin, rfl⟩ | ⟨e1, n, e2, hn, rfl⟩
    · refine ⟨_, rfl, td, _, 0, _, rfl, rfl, SqT.of hd, i0, rfl, _, rfl, ?_⟩
      have ew : decide (V.str (word d.1) = V.str "ask") = true := by
        rw [e1]
        exact decide_eq_true rfl
      rw [ew]
      refine ⟨_, rfl, td, _, 1, _, rfl, rfl, SqT.of hd, i1, _, rfl, tc, _, rfl, .inr (sqT_rd hc), rfl, flat_ints ch, _, rfl, ?_⟩
      rw [if_neg Bool.false_ne_true, inV_int, decide_eq_true hin]
      refine ⟨_, rfl, .inl ⟨rfl, _, SqL.of ho⟩, o, _, _, rfl, rfl, ho, ?_, ?_⟩
      · rw [List.length_map]
        exact small (by omega)
      · rw [List.map_append] at k
        exact k
    · refine ⟨_, rfl, td, _, 0, _, rfl, rfl, SqT.of hd, i0, rfl, _, rfl, ?_⟩
      have ew : decide (V.str (word d.1) = V.str "ask") = false := by
        rw [e1]
        exact decide_eq_false (by decide +kernel)
      rw [ew]
      refine iteF ?_
      refine ⟨_, rfl, td, _, 0, _, rfl, rfl, SqT.of hd, i0, rfl, _, rfl, ?_⟩
      have ew2 : decide (V.str (word d.1) = V.str "back") = true := by
        rw [e1]
        exact decide_eq_true rfl
      rw [ew2]
      refine iteF ?_
      obtain ⟨hlt, hget⟩ := List.getElem?_eq_some_iff.mp hn
      refine ⟨_, rfl, td, _, 1, _, rfl, rfl, SqT.of hd, i1, _, _, rfl, rfl, _, rfl, ?_⟩
      rw [e2, decide_eq_true (show (0 : Int) ≤ (n : Int) from Int.natCast_nonneg n)]
      refine iteT ⟨_, rfl, o, _, rfl, .inl (SqL.of ho), _, _, rfl, rfl, _, rfl, ?_⟩
      rw [decide_eq_true (show (n : Int) < (((bs.map V.bl).length : Nat) : Int) by rw [List.length_map]; omega)]
      refine iteF ?_
      have i2 : atI (bs.map V.bl) (n : Int) = some (V.bl true) := atI_nat (by rw [List.getElem?_map, hn]; rfl)
      refine ⟨_, rfl, _, rfl, td, _, 1, _, rfl, rfl, SqT.of hd, i1, o, _, (n : Int), _, rfl, by rw [e2], SqL.of ho, i2, true, rfl, ?_⟩
      refine iteF ?_
      refine ⟨_, rfl, _, rfl, td, _, 1, _, rfl, rfl, SqT.of hd, i1, o, _, (n : Int), n, rfl, by rw [e2], ho, ?_, ?_⟩
      · unfold ixN
        rw [List.length_map, if_pos (Int.natCast_nonneg n), if_pos (by omega)]
        simp
      · rw [List.map_set] at k
        exact k
end Lb
/-! rows.py: is_row, asks_of, out_at, height. -/
namespace Lb
open PySem PySem.Spec PyProof.Rows L2
variable {P : Program} {w : World} {K : PySem.W.Frag} {mg : Str → Option Value} {base : Heap}
/-! ### is_row -/
theorem scIsRow : FnScope ["chain", "thing", "out", "own"] ["chain", "thing"] (gdef "is_row" 18).scope := ⟨rfl, rfl, rfl, by decide +kernel, rfl, by decide +kernel, by decide +kernel⟩
/-- a row's bits: what is out ahead of each deed -/
def Bits (ch : List Int) (ds : List Deed) (f : Nat → List Bool) : Prop := f 0 = [] ∧ ∀ i d, ds[i]? = some d → deedTo ch (f i) d (f (i + 1))
theorem Bits.len {ch : List Int} {ds : List Deed} {f : Nat → List Bool} (b : Bits ch ds f) : ∀ i, i ≤ ds.length → (f i).length ≤ i
  | 0, _ => by rw [b.1]; exact Nat.le_refl _
  | i + 1, h => by
    have ih := b.len i (by omega)
    rcases b.2 i _ (List.getElem?_eq_getElem (show i < ds.length by omega)) with ⟨_, _, e⟩ | ⟨_, k, _, _, e⟩
    · rw [e, List.length_append, List.length_singleton]
      omega
    · rw [e, List.length_set]
      omega
def spIsRow : Sp := fun vs H Q _ => ∃ (c r : V) (ch : List Int) (ds : List Deed) (f : Nat → List Bool), vs = [c, r] ∧ IsCn H c ch ∧ IsRow H r ds ∧ ds.length ≤ 1000 ∧ Bits ch ds f ∧ ∀ H', Same H H' → Q (.bl true) H'
theorem ok_isrow (T : TX K mg) : Cal P w K mg base "is_row" 3 ["chain", "thing"] spIsRow := by
  refine T.ok (d := gdef "is_row" 18) 3 rfl (j := 29) rfl rfl rfl rfl scIsRow (fun vs H Q E h => ?_) (fun _ _ _ _ _ _ us hl => match us, hl with | [_, _], _ => rfl) fun f cdv A outer s H vs Q E hr h => ?_
  · obtain ⟨c, r, ch, ds, f, rfl, _⟩ := h
    rfl
  · obtain ⟨c, r, ch, ds, f, rfl, hc, ⟨tr, us, rfl, hr0, hp⟩, hlen, hb, k⟩ := h
    have hi : mg "isinstance" = none := T.free 1
    have htup : mg "tuple" = none := T.free 5
    have hall : mg "all" = none := T.free 7
    have CD : Cal P w K mg base "is_deed" 2 ["chain", "out", "thing"] spDeed := ok_deed T
    have hul : us.length = ds.length := paired_len hp
    refine ⟨_, pss_cons (ps_set (i := 2) scIsRow.nd rfl (.inr rfl) (pe_lst pa_nil))
      (pss_one (ps_ret (pe_and (pe_callB call_isi (by rfl) hi (by decide +kernel) (pa_cons (pv 1) (pa_cons (pe_bltn (v := .ty "tuple") (by rfl) htup (by decide +kernel) rfl) pa_nil)))
        (pe_one (pe_callB (cr_all rfl) (by rfl) hall (by decide +kernel) (pa_cons (pe_lc (own := [("own", 3)]) (g := gName 3) (tt := tYes) rfl scIsRow.nd (pi_tup (pv 1)) (blkOk_by (N := ["chain", "thing", "out", "own"]) (sc := (gdef "is_row" 18).scope) (by decide +kernel))
          (fun _ _ _ _ _ => pg_name (i := 3) scIsRow.nd rfl (Or.inl rfl)) (fun _ _ _ _ _ => pts_nil) (fun _ _ _ _ _ => pe_cal CD hr (by rfl) (pa_cons (pv 0) (pa_cons (pv 2) (pa_cons (pv 3) pa_nil))))) pa_nil)))))), ?_⟩
    refine ⟨Nat.zero_le _, fun o no => ?_⟩
    have s1 : Same H (upd H o (.lst [])) := Same.new no
    refine ⟨_, rfl, .ref tr, .ty "tuple", .type "tuple", .type "tuple", true, rfl, .ty _, ty_tup (s1 _ _ hr0), kit_ty (by decide +kernel), true, rfl, iteT ?_⟩
    refine ⟨_, rfl, tr, rfl, ⟨_, SqT.of (s1 _ _ hr0)⟩, fun D nD => ?_⟩
    have nDo : D ≠ o := fun z => by
      rw [z, upd_same] at nD
      cases nD
    have nD0 : H D = none := s1.free nD
    refine lc_tup (K := K) (a := tr) (xs := us) (fun i H' => Same H H' ∧ H' o = some (.lst ((f i).map V.bl)) ∧ H' D = some (.lst (List.replicate i (V.bl true)))) ?_ ?_ ?_ ?_
    · refine ⟨s1.put nD0, ?_, ?_⟩
      · rw [upd_ne nDo.symm, upd_same, hb.1]
        rfl
      · rw [upd_same]
        rfl
    · rintro i H' _ ⟨sm, _⟩
      exact SqT.of (sm _ _ hr0)
    · rintro i x H' hx ⟨sm, eo, eD⟩
      obtain ⟨d, hd, ⟨td, rfl, htd⟩⟩ := paired_get hp hx
      obtain ⟨hil, _⟩ := List.getElem?_eq_some_iff.mp hd
      refine ⟨rfl, ?_⟩
      refine ⟨_, rfl, _, rfl, _, rfl, c, .ref td, o, ch, f i, f (i + 1), d, rfl, IsCn.same sm hc, eo, ⟨td, rfl, sm _ _ htd⟩, Nat.le_trans (hb.len i (by omega)) (by omega), hb.2 i d hd, ?_⟩
      refine ⟨_, (by rw [upd_ne nDo]; exact eD), ?_, ?_, ?_, ?_⟩
      · rw [List.length_replicate]
        exact small (by omega)
      · exact (sm.put no).put nD0
      · rw [upd_ne nDo.symm, upd_same]
      · rw [upd_same, List.replicate_succ']
    · rintro H' ⟨sm, eo, eD⟩
      refine ⟨D, List.replicate us.length true, rfl, ?_, ?_⟩
      · rw [List.map_replicate]
        exact SqL.of eD
      · have e : (List.replicate us.length true).all id = true := by
          rw [List.all_eq_true]
          intro b hb
          exact (List.mem_replicate.mp hb).2
        rw [e]
        exact k H' sm
/-! ### asks_of -/
theorem scAsks : FnScope ["row", "number", "word"] ["row"] (gdef "asks_of" 19).scope := ⟨rfl, rfl, rfl, by decide +kernel, rfl, by decide +kernel, by decide +kernel⟩
def spAsks : Sp := fun vs H Q _ => ∃ (r : V) (ds : List Deed), vs = [r] ∧ IsRow H r ds ∧ ds.length ≤ 1000 ∧ ∀ v H', Same H H' → IsCh H' v (asksOf ds) → Q v H'
theorem asksOf_take {ds : List Deed} {i : Nat} {d : Deed} (h : ds[i]? = some d) : asksOf (ds.take (i + 1)) = asksOf (ds.take i) ++ (if d.1 = true then [d.2] else []) := by
  rw [List.take_add_one, h]
  unfold asksOf
  rw [List.filterMap_append]
  congr 1
  show List.filterMap _ [d] = _
  rw [List.filterMap_cons]
  split <;> simp_all
theorem asksOf_le (ds : List Deed) : (asksOf ds).length ≤ ds.length := List.length_filterMap_le _ _
theorem ok_asks (T : TX K mg) : Cal P w K mg base "asks_of" 1 ["row"] spAsks := by
  refine T.ok (d := gdef "asks_of" 19) 4 rfl (j := 30) rfl rfl rfl rfl scAsks (fun vs H Q E h => ?_) (fun _ _ _ _ _ _ us hl => match us, hl with | [_], _ => rfl) fun f cdv A outer s H vs Q E hr h => ?_
  · obtain ⟨r, ds, rfl, _⟩ := h
    rfl
  · obtain ⟨r, ds, rfl, ⟨tr, us, rfl, hr0, hp⟩, hlen, k⟩ := h
    have htup : mg "tuple" = none := T.free 5
    obtain ⟨tk1, hASK⟩ := T.str 16 (x := "ASK") (z := "ask")
    have hul : us.length = ds.length := paired_len hp
    refine ⟨_, pss_one (ps_ret (pe_callTy call_tuple_of (by rfl) htup (by decide +kernel) (pa_cons (pe_lc (own := [("number", 1), ("word", 2)]) (g := gTup K 2 (gCons (gName 2) (gCons (gName 1) gNil))) rfl scAsks.nd (pi_tup (pv 0)) (blkOk_by (N := ["row", "number", "word"]) (sc := (gdef "asks_of" 19).scope) (by decide +kernel))
          (fun _ _ _ _ _ => pg_tup rfl (pgs_cons (pg_name (i := 2) scAsks.nd rfl (Or.inl rfl)) (pgs_cons (pg_name (i := 1) scAsks.nd rfl (Or.inl rfl)) pgs_nil)))
          (fun _ _ _ _ _ => pts_one (pt_cmpR op_eq (pv 2) (pe_glob (v := .str "ask") (by rfl) hASK ⟨_, rfl⟩) (nomark _))) (fun _ _ _ _ _ => pv 1)) pa_nil))), ?_⟩
    refine ⟨_, rfl, tr, rfl, ⟨_, SqT.of hr0⟩, fun D nD => ?_⟩
    refine lc_tup (K := K) (a := tr) (xs := us) (fun i H' => Same H H' ∧ H' D = some (.lst ((asksOf (ds.take i)).map V.int))) ⟨Same.new nD, by rw [upd_same]; rfl⟩ ?_ ?_ ?_
    · rintro i H' _ ⟨sm, _⟩
      exact SqT.of (sm _ _ hr0)
    · rintro i x H' hx ⟨sm, eD⟩
      obtain ⟨d, hd, ⟨td, rfl, htd⟩⟩ := paired_get hp hx
      have et := asksOf_take hd
      have hle : (asksOf (ds.take i)).length ≤ 1000 := Nat.le_trans (asksOf_le _) (by rw [List.length_take]; omega)
      refine ⟨td, _, rfl, SqT.of (sm _ _ htd), rfl, _, _, rfl, _, _, rfl, rfl, rfl, ?_⟩
      refine ⟨_, rfl, rfl, _, rfl, ite2 (fun hc => ?_) (fun hc => ?_)⟩
      · have e1 : d.1 = true := by
          have h1 := V.str.inj (of_decide_eq_true hc)
          cases q : d.1 with
          | true => rfl
          | false =>
            rw [q] at h1
            exact absurd h1 (by decide +kernel)
        rw [if_pos e1] at et
        refine ⟨_, rfl, _, eD, ?_, sm.put nD, ?_⟩
        · rw [List.length_map]
          exact small (by omega)
        · rw [upd_same, et, List.map_append]
          rfl
      · have e1 : ¬ d.1 = true := fun q => hc (decide_eq_true (by rw [q]; rfl))
        rw [if_neg e1, List.append_nil] at et
        rw [← et] at eD
        exact ⟨sm, eD⟩
    · rintro H' ⟨sm, eD⟩
      rw [hul, List.take_length] at eD
      exact ⟨D, _, rfl, .inl ⟨SqL.of eD, fun l nl => k _ _ (sm.trans (Same.new nl)) ⟨l, rfl, upd_same⟩⟩⟩
/-! ### out_at -/
theorem scOut : FnScope ["row", "sizes", "found", "here", "word", "number"] ["row"] (gdef "out_at" 20).scope := ⟨rfl, rfl, rfl, by decide +kernel, rfl, by decide +kernel, by decide +kernel⟩
/-- a row that may be played -/
structure RowOk (cl : List (Int × Int)) (B : Int) (ds : List Deed) : Prop where
  fine : Fine cl B
  nn : 0 ≤ B
  row : Row cl B ds
  len : ds.length ≤ 1000
theorem RowOk.at_ {cl : List (Int × Int)} {B : Int} {ds : List Deed} (r : RowOk cl B ds) (i : Nat) : RInv cl B (ds.take i) (runF (ds.take i)) := Row.inv r.fine r.nn (r.row.take i)
theorem RowOk.all {cl : List (Int × Int)} {B : Int} {ds : List Deed} (r : RowOk cl B ds) : RInv cl B ds (runF ds) := Row.inv r.fine r.nn r.row
/-- the sizes of the whole row at a number that is out -/
theorem sizes_at {cl : List (Int × Int)} {B : Int} {ds : List Deed} (r : RowOk cl B ds) {i k : Nat} (hk : k ∈ (runF (ds.take i)).outs) : (asksOf ds)[k]? = some ((runF (ds.take i)).sizes.getD k 0) := by
  have hlt := (r.at_ i).lt k hk
  obtain ⟨m, hm⟩ := sizes_take ds i
  rw [asksOf_eq, hm, List.getElem?_append_left hlt, List.getElem?_eq_getElem hlt, List.getD_eq_getElem?_getD, List.getElem?_eq_getElem hlt]
  rfl
def spOut : Sp := fun vs H Q _ => ∃ (r : V) (ds : List Deed) (cl : List (Int × Int)) (B : Int), vs = [r] ∧ IsRow H r ds ∧ RowOk cl B ds ∧ ∀ v H', Same H H' → IsCh H' v ((runF ds).stands.map live) → Q v H'
theorem ok_out (T : TX K mg) : Cal P w K mg base "out_at" 2 ["row"] spOut := by
  refine T.ok (d := gdef "out_at" 20) 5 rfl (j := 31) rfl rfl rfl rfl scOut (fun vs H Q E h => ?_) (fun _ _ _ _ _ _ us hl => match us, hl with | [_], _ => rfl) fun f cdv A outer s H vs Q E hr h => ?_
  · obtain ⟨r, ds, cl, B, rfl, _⟩ := h
    rfl
  · obtain ⟨r, ds, cl, B, rfl, ⟨tr, us, rfl, hr0, hp⟩, ok, k⟩ := h
    have htup : mg "tuple" = none := T.free 5
    obtain ⟨tk1, hASK⟩ := T.str 16 (x := "ASK") (z := "ask")
    have CA : Cal P w K mg base "asks_of" 1 ["row"] spAsks := ok_asks T
    have hul : us.length = ds.length := paired_len hp
    refine ⟨_, pss_cons (ps_par3 (i := 1) (j := 2) (l := 3) rfl scOut.nd rfl rfl rfl (by decide) (by decide) (by decide) rfl rfl rfl (pa_cons (pe_cal CA hr (by rfl) (pa_cons (pv 0) pa_nil)) (pa_cons (pe_lst pa_nil) (pa_cons pe_int pa_nil))) (by rfl))
      (pss_cons (ps_for PassesOwn.never rfl (pi_tup (pv 0)) (pg_tup rfl (pgs_cons (pg_name (i := 4) scOut.nd rfl (.inl rfl)) (pgs_cons (pg_name (i := 5) scOut.nd rfl (.inl rfl)) pgs_nil)))
        (pss_cons (ps_set (i := 3) scOut.nd rfl (.inl rfl) (pe_ifExp (pt_cmpR op_eq (pv 4) (pe_glob (v := .str "ask") (by rfl) hASK ⟨_, rfl⟩) (nomark _)) (pe_op op_add (pv 3) (pv 5)) (pe_op op_sub (pv 3) (pe_ix ix_tup (pv 1) (pv 5) (fun _ _ => rfl)))))
        (pss_one (ps_expr (pe_bm PySem.F.plainAttrs_list PySem.F.slot_list_append PySem.F.type_list_append mt_append (pv 2) (pa_cons (pv 3) pa_nil))))))
      (pss_one (ps_ret (pe_callTy call_tuple_of (by rfl) htup (by decide +kernel) (pa_cons (pv 2) pa_nil))))), ?_⟩
    refine ⟨_, rfl, .ref tr, ds, rfl, ⟨tr, us, rfl, hr0, hp⟩, ok.len, fun vz H1 s1 hz => ⟨Nat.zero_le _, fun o no => ?_⟩⟩
    obtain ⟨tz, rfl, hz⟩ := hz
    have no0 : H o = none := s1.free no
    have s2 : Same H (upd H1 o (.lst [])) := s1.put no0
    have ntz : tz ≠ o := ne_of_none hz no
    refine ⟨_, _, _, rfl, ?_⟩
    refine ⟨_, rfl, tr, rfl, ⟨_, SqT.of (s2 _ _ hr0)⟩, for_tup (K := K) (a := tr) (xs := us) (fun i σ H' => ∃ (y1 y2 : Option V), σ = [some (.ref tr), some (.ref tz), some (.ref o), some (.int (live (runF (ds.take i)).here)), y1, y2] ∧
      Same H H' ∧ H' tz = some (.tup ((asksOf ds).map V.int)) ∧ H' o = some (.lst ((((runF ds).stands.take i).map live).map V.int))) ⟨none, none, rfl, s2, by rw [upd_ne ntz]; exact hz, by rw [upd_same]; rfl⟩ ?_ ?_ ?_⟩
    · rintro i σ H' _ ⟨_, _, rfl, sm, _⟩
      exact SqT.of (sm _ _ hr0)
    · rintro i x σ H' hx ⟨y1, y2, rfl, sm, ez, eo⟩
      obtain ⟨d, hd, ⟨td, rfl, htd⟩⟩ := paired_get hp hx
      obtain ⟨hil, _⟩ := List.getElem?_eq_some_iff.mp hd
      have hst := stands_get ds hil
      have R := ok.at_ i
      have fin : ∀ z : Int, z = live (runF (ds.take (i + 1))).here → ∃ (y1 y2 : Option V), ([some (.ref tr), some (.ref tz), some (.ref o), some (.int z), some (.str (word d.1)), some (.int d.2)] : L2.St) = [some (.ref tr), some (.ref tz), some (.ref o), some (.int (live (runF (ds.take (i + 1))).here)), y1, y2] ∧
          Same H (upd H' o (.lst ((((runF ds).stands.take i).map live).map V.int ++ [.int z]))) ∧ (upd H' o (.lst ((((runF ds).stands.take i).map live).map V.int ++ [.int z]))) tz = some (.tup ((asksOf ds).map V.int)) ∧
          (upd H' o (.lst ((((runF ds).stands.take i).map live).map V.int ++ [.int z]))) o = some (.lst ((((runF ds).stands.take (i + 1)).map live).map V.int)) := by
        rintro z rfl
        refine ⟨_, _, rfl, sm.put no0, by rw [upd_ne ntz]; exact ez, ?_⟩
        rw [upd_same, show (runF ds).stands.take (i + 1) = (runF ds).stands.take i ++ [(runF (ds.take (i + 1))).here] by rw [List.take_add_one (l := (runF ds).stands), hst]; rfl, List.map_append, List.map_append]
        rfl
      have hlen : (((((runF ds).stands.take i).map live).map V.int)).length < sizeLine := by
        rw [List.length_map, List.length_map, List.length_take]
        have := ok.len
        exact small (by omega)
      refine ⟨td, _, rfl, SqT.of (sm _ _ htd), rfl, _, _, rfl, _, _, rfl, rfl, ?_⟩
      refine ⟨_, rfl, rfl, _, rfl, ?_⟩
      rcases ok.row.deed hd with ⟨n, l, rfl, hm, hl, e⟩ | ⟨n, rfl, hn, e⟩
      · have ew : decide (V.str (word true) = V.str "ask") = true := decide_eq_true rfl
        rw [ew]
        refine iteT ⟨_, rfl, _, rfl, _, _, rfl, rfl, ?_⟩
        refine ⟨_, rfl, .inl ⟨rfl, _, SqL.of eo⟩, _, rfl, o, _, _, rfl, rfl, eo, hlen, ?_⟩
        refine fin _ ?_
        rw [e]
        show _ = live (insB (ff (runF (ds.take i)).here n, n) (runF (ds.take i)).here)
        rw [live_ins]
      · have ew : decide (V.str (word false) = V.str "ask") = false := decide_eq_false (by decide +kernel)
        rw [ew]
        have hz2 := sizes_at ok hn
        refine iteF ⟨_, rfl, _, rfl, _, rfl, tz, _, (n : Int), .int ((runF (ds.take i)).sizes.getD n 0), rfl, rfl, SqT.of ez, atI_nat (by rw [List.getElem?_map, hz2]; rfl), _, _, rfl, rfl, ?_⟩
        refine ⟨_, rfl, .inl ⟨rfl, _, SqL.of eo⟩, _, rfl, o, _, _, rfl, rfl, eo, hlen, ?_⟩
        refine fin _ ?_
        rw [e]
        exact (live_out (b := blkOf (runF (ds.take i)) n) R.good.sep R.good.pos (R.mem hn)).symm
    · rintro σ H' ⟨y1, y2, rfl, sm, ez, eo⟩
      rw [hul, List.take_of_length_le (by rw [stands_len]; exact Nat.le_refl _)] at eo
      exact ⟨_, rfl, o, _, rfl, .inl ⟨SqL.of eo, fun l nl => k _ _ (sm.trans (Same.new nl)) ⟨l, rfl, upd_same⟩⟩⟩
/-! ### height -/
theorem scHeight : FnScope ["row"] ["row"] (gdef "height" 21).scope := ⟨rfl, rfl, rfl, by decide +kernel, rfl, by decide +kernel, by decide +kernel⟩
def maxL (l : List Int) : Int := l.foldr max 0
theorem maxL_spec : ∀ l : List Int, 0 ≤ maxL l ∧ (∀ y ∈ l, y ≤ maxL l) ∧ (maxL l = 0 ∨ maxL l ∈ l)
  | [] => ⟨Int.le_refl _, fun _ h => (nomatch h), .inl rfl⟩
  | x :: r => by
    obtain ⟨h1, h2, h3⟩ := maxL_spec r
    have e : maxL (x :: r) = max x (maxL r) := rfl
    rw [e]
    refine ⟨by omega, fun y hy => ?_, ?_⟩
    · rcases List.mem_cons.mp hy with rfl | hy
      · omega
      · have := h2 y hy
        omega
    · by_cases hx : maxL r ≤ x
      · right
        rw [show max x (maxL r) = x by omega]
        exact List.mem_cons_self
      · rw [show max x (maxL r) = maxL r by omega]
        rcases h3 with h3 | h3
        · exact .inl h3
        · exact .inr (List.mem_cons_of_mem _ h3)
theorem maxL_uniq {l : List Int} {m : Int} (h1 : m ∈ (0 : Int) :: l) (h2 : ∀ y, y ∈ (0 : Int) :: l → y ≤ m) : m = maxL l := by
  obtain ⟨a, b, c⟩ := maxL_spec l
  have h0 := h2 0 List.mem_cons_self
  have : maxL l ≤ m := by
    rcases c with c | c
    · omega
    · exact h2 _ (List.mem_cons_of_mem _ c)
  rcases List.mem_cons.mp h1 with e | e
  · omega
  · have := b m e
    omega
def hgt (ds : List Deed) : Int := maxL ((runF ds).stands.map live)
def spHeight : Sp := fun vs H Q _ => ∃ (r : V) (ds : List Deed) (cl : List (Int × Int)) (B : Int), vs = [r] ∧ IsRow H r ds ∧ RowOk cl B ds ∧ ∀ H', Same H H' → Q (.int (hgt ds)) H'
theorem ok_height (T : TX K mg) : Cal P w K mg base "height" 3 ["row"] spHeight := by
  refine T.ok (d := gdef "height" 21) 6 rfl (j := 32) rfl rfl rfl rfl scHeight (fun vs H Q E h => ?_) (fun _ _ _ _ _ _ us hl => match us, hl with | [_], _ => rfl) fun f cdv A outer s H vs Q E hr h => ?_
  · obtain ⟨r, ds, cl, B, rfl, _⟩ := h
    rfl
  · obtain ⟨r, ds, cl, B, rfl, hrow, ok, k⟩ := h
    have hmax : mg "max" = none := T.free 8
    have CO : Cal P w K mg base "out_at" 2 ["row"] spOut := ok_out T
    refine ⟨_, pss_one (ps_ret (pe_callB (cr_max rfl) (by rfl) hmax (by decide +kernel) (pa_cons (pe_lst (pa_cons pe_int (StX.pa_star (pe_cal CO hr (by rfl) (pa_cons (pv 0) pa_nil)) pa_nil))) pa_nil))), ?_⟩
    refine ⟨_, rfl, r, ds, cl, B, rfl, hrow, ok, fun v H1 s1 hv => ?_⟩
    obtain ⟨tv, rfl, hv⟩ := hv
    refine ⟨tv, _, rfl, .inl (SqT.of hv), ?_, fun l nl => ?_⟩
    · have := ok.len
      have := stands_len ds
      simp
      rw [this]
      exact Nat.le_of_lt (small (by omega))
    · refine ⟨l, 0 :: (runF ds).stands.map live, rfl, ?_, Nat.succ_pos _, fun m hm hle => ?_⟩
      · rw [List.append_nil]
        exact SqL.of upd_same
      · rw [maxL_uniq hm hle]
        exact k _ (s1.trans (Same.new nl))
end Lb
/-! Data in the heap: equality of it, sorting of pairs. -/
namespace Lb
open PySem PySem.Spec PyProof.Rows L2
/-! ### pairs, stands, lists of stands as data -/
def dP (b : Blk) : PyData := .tuple [.int b.1, .int b.2]
def dSt (bs : List Blk) : PyData := .tuple (bs.map dP)
def dSts (ss : List (List Blk)) : PyData := .list (ss.map dSt)
def dInts (ns : List Int) : PyData := .tuple (ns.map .int)
theorem canAll_map {α : Type} {f : α → PyData} (h : ∀ x, (f x).canLay0 = true) : ∀ l : List α, PyData.canLayAll0 (l.map f) = true
  | [] => rfl
  | x :: r => by
    rw [List.map_cons]
    unfold PyData.canLayAll0
    rw [h x, canAll_map h r]
    rfl
theorem depth_map {α : Type} {f : α → PyData} {n : Nat} (h : ∀ x, (f x).depth ≤ n) : ∀ l : List α, PyData.depthAll (l.map f) ≤ n
  | [] => Nat.zero_le _
  | x :: r => by
    rw [List.map_cons]
    unfold PyData.depthAll
    exact Nat.max_le.mpr ⟨h x, depth_map h r⟩
theorem can_dP (b : Blk) : (dP b).canLay0 = true := rfl
theorem dep_dP (b : Blk) : (dP b).depth ≤ 1 := Nat.le_of_eq rfl
theorem can_dSt (bs : List Blk) : (dSt bs).canLay0 = true := by
  unfold dSt PyData.canLay0
  exact canAll_map can_dP bs
theorem dep_dSt (bs : List Blk) : (dSt bs).depth ≤ 2 := by
  unfold dSt PyData.depth
  exact Nat.succ_le_succ (depth_map dep_dP bs)
theorem can_dSts (ss : List (List Blk)) : (dSts ss).canLay0 = true := by
  unfold dSts PyData.canLay0
  exact canAll_map can_dSt ss
theorem dep_dSts (ss : List (List Blk)) : (dSts ss).depth ≤ 3 := by
  unfold dSts PyData.depth
  exact Nat.succ_le_succ (depth_map dep_dSt ss)
theorem can_dInts (ns : List Int) : (dInts ns).canLay0 = true := by
  unfold dInts PyData.canLay0
  exact canAll_map (fun _ => rfl) ns
theorem dep_dInts (ns : List Int) : (dInts ns).depth ≤ 1 := by
  unfold dInts PyData.depth
  exact Nat.succ_le_succ (depth_map (f := PyData.int) (fun _ => Nat.le_of_eq rfl) ns)
theorem shape_of {d : PyData} {n : Nat} (h1 : d.canLay0 = true) (h2 : d.depth ≤ n) (h3 : n ≤ 64) : SeqAt.shaped d = true := by
  unfold SeqAt.shaped
  rw [h1, decide_eq_true (Nat.le_trans h2 h3)]
  rfl
theorem sh_dP (b : Blk) : SeqAt.shaped (dP b) = true := shape_of (can_dP b) (dep_dP b) (by decide)
theorem sh_dSt (bs : List Blk) : SeqAt.shaped (dSt bs) = true := shape_of (can_dSt bs) (dep_dSt bs) (by decide)
theorem sh_dSts (ss : List (List Blk)) : SeqAt.shaped (dSts ss) = true := shape_of (can_dSts ss) (dep_dSts ss) (by decide)
theorem sh_dInts (ns : List Int) : SeqAt.shaped (dInts ns) = true := shape_of (can_dInts ns) (dep_dInts ns) (by decide)
theorem eqv_same {d : PyData} (h : d.canLay0 = true) : PyData.eqv d d = true := SeqAt.eqv_refl d h
theorem eqv_dP (a b : Blk) : PyData.eqv (dP a) (dP b) = decide (a = b) := by
  unfold dP
  simp only [PyData.eqv, PyData.eqvAll, Bool.and_true]
  by_cases e : a = b
  · subst e
    simp
  · rw [decide_eq_false e]
    by_cases e1 : a.1 = b.1
    · by_cases e2 : a.2 = b.2
      · exact absurd (Prod.ext e1 e2) e
      · simp [e2]
    · simp [e1]
theorem dp_pair {K : PySem.W.Frag} {H : Hp} {v : V} {b : Blk} (h : IsP H v b) : Dp K H v (dP b) := by
  obtain ⟨t, rfl, ht⟩ := h
  exact .tup (SqT.of ht) (.cons (.int _) (.cons (.int _) .nil))
theorem dp_all {K : PySem.W.Frag} {H : Hp} {α : Type} {F : V → α → Prop} {g : α → PyData} (h : ∀ v a, F v a → Dp K H v (g a)) : ∀ {vs : List V} {as : List α}, Paired F vs as → DpAll K H vs (as.map g)
  | _, _, .nil => .nil
  | _, _, .cons r t => .cons (h _ _ r) (dp_all h t)
theorem dp_st {K : PySem.W.Frag} {H : Hp} {v : V} {bs : List Blk} (h : IsSt H v bs) : Dp K H v (dSt bs) := by
  obtain ⟨t, vs, rfl, ht, hp⟩ := h
  exact .tup (SqT.of ht) (dp_all (fun _ _ q => dp_pair q) hp)
theorem dp_sts {K : PySem.W.Frag} {H : Hp} {a : Addr} {vs : List V} {ss : List (List Blk)} (h : H a = some (.lst vs)) (hp : Paired (IsSt H) vs ss) : Dp K H (.ref a) (dSts ss) :=
  .lst (SqL.of h) (dp_all (fun _ _ q => dp_st q) hp)
theorem dpall_ints {K : PySem.W.Frag} {H : Hp} : ∀ ns : List Int, DpAll K H (ns.map V.int) (ns.map .int)
  | [] => .nil
  | n :: r => .cons (.int n) (dpall_ints r)
theorem dp_ints {K : PySem.W.Frag} {H : Hp} {v : V} {ns : List Int} (h : IsCh H v ns) : Dp K H v (dInts ns) := by
  obtain ⟨t, rfl, ht⟩ := h
  exact .tup (SqT.of ht) (dpall_ints ns)
/-! ### sorted -/
/-- the pair at a value -/
def kOf (H : Hp) : V → Int × Int
  | .ref t => (match H t with
    | some (.tup [.int a, .int b]) => (a, b)
    | _ => (0, 0))
  | _ => (0, 0)
theorem kOf_eq {H : Hp} {v : V} {b : Blk} (h : IsP H v b) : kOf H v = b := by
  obtain ⟨t, rfl, ht⟩ := h
  show (match H t with
    | some (.tup [.int a, .int b]) => (a, b)
    | _ => (0, 0)) = b
  rw [ht]
theorem ps_map {H : Hp} : ∀ {vs : List V} {bs : List Blk}, Ps H vs bs → vs.map (kOf H) = bs
  | _, _, .nil => rfl
  | _, _, .cons r t => by rw [List.map_cons, kOf_eq r, ps_map t]
theorem ps_mem {H : Hp} : ∀ {vs : List V} {bs : List Blk}, Ps H vs bs → ∀ x ∈ vs, IsP H x (kOf H x)
  | _, _, .nil, x, h => (nomatch h)
  | _, _, .cons r t, x, h => by
    rcases List.mem_cons.mp h with rfl | h
    · rw [kOf_eq r]
      exact r
    · exact ps_mem t x h
theorem ps_of {H : Hp} : ∀ {vs : List V}, (∀ x ∈ vs, IsP H x (kOf H x)) → Ps H vs (vs.map (kOf H))
  | [], _ => .nil
  | x :: r, h => .cons (h x List.mem_cons_self) (ps_of fun y hy => h y (List.mem_cons_of_mem _ hy))
theorem sep_lex {st : List Blk} (h : Sep st) (hp : ∀ c ∈ st, 0 < c.2) : st.Pairwise fun a b => SrtO.lexB b a = false := by
  induction st with
  | nil => exact List.Pairwise.nil
  | cons c r ih =>
    obtain ⟨h1, h2⟩ := List.pairwise_cons.mp h
    have hc := hp c List.mem_cons_self
    refine List.pairwise_cons.mpr ⟨fun d hd => ?_, ih h2 fun d q => hp d (List.mem_cons_of_mem _ q)⟩
    have := h1 d hd
    refine SrtO.lexB_no.mpr ?_
    omega
theorem sorted_ins {H : Hp} {us ys : List V} {bs : List Blk} {x : V} {b : Blk} (hp : Ps H us bs) (hx : IsP H x b) (hS : Sep bs) (hpos : ∀ c ∈ bs, 0 < c.2) (hb : 0 < b.2) (hd : ∀ c ∈ bs, c.1 + c.2 ≤ b.1 ∨ b.1 + b.2 ≤ c.1)
    (h1 : SrtO.Srtd (ltP (kOf H)) ys) (h2 : ys.Perm (us ++ [x])) : Ps H ys (insB b bs) := by
  have hp2 : Ps H (us ++ [x]) (bs ++ [b]) := paired_snoc hp hx
  have e1 : (ys.map (kOf H)).Perm (insB b bs) := by
    have e := h2.map (kOf H)
    rw [ps_map hp2] at e
    exact e.trans ((List.perm_append_comm (l₁ := bs) (l₂ := [b])).trans (insB_perm b bs).symm)
  have hS2 := ins_sep hb hS hpos hd
  have hpos2 : ∀ c ∈ insB b bs, 0 < c.2 := fun c hc => by
    rcases mem_ins.mp hc with rfl | hc
    · exact hb
    · exact hpos c hc
  have e2 : ys.map (kOf H) = insB b bs := by
    refine List.Perm.eq_of_pairwise (le := fun a b => SrtO.lexB b a = false) (fun a c _ _ q1 q2 => ?_) (List.pairwise_map.mpr h1) (sep_lex hS2 hpos2) e1
    have z1 := SrtO.lexB_no.mp q1
    have z2 := SrtO.lexB_no.mp q2
    exact Prod.ext (by omega) (by omega)
  have e3 := ps_of (H := H) (vs := ys) fun y hy => ps_mem hp2 y (h2.mem_iff.mp hy)
  rw [e2] at e3
  exact e3
end Lb
/-! first.py: played. -/
namespace Lb
open PySem PySem.Spec PyProof.Rows L2
variable {P : Program} {w : World} {K : PySem.W.Frag} {mg : Str → Option Value} {base : Heap}
theorem scPlayed : FnScope ["row", "places", "stands", "here", "sizes", "word", "number", "own"] ["row"] (gdef "played" 26).scope := ⟨rfl, rfl, rfl, by decide +kernel, rfl, by decide +kernel, by decide +kernel⟩
theorem Good.lowB {cl : List (Int × Int)} {B : Int} {st : List Blk} (F : Fine cl B) (g : Good cl st) : Low st := fun b hb => by
  obtain ⟨l, h1, h2⟩ := g.low b hb
  have h3 := (F.line _ h1).2
  have h4 := g.nn b hb
  have h5 := g.pos b hb
  have h6 : l ≤ 100000 := h3
  exact ⟨h4, Int.le_of_lt h5, by omega⟩
theorem ps_len {H : Hp} {vs : List V} {bs : List Blk} (h : Ps H vs bs) : vs.length = bs.length := paired_len h
theorem perm_len {α : Type} {a b : List α} (h : a.Perm b) : a.length = b.length := h.length_eq
/-- how many are out -/
theorem here_len {cl : List (Int × Int)} {B : Int} {ds : List Deed} (r : RowOk cl B ds) (i : Nat) : (runF (ds.take i)).here.length ≤ 1000 ∧ (runF (ds.take i)).places.length ≤ 1000 := by
  have R := r.at_ i
  have h1 : (runF (ds.take i)).sizes.length ≤ (ds.take i).length := by
    rw [← asksOf_eq]
    exact asksOf_le _
  have h2 : (ds.take i).length ≤ 1000 := by
    rw [List.length_take]
    have := r.len
    omega
  refine ⟨?_, by rw [R.len]; omega⟩
  rw [R.perm.length_eq, List.length_map]
  have h3 : (runF (ds.take i)).outs.length ≤ (List.range (runF (ds.take i)).sizes.length).length := R.nd.length_le_of_subset fun k hk => List.mem_range.mpr (R.lt k hk)
  rw [List.length_range] at h3
  omega
/-- what played hands back -/
def IsPl (H : Hp) (v : V) (q : Rs) : Prop := ∃ t tp ts us, v = .ref t ∧ H t = some (.tup [.ref tp, .ref ts]) ∧ H tp = some (.tup (q.places.map V.int)) ∧ H ts = some (.lst us) ∧ Paired (IsSt H) us q.stands
def spPlayed : Sp := fun vs H Q _ => ∃ (r : V) (ds : List Deed) (cl : List (Int × Int)) (B : Int), vs = [r] ∧ IsRow H r ds ∧ RowOk cl B ds ∧ ∀ v H', Same H H' → IsPl H' v (runF ds) → Q v H'
theorem ok_played (T : TX K mg) : Cal P w K mg base "played" 3 ["row"] spPlayed := by
  refine T.ok (d := gdef "played" 26) 10 rfl (j := 36) rfl rfl rfl rfl scPlayed (fun vs H Q E h => ?_) (fun _ _ _ _ _ _ us hl => match us, hl with | [_], _ => rfl) fun f cdv A outer s H vs Q E hr h => ?_
  · obtain ⟨r, ds, cl, B, rfl, _⟩ := h
    rfl
  · obtain ⟨r, ds, cl, B, rfl, ⟨tr, us, rfl, hr0, hp⟩, ok, k⟩ := h
    have htup : mg "tuple" = none := T.free 5
    have hsorted : mg "sorted" = none := T.free 10
    obtain ⟨tk1, hASK⟩ := T.str 16 (x := "ASK") (z := "ask")
    have CA : Cal P w K mg base "asks_of" 1 ["row"] spAsks := ok_asks T
    have CF : Cal P w K mg base "first_free" 2 ["stand", "size"] spFF := ok_ff T
    have hul : us.length = ds.length := paired_len hp
    refine ⟨_, pss_cons (ps_asg (pe_tup (pa_cons (pe_lst pa_nil) (pa_cons (pe_lst pa_nil) (pa_cons (pe_lst pa_nil) (pa_cons (pe_cal CA (hr.mono (by decide)) (by rfl) (pa_cons (pv 0) pa_nil)) pa_nil)))))
        (pg_tup rfl (pgs_cons (pg_name (i := 1) scPlayed.nd rfl (.inr rfl)) (pgs_cons (pg_name (i := 2) scPlayed.nd rfl (.inl rfl)) (pgs_cons (pg_name (i := 3) scPlayed.nd rfl (.inl rfl)) (pgs_cons (pg_name (i := 4) scPlayed.nd rfl (.inr rfl)) pgs_nil))))))
      (pss_cons (ps_for PassesOwn.never rfl (pi_tup (pv 0)) (pg_tup rfl (pgs_cons (pg_name (i := 5) scPlayed.nd rfl (.inl rfl)) (pgs_cons (pg_name (i := 6) scPlayed.nd rfl (.inr rfl)) pgs_nil)))
        (pss_cons (ps_if (pt_cmpR op_eq (pv 5) (pe_glob (v := .str "ask") (by rfl) hASK ⟨_, rfl⟩) (nomark _))
          (pss_cons (ps_expr (pe_bm PySem.F.plainAttrs_list PySem.F.slot_list_append PySem.F.type_list_append mt_append (pv 1) (pa_cons (pe_cal CF hr (by rfl) (pa_cons (pv 3) (pa_cons (pv 6) pa_nil))) pa_nil)))
          (pss_one (ps_set (i := 3) scPlayed.nd rfl (.inl rfl) (pe_callB cr_sortedPO (by rfl) hsorted (by decide +kernel) (pa_cons (pe_lst (StX.pa_star (pv 3) (pa_cons (pe_tup (pa_cons (pe_ix ix_list (pv 1) (pe_un un_neg pe_int) (fun _ _ => rfl)) (pa_cons (pv 6) pa_nil))) pa_nil))) pa_nil)))))
          (pss_one (ps_setLc (i := 3) (own := [("own", 7)]) (g := gName 7) rfl scPlayed.nd rfl rfl (sw_true rfl rfl rfl (by decide +kernel)) (pi_list (pv 3)) (blkOk_by (N := ["row", "places", "stands", "here", "sizes", "word", "number", "own"]) (sc := (gdef "played" 26).scope) (by decide +kernel))
            (fun _ _ _ _ _ => pg_name (i := 7) scPlayed.nd rfl (Or.inl rfl))
            (tt := tTest (tOp (rNeD K) (tVar 7) (tTup (tCons (tOp (rIxL K) (tVar 1) (tVar 6)) (tCons (tOp (rIxT K) (tVar 4) (tVar 6)) tNil)))))
            (fun _ _ _ _ _ => pts_one (pt_cmpR (op_neD hr.units) (pv 7) (pe_tup (pa_cons (pe_ix ix_list (pv 1) (pv 6) (fun _ _ => rfl)) (pa_cons (pe_ix ix_tup (pv 4) (pv 6) (fun _ _ => rfl)) pa_nil))) (nomark _))) (fun _ _ _ _ _ => pv 7))))
        (pss_one (ps_expr (pe_bm PySem.F.plainAttrs_list PySem.F.slot_list_append PySem.F.type_list_append mt_append (pv 2) (pa_cons (pe_callTy call_tuple_of (by rfl) htup (by decide +kernel) (pa_cons (pv 3) pa_nil)) pa_nil))))))
      (pss_one (ps_ret (pe_tup (pa_cons (pe_callTy call_tuple_of (by rfl) htup (by decide +kernel) (pa_cons (pv 1) pa_nil)) (pa_cons (pv 2) pa_nil)))))), ?_⟩
    -- places, stands, here, sizes
    refine ⟨Nat.zero_le _, fun pl npl => ⟨Nat.zero_le _, fun st nst => ⟨Nat.zero_le _, fun h0 nh0 => ?_⟩⟩⟩
    have s1 : Same H (upd H pl (.lst [])) := Same.new npl
    have s2 : Same (upd H pl (.lst [])) (upd (upd H pl (.lst [])) st (.lst [])) := Same.new nst
    have s3 : Same (upd (upd H pl (.lst [])) st (.lst [])) (upd (upd (upd H pl (.lst [])) st (.lst [])) h0 (.lst [])) := Same.new nh0
    have S3 := s1.trans (s2.trans s3)
    refine ⟨_, rfl, .ref tr, ds, rfl, ⟨tr, us, rfl, S3 _ _ hr0, Paired.mapP hp fun _ _ => IsD.keep (TK.of S3)⟩, ok.len, fun vz H1 s4 hz => ?_⟩
    obtain ⟨tz, rfl, hz⟩ := hz
    have npl0 : H pl = none := npl
    have nst0 : H st = none := s1.free nst
    have hpl : H1 pl = some (.lst []) := s4 _ _ (s3 _ _ (s2 _ _ upd_same))
    have hst : H1 st = some (.lst []) := s4 _ _ (s3 _ _ upd_same)
    have hh0 : H1 h0 = some (.lst []) := s4 _ _ upd_same
    have nps : pl ≠ st := fun z => by
      rw [← z, upd_same] at nst
      cases nst
    refine ⟨by show 4 ≤ sizeLine; decide, fun t0 nt0 => ?_⟩
    have s5 : Same H1 (upd H1 t0 (.tup [.ref pl, .ref st, .ref h0, .ref tz])) := Same.new nt0
    have S5 : Same H (upd H1 t0 (.tup [.ref pl, .ref st, .ref h0, .ref tz])) := S3.trans (s4.trans s5)
    refine ⟨t0, _, rfl, SqT.of upd_same, rfl, _, _, rfl, _, _, rfl, _, _, rfl, _, _, rfl, rfl, ?_⟩
    -- the loop
    refine ⟨_, rfl, tr, rfl, ⟨_, SqT.of (S5 _ _ hr0)⟩, for_tup (K := K) (a := tr) (xs := us) (fun i σ H' => ∃ (hh : Addr) (hs ss : List V) (y1 y2 y3 : Option V),
      σ = [some (.ref tr), some (.ref pl), some (.ref st), some (.ref hh), some (.ref tz), y1, y2, y3] ∧ Same H H' ∧ H' tz = some (.tup ((asksOf ds).map V.int)) ∧ H' pl = some (.lst ((runF (ds.take i)).places.map V.int)) ∧
      H' st = some (.lst ss) ∧ Paired (IsSt H') ss (runF (ds.take i)).stands ∧ H' hh = some (.lst hs) ∧ Ps H' hs (runF (ds.take i)).here ∧ hh ≠ pl ∧ hh ≠ st) ?_ ?_ ?_ ?_⟩
    · refine ⟨h0, [], [], none, none, none, rfl, S5, s5 _ _ hz, s5 _ _ hpl, s5 _ _ hst, .nil, s5 _ _ hh0, .nil, ?_, ?_⟩
      · intro z
        rw [z, s2 _ _ (show upd H pl (.lst []) pl = some (.lst []) from upd_same)] at nh0
        cases nh0
      · intro z
        rw [z, upd_same] at nh0
        cases nh0
    · rintro i σ H' _ ⟨_, _, _, _, _, _, rfl, sm, _⟩
      exact SqT.of (sm _ _ hr0)
    · rintro i x σ H' hx ⟨hh, hs, ss, y1, y2, y3, rfl, sm, ez, epl, est, pst, ehh, phs, n1, n2⟩
      obtain ⟨d, hd, ⟨td, rfl, htd⟩⟩ := paired_get hp hx
      obtain ⟨hil, _⟩ := List.getElem?_eq_some_iff.mp hd
      have R := ok.at_ i
      obtain ⟨hl1, hl2⟩ := here_len ok i
      have low := Good.lowB ok.fine R.good
      refine ⟨td, _, rfl, SqT.of (sm _ _ htd), rfl, _, _, rfl, _, _, rfl, rfl, ?_⟩
      refine ⟨_, rfl, rfl, _, rfl, ?_⟩
      -- what follows the if
      have tail : ∀ (g : Addr) (gs : List V) (H2 : Hp) (y3 : Option V), Same H H2 → H2 tz = some (.tup ((asksOf ds).map V.int)) → H2 pl = some (.lst ((runF (ds.take (i + 1))).places.map V.int)) → H2 st = some (.lst ss) → TK H' H2 →
          H2 g = some (.lst gs) → Ps H2 gs (runF (ds.take (i + 1))).here → g ≠ pl → g ≠ st → (runF (ds.take (i + 1))).stands = (runF (ds.take i)).stands ++ [(runF (ds.take (i + 1))).here] →
          tDrop (tBM K "list" rAppend (tVar 2) (tCons (tCB (fun xs H Q => ∃ p ys, xs = [.ref p] ∧ ((SqL K H p ys ∧ ∀ l, H l = none → Q (.ref l) (upd H l (.tup ys))) ∨ (SqT K H p ys ∧ Q (.ref p) H))) (tCons (tVar 3) tNil)) tNil))
            { nx := fun σ H' => ∃ (hh : Addr) (hs ss : List V) (y1 y2 y3 : Option V), σ = [some (.ref tr), some (.ref pl), some (.ref st), some (.ref hh), some (.ref tz), y1, y2, y3] ∧ Same H H' ∧ H' tz = some (.tup ((asksOf ds).map V.int)) ∧ H' pl = some (.lst ((runF (ds.take (i + 1))).places.map V.int)) ∧
                H' st = some (.lst ss) ∧ Paired (IsSt H') ss (runF (ds.take (i + 1))).stands ∧ H' hh = some (.lst hs) ∧ Ps H' hs (runF (ds.take (i + 1))).here ∧ hh ≠ pl ∧ hh ≠ st,
              rt := Q } [some (.ref tr), some (.ref pl), some (.ref st), some (.ref g), some (.ref tz), some (.str (word d.1)), some (.int d.2), y3] H2 := by
        intro g gs H2 y3 q1 q2 q3 q4 q5 q6 q7 q8 q9 q10
        refine ⟨_, rfl, .inl ⟨rfl, _, SqL.of q4⟩, _, rfl, g, gs, rfl, .inl ⟨SqL.of q6, fun l nl => ?_⟩⟩
        have z1 : Same H2 (upd H2 l (.tup gs)) := Same.new nl
        have lst : st ≠ l := ne_of_none q4 nl
        refine ⟨st, ss, _, rfl, rfl, z1 _ _ q4, ?_, ?_⟩
        · rw [paired_len pst, R.snum, List.length_take]
          have := ok.len
          exact small (by omega)
        · have key : ∀ b o, b ≠ st → H2 b = some o → (upd (upd H2 l (.tup gs)) st (.lst (ss ++ [.ref l]))) b = some o := fun b o hb e => by
            rw [upd_ne hb]
            exact z1 _ _ e
          have tk2 : TK H2 (upd (upd H2 l (.tup gs)) st (.lst (ss ++ [.ref l]))) := fun b xs e => key b _ (ne_of e q4 (by intro z; cases z)) e
          refine ⟨g, gs, ss ++ [.ref l], _, _, y3, rfl, (q1.trans z1).put nst0, key _ _ (ne_of q2 q4 (by intro z; cases z)) q2, key _ _ nps q3, upd_same, ?_, key _ _ q9 q6, Ps.keep tk2 q7, q8, q9⟩
          rw [q10]
          refine paired_snoc (Paired.mapP pst fun _ _ => IsSt.keep (q5.trans tk2)) ⟨l, gs, rfl, ?_, Ps.keep tk2 q7⟩
          rw [upd_ne lst.symm]
          exact upd_same
      rcases ok.row.deed hd with ⟨n, ln, rfl, hm, hl, e⟩ | ⟨n, rfl, hn, e⟩
      · have ew : decide (V.str (word true) = V.str "ask") = true := decide_eq_true rfl
        rw [ew]
        have hn0 : 0 < n := ok.fine.pos _ hm
        have hn64 : n ≤ 64 := ok.fine.small _ hm
        obtain ⟨f1, f2, f3, f4⟩ := ff_spec hn0 R.good.sep R.good.pos
        -- places.append(first_free(here, number))
        refine iteT ⟨_, rfl, .inl ⟨rfl, _, SqL.of epl⟩, _, rfl, _, rfl, .ref hh, n, (runF (ds.take i)).here, rfl, ⟨hh, hs, rfl, .inr ehh, phs⟩, hn0, by omega, low, ?_⟩
        refine ⟨pl, _, _, rfl, rfl, epl, ?_, ?_⟩
        · rw [List.length_map]
          exact small (by omega)
        -- here = sorted([*here, (places[-1], number)])
        have z1 : Same H (upd H' pl (.lst ((runF (ds.take i)).places.map V.int ++ [.int (ff (runF (ds.take i)).here n)]))) := sm.put npl0
        have ehh1 : (upd H' pl (.lst ((runF (ds.take i)).places.map V.int ++ [.int (ff (runF (ds.take i)).here n)]))) hh = some (.lst hs) := by
          rw [upd_ne n1]
          exact ehh
        have tk1 : TK H' (upd H' pl (.lst ((runF (ds.take i)).places.map V.int ++ [.int (ff (runF (ds.take i)).here n)]))) := TK.put epl (by intro xs z; cases z)
        refine ⟨_, rfl, hh, hs, rfl, .inr (SqL.of ehh1), _, rfl, 1, rfl, pl, _, -1, _, rfl, rfl, SqL.of upd_same, atI_last _ _, _, rfl, by show 2 ≤ sizeLine; decide, fun t nt => ?_⟩
        refine ⟨?_, fun l nl => ?_⟩
        · rw [List.length_append, ps_len phs]
          show (runF (ds.take i)).here.length + 1 ≤ sizeLine
          exact Nat.le_of_lt (small (by omega))
        have z2 : Same (upd H' pl (.lst ((runF (ds.take i)).places.map V.int ++ [.int (ff (runF (ds.take i)).here n)]))) (upd (upd H' pl (.lst ((runF (ds.take i)).places.map V.int ++ [.int (ff (runF (ds.take i)).here n)]))) t (.tup [.int (ff (runF (ds.take i)).here n), .int n])) := Same.new nt
        generalize eH2 : upd (upd H' pl (.lst ((runF (ds.take i)).places.map V.int ++ [.int (ff (runF (ds.take i)).here n)]))) t (.tup [.int (ff (runF (ds.take i)).here n), .int n]) = H2 at z2 nl ⊢
        have z3 : Same H2 (upd H2 l (.lst (hs ++ [.ref t]))) := Same.new nl
        have tk3 : TK H' (upd H2 l (.lst (hs ++ [.ref t]))) := tk1.trans (TK.of (z2.trans z3))
        have pt : IsP (upd H2 l (.lst (hs ++ [.ref t]))) (.ref t) (ff (runF (ds.take i)).here n, n) := ⟨t, rfl, z3 _ _ (by rw [← eH2, upd_same])⟩
        refine ⟨l, hs ++ [.ref t], kOf (upd H2 l (.lst (hs ++ [.ref t]))), rfl, SqL.of upd_same, fun x hx => ?_, fun ys p q1 q2 np => ?_⟩
        · exact ps_mem (paired_snoc (Ps.keep tk3 phs) pt) x hx
        have pys := sorted_ins (Ps.keep tk3 phs) pt R.good.sep R.good.pos hn0 f3 q1 q2.perm
        have z4 : Same (upd H2 l (.lst (hs ++ [.ref t]))) (upd (upd H2 l (.lst (hs ++ [.ref t]))) p (.lst ys)) := Same.new np
        have Z : Same H (upd (upd H2 l (.lst (hs ++ [.ref t]))) p (.lst ys)) := z1.trans (z2.trans (z3.trans z4))
        have ez1 : (upd H' pl (.lst ((runF (ds.take i)).places.map V.int ++ [.int (ff (runF (ds.take i)).here n)]))) tz = some (.tup ((asksOf ds).map V.int)) := tk1 _ _ ez
        have est1 : (upd H' pl (.lst ((runF (ds.take i)).places.map V.int ++ [.int (ff (runF (ds.take i)).here n)]))) st = some (.lst ss) := by
          rw [upd_ne nps.symm]
          exact est
        have epl1 : (upd H' pl (.lst ((runF (ds.take i)).places.map V.int ++ [.int (ff (runF (ds.take i)).here n)]))) pl = some (.lst ((runF (ds.take i)).places.map V.int ++ [.int (ff (runF (ds.take i)).here n)])) := upd_same
        refine tail p ys _ _ Z (z4 _ _ (z3 _ _ (z2 _ _ ez1))) ?_ (z4 _ _ (z3 _ _ (z2 _ _ est1))) (tk3.trans (TK.of z4)) upd_same ?_ ?_ ?_ ?_
        · rw [e]
          show _ = some (HO.lst (((runF (ds.take i)).places ++ [ff (runF (ds.take i)).here n]).map V.int))
          rw [List.map_append]
          exact z4 _ _ (z3 _ _ (z2 _ _ epl1))
        · rw [e]
          exact Ps.keep (TK.of z4) pys
        · intro z
          rw [z, z3 _ _ (z2 _ _ epl1)] at np
          cases np
        · intro z
          rw [z, z3 _ _ (z2 _ _ est1)] at np
          cases np
        · rw [e]
          rfl
      · have ew : decide (V.str (word false) = V.str "ask") = false := decide_eq_false (by decide +kernel)
        rw [ew]
        have hmem := R.mem hn
        have hsz := sizes_at ok hn
        have hpz : (runF (ds.take i)).places[n]? = some ((runF (ds.take i)).places.getD n 0) := by
          have hlt : n < (runF (ds.take i)).places.length := by
            rw [R.len]
            exact R.lt n hn
          rw [List.getElem?_eq_getElem hlt, List.getD_eq_getElem?_getD, List.getElem?_eq_getElem hlt]
          rfl
        -- here = [own for own in here if own != (places[number], sizes[number])]
        refine iteF ⟨_, rfl, hh, rfl, ⟨_, SqL.of ehh⟩, fun D nD => ?_⟩
        have nDpl : D ≠ pl := (ne_of_none epl nD).symm
        have nDst : D ≠ st := (ne_of_none est nD).symm
        have nDhh : D ≠ hh := (ne_of_none ehh nD).symm
        have nD0 : H D = none := sm.free nD
        refine lc_list (K := K) (a := hh) (xs := hs) (fun j H2 => Same H' H2 ∧ ∃ ks, H2 D = some (.lst ks) ∧ ks.length ≤ j ∧ Ps H2 ks (((runF (ds.take i)).here.take j).filter fun c => decide (c ≠ blkOf (runF (ds.take i)) n))) ⟨Same.new nD, [], upd_same, Nat.le_refl _, .nil⟩ ?_ ?_ ?_
        · rintro j H2 _ ⟨sj, _⟩
          exact SqL.of (sj _ _ ehh)
        · rintro j x H2 hx ⟨sj, ks, eD, hk, pk⟩
          obtain ⟨b, hb, ipb⟩ := paired_get phs hx
          obtain ⟨hjl, _⟩ := List.getElem?_eq_some_iff.mp hb
          have et : (runF (ds.take i)).here.take (j + 1) = (runF (ds.take i)).here.take j ++ [b] := by
            rw [List.take_add_one, hb]
            rfl
          have ipb2 : IsP H2 x b := IsP.keep (TK.of sj) ipb
          refine ⟨rfl, ?_⟩
          refine ⟨_, rfl, _, rfl, _, rfl, pl, _, (n : Int), .int ((runF (ds.take i)).places.getD n 0), rfl, rfl, SqL.of (sj _ _ epl), atI_nat (by rw [List.getElem?_map, hpz]; rfl), _, rfl, _, rfl, tz, _, (n : Int), .int ((runF (ds.take i)).sizes.getD n 0), rfl, rfl, SqT.of (sj _ _ ez), atI_nat (by rw [List.getElem?_map, hsz]; rfl), ?_⟩
          refine ⟨by show 2 ≤ sizeLine; decide, fun t nt => ?_⟩
          have zt : Same H2 (upd H2 t (.tup [.int ((runF (ds.take i)).places.getD n 0), .int ((runF (ds.take i)).sizes.getD n 0)])) := Same.new nt
          have nDt : D ≠ t := ne_of_none eD nt
          refine ⟨_, _, dp_pair (IsP.keep (TK.of zt) ipb2), dp_pair (b := blkOf (runF (ds.take i)) n) ⟨t, rfl, upd_same⟩, sh_dP _, sh_dP _, _, rfl, ?_⟩
          rw [eqv_dP]
          by_cases hbb : b = blkOf (runF (ds.take i)) n
          · rw [decide_eq_true hbb]
            refine ⟨sj.trans zt, ks, zt _ _ eD, by omega, ?_⟩
            rw [et, List.filter_append, List.filter_cons_of_neg (by simp [hbb]), List.filter_nil, List.append_nil]
            exact Ps.keep (TK.of zt) pk
          · rw [decide_eq_false hbb]
            refine ⟨_, rfl, ks, zt _ _ eD, small (by omega), (sj.trans zt).put nD, ks ++ [x], upd_same, ?_, ?_⟩
            · rw [List.length_append, List.length_singleton]
              omega
            · have tk4 : TK H2 (upd (upd H2 t (.tup [.int ((runF (ds.take i)).places.getD n 0), .int ((runF (ds.take i)).sizes.getD n 0)])) D (.lst (ks ++ [x]))) := (TK.of zt).trans (TK.put (zt _ _ eD) (by intro xs z; cases z))
              rw [et, List.filter_append, List.filter_cons_of_pos (by simp [hbb]), List.filter_nil]
              exact paired_snoc (Ps.keep tk4 pk) (IsP.keep tk4 ipb2)
        · rintro H2 ⟨sj, ks, eD, hk, pk⟩
          have efull : (runF (ds.take i)).here.take hs.length = (runF (ds.take i)).here := by
            rw [ps_len phs, List.take_length]
          rw [efull, out_same R.good.sep R.good.pos hmem] at pk
          refine tail D ks H2 _ (sm.trans sj) (sj _ _ ez) ?_ (sj _ _ est) (TK.of sj) eD ?_ nDpl nDst ?_
          · rw [e]
            exact sj _ _ epl
          · rw [e]
            exact pk
          · rw [e]
            rfl
    · rintro σ H' ⟨hh, hs, ss, y1, y2, y3, rfl, sm, ez, epl, est, pst, ehh, phs, n1, n2⟩
      rw [hul, List.take_length] at epl pst
      refine ⟨_, rfl, pl, _, rfl, .inl ⟨SqL.of epl, fun l nl => ?_⟩⟩
      have z1 : Same H' (upd H' l (.tup ((runF ds).places.map V.int))) := Same.new nl
      refine ⟨_, rfl, by show 2 ≤ sizeLine; decide, fun t nt => ?_⟩
      have z2 : Same (upd H' l (.tup ((runF ds).places.map V.int))) (upd (upd H' l (.tup ((runF ds).places.map V.int))) t (.tup [.ref l, .ref st])) := Same.new nt
      exact k _ _ (sm.trans (z1.trans z2)) ⟨t, l, st, ss, rfl, upd_same, z2 _ _ upd_same, z2 _ _ (z1 _ _ est), Paired.mapP pst fun _ _ => IsSt.keep (TK.of (z1.trans z2))⟩
end Lb
set_option maxHeartbeats 2000000
/-! for n, (x, y) in enumerate(zip(a, b)), a and b tuples. -/
namespace LbEZ
open PySem PySem.Spec PyProof.Rows L2
section
variable {prog : Program} {w : World} {A : Around} {E : Value → Shared → Prop} {s : Shared} {z TI TO i1 i2 l1 l2 en : Addr} {k : Nat}
/-- a zip's record: f0 tells whether its pair is out -/
def ZRec (h : Heap) (z TI TO : Addr) (f0 : Value) (g : Bool) : Prop := h.get? z = some { cls := .type "zip", dict := none, data := .fields #[f0, .bool g, .bool false, .ref TI, .ref TO], slots := #[] }
def Fld (f0 : Value) : Prop := f0 = .none ∨ ∃ T : Nat, f0 = rawInt T
structure ZS (h : Heap) (z TI TO i1 i2 l1 l2 : Addr) (k : Nat) : Prop where
  rc : ∃ f0 g, ZRec h z TI TO f0 g ∧ Fld f0
  ti : IsPair h TI (.ref i1) (.ref i2)
  to_ : ∃ x y, IsPair h TO x y
  h1 : h.IsTupleIter i1 l1 k
  h2 : h.IsTupleIter i2 l2 k
theorem ZS.at_ {h h' : Heap} (S : ZS h z TI TO i1 i2 l1 l2 k) (kp : ∀ b ∈ [z, TI, TO, i1, i2], ∀ o, h.get? b = some o → h'.get? b = some o) : ZS h' z TI TO i1 i2 l1 l2 k := by
  obtain ⟨⟨f0, g, r, f⟩, b, ⟨x, y, c⟩, d, e⟩ := S
  exact ⟨⟨f0, g, kp z (by simp) _ r, f⟩, kp TI (by simp) _ b, ⟨x, y, kp TO (by simp) _ c⟩, d.at fun o q => kp i1 (by simp) o q, e.at fun o q => kp i2 (by simp) o q⟩
theorem alive_any {a : Addr} {Q : Option Obj → Shared → Prop} (h : Q (s.heap.get? a) s) : wpAny (model prog w) A (loadIfAlive a) Q E s := fun _ _ _ => h
theorem own_free {f0 : Value} {g : Bool} {Q : Bool → Shared → Prop} (hz : ZRec s.heap z TI TO f0 g) (hf : Fld f0) (q1 : Q true s)
    (q2 : ∀ h' g', ZRec h' z TI TO f0 g' → Heap.SameBut z s.heap h' → Q false { s with heap := h' }) : wpAny (model prog w) A (Builtin.SmallTypes.ownedTupleIsFree (.ref z)) Q E s := by
  unfold Builtin.SmallTypes.ownedTupleIsFree
  rcases hf with rfl | ⟨T, rfl⟩
  · exact wpAny_bind (wpAny_field hz rfl (x := .none) rfl (wpAny_pure q1))
  · refine wpAny_bind (wpAny_field hz rfl (x := rawInt T) rfl ?_)
    have e0 : ((T : Int)).toNat = T := Int.toNat_natCast T
    show wpAny _ _ (loadIfAlive ((T : Int)).toNat >>= _) _ _ _
    rw [e0]
    refine wpAny_bind (alive_any ?_)
    cases hT : s.heap.get? T with
    | none => exact wpAny_pure q1
    | some oT =>
      simp only [Option.isNone_some, Bool.false_eq_true, if_false]
      refine wpAny_bind (wpAny_field hz rfl (x := .bool g) rfl ?_)
      cases g with
      | true => exact wpAny_pure (q2 s.heap true hz (Heap.SameBut.refl _ _))
      | false =>
        show wpAny _ _ (setField (.ref z) 1 (.bool true) >>= _) _ _ _
        exact wpAny_bind (wpAny_setField_rec hz (by simp) fun ha hza hsa => wpAny_pure (q2 ha true hza hsa))
/-- the draw of both items -/
theorem zip_item {xs ys : Array Value} {x y : Value} {Q : Value → Shared → Prop} (D : ZipApart z TI TO i1 i2 l1 l2) (S : ZS s.heap z TI TO i1 i2 l1 l2 k) (t1 : s.heap.IsTuple l1 xs) (t2 : s.heap.IsTuple l2 ys) (hx : xs[k]? = some x) (hy : ys[k]? = some y)
    (hQ : ∀ h', ZS h' z TI TO i1 i2 l1 l2 (k + 1) → IsPair h' s.heap.objs.size x y → h'.objs.size = s.heap.objs.size + 1 → (∀ c o, c ≠ z → c ≠ TO → c ≠ i1 → c ≠ i2 → s.heap.get? c = some o → h'.get? c = some o) → Q (.ref s.heap.objs.size) { s with heap := h' }) :
    wpAny (model prog w) A (Builtin.«zip.__next__» ⟨[.ref z], []⟩) (fun fin s' => ∃ v, fin = .done (.ret v) ∧ Q v s') E s := by
  obtain ⟨⟨f0, g, rc, fl⟩, ti, ⟨a, b, to0⟩, it1, it2⟩ := S
  show wpAny _ _ (field (.ref z) 2 >>= _) _ _ _
  refine wpAny_bind (wpAny_field rc rfl (x := .bool false) rfl ?_)
  show wpAny _ _ (field (.ref z) 3 >>= _) _ _ _
  refine wpAny_bind (wpAny_field rc rfl (x := .ref TI) rfl (wpAny_bind (wpAny_seqItems ti rfl ?_)))
  show wpAny _ _ (Builtin.SmallTypes.ownedTupleIsFree (.ref z) >>= _) _ _ _
  refine wpAny_bind (own_free rc fl ?_ fun ha ga ra sa => ?_)
  · -- its own pair again
    simp only [if_true]
    refine wpAny_bind (wpAny_rule (wpAny_bind (wpAny_field rc rfl (x := .ref TO) rfl ?_)))
    refine wpAny_bind (wpAny_setField_rec rc (by simp) fun ha ra sa => wpAny_bind ?_)
    have ra' : ZRec ha z TI TO .ellipsis g := ra
    simp only [List.zipIdx_cons, List.zipIdx_nil, List.forIn_cons, List.forIn_nil]
    refine wpAny_bind (wpAny_bind (wpAny_onRaise ?_))
    show wpAny _ _ (Builtin.SmallTypes.nextOf (.ref i1) >>= _) _ _ _
    refine wpAny_bind (RZ.nextOf_tuple_item (s := { s with heap := ha }) (it1.extBut sa.extBut D.i1z) (t1.extBut sa.extBut D.l1z) hx fun hb ib sb => wpAny_pure ?_)
    have tb : IsPair hb TO a b := sb.extBut _ _ D.TOi1 (sa.extBut _ _ D.TOz to0)
    refine wpAny_bind (wpAny_seqItems tb rfl (wpAny_bind (wpAny_updateSeq_pair tb fun hc tc sc => wpAny_bind (wpAny_letGo (wpAny_pure ?_)))))
    have tc' : IsPair hc TO x b := tc
    refine wpAny_bind (wpAny_bind (wpAny_onRaise ?_))
    show wpAny _ _ (Builtin.SmallTypes.nextOf (.ref i2) >>= _) _ _ _
    have it2c : hc.IsTupleIter i2 l2 k := ((it2.extBut sa.extBut D.i2z).extBut sb.extBut D.i12.symm).extBut sc.extBut D.TOi2.symm
    have t2c : hc.IsTuple l2 ys := ((t2.extBut sa.extBut D.l2z).extBut sb.extBut D.l2i1).extBut sc.extBut D.l2TO
    refine wpAny_bind (RZ.nextOf_tuple_item (s := { s with heap := hc }) it2c t2c hy fun hd jd sd => wpAny_pure ?_)
    have td : IsPair hd TO x b := sd.extBut _ _ D.TOi2 tc'
    refine wpAny_bind (wpAny_seqItems td rfl (wpAny_bind (wpAny_updateSeq_pair td fun he te se => wpAny_bind (wpAny_letGo (wpAny_pure (wpAny_pure ?_))))))
    have te' : IsPair he TO x y := te
    refine wpAny_bind (wpAny_seqItems te' rfl (wpAny_bind (wpAny_newTuple ?_)))
    have sz : he.objs.size = s.heap.objs.size := by rw [se.1, sd.1, sc.1, sb.1, sa.1]
    have re : ZRec he z TI TO .ellipsis g := se.extBut _ _ D.TOz.symm (sd.extBut _ _ D.i2z.symm (sc.extBut _ _ D.TOz.symm (sb.extBut _ _ D.i1z.symm ra')))
    have kp : ∀ c o, c ≠ z → c ≠ TO → c ≠ i1 → c ≠ i2 → s.heap.get? c = some o → he.get? c = some o := fun c o n1 n2 n3 n4 e => se.extBut _ _ n2 (sd.extBut _ _ n4 (sc.extBut _ _ n2 (sb.extBut _ _ n3 (sa.extBut _ _ n1 e))))
    have ie : he.IsTupleIter i1 l1 (k + 1) := ((ib.extBut sc.extBut D.TOi1.symm).extBut sd.extBut D.i12).extBut se.extBut D.TOi1.symm
    have je : he.IsTupleIter i2 l2 (k + 1) := jd.extBut se.extBut D.TOi2.symm
    have zlt : z < he.objs.size := Heap.lt_size re
    show wpAny _ _ (Builtin.SmallTypes.ownedTupleHandOut (.ref z) (.ref he.objs.size) >>= _) _ _ _
    unfold Builtin.SmallTypes.ownedTupleHandOut
    have rf : ZRec (he.push { cls := .type "tuple", data := .seq #[x, y] }) z TI TO .ellipsis g := Heap.get?_push_of_some _ re
    refine wpAny_bind (wpAny_bind (wpAny_setField_rec rf (by simp) fun hg rg sg => wpAny_setField_rec rg (by simp) fun hh rh sh => ?_))
    have rh' : ZRec hh z TI TO (rawInt he.objs.size) false := rh
    have up : ∀ c o, c ≠ z → he.get? c = some o → hh.get? c = some o := fun c o n1 e => sh.extBut _ _ n1 (sg.extBut _ _ n1 (Heap.get?_push_of_some _ e))
    have ph : IsPair hh he.objs.size x y := sh.extBut _ _ (Nat.ne_of_gt zlt) (sg.extBut _ _ (Nat.ne_of_gt zlt) (Heap.get?_push_size _ rfl))
    have zh : hh.objs.size = he.objs.size + 1 := by rw [sh.1, sg.1, Heap.size_push]
    refine wpAny_pure ⟨_, rfl, ?_⟩
    show Q (.ref he.objs.size) _
    rw [sz] at ph zh ⊢
    exact hQ hh ⟨⟨_, _, rh', .inr ⟨_, rfl⟩⟩, up _ _ D.TIz (kp _ _ D.TIz D.TITO D.TIi1 D.TIi2 ti), ⟨x, y, up _ _ D.TOz te'⟩, ie.at fun o e => up _ o D.i1z e, je.at fun o e => up _ o D.i2z e⟩ ph zh fun c o n1 n2 n3 n4 e => up c o n1 (kp c o n1 n2 n3 n4 e)
  · -- its pair is out: a new one
    simp only [Bool.false_eq_true, if_false]
    refine wpAny_bind ?_
    rw [← Array.forIn_toList]
    simp only [List.forIn_cons, List.forIn_nil]
    refine wpAny_bind (wpAny_bind (wpAny_holding ?_))
    show wpAny _ _ (Builtin.SmallTypes.nextOf (.ref i1) >>= _) _ _ _
    refine wpAny_bind (RZ.nextOf_tuple_item (s := { s with heap := ha }) (it1.extBut sa.extBut D.i1z) (t1.extBut sa.extBut D.l1z) hx fun hb ib sb => wpAny_pure (wpAny_pure ?_))
    refine wpAny_bind (wpAny_bind (wpAny_holding ?_))
    show wpAny _ _ (Builtin.SmallTypes.nextOf (.ref i2) >>= _) _ _ _
    have it2b : hb.IsTupleIter i2 l2 k := (it2.extBut sa.extBut D.i2z).extBut sb.extBut D.i12.symm
    refine wpAny_bind (RZ.nextOf_tuple_item (s := { s with heap := hb }) it2b ((t2.extBut sa.extBut D.l2z).extBut sb.extBut D.l2i1) hy fun hc jc sc => wpAny_pure (wpAny_pure (wpAny_pure ?_)))
    show wpAny _ _ (newTuple [x, y] >>= _) _ _ _
    refine wpAny_bind (wpAny_newTuple (wpAny_pure ⟨_, rfl, ?_⟩))
    have sz : hc.objs.size = s.heap.objs.size := by rw [sc.1, sb.1, sa.1]
    have rz : ZRec hc z TI TO f0 ga := sc.extBut _ _ D.i2z.symm (sb.extBut _ _ D.i1z.symm ra)
    have kp : ∀ c o, c ≠ z → c ≠ i1 → c ≠ i2 → s.heap.get? c = some o → hc.get? c = some o := fun c o n1 n3 n4 e => sc.extBut _ _ n4 (sb.extBut _ _ n3 (sa.extBut _ _ n1 e))
    have ic : hc.IsTupleIter i1 l1 (k + 1) := ib.extBut sc.extBut D.i12
    show Q (.ref hc.objs.size) _
    have ph : IsPair (hc.push { cls := .type "tuple", data := .seq #[x, y] }) hc.objs.size x y := Heap.get?_push_size _ rfl
    have zh : (hc.push { cls := .type "tuple", data := .seq #[x, y] }).objs.size = hc.objs.size + 1 := Heap.size_push ..
    rw [sz] at ph zh ⊢
    have up : ∀ c o, hc.get? c = some o → (hc.push { cls := .type "tuple", data := .seq #[x, y] }).get? c = some o := fun c o e => Heap.get?_push_of_some _ e
    exact hQ _ ⟨⟨_, _, up _ _ rz, fl⟩, up _ _ (kp _ _ D.TIz D.TIi1 D.TIi2 ti), ⟨a, b, up _ _ (kp _ _ D.TOz D.TOi1 D.TOi2 to0)⟩, ic.at fun o e => up _ o e, jc.at fun o e => up _ o e⟩ ph zh fun c o n1 _ n3 n4 e => up c o (kp c o n1 n3 n4 e)
/-- one of both has ended -/
theorem zip_end {xs ys : Array Value} {Q : Fin → Shared → Prop} (hh : A.handled = none) (D : ZipApart z TI TO i1 i2 l1 l2) (S : ZS s.heap z TI TO i1 i2 l1 l2 k) (t1 : s.heap.IsTuple l1 xs) (t2 : s.heap.IsTuple l2 ys) (hend : xs[k]? = none)
    (hE : ∀ h' e, (∀ c o, c ≠ z → c ≠ TO → c ≠ i1 → c ≠ i2 → s.heap.get? c = some o → h'.get? c = some o) → (∃ o, h'.get? e = some o ∧ o.cls = .type "StopIteration") → E (.ref e) { s with heap := h' }) :
    wpAny (model prog w) A (Builtin.«zip.__next__» ⟨[.ref z], []⟩) Q E s := by
  obtain ⟨⟨f0, g, rc, fl⟩, ti, ⟨a, b, to0⟩, it1, it2⟩ := S
  show wpAny _ _ (field (.ref z) 2 >>= _) _ _ _
  refine wpAny_bind (wpAny_field rc rfl (x := .bool false) rfl ?_)
  show wpAny _ _ (field (.ref z) 3 >>= _) _ _ _
  refine wpAny_bind (wpAny_field rc rfl (x := .ref TI) rfl (wpAny_bind (wpAny_seqItems ti rfl ?_)))
  show wpAny _ _ (Builtin.SmallTypes.ownedTupleIsFree (.ref z) >>= _) _ _ _
  refine wpAny_bind (own_free rc fl ?_ fun ha ga ra sa => ?_)
  · simp only [if_true]
    refine wpAny_bind (wpAny_rule (wpAny_bind (wpAny_field rc rfl (x := .ref TO) rfl ?_)))
    refine wpAny_bind (wpAny_setField_rec rc (by simp) fun ha ra sa => wpAny_bind ?_)
    have ra' : ZRec ha z TI TO .ellipsis g := ra
    simp only [List.zipIdx_cons, List.zipIdx_nil, List.forIn_cons, List.forIn_nil]
    refine wpAny_bind (wpAny_bind (wpAny_onRaise ?_))
    show wpAny _ _ (Builtin.SmallTypes.nextOf (.ref i1) >>= _) _ _ _
    refine wpAny_bind (RZ.nextOf_tuple_end (s := { s with heap := ha }) hh (it1.extBut sa.extBut D.i1z) (t1.extBut sa.extBut D.l1z) hend fun hb e sb he => ?_)
    obtain ⟨oe, hoe, hce⟩ := he
    have rb : ZRec hb z TI TO .ellipsis g := sb _ _ D.i1z.symm ra'
    have hez : e ≠ z := fun q => by
      rw [q] at hoe
      have q2 := hoe.symm.trans rb
      cases q2
      simp at hce
    exact wpAny_setField_rec rb (by simp) fun hc _ sc => hE hc e (fun c o n1 _ n3 _ q => sc.extBut _ _ n1 (sb _ _ n3 (sa.extBut _ _ n1 q))) ⟨oe, sc.extBut _ _ hez hoe, hce⟩
  · simp only [Bool.false_eq_true, if_false]
    refine wpAny_bind ?_
    rw [← Array.forIn_toList]
    simp only [List.forIn_cons, List.forIn_nil]
    refine wpAny_bind (wpAny_bind (wpAny_holding ?_))
    show wpAny _ _ (Builtin.SmallTypes.nextOf (.ref i1) >>= _) _ _ _
    refine wpAny_bind (RZ.nextOf_tuple_end (s := { s with heap := ha }) hh (it1.extBut sa.extBut D.i1z) (t1.extBut sa.extBut D.l1z) hend fun hb e sb he => ?_)
    exact hE hb e (fun c o n1 _ n3 _ q => sb _ _ n3 (sa.extBut _ _ n1 q)) he
theorem next_item {xs ys : Array Value} {x y : Value} {Q : Value → Shared → Prop} (D : ZipApart z TI TO i1 i2 l1 l2) (S : ZS s.heap z TI TO i1 i2 l1 l2 k) (t1 : s.heap.IsTuple l1 xs) (t2 : s.heap.IsTuple l2 ys) (hx : xs[k]? = some x) (hy : ys[k]? = some y)
    (hQ : ∀ h', ZS h' z TI TO i1 i2 l1 l2 (k + 1) → IsPair h' s.heap.objs.size x y → h'.objs.size = s.heap.objs.size + 1 → (∀ c o, c ≠ z → c ≠ TO → c ≠ i1 → c ≠ i2 → s.heap.get? c = some o → h'.get? c = some o) → Q (.ref s.heap.objs.size) { s with heap := h' }) :
    wpAny (model prog w) A (Builtin.SmallTypes.nextOf (.ref z)) Q E s := by
  obtain ⟨f0, g, rc, fl⟩ := S.rc
  have ty : s.TypeIs (.ref z) "zip" := ⟨_, rc, rfl⟩
  unfold Builtin.SmallTypes.nextOf
  exact wpAny_bind (wpAny_callSpecial?_slot (name := Str.ofString "__next__") ty F.slot_zip_next (wpAny_call_entry F.slot_zip_next ty F.entry_zip_next (zip_item D S t1 t2 hx hy fun h' q1 q2 q3 q4 => wpAny_pure (hQ h' q1 q2 q3 q4)) (F.args_zip_next_1 _)))
theorem next_end {xs ys : Array Value} {Q : Value → Shared → Prop} (hh : A.handled = none) (D : ZipApart z TI TO i1 i2 l1 l2) (S : ZS s.heap z TI TO i1 i2 l1 l2 k) (t1 : s.heap.IsTuple l1 xs) (t2 : s.heap.IsTuple l2 ys) (hend : xs[k]? = none)
    (hE : ∀ h' e, (∀ c o, c ≠ z → c ≠ TO → c ≠ i1 → c ≠ i2 → s.heap.get? c = some o → h'.get? c = some o) → (∃ o, h'.get? e = some o ∧ o.cls = .type "StopIteration") → E (.ref e) { s with heap := h' }) :
    wpAny (model prog w) A (Builtin.SmallTypes.nextOf (.ref z)) Q E s := by
  obtain ⟨f0, g, rc, fl⟩ := S.rc
  have ty : s.TypeIs (.ref z) "zip" := ⟨_, rc, rfl⟩
  unfold Builtin.SmallTypes.nextOf
  exact wpAny_bind (wpAny_callSpecial?_slot (name := Str.ofString "__next__") ty F.slot_zip_next (wpAny_call_entry F.slot_zip_next ty F.entry_zip_next (zip_end hh D S t1 t2 hend hE) (F.args_zip_next_1 _)))
/-- enumerate's own record -/
abbrev ERec (h : Heap) (en z : Addr) (i : Int) (old : Value) : Prop := IsEnum h en z i old
theorem enum_item {xs ys : Array Value} {x y old : Value} {Q : Option Value → Shared → Prop} (D : ZipApart z TI TO i1 i2 l1 l2) (er : IsEnum s.heap en z (k : Nat) old) (ap : en ∉ [z, TI, TO, i1, i2]) (S : ZS s.heap z TI TO i1 i2 l1 l2 k) (t1 : s.heap.IsTuple l1 xs) (t2 : s.heap.IsTuple l2 ys) (hx : xs[k]? = some x) (hy : ys[k]? = some y)
    (hQ : ∀ h', IsEnumOut h' en z (((k + 1 : Nat)) : Int) (.ref s.heap.objs.size) (s.heap.objs.size + 1) → ZS h' z TI TO i1 i2 l1 l2 (k + 1) → IsPair h' s.heap.objs.size x y → IsPair h' (s.heap.objs.size + 1) (.int k s.toks) (.ref s.heap.objs.size) → h'.objs.size = s.heap.objs.size + 2 →
      (∀ c o, c ≠ en → c ≠ z → c ≠ TO → c ≠ i1 → c ≠ i2 → s.heap.get? c = some o → h'.get? c = some o) → Q (some (.ref (s.heap.objs.size + 1))) { s with heap := h', toks := s.toks + 1 }) :
    wpAny (model prog w) A (pyNext (.ref en)) Q E s := by
  obtain ⟨hp, gg, dd, tk, os⟩ := s
  have nz : en ≠ z := fun q => ap (by simp [q])
  have nTI : en ≠ TI := fun q => ap (by simp [q])
  have nTO : en ≠ TO := fun q => ap (by simp [q])
  have n1 : en ≠ i1 := fun q => ap (by simp [q])
  have n2 : en ≠ i2 := fun q => ap (by simp [q])
  have ty : (⟨hp, gg, dd, tk, os⟩ : Shared).TypeIs (.ref en) "enumerate" := ⟨_, er, rfl⟩
  have elt : en < hp.objs.size := Heap.lt_size er
  unfold pyNext
  refine wpAny_bind (wpAny_attempt (wpAny_callSpecial?_slot (name := Str.ofString "__next__") ty F.slot_enumerate_next (wpAny_call_entry F.slot_enumerate_next ty F.entry_enumerate_next ?_ (F.args_enumerate_next_1 _))))
  show wpAny _ _ (field (.ref en) 2 >>= _) _ _ _
  refine wpAny_bind (wpAny_field er rfl (x := .ref z) rfl (wpAny_bind (next_item D S t1 t2 hx hy fun ha Sa pa za ka => ?_)))
  have ea : IsEnum ha en z (k : Nat) old := ka _ _ nz nTO n1 n2 er
  have za' : ha.objs.size = hp.objs.size + 1 := za
  show wpAny _ _ (field (.ref en) 3 >>= _) _ _ ⟨ha, gg, dd, tk, os⟩
  refine wpAny_bind (wpAny_field ea rfl (x := rawInt (k : Nat)) rfl ?_)
  show wpAny _ _ (field (.ref en) 4 >>= _) _ _ ⟨ha, gg, dd, tk, os⟩
  refine wpAny_bind (wpAny_field ea rfl (x := .none) rfl ?_)
  show wpAny _ _ (mkInt (k : Nat) >>= _) _ _ ⟨ha, gg, dd, tk, os⟩
  refine wpAny_bind (wpAny_mkInt ?_)
  show wpAny _ _ (setField (.ref en) 3 (rawInt ((k : Int) + 1)) >>= _) _ _ ⟨ha, gg, dd, tk + 1, os⟩
  refine wpAny_bind (wpAny_setField_rec ea (by simp) fun hb eb sb => ?_)
  have eb' : IsEnum hb en z ((k : Int) + 1) old := eb
  show wpAny _ _ (setField (.ref en) 4 .none >>= _) _ _ ⟨hb, gg, dd, tk + 1, os⟩
  refine wpAny_bind (wpAny_setField_rec eb' (by simp) fun hc ec sc => ?_)
  have ec' : IsEnum hc en z ((k : Int) + 1) old := ec
  show wpAny _ _ (newTuple [.int k tk, .ref hp.objs.size] >>= _) _ _ ⟨hc, gg, dd, tk + 1, os⟩
  refine wpAny_bind (wpAny_newTuple ?_)
  have sz : hc.objs.size = hp.objs.size + 1 := by rw [sc.1, sb.1]; exact za'
  have ed : IsEnum (hc.push { cls := .type "tuple", data := .seq #[.int k tk, .ref hp.objs.size] }) en z ((k : Int) + 1) old := Heap.get?_push_of_some _ ec'
  have pd : IsPair (hc.push { cls := .type "tuple", data := .seq #[.int k tk, .ref hp.objs.size] }) (hp.objs.size + 1) (.int k tk) (.ref hp.objs.size) := by rw [← sz]; exact Heap.get?_push_size _ rfl
  have zd : (hc.push { cls := .type "tuple", data := .seq #[.int k tk, .ref hp.objs.size] }).objs.size = hp.objs.size + 2 := by rw [Heap.size_push, sz]
  have kd : ∀ c o, c ≠ en → ha.get? c = some o → (hc.push { cls := .type "tuple", data := .seq #[.int k tk, .ref hp.objs.size] }).get? c = some o := fun c o q e => Heap.get?_push_of_some _ (sc.extBut _ _ q (sb.extBut _ _ q e))
  generalize hc.push { cls := .type "tuple", data := .seq #[.int k tk, .ref hp.objs.size] } = hd at ed pd zd kd
  show wpAny _ _ (Builtin.SmallTypes.ownedTupleIsFree (.ref en) >>= _) _ _ ⟨hd, gg, dd, tk + 1, os⟩
  rw [sz]
  refine wpAny_bind ?_
  unfold Builtin.SmallTypes.ownedTupleIsFree
  refine wpAny_bind (wpAny_field ed rfl (x := .none) rfl (wpAny_pure ?_))
  simp only [if_true]
  refine wpAny_bind (wpAny_rule (wpAny_bind (wpAny_field ed rfl (x := old) rfl ?_)))
  refine wpAny_bind (wpAny_setField_rec ed (by simp) fun hf ef sf => ?_)
  have ef' : IsEnum hf en z ((k : Int) + 1) (.ref hp.objs.size) := ef
  show wpAny _ _ (Builtin.SmallTypes.ownedTupleHandOut (.ref en) (.ref (hp.objs.size + 1)) >>= _) _ _ ⟨hf, gg, dd, tk + 1, os⟩
  unfold Builtin.SmallTypes.ownedTupleHandOut
  refine wpAny_bind (wpAny_bind (wpAny_setField_rec ef' (by simp) fun hg eg sg => wpAny_setField_rec eg (by simp) fun hi ei si => ?_))
  have ei' : IsEnumOut hi en z ((k : Int) + 1) (.ref hp.objs.size) (hp.objs.size + 1) := ei
  have ki : ∀ c o, c ≠ en → hd.get? c = some o → hi.get? c = some o := fun c o q e => si.extBut _ _ q (sg.extBut _ _ q (sf.extBut _ _ q e))
  have e0 : (((k + 1 : Nat)) : Int) = (k : Int) + 1 := by omega
  refine wpAny_bind (wpAny_letGo (wpAny_pure ⟨_, rfl, wpAny_pure (hQ hi ?_ ?_ ?_ ?_ ?_ fun c o q1 q2 q3 q4 q5 e => ki c o q1 (kd c o q1 (ka c o q2 q3 q4 q5 e)))⟩))
  · rw [e0]
    exact ei'
  · refine Sa.at_ fun b hb o e => ?_
    have q : b ≠ en := fun q => ap (q ▸ hb)
    exact ki b o q (kd b o q e)
  · exact ki _ _ (Nat.ne_of_gt elt) (kd _ _ (Nat.ne_of_gt elt) pa)
  · exact ki _ _ (Nat.ne_of_gt (Nat.lt_succ_of_lt elt)) pd
  · show hi.objs.size = hp.objs.size + 2
    rw [si.1, sg.1, sf.1, zd]
theorem enum_end {xs ys : Array Value} {old : Value} {Q : Option Value → Shared → Prop} (hh : A.handled = none) (D : ZipApart z TI TO i1 i2 l1 l2) (er : IsEnum s.heap en z (k : Nat) old) (S : ZS s.heap z TI TO i1 i2 l1 l2 k) (t1 : s.heap.IsTuple l1 xs) (t2 : s.heap.IsTuple l2 ys) (hend : xs[k]? = none)
    (hQ : ∀ h', (∀ c o, c ≠ z → c ≠ TO → c ≠ i1 → c ≠ i2 → s.heap.get? c = some o → h'.get? c = some o) → Q none { s with heap := h' }) : wpAny (model prog w) A (pyNext (.ref en)) Q E s := by
  have ty : s.TypeIs (.ref en) "enumerate" := ⟨_, er, rfl⟩
  unfold pyNext
  refine wpAny_bind (wpAny_attempt (wpAny_callSpecial?_slot (name := Str.ofString "__next__") ty F.slot_enumerate_next (wpAny_call_entry F.slot_enumerate_next ty F.entry_enumerate_next ?_ (F.args_enumerate_next_1 _))))
  show wpAny _ _ (field (.ref en) 2 >>= _) _ _ _
  refine wpAny_bind (wpAny_field er rfl (x := .ref z) rfl (wpAny_bind (next_end hh D S t1 t2 hend fun h' e kp he => ?_)))
  obtain ⟨o, ho, hc⟩ := he
  exact wpAny_bind (wpAny_isInstance (T := "StopIteration") (b := true) ⟨o, ho, hc⟩ isSubtype_stop (wpAny_pure (hQ _ kp)))
/-- enumerate(a zip) is made -/
theorem meets_new (z TI TO : Addr) : Meets (Builtin.«enumerate.__new__» ⟨[.type "enumerate", .ref z], []⟩) (fun _ R s => IsZip s.heap z TI TO .none ∧
    R (.ok (.ret (.ref s.heap.objs.size))) { s with heap := s.heap.push { cls := .type "enumerate", data := .fields #[.none, .bool false, .ref z, rawInt 0, .none, .none] } }) :=
  .of_wp fun prog w A R s h => by
    obtain ⟨hp, g, d, tk, os⟩ := s
    obtain ⟨hz, h⟩ := h
    have hsub := sub_enumerate
    have hZ : IsZip (Shared.heap ⟨hp, g, d, tk, os⟩) z TI TO .none := hz
    wp_walk
    refine wpAny_stack_any fun st => wpAny_pure ?_
    split
    · rename_i c _ _ _ _ _
      cases (c == Value.type "enumerate")
      all_goals
        wp_walk using wpAny_pyIter_zip hZ
        exact ⟨_, rfl, h⟩
    · wp_walk using wpAny_pyIter_zip hZ
      exact ⟨_, rfl, h⟩
theorem call_enum {Q : Value → Shared → Prop} (hz : IsZip s.heap z TI TO .none) (h : ∀ h', IsEnum h' s.heap.objs.size z 0 .none → h'.objs.size = s.heap.objs.size + 1 → (∀ b o, s.heap.get? b = some o → h'.get? b = some o) → Q (.ref s.heap.objs.size) { s with heap := h' }) :
    wpAny (model prog w) A (call (.type "enumerate") [.ref z]) Q E s := by
  refine callType_new F.called_enumerate (by decide) (F.typeCall_enumerate_1 _) (F.newCall_enumerate_1 _) (fun obj => F.args_object_init_2 obj _) F.entry_enumerate_new (meets_new z TI TO) ⟨hz, ?_⟩
  have e : IsEnum (s.heap.push { cls := .type "enumerate", data := .fields #[.none, .bool false, .ref z, rawInt 0, .none, .none] }) s.heap.objs.size z 0 .none := Heap.get?_push_size _ rfl
  exact ⟨⟨_, e, rfl⟩, h _ e (Heap.size_push ..) fun b o q => Heap.get?_push_of_some _ q⟩
end
/-- the tuples at a and b: the number of the turn and a new pair of both items, in a new pair -/
def ItEZ (K : PySem.W.Frag) (a b : Addr) : It :=
  ⟨fun i H => ∃ (xs ys : List V) (x y : V), SqT K H a xs ∧ SqT K H b ys ∧ xs[i]? = some x ∧ ys[i]? = some y,
    fun i H v H' => ∃ T U x y, v = .ref U ∧ H T = none ∧ upd H T (.tup [x, y]) U = none ∧ H' = upd (upd H T (.tup [x, y])) U (.tup [.int (i : Nat), .ref T]) ∧ (∀ xs, SqT K H a xs → xs[i]? = some x) ∧ ∀ ys, SqT K H b ys → ys[i]? = some y,
    fun i H => ∃ xs ys : List V, SqT K H a xs ∧ SqT K H b ys ∧ xs.length ≤ i⟩
theorem turn_ez {P : Program} {w : World} {K : PySem.W.Frag} {elts : List Expr} {kk : Nat} {tpos : Pos} {a b en z TI TO i1 i2 : Addr} (D : ZipApart z TI TO i1 i2 a b) (ap : en ∉ [z, TI, TO, i1, i2]) :
    Turn P w K (.Tuple elts kk tpos) (ItEZ K a b) [en, z, TI, TO, i1, i2] en (fun i h => (∃ old, IsEnum h en z (i : Nat) old) ∧ ZS h z TI TO i1 i2 a b i) where
  mem := by simp
  obj := fun i h st c hc => by
    obtain ⟨⟨old, he⟩, ⟨f0, g, rc, _⟩, ti, ⟨x, y, to0⟩, ⟨o1, e1, _, d1⟩, ⟨o2, e2, _, d2⟩⟩ := st
    have e' : c = en ∨ c = z ∨ c = TI ∨ c = TO ∨ c = i1 ∨ c = i2 := by simpa using hc
    rcases e' with q | q | q | q | q | q
    · rw [q]; exact ⟨_, he, fun v q => nomatch q⟩
    · rw [q]; exact ⟨_, rc, fun v q => nomatch q⟩
    · rw [q]; exact ⟨_, ti, fun v q => nomatch q⟩
    · rw [q]; exact ⟨_, to0, fun v q => nomatch q⟩
    · exact ⟨o1, by rw [q]; exact e1, fun v q => by rw [d1] at q; cases q⟩
    · exact ⟨o2, by rw [q]; exact e2, fun v q => by rw [d2] at q; cases q⟩
  keep := fun i h h' st k => by
    obtain ⟨⟨old, he⟩, S⟩ := st
    exact ⟨⟨old, k en (by simp) _ he⟩, S.at_ fun b hb o q => k b (List.mem_cons_of_mem _ hb) o q⟩
  item := by
    intro X hP hw hK hc i pins s σ H E I hf st hg
    subst hP hw hK
    obtain ⟨⟨old, he⟩, S⟩ := st
    obtain ⟨xs, ys, x, y, hqx, hqy, hx, hy⟩ := hg
    obtain ⟨its, rv, p, _⟩ := I.tuple hqx
    obtain ⟨its2, rv2, p2, _⟩ := I.tuple hqy
    obtain ⟨u, hu, ru⟩ := rv.get hx
    obtain ⟨u2, hu2, ru2⟩ := rv2.get hy
    have elt : en < s.heap.objs.size := Heap.lt_size he
    have inlt : ∀ c ∈ [en, z, TI, TO, i1, i2], c < s.heap.objs.size := fun c hcm => by
      obtain ⟨⟨f0, g, rc, _⟩, ti, ⟨x, y, to0⟩, ⟨o1, e1, _, d1⟩, ⟨o2, e2, _, d2⟩⟩ := S
      have e' : c = en ∨ c = z ∨ c = TI ∨ c = TO ∨ c = i1 ∨ c = i2 := by simpa using hcm
      rcases e' with q | q | q | q | q | q
      · rw [q]; exact elt
      · rw [q]; exact Heap.lt_size rc
      · rw [q]; exact Heap.lt_size ti
      · rw [q]; exact Heap.lt_size to0
      · rw [q]; exact Heap.lt_size e1
      · rw [q]; exact Heap.lt_size e2
    refine enum_item D he ap S (show s.heap.IsTuple a its.toArray from p) (show s.heap.IsTuple b its2.toArray from p2) (x := u) (y := u2) (by simpa using hu) (by simpa using hu2) fun h' eo S' pT pU hsz hk => ?_
    refine ⟨_, rfl, wpAny_letOwnedTupleGo_enum (s := { s with heap := h', toks := s.toks + 1 }) eo fun h'' e'' sb => ?_⟩
    have pT2 : IsPair h'' s.heap.objs.size u u2 := (sb.2 _ (Nat.ne_of_gt elt)).trans pT
    have pU2 : IsPair h'' (s.heap.objs.size + 1) (.int i s.toks) (.ref s.heap.objs.size) := (sb.2 _ (Nat.ne_of_gt (Nat.lt_succ_of_lt elt))).trans pU
    have fr1 : H s.heap.objs.size = none := I.hok.fresh (Nat.le_refl _)
    have nTU : s.heap.objs.size + 1 ≠ s.heap.objs.size := Nat.succ_ne_self _
    have fr2 : upd H s.heap.objs.size (.tup [x, y]) (s.heap.objs.size + 1) = none := by
      rw [upd_ne nTU]
      exact I.hok.fresh (Nat.le_succ _)
    have I1 : Inv X pins σ (upd H s.heap.objs.size (.tup [x, y])) { s with heap := s.heap.push { cls := .type "tuple", data := .seq #[u, u2] } } :=
      I.laid (t' := s.toks) (fun c o q => Heap.get?_push_of_some _ q) (Nat.le_refl _) ⟨by show 2 ≤ sizeLine; decide, [u, u2], .cons ru (.cons ru2 .nil), ⟨_, Heap.get?_push_size _ rfl, rfl, _, rfl⟩⟩
    have hf1 : ∀ c ∈ [en, z, TI, TO, i1, i2], FpOk X pins (upd H s.heap.objs.size (.tup [x, y])) c := fun c hcm => by
      refine ⟨?_, (hf c hcm).2⟩
      rw [upd_ne (Nat.ne_of_lt (inlt c hcm))]
      exact (hf c hcm).1
    have new2 : ObjOk X.prog X.w (upd (upd H s.heap.objs.size (.tup [x, y])) (s.heap.objs.size + 1) (.tup [.int (i : Nat), .ref s.heap.objs.size])) h'' (s.heap.objs.size + 1) (.tup [.int (i : Nat), .ref s.heap.objs.size]) :=
      ⟨by show 2 ≤ sizeLine; decide, [.int i s.toks, .ref s.heap.objs.size], .cons ⟨_, rfl⟩ (.cons rfl .nil), ⟨_, pU2, rfl, _, rfl⟩⟩
    have I2 : Inv X pins σ (upd (upd H s.heap.objs.size (.tup [x, y])) (s.heap.objs.size + 1) (.tup [.int (i : Nat), .ref s.heap.objs.size])) { s with heap := h'', toks := s.toks + 1 } := by
      refine I1.turnedNew (t' := s.toks + 1) (ch := [en, z, TI, TO, i1, i2]) (fun c o hb q => ?_) hf1 (Nat.le_of_eq (Heap.size_push _ _)) new2
      by_cases hcs : c = s.heap.objs.size
      · rw [hcs] at q ⊢
        have q2 : (s.heap.push { cls := .type "tuple", data := .seq #[u, u2] }).get? s.heap.objs.size = some { cls := .type "tuple", data := .seq #[u, u2] } := Heap.get?_push_size _ rfl
        rw [← Option.some.inj (q2.symm.trans q)]
        exact pT2
      · have q3 : s.heap.get? c = some o := by
          by_cases hlt : c < s.heap.objs.size
          · cases q4 : s.heap.get? c with
            | some o4 =>
              have q5 := Heap.get?_push_of_some { cls := .type "tuple", data := .seq #[u, u2] } q4
              exact (q5.symm.trans q)
            | none =>
              exfalso
              have q6 : (s.heap.push { cls := .type "tuple", data := .seq #[u, u2] }).get? c = s.heap.get? c := by
                unfold Heap.get? Heap.push
                simp only
                rw [Array.getElem?_push_lt hlt, Array.getElem?_eq_getElem hlt]
              rw [q6, q4] at q
              cases q
          · exfalso
            have q7 := Heap.lt_size q
            rw [Heap.size_push] at q7
            exact hcs (Nat.le_antisymm (Nat.le_of_lt_succ q7) (Nat.not_lt.mp hlt))
        exact (sb.2 c (fun z => hb (by simp [z]))).trans (hk c o (fun z => hb (by simp [z])) (fun z => hb (by simp [z])) (fun z => hb (by simp [z])) (fun z => hb (by simp [z])) (fun z => hb (by simp [z])) q3)
    refine ⟨.ref (s.heap.objs.size + 1), _, I2, rfl, ⟨_, _, x, y, rfl, fr1, fr2, rfl, fun l hl => by rw [I.tuple_inj hl hqx]; exact hx, fun l hl => by rw [I.tuple_inj hl hqy]; exact hy⟩, ⟨⟨_, e''⟩, S'.at_ fun c hcm o q => ?_⟩, fun c hcm => ?_⟩
    · have q2 : c ≠ en := fun q2 => ap (q2 ▸ hcm)
      exact (sb.2 c q2).trans q
    · have q3 := inlt c hcm
      rw [upd_ne (Nat.ne_of_lt (Nat.lt_succ_of_lt q3)), upd_ne (Nat.ne_of_lt q3)]
      exact (hf c hcm).1
  done := by
    intro X hP hw hK hc i pins s σ H E I hf st hg
    subst hP hw hK
    obtain ⟨⟨old, he⟩, S⟩ := st
    obtain ⟨xs, ys, hqx, hqy, hend⟩ := hg
    obtain ⟨its, rv, p, _⟩ := I.tuple hqx
    obtain ⟨its2, rv2, p2, _⟩ := I.tuple hqy
    have l1 := rv.length
    refine enum_end (I.ok.hd hc) D he S (show s.heap.IsTuple a its.toArray from p) (show s.heap.IsTuple b its2.toArray from p2) (by rw [List.getElem?_toArray]; exact List.getElem?_eq_none (by omega)) fun h' hk => ⟨rfl, I.turnedL (t' := s.toks) (ch := [z, TO, i1, i2]) (fun c o hb q =>
      hk c o (fun q' => hb (by simp [q'])) (fun q' => hb (by simp [q'])) (fun q' => hb (by simp [q'])) (fun q' => hb (by simp [q'])) q) fun c hcm => hf c ?_⟩
    have e' : c = z ∨ c = TO ∨ c = i1 ∨ c = i2 := by simpa using hcm
    rcases e' with q | q | q | q <;> simp [q]
  self := fun A i s Q E st h => by
    obtain ⟨⟨old, he⟩, _⟩ := st
    exact wpAny_pyIter_enum he h
/-- enumerate(zip(e, e2)), both tuples -/
def iEZ (K : PySem.W.Frag) (ta : TA) : TI := fun σ H R => ta σ H fun vs H1 => ∃ a b xs ys, vs = [.ref a, .ref b] ∧ SqT K H1 a xs ∧ SqT K H1 b ys ∧ R (ItEZ K a b) H1
theorem pi_ez {X : Cx} {e e2 : Expr} {ta : TA} {p p2 pos pos2 tpos : Pos} {elts : List Expr} {kk : Nat} (hg : Gl X "zip") (hm : X.mg "zip" = none) (hg2 : Gl X "enumerate") (hm2 : X.mg "enumerate" = none) (ha : PA X [e, e2] ta)
    (hs : starEach [e, e2] X.env = (false, eval e X.env) :: starEach [e2] X.env := by rfl) (hpl : (backTo pos2 (starEach [e2] X.env)).any (·.1) = false := by rfl)
    (hs2 : starEach [.Call (.Name "zip" p2) [e, e2] [] pos2] X.env = [(false, eval (.Call (.Name "zip" p2) [e, e2] [] pos2) X.env)] := by rfl) :
    PI X (.Tuple elts kk tpos) (.Call (.Name "enumerate" p) [.Call (.Name "zip" p2) [e, e2] [] pos2] [] pos) (iEZ X.K ta) := by
  refine ⟨fun pins s σ H R I h => ?_⟩
  refine Call_ (ld_blt I hg2 hm2 boot_enumerate (PyProof.Rows.callWith_type1 ?_ hs2 rfl))
  rw [hs2]
  refine Calls.spliced_cons (Call_ (ld_blt I hg hm PyProof.Rows.boot_zip (PyProof.Rows.callWith_type1 (thn (ha.run pos2 pins s σ H _ I h) fun us s1 ⟨vs, H1, I1, r1, a, b, xs, ys, ex, hqx, hqy, q⟩ => ?_) hs hpl)))
  subst ex
  obtain ⟨u1, u2, rfl, ra, rb⟩ := vals2 r1
  obtain rfl : u1 = Value.ref a := ra
  obtain rfl : u2 = Value.ref b := rb
  obtain ⟨its, rv, p1, _⟩ := I1.tuple hqx
  obtain ⟨its2, rv2, p2, _⟩ := I1.tuple hqy
  obtain ⟨o1, ho1, _⟩ := id p1
  obtain ⟨o2, ho2, _⟩ := id p2
  refine RZ.call_zipT (show s1.heap.IsTuple a its.toArray from p1) (show s1.heap.IsTuple b its2.toArray from p2) fun h' hz hTI hTO h1 h2 hsz hk => Calls.spliced_nil (call_enum (s := { s1 with heap := h' }) hz fun h'' he hsz2 hk2 => wpAny_pyIter_enum he ?_)
  have I2 : Inv X pins σ H1 { s1 with heap := h'' } := I1.kept (t' := s1.toks) fun c o e => hk2 c o (hk c o e)
  have ap : h'.objs.size ∉ [s1.heap.objs.size + 4, s1.heap.objs.size + 2, s1.heap.objs.size + 3, s1.heap.objs.size, s1.heap.objs.size + 1] := by
    rw [hsz]
    simp
  refine ⟨h'.objs.size, [h'.objs.size, s1.heap.objs.size + 4, s1.heap.objs.size + 2, s1.heap.objs.size + 3, s1.heap.objs.size, s1.heap.objs.size + 1], _, _, H1, rfl, I2, turn_ez (PySem.W.ktu_apart s1.heap.objs.size a b (Heap.lt_size ho1) (Heap.lt_size ho2)) ap,
    ⟨⟨_, he⟩, ⟨⟨_, _, hk2 _ _ hz, .inl rfl⟩, hk2 _ _ hTI, ⟨_, _, hk2 _ _ hTO⟩, h1.at fun o e => hk2 _ o e, h2.at fun o e => hk2 _ o e⟩⟩, fun c hcm => ?_, q⟩
  have hle : s1.heap.objs.size ≤ c := by
    have e' : c = h'.objs.size ∨ c = s1.heap.objs.size + 4 ∨ c = s1.heap.objs.size + 2 ∨ c = s1.heap.objs.size + 3 ∨ c = s1.heap.objs.size ∨ c = s1.heap.objs.size + 1 := by simpa using hcm
    rcases e' with q | q | q | q | q | q
    · rw [q, hsz]
      exact Nat.le_add_right _ 5
    · rw [q]
      exact Nat.le_add_right _ _
    · rw [q]
      exact Nat.le_add_right _ _
    · rw [q]
      exact Nat.le_add_right _ _
    · rw [q]
      exact Nat.le_refl _
    · rw [q]
      exact Nat.le_add_right _ _
  exact I1.fpOk hle (I1.hok.fresh hle)
/-- as a Walk -/
theorem walk_ez {K : PySem.W.Frag} {a b : Addr} {xs ys : List V} (hl : xs.length = ys.length) : Walk (ItEZ K a b) xs.length (fun H => SqT K H a xs ∧ SqT K H b ys)
    (fun i H v H' => ∃ T U x y, v = .ref U ∧ H T = none ∧ upd H T (.tup [x, y]) U = none ∧ H' = upd (upd H T (.tup [x, y])) U (.tup [.int (i : Nat), .ref T]) ∧ xs[i]? = some x ∧ ys[i]? = some y) :=
  ⟨fun i H hi ⟨q1, q2⟩ => ⟨xs, ys, xs[i], ys[i]'(hl ▸ hi), q1, q2, by simp [hi], by simp [hl ▸ hi]⟩, fun H ⟨q1, q2⟩ => ⟨xs, ys, q1, q2, Nat.le_refl _⟩,
    fun i H v H' hi ⟨q1, q2⟩ ⟨T, U, x, y, e1, e2, e3, e4, e5, e6⟩ => ⟨T, U, x, y, e1, e2, e3, e4, e5 xs q1, e6 ys q2⟩⟩
end LbEZ
set_option maxHeartbeats 1000000
/-! first.py: first_places, first_stands, ends_of, serves_first. -/
namespace Lb
open PySem PySem.Spec PyProof.Rows L2
variable {P : Program} {w : World} {K : PySem.W.Frag} {mg : Str → Option Value} {base : Heap}
/-- what of a row its asks are: places and sizes, one for each -/
theorem ends_at {cl : List (Int × Int)} {B : Int} {ds : List Deed} (ok : RowOk cl B ds) {i : Nat} {p s : Int} (hp : (runF ds).places[i]? = some p) (hs : (asksOf ds)[i]? = some s) : ∃ l, (s, l) ∈ cl ∧ p + s ≤ l ∧ 0 ≤ p := by
  have R := ok.all
  rw [asksOf_eq] at hs
  obtain ⟨h1, e1⟩ := List.getElem?_eq_some_iff.mp hs
  obtain ⟨l, h2, h3, h4⟩ := R.ends i h1
  rw [List.getD_eq_getElem?_getD, hs] at h2
  rw [List.getD_eq_getElem?_getD, List.getD_eq_getElem?_getD, hp, hs] at h3
  rw [List.getD_eq_getElem?_getD, hp] at h4
  exact ⟨l, h2, h3, h4⟩
theorem len_at {cl : List (Int × Int)} {B : Int} {ds : List Deed} (ok : RowOk cl B ds) : (runF ds).places.length = (asksOf ds).length := by rw [asksOf_eq, ok.all.len]
theorem asks_len {cl : List (Int × Int)} {B : Int} {ds : List Deed} (ok : RowOk cl B ds) : (asksOf ds).length ≤ 1000 := Nat.le_trans (asksOf_le ds) ok.len
theorem get_int {ns : List Int} {i : Nat} {x : V} (h : (ns.map V.int)[i]? = some x) : ∃ n, ns[i]? = some n ∧ x = .int n := by
  rw [List.getElem?_map] at h
  cases e : ns[i]? with
  | none =>
    rw [e] at h
    cases h
  | some n =>
    rw [e] at h
    exact ⟨n, rfl, (Option.some.inj h).symm⟩
/-- the pool is great enough -/
def Fits (cl : List (Int × Int)) (pool : Int) : Prop := ∀ p ∈ cl, p.2 ≤ pool
/-! ### first_places -/
theorem scFPl : FnScope ["chain", "pool", "row", "places", "number", "place", "size"] ["chain", "pool", "row"] (gdef "first_places" 27).scope := ⟨rfl, rfl, rfl, by decide +kernel, rfl, by decide +kernel, by decide +kernel⟩
def spFPl : Sp := fun vs H Q _ => ∃ (c r : V) (pool : Int) (ds : List Deed) (cl : List (Int × Int)) (B : Int), vs = [c, .int pool, r] ∧ IsRow H r ds ∧ RowOk cl B ds ∧ Fits cl pool ∧ ∀ v H', Same H H' → IsCh H' v (runF ds).places → Q v H'
theorem ok_fpl (T : TX K mg) : Cal P w K mg base "first_places" 4 ["chain", "pool", "row"] spFPl := by
  refine T.ok (d := gdef "first_places" 27) 11 rfl (j := 37) rfl rfl rfl rfl scFPl (fun vs H Q E h => ?_) (fun _ _ _ _ _ _ us hl => match us, hl with | [_, _, _], _ => rfl) fun f cdv A outer s H vs Q E hr h => ?_
  · obtain ⟨c, r, pool, ds, cl, B, rfl, _⟩ := h
    rfl
  · obtain ⟨c, r, pool, ds, cl, B, rfl, hrow, ok, fits, k⟩ := h
    have hzip : mg "zip" = none := T.free 11
    have henum : mg "enumerate" = none := T.free 12
    have CP : Cal P w K mg base "played" 3 ["row"] spPlayed := ok_played T
    have CA : Cal P w K mg base "asks_of" 1 ["row"] spAsks := ok_asks T
    refine ⟨_, pss_cons (ps_set (i := 3) scFPl.nd rfl (.inl rfl) (pe_ix ix_tup (pe_cal CP hr (by rfl) (pa_cons (pv 2) pa_nil)) pe_int (fun _ _ => rfl)))
      (pss_cons (ps_for PassesOwn.never rfl (LbEZ.pi_ez (by rfl) hzip (by rfl) henum (pa_cons (pv 3) (pa_cons (pe_cal CA (hr.mono (by decide)) (by rfl) (pa_cons (pv 2) pa_nil)) pa_nil)))
          (pg_tup rfl (pgs_cons (pg_name (i := 4) scFPl.nd rfl (.inl rfl)) (pgs_cons (pg_tup rfl (pgs_cons (pg_name (i := 5) scFPl.nd rfl (.inl rfl)) (pgs_cons (pg_name (i := 6) scFPl.nd rfl (.inl rfl)) pgs_nil))) pgs_nil)))
        (pss_one (ps_if (pt_cmpR op_gt (pe_op op_add (pv 5) (pv 6)) (pv 1) (nomark _)) (pss_one ps_never) pss_nil)))
      (pss_one (ps_ret (pv 3)))), ?_⟩
    refine ⟨_, rfl, r, ds, cl, B, rfl, hrow, ok, fun v H1 s1 hv => ?_⟩
    obtain ⟨t, tp, ts, us, rfl, e1, e2, e3, e4⟩ := hv
    refine ⟨t, _, 0, .ref tp, rfl, rfl, SqT.of e1, atI_nat (j := 0) rfl, ?_⟩
    refine ⟨_, rfl, _, rfl, r, ds, rfl, IsRow.keep (TK.of s1) hrow, ok.len, fun vz H2 s2 hz => ?_⟩
    obtain ⟨tz, rfl, hz⟩ := hz
    have hl : ((runF ds).places.map V.int).length = ((asksOf ds).map V.int).length := by rw [List.length_map, List.length_map, len_at ok]
    refine ⟨tp, tz, _, _, rfl, SqT.of (s2 _ _ e2), SqT.of hz, ?_⟩
    refine for_it (LbEZ.walk_ez hl) (fun i σ H' => ∃ (y1 y2 y3 : Option V), σ = [some c, some (.int pool), some r, some (.ref tp), y1, y2, y3] ∧ Same H2 H') ⟨none, none, none, rfl, Same.refl _⟩ (fun i σ H' _ ⟨_, _, _, _, sm⟩ => ⟨SqT.of (sm _ _ (s2 _ _ e2)), SqT.of (sm _ _ hz)⟩) ?_ ?_
    · rintro i v σ H' H'' hi ⟨y1, y2, y3, rfl, sm⟩ ⟨T1, U, x, y, rfl, n1, n2, rfl, hx, hy⟩
      obtain ⟨p, hp, rfl⟩ := get_int hx
      obtain ⟨z, hz2, rfl⟩ := get_int hy
      obtain ⟨l, q1, q2, q3⟩ := ends_at ok hp hz2
      have nTU : T1 ≠ U := fun q => by
        rw [← q, upd_same] at n2
        cases n2
      refine ⟨U, _, rfl, SqT.of upd_same, rfl, _, _, rfl, _, _, rfl, ⟨T1, _, rfl, SqT.of (by rw [upd_ne nTU, upd_same]), rfl, _, _, rfl, _, _, rfl, rfl, rfl, ?_⟩⟩
      refine ⟨_, rfl, _, rfl, _, _, rfl, rfl, _, rfl, _, _, rfl, rfl, _, rfl, ?_⟩
      have hc : ¬ pool < p + z := by
        have : l ≤ pool := fits _ q1
        omega
      rw [decide_eq_false hc]
      refine iteF ⟨_, _, _, rfl, sm.trans ((Same.new n1).trans (Same.new n2))⟩
    · rintro σ H' ⟨y1, y2, y3, rfl, sm⟩
      exact ⟨_, rfl, k _ _ (s1.trans (s2.trans sm)) ⟨tp, rfl, sm _ _ (s2 _ _ e2)⟩⟩
/-! ### first_stands -/
theorem scFSt : FnScope ["chain", "pool", "row"] ["chain", "pool", "row"] (gdef "first_stands" 28).scope := ⟨rfl, rfl, rfl, by decide +kernel, rfl, by decide +kernel, by decide +kernel⟩
def spFSt : Sp := fun vs H Q _ => ∃ (c r : V) (pool : Int) (ds : List Deed) (cl : List (Int × Int)) (B : Int), vs = [c, .int pool, r] ∧ IsRow H r ds ∧ RowOk cl B ds ∧ Fits cl pool ∧
  ∀ ts us H', Same H H' → H' ts = some (.lst us) → Paired (IsSt H') us (runF ds).stands → Q (.ref ts) H'
theorem ok_fst (T : TX K mg) : Cal P w K mg base "first_stands" 5 ["chain", "pool", "row"] spFSt := by
  refine T.ok (d := gdef "first_stands" 28) 12 rfl (j := 38) rfl rfl rfl rfl scFSt (fun vs H Q E h => ?_) (fun _ _ _ _ _ _ us hl => match us, hl with | [_, _, _], _ => rfl) fun f cdv A outer s H vs Q E hr h => ?_
  · obtain ⟨c, r, pool, ds, cl, B, rfl, _⟩ := h
    rfl
  · obtain ⟨c, r, pool, ds, cl, B, rfl, hrow, ok, fits, k⟩ := h
    have CP : Cal P w K mg base "played" 3 ["row"] spPlayed := ok_played T
    have CF : Cal P w K mg base "first_places" 4 ["chain", "pool", "row"] spFPl := ok_fpl T
    refine ⟨_, pss_cons (ps_expr (pe_cal CF hr (by rfl) (pa_cons (pv 0) (pa_cons (pv 1) (pa_cons (pv 2) pa_nil)))))
      (pss_one (ps_ret (pe_ix ix_tup (pe_cal CP (hr.mono (by decide)) (by rfl) (pa_cons (pv 2) pa_nil)) pe_int (fun _ _ => rfl)))), ?_⟩
    refine ⟨_, rfl, _, rfl, _, rfl, c, r, pool, ds, cl, B, rfl, hrow, ok, fits, fun v H1 s1 hv => ?_⟩
    refine ⟨_, rfl, r, ds, cl, B, rfl, IsRow.keep (TK.of s1) hrow, ok, fun v H2 s2 hv => ?_⟩
    obtain ⟨t, tp, ts, us, rfl, e1, e2, e3, e4⟩ := hv
    exact ⟨t, _, 1, .ref ts, rfl, rfl, SqT.of e1, atI_nat (j := 1) rfl, k _ _ _ (s1.trans s2) e3 e4⟩
/-! ### ends_of -/
theorem walk_zipT {a b : Addr} {xs ys : List V} (hl : xs.length = ys.length) : Walk (RZ.ItzT K a b) xs.length (fun H => SqT K H a xs ∧ SqT K H b ys) (YPair (fun i => xs[i]?) (fun i => ys[i]?)) :=
  ⟨fun i H hi ⟨q1, q2⟩ => ⟨xs, ys, xs[i], ys[i]'(hl ▸ hi), q1, q2, by simp [hi], by simp [hl ▸ hi]⟩, fun H ⟨q1, q2⟩ => ⟨xs, ys, q1, q2, .inl (Nat.le_refl _)⟩,
    fun i H v H' hi ⟨q1, q2⟩ ⟨T, x, y, e1, e2, e3, e5, e6⟩ => ⟨T, x, y, e1, e2, e3, e5 xs q1, e6 ys q2⟩⟩
def endsOf (ds : List Deed) : List Int := List.zipWith (fun p s => p + s) (runF ds).places (asksOf ds)
theorem endsOf_len (ds : List Deed) : (endsOf ds).length ≤ (asksOf ds).length := by
  unfold endsOf
  rw [List.length_zipWith]
  exact Nat.min_le_right _ _
theorem scEnds : FnScope ["row", "place", "size"] ["row"] (gdef "ends_of" 29).scope := ⟨rfl, rfl, rfl, by decide +kernel, rfl, by decide +kernel, by decide +kernel⟩
def spEnds : Sp := fun vs H Q _ => ∃ (r : V) (ds : List Deed) (cl : List (Int × Int)) (B : Int), vs = [r] ∧ IsRow H r ds ∧ RowOk cl B ds ∧ ∀ l H', Same H H' → H' l = some (.lst ((endsOf ds).map V.int)) → Q (.ref l) H'
theorem ok_ends (T : TX K mg) : Cal P w K mg base "ends_of" 4 ["row"] spEnds := by
  refine T.ok (d := gdef "ends_of" 29) 13 rfl (j := 39) rfl rfl rfl rfl scEnds (fun vs H Q E h => ?_) (fun _ _ _ _ _ _ us hl => match us, hl with | [_], _ => rfl) fun f cdv A outer s H vs Q E hr h => ?_
  · obtain ⟨r, ds, cl, B, rfl, _⟩ := h
    rfl
  · obtain ⟨r, ds, cl, B, rfl, hrow, ok, k⟩ := h
    have hzip : mg "zip" = none := T.free 11
    have CP : Cal P w K mg base "played" 3 ["row"] spPlayed := ok_played T
    have CA : Cal P w K mg base "asks_of" 1 ["row"] spAsks := ok_asks T
    refine ⟨_, pss_one (ps_ret (pe_lc (own := [("place", 1), ("size", 2)]) (g := gTup K 2 (gCons (gName 1) (gCons (gName 2) gNil))) (tt := tYes) rfl scEnds.nd
      (RZ.pi_zipA (by rfl) hzip (pa_cons (pe_ix ix_tup (pe_cal CP hr (by rfl) (pa_cons (pv 0) pa_nil)) pe_int (fun _ _ => rfl)) (pa_cons (pe_cal CA (hr.mono (by decide)) (by rfl) (pa_cons (pv 0) pa_nil)) pa_nil)))
      (blkOk_by (N := ["row", "place", "size"]) (sc := (gdef "ends_of" 29).scope) (by decide +kernel))
      (fun _ _ _ _ _ => pg_tup rfl (pgs_cons (pg_name (i := 1) scEnds.nd rfl (Or.inl rfl)) (pgs_cons (pg_name (i := 2) scEnds.nd rfl (Or.inl rfl)) pgs_nil))) (fun _ _ _ _ _ => pts_nil) (fun _ _ _ _ _ => pe_op op_add (pv 1) (pv 2)))), ?_⟩
    refine ⟨_, rfl, r, ds, cl, B, rfl, hrow, ok, fun v H1 s1 hv => ?_⟩
    obtain ⟨t, tp, ts, us, rfl, e1, e2, e3, e4⟩ := hv
    refine ⟨t, _, 0, .ref tp, rfl, rfl, SqT.of e1, atI_nat (j := 0) rfl, _, rfl, r, ds, rfl, IsRow.keep (TK.of s1) hrow, ok.len, fun vz H2 s2 hz => ?_⟩
    obtain ⟨tz, rfl, hz⟩ := hz
    have hl : ((runF ds).places.map V.int).length = ((asksOf ds).map V.int).length := by rw [List.length_map, List.length_map, len_at ok]
    refine ⟨tp, tz, _, _, rfl, .inr ⟨SqT.of (s2 _ _ e2), SqT.of hz, fun D nD => ?_⟩⟩
    refine lc_it (walk_zipT hl) (fun i H' => Same H2 H' ∧ H' D = some (.lst (((endsOf ds).take i).map V.int))) ⟨Same.new nD, upd_same⟩ (fun i H' _ ⟨sm, _⟩ => ⟨SqT.of (sm _ _ (s2 _ _ e2)), SqT.of (sm _ _ hz)⟩) ?_ ?_
    · rintro i v H' H'' hi ⟨sm, eD⟩ ⟨T1, x, y, rfl, n1, rfl, hx, hy⟩
      obtain ⟨p, hp, rfl⟩ := get_int hx
      obtain ⟨z, hz2, rfl⟩ := get_int hy
      have hi2 : (endsOf ds)[i]? = some (p + z) := by
        unfold endsOf
        rw [List.getElem?_zipWith, hp, hz2]
      have nDT : D ≠ T1 := ne_of_none eD n1
      refine ⟨T1, _, rfl, SqT.of upd_same, rfl, _, _, rfl, _, _, rfl, rfl, rfl, ?_⟩
      refine ⟨_, rfl, _, rfl, _, _, rfl, rfl, _, by rw [upd_ne nDT]; exact eD, ?_, (sm.trans (Same.new n1)).put nD, ?_⟩
      · rw [List.length_map, List.length_take]
        have := endsOf_len ds
        have := asks_len ok
        exact small (by omega)
      · rw [upd_same, List.take_add_one, hi2, List.map_append]
        rfl
    · rintro H' ⟨sm, eD⟩
      rw [List.length_map, List.take_of_length_le (by rw [len_at ok]; exact endsOf_len ds)] at eD
      exact k _ _ (s1.trans (s2.trans sm)) eD
/-! ### serves_first -/
theorem scServes : FnScope ["chain", "pool", "row"] ["chain", "pool", "row"] (gdef "serves_first" 30).scope := ⟨rfl, rfl, rfl, by decide +kernel, rfl, by decide +kernel, by decide +kernel⟩
def spServes : Sp := fun vs H Q _ => ∃ (c r : V) (pool : Int) (ds : List Deed) (cl : List (Int × Int)) (B : Int), vs = [c, .int pool, r] ∧ IsRow H r ds ∧ RowOk cl B ds ∧ ∀ H', Same H H' → Q (.bl (decide (maxL (endsOf ds) ≤ pool))) H'
theorem ok_serves (T : TX K mg) : Cal P w K mg base "serves_first" 5 ["chain", "pool", "row"] spServes := by
  refine T.ok (d := gdef "serves_first" 30) 14 rfl (j := 40) rfl rfl rfl rfl scServes (fun vs H Q E h => ?_) (fun _ _ _ _ _ _ us hl => match us, hl with | [_, _, _], _ => rfl) fun f cdv A outer s H vs Q E hr h => ?_
  · obtain ⟨c, r, pool, ds, cl, B, rfl, _⟩ := h
    rfl
  · obtain ⟨c, r, pool, ds, cl, B, rfl, hrow, ok, k⟩ := h
    have hmax : mg "max" = none := T.free 8
    have CE : Cal P w K mg base "ends_of" 4 ["row"] spEnds := ok_ends T
    refine ⟨_, pss_one (ps_ret (pe_cmpR op_le (pe_callB (cr_max rfl) (by rfl) hmax (by decide +kernel) (pa_cons (pe_lst (pa_cons pe_int (StX.pa_star (pe_cal CE hr (by rfl) (pa_cons (pv 2) pa_nil)) pa_nil))) pa_nil)) (pv 1) (nomark _))), ?_⟩
    refine ⟨_, rfl, r, ds, cl, B, rfl, hrow, ok, fun lv H1 s1 hv => ?_⟩
    refine ⟨lv, _, rfl, .inr (SqL.of hv), ?_, fun l nl => ?_⟩
    · have := endsOf_len ds
      have := asks_len ok
      simp
      exact Nat.le_of_lt (small (by omega))
    · refine ⟨l, 0 :: endsOf ds, rfl, ?_, Nat.succ_pos _, fun m hm hle => ?_⟩
      · rw [List.append_nil]
        exact SqL.of upd_same
      · rw [maxL_uniq hm hle]
        exact ⟨_, rfl, _, _, rfl, rfl, k _ (s1.trans (Same.new nl))⟩
end Lb
/-! Rules that the layer has not: attributes as targets, own __getitem__, len of an own object, the index of a tuple, dicts by ** and of pairs. -/
namespace LbO
open PySem PySem.Spec PyProof.Rows L2
/-! ### attributes among targets -/
/-- e.f, a slot, as a target -/
def gSl (K : PySem.W.Frag) (ta : TE) (f : Str) : TG := fun v σ H Q => ta σ H fun x H1 => ∃ a C dx p vs i, x = .ref a ∧ SlX.Slt H1 a C dx vs ∧ SlX.SCls K C ∧ SlX.Slot1 K C f p i ∧ Q σ (SlX.slH H1 a C dx (SlX.putS i v vs))
/-- e.f, in an instance's dict, as a target -/
def gFld (K : PySem.W.Frag) (ta : TE) (f : Str) : TG := fun v σ H Q => ta σ H fun x H1 => ∃ a C dx fs, x = .ref a ∧ H1 a = some (.ins C dx fs) ∧ Cls K C ∧ NoAttr K C f ∧ fs.length < 1000 ∧ Q σ (upd H1 a (.ins C dx (putF f v fs)))
section
variable {X : Cx} {o e i : Expr} {f m : Str} {pos : Pos} {ta to ti : TE}
theorem pg_sl (he : PE X e ta) (hs : ∀ v, assign (.Attribute e f pos) X.env v = (do
      let ov ← holding [v] (eval e X.env)
      standAt pos.atName
      holding [v, ov] (setAttr ov f v)
      release [v, ov] []) := by intro _; rfl) : PG X (.Attribute e f pos) (gSl X.K ta f) := by
  refine ⟨fun pins s σ H v u Q I r h => ?_⟩
  rw [hs]
  refine wpAny_bind (wpAny_holding (thn (he.run pins s σ H _ I h) fun ov s1 ⟨x, H1, I1, rx, a, C, dx, p, vs, i, ex, hsl, c, t, q⟩ => ?_))
  subst ex
  obtain rfl : ov = Value.ref a := rx
  refine wpAny_bind (wpAny_standAt (wpAny_bind (wpAny_holding (SlX.setslot_ok I1 hsl c t r fun s3 I3 => ?_))))
  exact wpAny_release ⟨σ, _, I3, q⟩
theorem pg_fld (he : PE X e ta) (hs : ∀ v, assign (.Attribute e f pos) X.env v = (do
      let ov ← holding [v] (eval e X.env)
      standAt pos.atName
      holding [v, ov] (setAttr ov f v)
      release [v, ov] []) := by intro _; rfl) : PG X (.Attribute e f pos) (gFld X.K ta f) := by
  refine ⟨fun pins s σ H v u Q I r h => ?_⟩
  rw [hs]
  refine wpAny_bind (wpAny_holding (thn (he.run pins s σ H _ I h) fun ov s1 ⟨x, H1, I1, rx, a, C, dx, fs, ex, ha, c, n, hl, q⟩ => ?_))
  subst ex
  obtain rfl : ov = Value.ref a := rx
  refine wpAny_bind (wpAny_standAt (wpAny_bind (wpAny_holding (setattr_ok I1 ha c n hl r fun s3 I3 => ?_))))
  exact wpAny_release ⟨σ, _, I3, q⟩
end
/-! ### o[i] by a def of the class -/
def tIxOwn (C : Addr) (sp : Sp) (E : XK) (to ti : TE) : TE := fun σ H Q => to σ H fun x H1 => ti σ H1 fun y H2 => ∃ a dx fs, x = .ref a ∧ H2 a = some (.ins C dx fs) ∧ sp [x, y] H2 Q E
section
variable {X : Cx} {o e i : Expr} {f m : Str} {pos : Pos} {ta to ti : TE} {CX : CXT} {k : Nat} {C g : Addr} {sp : Sp} {E : XK}
theorem pe_ixOwn (ho : PE X o to) (hi : PE X i ti) (hg : Meth X.K C "__getitem__" g) (fi : PySem.W.fnIn X.K g = true) (F : FnR X.prog X.w X.K X.mg X.base CX k g sp) (hr : Room (k + 1) X.A) (hx : Passes CX X E)
    (hsl : ∀ x j, subscripted i true (.ref x) j = runValue (.builtin "lifetime.subscript" ⟨[.ref x, j], []⟩) := by intro _ _; with_unfolding_all rfl) : PE X (.Subscript o i pos) (tIxOwn C sp E to ti) := by
  refine ⟨fun pins s σ H Q I h => ?_⟩
  refine Subscript_ (thn (ho.run pins s σ H _ I h) fun u s1 ⟨x, H1, I1, rx, q1⟩ => thn (hi.run pins s1 σ H1 _ I1 q1) fun j s2 ⟨y, H2, I2, ry, a, dx, fs, ex, ha, q2⟩ => ?_)
  subst ex
  obtain rfl : u = Value.ref a := rx
  obtain ⟨mA, O, _⟩ := ins_get I2.hok ha
  obtain ⟨od, J, _⟩ := O.look
  obtain ⟨mm, hF⟩ := I2.fr
  refine PySem.W.sub_K hF I2.ok.mod.kin J hg.at_ fi hg.fn ?_ (hsl a j)
  exact wpAny_call (SlX.run_at (us := [.ref a, j]) (ws := [.ref a, y]) F hr.in1 I2.env0.in1 hx I2 (.cons rfl (.cons ry .nil)) q2)
/-- len(o), o an instance with slots, by its class's __len__ -/
theorem call_lenOwn (hs : Meth X.K C "__len__" g) (F : FnR X.prog X.w X.K X.mg X.base CX k g sp) (hr : Room (k + 1) X.A) (hx : Passes CX X E) : CallR X (.builtin "len") (fun xs H Q => ∃ a dx vs, xs = [V.ref a] ∧ SlX.Slt H a C dx vs ∧ sp [.ref a] H (fun z H' => ∃ n : Nat, z = .int n ∧ n ≤ sizeLine ∧ Q (.int n) H') E) := by
  intro pins s σ H xs us Q I r h
  obtain ⟨a, dx, vs, rfl, hsl, q⟩ := h
  obtain ⟨u, rfl, ru⟩ := r.one
  cases (show u = Value.ref a from ru)
  obtain ⟨sl, od, _, J, _⟩ := SlX.slt_inst I hsl
  refine Calls.call_function_entry kind_len plain_len entry_len (args_len1 _) ?_
  unfold Builtin.«len»
  refine wpAny_bind (m := oneArg "len" _) (wpAny_pure ?_)
  refine wpAny_bind (m := callSpecial? (.ref a) (PySem.Str.ofString "__len__")) (PySem.W.special_fn I.kIn J hs.at_ (beq_iff_eq.mp hs.fn) ?_)
  refine wpAny_mono (wpAny_call (SlX.run_at (us := [.ref a]) (ws := [.ref a]) F hr.in1 I.env0.in1 hx I (.cons rfl .nil) q)) (fun w s' z => ?_) fun _ _ x => x
  obtain ⟨z', H', I', rz, n, ez, hn, qz⟩ := z
  subst ez
  obtain ⟨t, ew⟩ := (show ∃ t, w = Value.int n t from rz)
  subst ew
  have hz : sizeLine = 16777216 := sizeLine_eq
  refine wpAny_bind (wpAny_holding (wpAny_pure ?_))
  refine wpAny_bind (wpAny_letGo ?_)
  show wpAny _ _ (if ((n : Nat) : Int) < 0 then _ else _) _ _ _
  rw [if_neg (by omega)]
  show wpAny _ _ (if ((n : Nat) : Int) ≥ 2 ^ 63 then _ else _) _ _ _
  rw [if_neg (by omega)]
  exact wpAny_bind (wpAny_mkInt (wpAny_pure ⟨_, rfl, .int n, H', I'.tok _, ⟨_, rfl⟩, qz⟩))
end
/-! ### tuples locked as they are made, and their index -/
def tTupF (t : TA) : TE := fun σ H Q => t σ H fun xs H1 => xs.length ≤ sizeLine ∧ ∀ (p : Addr) (ob : Obj), H1 p = none → ob.dict = none → Q (.ref p) (upd H1 p (.frz ob (.tup xs)))
section
variable {X : Cx} {es : List Expr} {pos : Pos} {t : TA}
theorem pe_tupF {x1} (h : PA X es t) : PE X (.Tuple es x1 pos) (tTupF t) := by
  refine ⟨fun pins s σ H Q I hq => ?_⟩
  refine wpAny_Tuple_spliced (thn (h.run pos pins s σ H _ I hq) fun us s1 ⟨xs, H1, I1, r, z, q⟩ => ⟨by rw [← r.length]; exact z, ?_⟩)
  have hf : H1 s1.heap.objs.size = none := I1.hok.fresh (Nat.le_refl _)
  refine ⟨.ref s1.heap.objs.size, upd H1 s1.heap.objs.size (.frz { cls := .type "tuple", data := .seq us.toArray } (.tup xs)), I1.laid (t' := s1.toks) (fun b u e => Heap.get?_push_of_some _ e) (Nat.le_refl _) ?_, rfl, q _ _ hf rfl⟩
  exact ⟨Heap.get?_push_size _ rfl, z, us, r, ⟨_, Heap.get?_push_size _ rfl, rfl, _, rfl⟩⟩
end
/-- tuple(xs) of a list: a new tuple, locked -/
theorem call_tupleF {X : Cx} : CallR X (.type "tuple") (fun xs H Q => ∃ p ys, xs = [.ref p] ∧ SqL X.K H p ys ∧ ∀ (l : Addr) (ob : Obj), H l = none → ob.dict = none → Q (.ref l) (upd H l (.frz ob (.tup ys)))) := by
  intro pins s σ H xs us Q I r h
  obtain ⟨p, ys, rfl, hq, q⟩ := h
  obtain ⟨u, rfl, rx⟩ := vals1 r
  cases rx
  obtain ⟨its, r', pl, hz⟩ := I.list hq
  have hlen := r'.length
  refine call_tuple_list pl.isList (fun h' kp => ?_) (by simp only [List.size_toArray] <;> omega)
  have I1 : Inv X pins σ H { s with heap := h' } := I.kept (t' := s.toks) kp
  have hf : H h'.objs.size = none := I1.hok.fresh (Nat.le_refl _)
  refine ⟨.ref h'.objs.size, upd H h'.objs.size (.frz { cls := .type "tuple", data := .seq its.toArray } (.tup ys)), I1.laid (t' := s.toks) (fun b u e => Heap.get?_push_of_some _ e) (Nat.le_refl _) ?_, rfl, q _ _ hf rfl⟩
  exact ⟨Heap.get?_push_size _ rfl, hz, its, r', ⟨_, Heap.get?_push_size _ rfl, rfl, _, rfl⟩⟩
theorem ints_are : ∀ {ns : List Int} {us : List Value}, Vals (ns.map V.int) us → IntsAre us ns
  | [], _, r => by
    cases r
    exact .nil
  | n :: ns, _, r => by
    cases r with
    | cons h t =>
      obtain ⟨tk, e⟩ := (show ∃ tk, _ = Value.int n tk from h)
      subst e
      exact .cons n tk (ints_are t)
/-- t.index(n) -/
def tIdxF (to : TE) (t : TA) : TE := fun σ H Q => to σ H fun x H1 => ∃ (p : Addr) (ob : Obj) (ns : List Int), x = .ref p ∧ H1 p = some (.frz ob (.tup (ns.map V.int))) ∧ ob.dict = none ∧
  t σ H1 fun ys H2 => ∃ n : Int, ys = [.int n] ∧ H2 p = some (.frz ob (.tup (ns.map V.int))) ∧ n ∈ ns ∧ Q (.int (ns.idxOf n : Nat)) H2
section
variable {X : Cx} {o e : Expr} {apos cpos : Pos} {to te : TE} {t : TA}
theorem pe_index (ho : PE X o to) (ha : PA X [e] t)
    (hbase : attributeBase o "index" X.env (eval o X.env) = eval o X.env := by rfl)
    (hfew : ((backTo cpos (starEach [e] X.env)).all (fun x => !x.1) && (backToKw cpos (keywordEach [] X.env)).all (fun x => x.1.isSome)
      && decide ([e].length + ([] : List Keyword).length + (if ([] : List Keyword).isEmpty then 0 else 1) < 30)) = true := by rfl)
    (hline : (apos.endLine == cpos.line) = true := by rfl) (hs : starEach [e] X.env = (false, eval e X.env) :: starEach [] X.env := by rfl) (hplain : (backTo cpos (starEach [] X.env)).any (·.1) = false := by rfl) :
    PE X (.Call (.Attribute o "index" apos) [e] [] cpos) (tIdxF to t) := by
  refine ⟨fun pins s σ H Q I h => ?_⟩
  refine wpAny_Call_method_late hbase hfew hline rfl (thn (ho.run pins s σ H _ I h) fun v s1 ⟨x, H1, I1, r1, p, ob, ns, ex, hp, hd, q1⟩ => ?_)
  subst ex
  obtain rfl : v = Value.ref p := r1
  obtain ⟨e1, zl, its, rv, o2, g1, g2, g3⟩ := (show ObjOk X.prog X.w H1 s1.heap p (.frz ob (.tup (ns.map V.int))) from I1.hok p _ hp)
  have eo : ob = o2 := Option.some.inj (e1.symm.trans g1)
  refine ⟨"tuple", "tuple.index", PySem.F.plainAttrs_tuple, PySem.F.slot_tuple_index, PySem.F.type_tuple_index, ⟨ob, e1, by rw [eo]; exact g2⟩, fun a ea => ?_, ?_⟩
  · cases ea
    exact ⟨ob, e1, hd⟩
  have hA := ha.run cpos pins s1 σ H1 _ I1 q1
  rw [hs] at hA ⊢
  refine Calls.callWith_builtin (by show (false || (backTo cpos (starEach [] X.env)).any (·.1)) = false; rw [hplain] <;> rfl) (Calls.evalArgs_plain ?_)
  refine thn hA fun us s2 ⟨ys, H2, I2, r2, n, ey, hp2, hn, q2⟩ => ?_
  subst ey
  obtain ⟨u, eu, ru⟩ := r2.one
  subst eu
  obtain ⟨tk, eu⟩ := (show ∃ tk, u = Value.int n tk from ru)
  subst eu
  obtain ⟨_, zl2, its2, rv2, o3, g4, g5, m, g6⟩ := (show ObjOk X.prog X.w H2 s2.heap p (.frz ob (.tup (ns.map V.int))) from I2.hok p _ hp2)
  have ht : s2.heap.IsTuple p its2.toArray := ⟨o3, g4, g5, m, g6⟩
  exact PySem.SeqAt.tuple_index_ints (t := tk) ht (ints_are rv2) hn ⟨.int (ns.idxOf n : Nat), H2, I2.tok _, ⟨_, rfl⟩, q2⟩
end
end LbO
/-! plain.tupled, changes.lent, changes.without_block. -/
namespace Lb
open PySem PySem.Spec PyProof.Rows L2
variable {P : Program} {w : World} {K : PySem.W.Frag} {mg : Str → Option Value} {base : Heap}
/-- an expression that is never come to -/
def tNev : TE := fun _ _ _ => False
theorem pe_nev {X : Cx} {e : Expr} : PE X e tNev := ⟨fun _ _ _ _ _ _ h => h.elim⟩
theorem ty_sq {H : Hp} {a : Addr} {xs : List V} (h : SqT K H a xs) : TyX K H (.ref a) (.type "tuple") := by
  rcases h with h | ⟨o, its, n, h, hc, _⟩
  · rcases h with h | ⟨o, h⟩
    · exact .base (.tup h)
    · exact .fTuple h
  · exact .kTuple h hc
theorem kit2F : PySem.W.kitAny K (.type "int") [.type "list", .type "tuple"] = some false :=
  kitAny_cons (b := false) (kit_ty (by decide +kernel)) (fun _ => kitAny_cons (b := false) (kit_ty (by decide +kernel)) (fun _ => rfl) (fun z => nomatch z)) (fun z => nomatch z)
theorem kit2T : PySem.W.kitAny K (.type "tuple") [.type "list", .type "tuple"] = some true :=
  kitAny_cons (b := false) (kit_ty (by decide +kernel)) (fun _ => kitAny_cons (b := true) (kit_ty (by decide +kernel)) (fun z => nomatch z) (fun _ => rfl)) (fun _ => rfl)
/-! ### tupled -/
theorem scTup : FnScope ["value", "part"] ["value"] (gdef "tupled" 12).scope := ⟨rfl, rfl, rfl, by decide +kernel, rfl, by decide +kernel, by decide +kernel⟩
def spTup0 : Sp := fun vs H Q _ => ∃ n : Int, vs = [.int n] ∧ ∀ H', Same H H' → Q (.int n) H'
theorem ok_tup0 (T : TX K mg) : Cal P w K mg base "tupled" 1 ["value"] spTup0 := by
  refine T.ok (d := gdef "tupled" 12) 1 rfl (j := 27) rfl rfl rfl rfl scTup (fun vs H Q E h => ?_) (fun _ _ _ _ _ _ us hl => match us, hl with | [_], _ => rfl) fun f cdv A outer s H vs Q E hr h => ?_
  · obtain ⟨n, rfl, _⟩ := h
    rfl
  · obtain ⟨n, rfl, k⟩ := h
    have hi : mg "isinstance" = none := T.free 1
    have hlst : mg "list" = none := T.free 4
    have htup : mg "tuple" = none := T.free 5
    refine ⟨_, pss_one (ps_ret (pe_ifExp (pt_val (pe_callB call_isiT (by rfl) hi (by decide +kernel) (pa_cons (pv 0) (pa_cons (pe_tup (pa_cons (pe_bltn (v := .ty "list") (by rfl) hlst (by decide +kernel) rfl) (pa_cons (pe_bltn (v := .ty "tuple") (by rfl) htup (by decide +kernel) rfl) pa_nil))) pa_nil))))
      pe_nev (pv 0))), ?_⟩
    refine ⟨_, rfl, by show 2 ≤ sizeLine; decide, fun p np => ⟨_, p, _, _, [.type "list", .type "tuple"], false, rfl, upd_same, .cons (.ty _) (.cons (.ty _) .nil), ty_int, kit2F, false, rfl, iteF ⟨_, rfl, k _ (Same.new np)⟩⟩⟩
def spTup1 (K : PySem.W.Frag) : Sp := fun vs H Q _ => ∃ (a : Addr) (ns : List Int), vs = [.ref a] ∧ SqT K H a (ns.map V.int) ∧ ns.length ≤ 1000 ∧ ∀ v H', Same H H' → IsCF H' v ns → Q v H'
theorem sq_same {H H' : Hp} {a : Addr} {xs : List V} (s : Same H H') (h : SqT K H a xs) : SqT K H' a xs := by
  rcases h with h | h
  · refine .inl ?_
    rcases h with h | ⟨o, h⟩
    · exact .inl (s _ _ h)
    · exact .inr ⟨o, s _ _ h⟩
  · exact .inr h
theorem ok_tup1 (T : TX K mg) : Cal P w K mg base "tupled" 2 ["value"] (spTup1 K) := by
  refine T.ok (d := gdef "tupled" 12) 1 rfl (j := 27) rfl rfl rfl rfl scTup (fun vs H Q E h => ?_) (fun _ _ _ _ _ _ us hl => match us, hl with | [_], _ => rfl) fun f cdv A outer s H vs Q E hr h => ?_
  · obtain ⟨a, n, rfl, _⟩ := h
    rfl
  · obtain ⟨a, ns, rfl, hq, hlen, k⟩ := h
    have hi : mg "isinstance" = none := T.free 1
    have hlst : mg "list" = none := T.free 4
    have htup : mg "tuple" = none := T.free 5
    have CT : Cal P w K mg base "tupled" 1 ["value"] spTup0 := ok_tup0 T
    refine ⟨_, pss_one (ps_ret (pe_ifExp (pt_val (pe_callB call_isiT (by rfl) hi (by decide +kernel) (pa_cons (pv 0) (pa_cons (pe_tup (pa_cons (pe_bltn (v := .ty "list") (by rfl) hlst (by decide +kernel) rfl) (pa_cons (pe_bltn (v := .ty "tuple") (by rfl) htup (by decide +kernel) rfl) pa_nil))) pa_nil))))
      (pe_callTy LbO.call_tupleF (by rfl) htup (by decide +kernel) (pa_cons (pe_lc (own := [("part", 1)]) (g := gName 1) (tt := tYes) rfl scTup.nd (pi_tup (pv 0)) (blkOk_by (N := ["value", "part"]) (sc := (gdef "tupled" 12).scope) (by decide +kernel))
          (fun _ _ _ _ _ => pg_name (i := 1) scTup.nd rfl (Or.inl rfl)) (fun _ _ _ _ _ => pts_nil) (fun _ _ _ _ _ => pe_cal CT hr (by rfl) (pa_cons (pv 1) pa_nil))) pa_nil)) (pv 0))), ?_⟩
    refine ⟨_, rfl, by show 2 ≤ sizeLine; decide, fun p np => ⟨_, p, _, _, [.type "list", .type "tuple"], true, rfl, upd_same, .cons (.ty _) (.cons (.ty _) .nil), ty_sq (sq_same (Same.new np) hq), kit2T, true, rfl, iteT ?_⟩⟩
    have s0 : Same H (upd H p (.tup [.ty "list", .ty "tuple"])) := Same.new np
    refine ⟨_, rfl, a, rfl, ⟨_, sq_same s0 hq⟩, fun D nD => ?_⟩
    refine lc_tup (K := K) (a := a) (xs := ns.map V.int) (fun i H' => Same H H' ∧ H' D = some (.lst ((ns.take i).map V.int))) ⟨s0.trans (Same.new nD), by rw [upd_same]; rfl⟩ ?_ ?_ ?_
    · rintro i H' _ ⟨sm, _⟩
      exact sq_same sm hq
    · rintro i x H' hx ⟨sm, eD⟩
      obtain ⟨n, hn, rfl⟩ := get_int hx
      refine ⟨rfl, ?_⟩
      refine ⟨_, rfl, n, rfl, fun H2 s2 => ⟨_, s2 _ _ eD, ?_, ?_, ?_⟩⟩
      · rw [List.length_map, List.length_take]
        exact small (by omega)
      · exact (sm.trans s2).put (s0.free nD)
      · rw [upd_same, List.take_add_one, hn, List.map_append]
        rfl
    · rintro H' ⟨sm, eD⟩
      rw [List.length_map, List.take_length] at eD
      exact ⟨D, _, rfl, SqL.of eD, fun l ob nl ho => k _ _ (sm.trans (Same.new nl)) ⟨l, ob, rfl, upd_same, ho⟩⟩
/-! ### lent -/
theorem scLent : FnScope ["chain", "pool", "stand", "size", "first"] ["chain", "pool", "stand", "size"] (gdef "lent" 32).scope := ⟨rfl, rfl, rfl, by decide +kernel, rfl, by decide +kernel, by decide +kernel⟩
/-- what lent makes of the stand -/
def lentTo (pool : Int) (bs : List Blk) (s : Int) : List Blk := if ff bs s + s ≤ pool then insB (ff bs s, s) bs else bs
/-- a stand as the program keeps it -/
structure Stand (bs : List Blk) : Prop where
  sep : Sep bs
  pos : ∀ b ∈ bs, 0 < b.2
  low : Low bs
  len : bs.length ≤ 1000
def IsLent (H : Hp) (v f : V) (bs : List Blk) : Prop := ∃ t st, v = .ref t ∧ H t = some (.tup [f, st]) ∧ IsN H st bs
def spLent : Sp := fun vs H Q _ => ∃ (c : V) (ch : List Int) (pool : Int) (v : V) (bs : List Blk) (s : Int), vs = [c, .int pool, v, .int s] ∧ IsCn H c ch ∧ s ∈ ch ∧ IsN H v bs ∧ Stand bs ∧ 0 < s ∧ s < 1073741824 ∧ ∀ r H', Same H H' → IsLent H' r (fpV pool bs s) (lentTo pool bs s) → Q r H'
theorem ok_lent (T : TX K mg) : Cal P w K mg base "lent" 4 ["chain", "pool", "stand", "size"] spLent := by
  refine T.ok (d := gdef "lent" 32) 15 rfl (j := 41) rfl rfl rfl rfl scLent (fun vs H Q E h => ?_) (fun _ _ _ _ _ _ us hl => match us, hl with | [_, _, _, _], _ => rfl) fun f cdv A outer s H vs Q E hr h => ?_
  · obtain ⟨c, ch, pool, v, bs, z, rfl, _⟩ := h
    rfl
  · obtain ⟨c, ch, pool, v, bs, z, rfl, ⟨tc, rfl, hc⟩, hin, hst, S, h1, h2, k⟩ := h
    have hsorted : mg "sorted" = none := T.free 10
    have htup : mg "tuple" = none := T.free 5
    have CP : Cal P w K mg base "first_place" 3 ["pool", "stand", "size"] spFP := ok_fp T
    refine ⟨_, pss_cons (ps_if (pt_cmpR op_notIn_seq (pv 3) (pv 0) (by rfl)) (pss_one ps_never) pss_nil)
      (pss_cons (ps_set (i := 4) scLent.nd rfl (.inl rfl) (pe_cal CP hr (by rfl) (pa_cons (pv 1) (pa_cons (pv 2) (pa_cons (pv 3) pa_nil)))))
      (pss_one (ps_ret (pe_tup (pa_cons (pv 4) (pa_cons (pe_ifExp (pt_cmpR op_isN (pv 4) pe_non (nomark _)) (pv 2)
        (pe_callTy LbO.call_tupleF (by rfl) htup (by decide +kernel) (pa_cons (pe_callB cr_sortedPO (by rfl) hsorted (by decide +kernel) (pa_cons (pe_lst (StX.pa_star (pv 2) (pa_cons (pe_tup (pa_cons (pv 4) (pa_cons (pv 3) pa_nil))) pa_nil))) pa_nil)) pa_nil))) pa_nil)))))), ?_⟩
    have hS := hst
    obtain ⟨tv, ov, us, rfl, hv, hov, hp⟩ := hst
    obtain ⟨f1, f2, f3, f4⟩ := ff_spec h1 S.sep S.pos
    refine ⟨_, rfl, _, rfl, tc, _, rfl, .inr (sqT_rd hc), rfl, flat_ints ch, _, rfl, ?_⟩
    rw [if_pos rfl, inV_int, decide_eq_true hin]
    refine iteF ⟨_, rfl, _, rfl, _, rfl, pool, _, z, bs, rfl, hS.s, h1, h2, S.low, ?_⟩
    refine ⟨_, rfl, _, rfl, rfl, _, rfl, ?_⟩
    by_cases hc' : ff bs z + z ≤ pool
    · have e1 : fpV pool bs z = .int (ff bs z) := if_pos hc'
      have e2 : lentTo pool bs z = insB (ff bs z, z) bs := if_pos hc'
      rw [e1, e2] at k
      rw [e1]
      refine iteF ?_
      refine ⟨_, rfl, tv, us, rfl, .inl (sqT_rd (.inr ⟨ov, hv⟩)), _, rfl, _, rfl, by show 2 ≤ sizeLine; decide, fun t nt => ?_⟩
      refine ⟨?_, fun l nl => ?_⟩
      · rw [List.length_append, paired_len hp]
        show bs.length + 1 ≤ sizeLine
        exact Nat.le_of_lt (small (by have := S.len; omega))
      have z1 : Same H (upd H t (.tup [.int (ff bs z), .int z])) := Same.new nt
      generalize eH2 : upd H t (.tup [.int (ff bs z), .int z]) = H2 at z1 nl ⊢
      have z2 : Same H2 (upd H2 l (.lst (us ++ [.ref t]))) := Same.new nl
      have pt : IsP (upd H2 l (.lst (us ++ [.ref t]))) (.ref t) (ff bs z, z) := ⟨t, rfl, z2 _ _ (by rw [← eH2, upd_same])⟩
      have tk3 := TK.of (z1.trans z2)
      refine ⟨l, us ++ [.ref t], kOf (upd H2 l (.lst (us ++ [.ref t]))), rfl, SqL.of upd_same, fun x hx => ?_, fun ys p q1 q2 np => ?_⟩
      · exact ps_mem (paired_snoc (Ps.keep tk3 hp) pt) x hx
      have pys := sorted_ins (Ps.keep tk3 hp) pt S.sep S.pos h1 f3 q1 q2.perm
      have z4 : Same (upd H2 l (.lst (us ++ [.ref t]))) (upd (upd H2 l (.lst (us ++ [.ref t]))) p (.lst ys)) := Same.new np
      refine ⟨p, ys, rfl, SqL.of upd_same, fun g og ng hog => ?_⟩
      have z5 := Same.new (o := .frz og (.tup ys)) ng
      refine ⟨by show 2 ≤ sizeLine; decide, fun r nr => ?_⟩
      have z6 := Same.new (o := .tup [.int (ff bs z), .ref g]) nr
      exact k _ _ (z1.trans (z2.trans (z4.trans (z5.trans z6)))) ⟨r, _, rfl, upd_same, g, og, ys, rfl, z6 _ _ upd_same, hog, Ps.keep (TK.of (z4.trans (z5.trans z6))) pys⟩
    · have e1 : fpV pool bs z = .non := if_neg hc'
      have e2 : lentTo pool bs z = bs := if_neg hc'
      rw [e1, e2] at k
      rw [e1]
      refine iteT ?_
      refine ⟨_, rfl, by show 2 ≤ sizeLine; decide, fun r nr => ?_⟩
      have z6 := Same.new (o := .tup [.non, .ref tv]) nr
      exact k _ _ z6 ⟨r, _, rfl, upd_same, hS.same z6⟩
/-! ### without_block -/
theorem scWo : FnScope ["stand", "first", "rest", "block"] ["stand", "first"] (gdef "without_block" 33).scope := ⟨rfl, rfl, rfl, by decide +kernel, rfl, by decide +kernel, by decide +kernel⟩
def outTo (bs : List Blk) (n : Int) : List Blk := bs.filter fun c => decide (c.1 ≠ n)
def spWo : Sp := fun vs H Q _ => ∃ (v : V) (bs : List Blk) (n : Int), vs = [v, .int n] ∧ IsN H v bs ∧ bs.length ≤ 1000 ∧ (∃ b ∈ bs, b.1 = n) ∧ ∀ r H', Same H H' → IsN H' r (outTo bs n) → Q r H'
theorem ok_wo (T : TX K mg) : Cal P w K mg base "without_block" 1 ["stand", "first"] spWo := by
  refine T.ok (d := gdef "without_block" 33) 16 rfl (j := 42) rfl rfl rfl rfl scWo (fun vs H Q E h => ?_) (fun _ _ _ _ _ _ us hl => match us, hl with | [_, _], _ => rfl) fun f cdv A outer s H vs Q E hr h => ?_
  · obtain ⟨v, bs, n, rfl, _⟩ := h
    rfl
  · obtain ⟨v, bs, n, rfl, ⟨tv, ov, us, rfl, hv, hov, hp⟩, hlen, ⟨b, hb, hbn⟩, k⟩ := h
    have hl : mg "len" = none := T.free 0
    have htup : mg "tuple" = none := T.free 5
    refine ⟨_, pss_cons (ps_set (i := 2) scWo.nd rfl (.inl rfl) (pe_callTy LbO.call_tupleF (by rfl) htup (by decide +kernel) (pa_cons (pe_lc (own := [("block", 3)]) (g := gName 3) (tt := tTest (tOp rNe (tOp (rIxT K) (tVar 3) (tC (.int 0))) (tVar 1))) rfl scWo.nd (pi_tup (pv 0)) (blkOk_by (N := ["stand", "first", "rest", "block"]) (sc := (gdef "without_block" 33).scope) (by decide +kernel))
          (fun _ _ _ _ _ => pg_name (i := 3) scWo.nd rfl (Or.inl rfl)) (fun _ _ _ _ _ => pts_one (pt_cmpR op_ne (pe_ix ix_tup (pv 3) pe_int (fun _ _ => rfl)) (pv 1) (nomark _))) (fun _ _ _ _ _ => pv 3)) pa_nil)))
      (pss_cons (ps_if (pt_cmpR op_eq (pe_callB call_len_seq (by rfl) hl (by decide +kernel) (pa_cons (pv 2) pa_nil)) (pe_callB call_len_seq (by rfl) hl (by decide +kernel) (pa_cons (pv 0) pa_nil)) (nomark _)) (pss_one ps_never) pss_nil)
      (pss_one (ps_ret (pv 2)))), ?_⟩
    refine ⟨_, rfl, tv, rfl, ⟨_, sqT_rd (.inr ⟨ov, hv⟩)⟩, fun D nD => ?_⟩
    refine lc_tup (K := K) (a := tv) (xs := us) (fun i H' => Same H H' ∧ ∃ ks, H' D = some (.lst ks) ∧ ks.length ≤ i ∧ Ps H' ks (outTo (bs.take i) n)) ⟨Same.new nD, [], upd_same, Nat.le_refl _, .nil⟩ ?_ ?_ ?_
    · rintro i H' _ ⟨sm, _⟩
      exact sqT_rd (.inr ⟨ov, sm _ _ hv⟩)
    · rintro i x H' hx ⟨sm, ks, eD, hk, pk⟩
      obtain ⟨c, hc, ⟨tc, rfl, htc⟩⟩ := paired_get hp hx
      obtain ⟨hil, _⟩ := List.getElem?_eq_some_iff.mp hx
      have hul := paired_len hp
      have et : outTo (bs.take (i + 1)) n = outTo (bs.take i) n ++ (if c.1 = n then [] else [c]) := by
        unfold outTo
        rw [List.take_add_one, hc, List.filter_append]
        congr 1
        show List.filter _ [c] = _
        rw [List.filter_cons]
        by_cases q : c.1 = n
        · rw [if_neg (by simp [q]), if_pos q]
          rfl
        · rw [if_pos (by simp [q]), if_neg q]
          rfl
      refine ⟨rfl, _, rfl, tc, _, 0, _, rfl, rfl, SqT.of (sm _ _ htc), atI_nat (j := 0) rfl, _, rfl, rfl, _, rfl, ite2 (fun q => ?_) (fun q => ?_)⟩
      · have q1 : ¬ c.1 = n := fun z => by
          rw [z] at q
          simp at q
        rw [if_neg q1] at et
        refine ⟨_, rfl, _, eD, small (by omega), sm.put nD, ks ++ [.ref tc], upd_same, ?_, ?_⟩
        · rw [List.length_append]
          exact Nat.succ_le_succ hk
        · rw [et]
          have tk := TK.put (o := .lst (ks ++ [.ref tc])) eD (by intro xs z; cases z)
          exact paired_snoc (Ps.keep tk pk) ⟨tc, rfl, tk _ _ (sm _ _ htc)⟩
      · have q1 : c.1 = n := by
          by_cases z : c.1 = n
          · exact z
          · exact absurd (by simp [z]) q
        rw [if_pos q1, List.append_nil] at et
        rw [et]
        exact ⟨sm, ks, eD, Nat.le_succ_of_le hk, pk⟩
    · rintro H' ⟨sm, ks, eD, hk, pk⟩
      have hul := paired_len hp
      rw [hul, List.take_length] at pk
      refine ⟨D, _, rfl, SqL.of eD, fun l ol nl hol => ?_⟩
      have z1 := Same.new (o := .frz ol (.tup ks)) nl
      refine ⟨_, rfl, l, ks, rfl, .inr (sqT_rd (.inr ⟨ol, upd_same⟩)), _, rfl, tv, us, rfl, .inr (sqT_rd (.inr ⟨ov, z1 _ _ (sm _ _ hv)⟩)), rfl, _, rfl, ?_⟩
      have hne : ¬ (V.int ks.length = V.int us.length) := fun q => by
        have q1 : ks.length = us.length := by
          injection q with q
          exact Int.ofNat.inj q
        have q2 := paired_len pk
        have q3 : (outTo bs n).length < bs.length := by
          unfold outTo
          refine List.length_filter_lt_length_iff_exists.mpr ⟨b, hb, ?_⟩
          simp [hbn]
        omega
      rw [decide_eq_false hne]
      refine iteF ⟨_, rfl, k _ _ (sm.trans z1) ⟨l, ol, ks, rfl, upd_same, hol, Ps.keep (TK.of z1) pk⟩⟩
end Lb
/-! dict(..) of a tuple of pairs; a dict display with one ** ahead and one pair. -/
namespace LbO
open PySem PySem.Spec PyProof.Rows L2
section
variable {X : Cx}
theorem pairs_ofT {pins : List (Addr × Obj)} {σ : L2.St} {H : Hp} {s : Shared} (I : L2.Inv X pins σ H s) : ∀ {ps : List Addr} {kvs : List (Key × V)}, Paired (fun p kv => SqT X.K H p [kV kv.1, kv.2]) ps kvs →
    ∃ (prs : List (Key × Value)) (uvs : List (Value × Value)), KV kvs prs ∧ prs.length = ps.length ∧ uvs.length = ps.length ∧ ∀ (j : Nat) (k v : Value), uvs[j]? = some (k, v) → (∃ b : Addr, ps[j]? = some b ∧ IsTup s.heap b #[k, v]) ∧ ∃ q : Key, prs[j]? = some (q, v) ∧ keyIs q k = true
  | _, _, .nil => ⟨[], [], .nil, rfl, rfl, fun j k v e => by simp at e⟩
  | _, _, .cons (a := p) (b := kv) h t => by
    obtain ⟨prs, uvs, r, hl, hl2, hp⟩ := pairs_ofT I t
    obtain ⟨its, rv, ht, _⟩ := I.tuple h
    obtain ⟨u, y, ei, ru, ry⟩ := vals2 rv
    subst ei
    refine ⟨(kv.1, y) :: prs, (u, y) :: uvs, .cons ⟨rfl, ry⟩ r, by rw [List.length_cons, List.length_cons, hl], by rw [List.length_cons, List.length_cons, hl2], fun j k v e => ?_⟩
    cases j with
    | zero =>
      have e' : (u, y) = (k, v) := Option.some.inj e
      cases e'
      exact ⟨⟨p, rfl, ht⟩, kv.1, rfl, kV_is (P := X.prog) (w := X.w) ru⟩
    | succ j =>
      obtain ⟨⟨b, e1, e2⟩, q, e3, e4⟩ := hp j k v (by simpa using e)
      exact ⟨⟨b, by simpa using e1, e2⟩, q, by simpa using e3, e4⟩
/-- dict(t), t a locked tuple of pairs -/
theorem call_dictT (hcalm : X.calm = true) : CallR X (.type "dict") (fun xs H Q => ∃ (a : Addr) (ob : Obj) (ps : List Addr) (kvs : List (Key × V)), xs = [.ref a] ∧ H a = some (.frz ob (.tup (ps.map V.ref))) ∧ ob.dict = none ∧ Paired (fun p kv => SqT X.K H p [kV kv.1, kv.2]) ps kvs ∧
    ∀ p, H p = none → Q (.ref p) (upd H p (.dK (mergeK [] kvs)))) := by
  intro pins s σ H xs us Q I r q
  obtain ⟨a, ob, ps, kvs, ex, hq, hob, hp, q⟩ := q
  subst ex
  obtain ⟨u, eu, rx⟩ := vals1 r
  subst eu
  cases rx
  obtain ⟨e1, zl, its, rv, o2, g1, g2, n, g3⟩ := (show ObjOk X.prog X.w H s.heap a (.frz ob (.tup (ps.map V.ref))) from I.hok a _ hq)
  have ei := refs_at rv
  subst ei
  rw [List.length_map] at zl
  have eo : ob = o2 := Option.some.inj (e1.symm.trans g1)
  subst eo
  obtain ⟨prs, uvs, rel, hl, hl2, hpr⟩ := pairs_ofT I hp
  have hps : uvs.length ≤ sizeLine := by rw [hl2]; exact zl
  have hcv : PairsHave (mixKind X.prog X.w) uvs.length (PairRel uvs) prs := ⟨by rw [hl, hl2], fun i key v hr => by
    obtain ⟨_, q, e3, e4⟩ := hpr i key v hr
    exact ⟨q, e3, e4⟩⟩
  refine PySem.call_dict_pairs (PairArg.tuple a (ps.map Value.ref).toArray (fun j => (ps[j]?).getD 0) uvs) (I.ok.hd hcalm) ⟨⟨ob, n, e1, g2, hob, g3⟩, ?_, fun j k v e => ?_⟩ hcv hps fun h' tk hd' k => ?_
  · simp [hl2]
  · obtain ⟨⟨b, e5, e6⟩, _⟩ := hpr j k v e
    refine ⟨by simp [e5], .inl ?_⟩
    show s.heap.IsTuple ((ps[j]?).getD 0) #[k, v]
    rw [e5]
    exact e6
  · have hm : (s.heap.objs.size == sysModules) = false := beq_eq_false_iff_ne.mpr (Nat.ne_of_gt I.big)
    have hlen : (mergeK [] kvs).length ≤ sizeLine := by
      refine Nat.le_trans (length_mergeK kvs []) ?_
      rw [List.length_nil, Nat.zero_add, rel.length, hl]
      exact zl
    exact ⟨.ref s.heap.objs.size, upd H s.heap.objs.size (.dK (mergeK [] kvs)), I.laid (t' := tk) (fun b o e => k b o (by simp) e) (Nat.le_refl _) (show ObjOk X.prog X.w _ _ _ (.dK (mergeK [] kvs)) from ⟨hlen, hm, merged [] prs, KV.merge rel .nil, hd'⟩), rfl, q _ (I.hok.fresh (Nat.le_refl _))⟩
end
/-! ### {**m, k: v} -/
section
variable {prog : Program} {w : World} {A : Around} {E : Value → Shared → Prop} {s : Shared}
theorem put_run {K : Type} [DecidableEq K] {knd : KeyKind prog w K} {d : Addr} {kvs : List (K × Value)} {k : K} {key v : Value} {Q : Unit → Shared → Prop} (hkey : knd.is k key = true) (hm : s.heap.DictOf knd d kvs)
    (hQ : ∀ h', h'.DictOf knd d (stored kvs k v) → Heap.SameBut d s.heap h' → Q () { s with heap := h' }) (hsz : kvs.length ≤ sizeLine) :
    wpAny (model prog w) A (dictPut d (knd.hash k) key v) Q E s := by
  obtain ⟨o, es, ep, ho, hc, hd, hk, hp, hn⟩ := hm
  have hes : es.size ≤ sizeLine := by
    have e1 := hp.length
    have e2 : es.toList.length = es.size := by simp
    omega
  unfold dictPut
  refine wpAny_bind (wpAny_dictFind_of hkey ho hd hk ?_)
  have hidx : (es.findIdx? fun e => knd.is k e.key) = kvs.findIdx? fun kv => decide (kv.1 = k) := by
    rw [← hp.findIdx k]
    obtain ⟨l⟩ := es
    simp
  cases hi : es.findIdx? fun e => knd.is k e.key with
  | some i =>
    refine wpAny_updateDict ho hd (hQ _ ⟨_, _, ep, Heap.get?_update_self _ ho (Obj.isFreed_of_dict (Obj.data_mapDict hd _)), hc.mapDict _, Obj.data_mapDict hd _, hk.modify _ _, ?_, ?_⟩ (Heap.SameBut.update ..))
    · rw [stored, if_pos (any_of_findIdx_some (hidx ▸ hi))]
      have hl : (es.toList.findIdx? fun e => knd.is k e.key) = some i := by
        rw [← hi]
        obtain ⟨l⟩ := es
        simp
      have := hp.modify hn hl v
      obtain ⟨l⟩ := es
      simpa using this
    · rw [stored, if_pos (any_of_findIdx_some (hidx ▸ hi)), keys_map_store]
      exact hn
  | none =>
    have hnot : k ∉ kvs.map (·.1) := not_mem_of_findIdx_none (hidx ▸ hi)
    have hany : ¬ (kvs.any fun kv => decide (kv.1 = k)) = true := by
      rw [List.any_eq_true]
      rintro ⟨kv, hkv, he⟩
      exact hnot (List.mem_map.mpr ⟨kv, hkv, of_decide_eq_true he⟩)
    refine wpAny_updateDictKeys (hz := hes) ho hd (hQ _ ⟨_, _, ep + 1, Heap.get?_update_self _ ho (Obj.isFreed_of_dict (Obj.data_mapDictKeys hd _)), hc.mapDictKeys _, Obj.data_mapDictKeys hd _, hk.push hkey _, ?_, ?_⟩ (Heap.SameBut.update ..))
    · rw [stored, if_neg hany]
      have := hp.append hkey (knd.hash k) v
      obtain ⟨l⟩ := es
      simpa using this
    · rw [stored, if_neg hany, List.map_append, List.nodup_append]
      refine ⟨hn, by simp, ?_⟩
      intro a ha b hb
      simp only [List.map_cons, List.map_nil, List.mem_singleton] at hb
      subst hb
      exact fun e => hnot (e ▸ ha)
theorem merge_run {d a : Addr} {src dst : List (Key × Value)} {Q : Unit → Shared → Prop} (ha : s.heap.DictOf (mixKind prog w) a src) (hd : s.heap.DictOf (mixKind prog w) d dst) (hne : d ≠ a) (hsys : (a == sysModules) = false) (hsz : dst.length + src.length ≤ sizeLine)
    (h : ∀ h', h'.DictOf (mixKind prog w) d (merged dst src) → Heap.SameBut d s.heap h' → Q () { s with heap := h' }) : wpAny (model prog w) A (mergeMapping d (.ref a) false) Q E s := by
  obtain ⟨od, esd, epd, hod, hcd, hdd, hkd, hpd, hnd⟩ := id hd
  obtain ⟨oo, eso, epo, hoo, hco, hdo', hko, hpo, hno⟩ := id ha
  have hlen : src.length = eso.size := by
    rw [← hpo.length]
    simp
  have loop : wpAny (model prog w) A (do
      let l ← dictEntries a
      let epoch ← dictEpoch a
      forIn (List.range l.size) PUnit.unit fun i (_ : PUnit) => (do
          let l' ← dictEntries a
          match l'[i]? with
            | some e => do
              holding [e.key, e.val] (dictPut d e.hash e.key e.val)
              let ep' ← dictEpoch a
              if (ep' != epoch) = true then do
                  (unsupported "dict.changed-during-merge" : Sem PUnit)
                  pure (ForInStep.yield PUnit.unit)
                else pure (ForInStep.yield PUnit.unit)
            | _ => do
              (unsupported "dict.changed-during-merge" : Sem PUnit)
              pure (ForInStep.yield PUnit.unit) : Sem (ForInStep PUnit))
      pure ()) Q E s := by
    refine wpAny_bind (wpAny_dictEntries hoo hdo' ?_)
    refine wpAny_bind (wpAny_dictEpoch hoo hdo' ?_)
    refine wpAny_bind ?_
    rw [List.range_eq_range']
    refine wpAny_forIn_list _
      (fun rest _ s' => ∃ h' i, s' = { s with heap := h' } ∧ rest = List.range' i (eso.size - i) ∧ i ≤ eso.size ∧ h'.DictOf (mixKind prog w) d (merged dst (src.take i)) ∧ h'.get? a = some oo ∧ Heap.SameBut d s.heap h')
      _ ?_ ?_ _ _ ⟨s.heap, 0, rfl, by simp, Nat.zero_le _, by simpa [merged] using hd, hoo, Heap.SameBut.refl _ _⟩
    · rintro x rest b s' ⟨h', i, rfl, hr, hi, hd', hoo', hs'⟩
      have hlt : i < eso.size := by
        rcases Nat.lt_or_ge i eso.size with h | h
        · exact h
        · rw [Nat.sub_eq_zero_of_le h] at hr
          simp at hr
      obtain ⟨rfl, hrest⟩ : x = i ∧ rest = List.range' (i + 1) (eso.size - (i + 1)) := by
        have e : eso.size - i = (eso.size - (i + 1)) + 1 := by omega
        rw [e, List.range'_succ] at hr
        injection hr with h1 h2
        exact ⟨h1, h2⟩
      refine wpAny_bind (wpAny_dictEntries hoo' hdo' ?_)
      rw [Array.getElem?_eq_getElem hlt]
      obtain ⟨kv, hkv⟩ : ∃ kv, src[x]? = some kv := ⟨src[x]'(by rw [hlen]; exact hlt), List.getElem?_eq_getElem _⟩
      obtain ⟨k, v⟩ := kv
      obtain ⟨hkey, hval⟩ := hpo.get? (e := eso[x]) (by simp [hlt]) hkv
      obtain ⟨k', hkey', hhash⟩ := hko eso[x] (Array.getElem_mem hlt)
      obtain rfl : k' = k := (mixKind prog w).inj _ _ _ hkey' hkey
      show wpAny _ _ (holding [eso[x].key, eso[x].val] (dictPut d eso[x].hash eso[x].key eso[x].val) >>= _) _ _ _
      rw [hhash, hval]
      have hmx : (merged dst (src.take x)).length ≤ sizeLine := by
        have e1 := merged_length_le dst (src.take x)
        have e2 : (src.take x).length ≤ src.length := by
          rw [List.length_take]
          omega
        omega
      refine wpAny_bind (wpAny_holding (put_run hkey hd' (fun h'' hd'' hs'' => ?_) hmx))
      have hoo'' : h''.get? a = some oo := (hs''.2 a (Ne.symm hne)).trans hoo'
      refine wpAny_bind (wpAny_dictEpoch hoo'' hdo' ?_)
      rw [if_neg (by simp)]
      exact wpAny_pure ⟨h'', x + 1, rfl, hrest, hlt, by rw [merged_take_succ dst src x (k', v) hkv]; exact hd'', hoo'', hs'.trans hs''⟩
    · rintro b s' ⟨h', i, rfl, hr, hi, hd', hoo', hs'⟩
      have hin : i = eso.size := by
        rcases Nat.lt_or_ge i eso.size with h | h
        · have e : eso.size - i = (eso.size - (i + 1)) + 1 := by omega
          rw [e, List.range'_succ] at hr
          exact nomatch hr
        · exact Nat.le_antisymm hi h
      refine wpAny_pure (h h' ?_ hs')
      rw [hin, ← hlen, List.take_length] at hd'
      exact hd'
  unfold mergeMapping
  refine wpAny_bind (wpAny_isInstance ha.typeIs isSubtype_dict_dict ?_)
  rw [if_pos rfl]
  refine wpAny_bind (wpAny_specialOf ha.typeIs F.slot_dict_iter.lookup ?_)
  refine wpAny_bind (wpAny_pure ?_)
  simp only [beq_self_eq_true]
  rw [if_neg (by rw [hsys]; exact Bool.false_ne_true)]
  refine wpAny_bind (wpAny_dictEntries hod hdd ?_)
  have hnop : (forIn eso PUnit.unit fun e (_ : PUnit) => (match e.key with
      | Value.ref a => do
        let l ← specialOf e.key (Str.ofString "__eq__")
        if (l != some (Value.builtin "object.__eq__")) = true then
            if (Array.filter (fun x => x.hash == e.hash) eso).size > 1 then do
              (unsupported "dict.merge-into-an-empty-dict:keys-of-equal-hash" : Sem PUnit)
              pure (ForInStep.yield PUnit.unit)
            else pure (ForInStep.yield PUnit.unit)
          else pure (ForInStep.yield PUnit.unit)
      | x => pure (ForInStep.yield PUnit.unit) : Sem (ForInStep PUnit))) = pure PUnit.unit := by
    rw [← Array.forIn_toList]
    refine forIn_yield_id _ fun e he c => ?_
    obtain ⟨k, hkey, _⟩ := hko e (Array.mem_toList_iff.mp he)
    have hb := (mixKind prog w).byValue k _ hkey
    cases q : e.key <;> first | rfl | (rw [q] at hb; exact absurd hb Bool.false_ne_true)
  split
  · refine wpAny_bind (wpAny_dictEntries hoo hdo' ?_)
    exact wpAny_bind (wpAny_of_eq hnop loop)
  · exact loop
theorem wpAny_onRaise {α : Type} {m : Sem α} {k : Value → Sem Unit} {Q : α → Shared → Prop} (h : wpAny (model prog w) A m Q (fun _ _ => False) s) : wpAny (model prog w) A (m.onRaise k) Q E s := fun Γ p hΓ => by
  rw [Sem.wp_onRaise]
  exact Sem.wp_mono _ Γ _ (fun _ _ _ z => z) (fun _ _ _ z => z.elim) _ _ (h Γ p hΓ)
theorem display_run {m k v : Sem Value} {Q : Value → Shared → Prop} (h : wpAny (model prog w) A (alloc ({ cls := .type "dict", data := .dict #[] } : Obj)) (fun d s1 => wpAny (model prog w) A m (fun x s2 => wpAny (model prog w) A (mergeMapping d x false) (fun _ s3 =>
      wpAny (model prog w) A (subDict [(k, v)]) (fun b s4 => wpAny (model prog w) A (mergeMapping d (.ref b) false) (fun _ s5 => Q (.ref d) s5) (fun _ _ => False) s4) E s3) (fun _ _ => False) s2) E s1) E s) :
    wpAny (model prog w) A (dictDisplay [(none, m), (some k, v)]) Q E s := by
  unfold dictDisplay
  simp only [List.forIn_cons, List.forIn_nil]
  refine wpAny_bind (wpAny_bind (wpAny_bind (wpAny_of_eq (a := none) rfl ?_)))
  refine wpAny_bind (wpAny_mono h (fun d s1 h1 => ?_) fun _ _ z => z)
  refine wpAny_bind (wpAny_holding (wpAny_mono h1 (fun x s2 h2 => ?_) fun _ _ z => z))
  refine wpAny_bind (wpAny_onRaise (wpAny_tryCatch (wpAny_onRaise (wpAny_holding (wpAny_mono h2 (fun _ s3 h3 => ?_) fun _ _ z => z)))))
  refine wpAny_pure ?_
  refine wpAny_bind (wpAny_of_eq (a := ForInStep.yield (some d, [(k, v)])) rfl ?_)
  refine wpAny_pure ?_
  refine wpAny_bind ?_
  rw [if_neg (by simp)]
  refine wpAny_bind (wpAny_holding (wpAny_mono h3 (fun b s4 h4 => ?_) fun _ _ z => z))
  refine wpAny_bind (wpAny_onRaise (wpAny_holding (wpAny_mono h4 (fun _ s5 h5 => ?_) fun _ _ z => z)))
  exact wpAny_pure (wpAny_pure h5)
end
/-- {**m, k: v} -/
def tDst (tm tk tv : TE) : TE := fun σ H Q => ∀ d, H d = none → tm σ (upd H d (.dK [])) fun x H1 => ∃ (m : Addr) (kvs : List (Key × V)), x = .ref m ∧ m ≠ d ∧ H1 m = some (.dK kvs) ∧ H1 d = some (.dK []) ∧ kvs.length < sizeLine ∧
  ∀ b, H1 b = none → tk σ (upd (upd H1 d (.dK kvs)) b (.dK [])) fun y H2 => tv σ H2 fun z H3 => ∃ q : Key, y = kV q ∧ H3 b = some (.dK []) ∧ H3 d = some (.dK kvs) ∧ Q (.ref d) (upd (upd H3 b (.dK [(q, z)])) d (.dK (putK kvs q z)))
section
variable {X : Cx} {me ke ve : Expr} {pos : Pos} {tm tk tv : TE}
theorem kv_nil {vs : List (Key × Value)} (h : KV ([] : List (Key × V)) vs) : vs = [] := by
  cases h
  rfl
theorem pe_dstar (hm : PE X me tm) (hk : PE X ke tk) (hv : PE X ve tv) (hs : (evalEachOpt [none, some ke] X.env).zip ((evalEach [me, ve] X.env).map fun v => do let x ← v; standAt pos; pure x) = [(none, do let x ← eval me X.env; standAt pos; pure x), (some (eval ke X.env), do let x ← eval ve X.env; standAt pos; pure x)] := by rfl) :
    PE X (.Dict [none, some ke] [me, ve] pos) (tDst tm tk tv) := by
  refine ⟨fun pins s σ H Q I h => ?_⟩
  rw [arm_eval_Dict, hs]
  refine wpAny_bind (wpAny_standAt (display_run (wpAny_alloc ?_)))
  have hd0 : H s.heap.objs.size = none := I.hok.fresh (Nat.le_refl _)
  have I0 : L2.Inv X pins σ (upd H s.heap.objs.size (.dK [])) { s with heap := s.heap.push { cls := .type "dict", data := .dict #[] } } := I.laid (t' := s.toks) (fun b u e => Heap.get?_push_of_some _ e) (Nat.le_refl _) (dk_empty _ I.big)
  generalize s.heap.objs.size = d at hd0 I0 ⊢
  refine wpAny_bind (thn (hm.run pins _ σ _ _ I0 (h d hd0)) fun x s1 ⟨xv, H1, I1, rx, m, kvs, ex, hmd, em, ed, hl, q⟩ => ?_)
  subst ex
  obtain rfl : x = Value.ref m := rx
  refine wpAny_bind (wpAny_standAt (wpAny_pure ?_))
  obtain ⟨z1, hsm, vs, rel, dm⟩ := dk_of I1.hok em
  obtain ⟨z2, hsd, vs0, rel0, dd⟩ := dk_of I1.hok ed
  have e0 := kv_nil rel0
  subst e0
  have hnd : (vs.map (·.1)).Nodup := by
    obtain ⟨_, _, _, _, _, _, _, _, hn⟩ := id dm
    exact hn
  have hvl : vs.length = kvs.length := rel.length.symm
  refine merge_run dm dd (Ne.symm hmd) hsm (by rw [List.length_nil, Nat.zero_add]; omega) fun h1 dd1 hs1 => ?_
  rw [merged_nil_of_nodup vs hnd] at dd1
  have I2 : L2.Inv X pins σ (upd H1 d (.dK kvs)) { s1 with heap := h1 } := d_write I1 (by rw [ed]; exact True.intro) hs1 (let ⟨o, _, _, ho, _⟩ := dd1; ⟨o, ho⟩) (dk_new z1 hsd rel dd1)
  have hb0 : (upd H1 d (.dK kvs)) h1.objs.size = none := I2.hok.fresh (Nat.le_refl _)
  have hb1 : H1 h1.objs.size = none := by
    rw [upd_ne (fun e => by rw [e, upd_same] at hb0; cases hb0)] at hb0
    exact hb0
  have I3 : L2.Inv X pins σ (upd (upd H1 d (.dK kvs)) h1.objs.size (.dK [])) { s1 with heap := h1.push { cls := .type "dict", data := .dict #[] } } := I2.laid (t' := s1.toks) (fun b u e => Heap.get?_push_of_some _ e) (Nat.le_refl _) (dk_empty _ I2.big)
  have q1 := q h1.objs.size hb1
  refine wpAny_subDict (knd := mixKind X.prog X.w) (by show 1 ≤ 15; decide) ?_
  refine wpAny_bind (thn (hk.run pins _ σ _ _ I3 q1) fun yv s3 ⟨y, H2, I4, ry, q2⟩ => ?_)
  refine wpAny_bind (wpAny_holding (wpAny_bind (thn (hv.run pins s3 σ H2 _ I4 q2) fun zv s4 ⟨z, H3, I5, rz, qk, ey, eb, ed3, q3⟩ => ?_)))
  refine wpAny_bind (wpAny_standAt (wpAny_pure ?_))
  refine wpAny_bind (wpAny_holding (wpAny_pure (wpAny_pure ?_)))
  have nbd : h1.objs.size ≠ d := fun e => by rw [e, upd_same] at hb0; cases hb0
  obtain ⟨zb, hsb, vsb, relb, db⟩ := dk_of I5.hok eb
  have e1 := kv_nil relb
  subst e1
  refine ⟨[(qk, zv)], ⟨by rw [ey] at ry; exact kV_is ry, rfl, True.intro⟩, db, fun h2 d2 hs2 => ?_⟩
  have d2' : h2.DictOf (mixKind X.prog X.w) h1.objs.size [(qk, zv)] := d2
  have I6 : L2.Inv X pins σ (upd H3 h1.objs.size (.dK [(qk, z)])) { s4 with heap := h2, toks := s4.toks + 1 } := d_write I5 (by rw [eb]; exact True.intro) hs2 (let ⟨o, _, _, ho, _⟩ := d2'; ⟨o, ho⟩) (dk_new (by show 1 ≤ sizeLine; decide) hsb (.cons ⟨rfl, rz⟩ .nil) d2')
  have ed6 : (upd H3 h1.objs.size (.dK [(qk, z)])) d = some (.dK kvs) := by
    rw [upd_ne (Ne.symm nbd)]
    exact ed3
  obtain ⟨z6, _, vs6, rel6, d6⟩ := dk_of I6.hok ed6
  have hl6 : vs6.length = kvs.length := rel6.length.symm
  refine merge_run (s := { s4 with heap := h2, toks := s4.toks + 1 }) d2' d6 (Ne.symm nbd) hsb (by rw [List.length_singleton]; omega) fun h3 d3 hs3 => ?_
  have d3' : h3.DictOf (mixKind X.prog X.w) d (stored vs6 qk zv) := d3
  refine ⟨.ref d, _, d_write (t' := s4.toks + 1) I6 (by rw [ed6]; exact True.intro) hs3 (let ⟨o, _, _, ho, _⟩ := d3'; ⟨o, ho⟩) (dk_new ?_ hsd (rel6.put qk rz) d3'), rfl, q3⟩
  have := length_putK kvs qk z
  omega
end
end LbO
/-! What the head says of the two classes; methods and getters from their bodies. -/
namespace Lb
open PySem PySem.Spec PyProof.Rows L2
abbrev wC (K : PySem.W.Frag) : Addr := He.ga K "Watch"
abbrev bC (K : PySem.W.Frag) : Addr := He.ga K "Board"
theorem slotB_ok {K : PySem.W.Frag} {c f : Str} {i : Nat} (h : slotB K c f i = true) : SlX.Slot1 K (He.ga K c) f (propAt K c f) i := by
  obtain ⟨h1, h⟩ := He.ba h
  obtain ⟨h2, h⟩ := He.ba h
  obtain ⟨h3, h⟩ := He.ba h
  obtain ⟨h4, h⟩ := He.ba h
  obtain ⟨h5, h6⟩ := He.ba h
  exact ⟨He.eqO_ok h1, He.eqO_ok h2, of_decide_eq_true h3, of_decide_eq_true h4, of_decide_eq_true h5, of_decide_eq_true h6⟩
section
variable {K : PySem.W.Frag} {mg : Str → Option Value}
theorem TX.sl0 (T : TX K mg) : SlX.Slot1 K (wC K) "own_chain" (propAt K "Watch" "own_chain") 0 := slotB_ok (He.ba (He.ba T.more).2).1
theorem TX.sl1 (T : TX K mg) : SlX.Slot1 K (wC K) "own_pool" (propAt K "Watch" "own_pool") 1 := slotB_ok (He.ba (He.ba (He.ba T.more).2).2).1
theorem TX.sl2 (T : TX K mg) : SlX.Slot1 K (wC K) "own_stands" (propAt K "Watch" "own_stands") 2 := slotB_ok (He.ba (He.ba (He.ba (He.ba T.more).2).2).2).1
theorem TX.sl3 (T : TX K mg) : SlX.Slot1 K (wC K) "own_told" (propAt K "Watch" "own_told") 3 := slotB_ok (He.ba (He.ba (He.ba (He.ba (He.ba T.more).2).2).2).2).1
theorem TX.scls (T : TX K mg) : SlX.SCls K (wC K) := by
  have h := (He.ba (He.ba (He.ba (He.ba (He.ba (He.ba T.more).2).2).2).2).2).1
  obtain ⟨h1, h⟩ := He.ba h
  obtain ⟨h2, h⟩ := He.ba h
  obtain ⟨h3, h4⟩ := He.ba h
  exact ⟨h1, h2, h3, He.eqO_ok h4⟩
theorem TX.sisi (T : TX K mg) : SlX.SIsi K (wC K) := by
  have h := (He.ba (He.ba (He.ba (He.ba (He.ba (He.ba (He.ba T.more).2).2).2).2).2).2).1
  obtain ⟨h1, h⟩ := He.ba h
  obtain ⟨h2, h⟩ := He.ba h
  obtain ⟨h3, h4⟩ := He.ba h
  exact ⟨He.eqO_ok h1, He.eqO_ok h2, of_decide_eq_true h3, of_decide_eq_true h4⟩
theorem TX.dfl (T : TX K mg) (H : Hp) : SqT K H (He.dflAt ("Watch", some "__init__") 0 K) [] := by
  have h := (He.ba (He.ba (He.ba (He.ba (He.ba (He.ba (He.ba T.more).2).2).2).2).2).2).2
  have h : (match K.lookup (He.dflAt ("Watch", some "__init__") 0 K) with
  | some ⟨.type c, _, .seq its _, _⟩ => decide (c = "tuple") && its.isEmpty
  | _ => false) = true := h
  split at h
  · rename_i c od its n sl e
    obtain ⟨h1, h2⟩ := He.ba h
    have e1 : c = "tuple" := of_decide_eq_true h1
    have e2 : its = #[] := Array.isEmpty_iff.mp h2
    subst e1 e2
    exact .inr ⟨_, #[], n, e, rfl, rfl, Nat.zero_le _, .nil⟩
  · cases h
theorem TX.bcls (T : TX K mg) : Cls K (bC K) := He.cls_ok (T.d.fact 21)
theorem TX.np (T : TX K mg) : NoAttr K (bC K) "own_pools" := He.noat_ok (x := "Board") (T.d.fact 22)
theorem TX.nq (T : TX K mg) : NoAttr K (bC K) "own_past" := He.noat_ok (x := "Board") (T.d.fact 23)
theorem TX.gW (T : TX K mg) : mg "Watch" = some (.ref (wC K)) := T.glo 19
theorem TX.gB (T : TX K mg) : mg "Board" = some (.ref (bC K)) := T.glo 20
end
/-! ### a method, from its body's walk -/
structure Met (P : Program) (w : World) (K : PySem.W.Frag) (mg : Str → Option Value) (base : Heap) (c m : Str) (k : Nat) (ps : List Str) (sp : Sp) : Prop where
  ex : ∃ fd, Meth K (He.ga K c) m (He.ma K (He.ga K c) m) ∧ PySem.W.fnIn K (He.ma K (He.ga K c) m) = true ∧ FnOk P w K mg base CX0 k (He.ma K (He.ga K c) m) fd ps sp ∧ Binds K fd ps []
section
variable {P : Program} {w : World} {K : PySem.W.Frag} {mg : Str → Option Value} {base : Heap} {c m : Str} {k : Nat} {ps : List Str} {sp : Sp}
theorem Met.meth (h : Met P w K mg base c m k ps sp) : Meth K (He.ga K c) m (He.ma K (He.ga K c) m) := let ⟨_, a, _⟩ := h.ex; a
theorem Met.fi (h : Met P w K mg base c m k ps sp) : PySem.W.fnIn K (He.ma K (He.ga K c) m) = true := let ⟨_, _, a, _⟩ := h.ex; a
theorem Met.R (h : Met P w K mg base c m k ps sp) : FnR P w K mg base CX0 k (He.ma K (He.ga K c) m) sp := by
  obtain ⟨fd, _, _, F, b⟩ := h.ex
  exact (F.raw b .nil).imp fun vs H Q E h => by rw [List.append_nil]; exact h
theorem FunD.fi {x qual : Str} {params : Arguments} {body : List Stmt} {scope : Scope} {dvs : List V} {kws : List (Str × V)} {f : Addr} {fd : FuncData} (F : FunD K x qual params body scope dvs kws f fd) : PySem.W.fnIn K f = true := by
  obtain ⟨oc, od, dV, kV, doc, pm, an, cdv, ct, osl, e, lk, _⟩ := F.ex
  unfold PySem.W.fnIn
  rw [lk]
theorem TX.okM (T : TX K mg) {d : He.DefD} (i : Nat) (h : dfn[i]? = some d) {j : Nat} {N : List Str} (hg : facs[j]? = some (.meth c m)) (h1 : d.dfl = []) (h2 : d.kwd = []) (h3 : d.at_ = (c, some m))
    (S : FnScope N ps d.scope) (len : ∀ vs H Q E, sp vs H Q E → vs.length = ps.length)
    (hb : ∀ (kV doc pm : Value) (an : Option Addr) (cdv ct : Value) (us : List Value), us.length = ps.length → bindArgs (PySem.W.fnOf d.name d.qual d.params d.body d.scope .none kV doc pm an cdv ct) ⟨us, []⟩ = pure (ps.zip us))
    (hbody : ∀ (f : Addr) (cdv : Value) (A : Around) (outer : List Env) (s : Shared) (H : Hp) (vs : List V) (Q : VK) (E : XK), Room k (A.deeper (envOfC d.qual d.scope s.heap.objs.size f cdv)) → sp vs H Q E →
      ∃ t, PSs (cxOf CX0 P w K mg base N d.qual d.scope f cdv A outer s H E).nox d.body t ∧ t { nx := fun _ H' => Q .non H', rt := Q } (start N vs) H) : Met P w K mg base c m (k + 1) ps sp := by
  obtain ⟨fd, F⟩ := T.fn i h
  have e1 : d.dvs K = [] := by
    unfold He.DefD.dvs
    rw [h1]
    rfl
  have e2 : d.kws K = [] := by
    unfold He.DefD.kws
    rw [h2]
    rfl
  have e3 : He.fAd K d.at_ = He.ma K (He.ga K c) m := by
    rw [h3]
    rfl
  rw [e1, e2, e3] at F
  refine ⟨fd, He.meth_ok (T.d.fact j hg), FunD.fi F, F.ok S len fun cdv A outer s H vs Q E hr hs => ?_, F.bindsN hb⟩
  obtain ⟨t, h, q⟩ := hbody _ cdv A outer s H vs Q E hr hs
  exact ⟨t, h.nox, q⟩
/-! ### a getter -/
/-- what the class has at a property's name -/
structure Prp (P : Program) (w : World) (K : PySem.W.Frag) (mg : Str → Option Value) (base : Heap) (c f : Str) (k : Nat) (sp : Sp) : Prop where
  ex : ∃ fd, PropOf K (He.ga K c) f (propAt K c f) (getterAt K c f) ∧ FnOk P w K mg base CX0 k (getterAt K c f) fd ["self"] sp ∧ Binds K fd ["self"] []
theorem Prp.of (h : Prp P w K mg base c m k sp) : PropOf K (He.ga K c) m (propAt K c m) (getterAt K c m) := let ⟨_, a, _⟩ := h.ex; a
theorem Prp.R (h : Prp P w K mg base c m k sp) : FnR P w K mg base CX0 k (getterAt K c m) sp := by
  obtain ⟨fd, _, F, b⟩ := h.ex
  exact (F.raw b .nil).imp fun vs H Q E h => by rw [List.append_nil]; exact h
theorem getter_ok {d : GetD} (e : d.obs K = d.val) (c : d.ok K = true) : PropOf K (He.ga K d.cls) d.name (propAt K d.cls d.name) (getterAt K d.cls d.name) ∧
    ∃ oc od osl kV doc pm an cdv ct, K.lookup (getterAt K d.cls d.name) = some ⟨oc, od, .func (PySem.W.fnOf d.name d.qual (defArgs d.st) (defBody d.st) (defScope d.st) .none kV doc pm an cdv ct), osl⟩ ∧ PySem.W.codeIn K cdv d.qual = true := by
  obtain ⟨c1, c⟩ := He.ba c
  obtain ⟨c2, c⟩ := He.ba c
  obtain ⟨c3, c⟩ := He.ba c
  obtain ⟨c4, c5⟩ := He.ba c
  refine ⟨⟨He.eqO_ok c1, He.eqO_ok c2, of_decide_eq_true c3, ?_⟩, ?_⟩
  · unfold getterAt
    have c4 : (match PySem.W.recIn K (propAt K d.cls d.name) "property" with
      | some (.ref _ :: _) => true
      | _ => false) = true := c4
    split at c4
    · rename_i g rest er
      rw [er]
      exact ⟨rest, rfl⟩
    · cases c4
  · have c2 : (match K.lookup (getterAt K d.cls d.name) with
      | some ⟨_, _, .func fd, _⟩ => PySem.W.codeIn K fd.code d.qual
      | _ => false) = true := c5
    unfold GetD.obs at e
    cases q : K.lookup (getterAt K d.cls d.name) with
    | none =>
      rw [q] at c2
      cases c2
    | some o =>
      obtain ⟨oc, od, dt, osl⟩ := o
      rw [q] at c2 e
      cases dt with
      | func fd =>
        obtain ⟨n1, n2, n3, n4, n5, n6, n7, n8, n9, n10, n11, n12, n13, n14, n15⟩ := fd
        have e2 : (some (n1, n2, n3, n4, n5, n6, n7, n8, n15) : GVal) = some (d.name, d.qual, defArgs d.st, .stmts (defBody d.st), defScope d.st, mainGlobals, [], .none, builtinsNs) := e
        simp only [Option.some.injEq, Prod.mk.injEq] at e2
        obtain ⟨h1, h2, h3, h4, h5, h6, h7, h8, h9⟩ := e2
        subst h1 h2 h3 h4 h5 h6 h7 h8 h9
        exact ⟨oc, od, osl, n9, n10, n11, n12, n13, n14, rfl, c2⟩
      | _ => cases c2
theorem TX.getter (T : TX K mg) (i : Nat) {d : GetD} (h : getters[i]? = some d := by rfl) : PropOf K (He.ga K d.cls) d.name (propAt K d.cls d.name) (getterAt K d.cls d.name) ∧
    ∃ oc od osl kV doc pm an cdv ct, K.lookup (getterAt K d.cls d.name) = some ⟨oc, od, .func (PySem.W.fnOf d.name d.qual (defArgs d.st) (defBody d.st) (defScope d.st) .none kV doc pm an cdv ct), osl⟩ ∧ PySem.W.codeIn K cdv d.qual = true := by
  have e : getters.map (fun d => d.obs K) = getters.map GetD.val := congrArg (fun z : AlL => z.2.1) T.says
  have e2 : (getters.map fun d => d.obs K)[i]? = (getters.map GetD.val)[i]? := by rw [e]
  rw [List.getElem?_map, List.getElem?_map, h] at e2
  exact getter_ok (Option.some.inj e2) (List.all_eq_true.mp (He.ba T.more).1 d (List.mem_of_getElem? h))
theorem TX.okG (T : TX K mg) (i : Nat) {d : GetD} (h : getters[i]? = some d) {N : List Str} (S : FnScope N ["self"] (defScope d.st)) (len : ∀ vs H Q E, sp vs H Q E → vs.length = 1)
    (hb : ∀ (kV doc pm : Value) (an : Option Addr) (cdv ct : Value) (us : List Value), us.length = 1 → bindArgs (PySem.W.fnOf d.name d.qual (defArgs d.st) (defBody d.st) (defScope d.st) .none kV doc pm an cdv ct) ⟨us, []⟩ = pure ((["self"] : List Str).zip us))
    (hbody : ∀ (f : Addr) (cdv : Value) (A : Around) (outer : List Env) (s : Shared) (H : Hp) (vs : List V) (Q : VK) (E : XK), Room k (A.deeper (envOfC d.qual (defScope d.st) s.heap.objs.size f cdv)) → sp vs H Q E →
      ∃ t, PSs (cxOf CX0 P w K mg base N d.qual (defScope d.st) f cdv A outer s H E).nox (defBody d.st) t ∧ t { nx := fun _ H' => Q .non H', rt := Q } (start N vs) H) : Prp P w K mg base d.cls d.name (k + 1) sp := by
  obtain ⟨hp, oc, od, osl, kV, doc, pm, an, cdv, ct, lk, hcd⟩ := T.getter i h
  refine ⟨_, hp, fn_of lk hcd S len fun A outer s H vs Q E hr hs => ?_, Binds.all fun us hl => hb kV doc pm an cdv ct us hl⟩
  obtain ⟨t, h, q⟩ := hbody _ cdv A outer s H vs Q E hr hs
  exact ⟨t, h.nox, q⟩
end
end Lb
/-! The Watch: its state, __init__, properties. -/
namespace Lb
open PySem PySem.Spec PyProof.Rows L2
variable {P : Program} {w : World} {K : PySem.W.Frag} {mg : Str → Option Value} {base : Heap}
/-! ### what stays -/
/-- what the program writes anew: lists, instances with a dict -/
def wrt : HO → Bool
  | .lst _ => true
  | .ins _ _ _ => true
  | _ => false
/-- all else stays -/
def KI (H H' : Hp) : Prop := ∀ b o, H b = some o → wrt o = false → H' b = some o
theorem KI.refl (H : Hp) : KI H H := fun _ _ h _ => h
theorem KI.trans {H H1 H2 : Hp} (a : KI H H1) (b : KI H1 H2) : KI H H2 := fun c o h m => b c o (a c o h m) m
theorem KI.of {H H' : Hp} (s : Same H H') : KI H H' := fun b o h _ => s b o h
theorem KI.tk {H H' : Hp} (k : KI H H') : TK H H' := fun b xs h => k b _ h rfl
theorem KI.put {H : Hp} {p : Addr} {o u : HO} (h : H p = some u) (m : wrt u = true) : KI H (upd H p o) := fun b x e n => by
  rw [upd_ne (ne_of e h fun z => by rw [z, m] at n; cases n)]
  exact e
/-- only the objects at X are written -/
def But (X : List Addr) (H H' : Hp) : Prop := ∀ b o, H b = some o → b ∉ X → H' b = some o
theorem But.refl {X : List Addr} (H : Hp) : But X H H := fun _ _ h _ => h
theorem But.trans {X : List Addr} {H H1 H2 : Hp} (a : But X H H1) (b : But X H1 H2) : But X H H2 := fun c o h m => b c o (a c o h m) m
theorem But.of {X : List Addr} {H H' : Hp} (s : Same H H') : But X H H' := fun b o h _ => s b o h
theorem But.put {X : List Addr} {H : Hp} {p : Addr} {o : HO} (h : p ∈ X) : But X H (upd H p o) := fun b x e n => by
  rw [upd_ne fun z => n (by rw [z]; exact h)]
  exact e
theorem But.more {X Y : List Addr} {H H' : Hp} (a : But X H H') (h : ∀ x ∈ X, x ∈ Y) : But Y H H' := fun b o e n => a b o e fun z => n (h b z)
theorem But.ki {X : List Addr} {H H' : Hp} (a : But X H H') (h : ∀ x ∈ X, ∃ u, H x = some u ∧ wrt u = true) : KI H H' := fun b o e n => a b o e fun z => by
  obtain ⟨u, h1, h2⟩ := h b z
  rw [e] at h1
  cases h1
  rw [n] at h2
  cases h2
theorem IsCF.ki {H H' : Hp} (s : KI H H') {v : V} {ch : List Int} (h : IsCF H v ch) : IsCF H' v ch := by
  obtain ⟨t, o, e, q, d⟩ := h
  exact ⟨t, o, e, s _ _ q rfl, d⟩
theorem IsN.ki {H H' : Hp} (s : KI H H') {v : V} {bs : List Blk} (h : IsN H v bs) : IsN H' v bs := by
  obtain ⟨t, o, vs, e, q, d, p⟩ := h
  exact ⟨t, o, vs, e, s _ _ q rfl, d, Ps.keep s.tk p⟩
theorem IsCF.sq {H : Hp} {v : V} {ch : List Int} (h : IsCF H v ch) : ∃ t, v = .ref t ∧ SqT K H t (ch.map V.int) := by
  obtain ⟨t, o, e, q, d⟩ := h
  exact ⟨t, e, sqT_rd (.inr ⟨o, q⟩)⟩
/-! ### the state -/
def slV (c : V) (pool : Int) (l1 l2 : Addr) : List (Option V) := [some c, some (.int pool), some (.ref l1), some (.ref l2)]
structure Wat (K : PySem.W.Frag) (H : Hp) (a dx l1 l2 : Addr) (ch : List Int) (pool : Int) (sts : List (List Blk)) (told : List V) : Prop where
  slt : ∃ c, (H a = some (SlX.SlO a (wC K) dx (slV c pool l1 l2)) ∧ H dx = some (.xd [])) ∧ IsCF H c ch
  st : ∃ us, H l1 = some (.lst us) ∧ Paired (IsN H) us sts
  tl : H l2 = some (.lst told)
  ne : l1 ≠ l2
theorem slO_wrt {a C dx : Addr} {vs : List (Option V)} : wrt (SlX.SlO a C dx vs) = false := rfl
/-- nothing of it is written -/
theorem Wat.keep {H H' : Hp} {a dx l1 l2 : Addr} {ch : List Int} {pool : Int} {sts : List (List Blk)} {told : List V} (h : Wat K H a dx l1 l2 ch pool sts told) (ki : KI H H') (h1 : ∀ o, H l1 = some o → H' l1 = some o) (h2 : ∀ o, H l2 = some o → H' l2 = some o) : Wat K H' a dx l1 l2 ch pool sts told := by
  obtain ⟨⟨c, ⟨e1, e2⟩, e3⟩, ⟨us, e4, e5⟩, e6, e7⟩ := h
  exact ⟨⟨c, ⟨ki _ _ e1 rfl, ki _ _ e2 rfl⟩, e3.ki ki⟩, ⟨us, h1 _ e4, Paired.mapP e5 fun _ _ => IsN.ki ki⟩, h2 _ e6, e7⟩
theorem Wat.same {H H' : Hp} {a dx l1 l2 : Addr} {ch : List Int} {pool : Int} {sts : List (List Blk)} {told : List V} (h : Wat K H a dx l1 l2 ch pool sts told) (s : Same H H') : Wat K H' a dx l1 l2 ch pool sts told := h.keep (KI.of s) (s _) (s _)
/-! ### __init__ -/
theorem scWI : FnScope ["self", "chain", "pool", "stand"] ["self", "chain", "pool", "stand"] wInit.scope := ⟨rfl, rfl, rfl, by decide +kernel, rfl, by decide +kernel, by decide +kernel⟩
def spWI (K : PySem.W.Frag) : Sp := fun vs H Q _ => ∃ (a dx tc td : Addr) (ch : List Int) (pool : Int), vs = [.ref a, .ref tc, .int pool, .ref td] ∧ H a = some (.ins (wC K) dx []) ∧ H dx = some (.own a) ∧ dx ≠ a ∧ SqT K H tc (ch.map V.int) ∧ ch.length ≤ 1000 ∧ SqT K H td [] ∧
  ∀ H' l1 l2, H l1 = none → H l2 = none → Wat K H' a dx l1 l2 ch pool [[]] [] → (∀ b o, H b = some o → b ≠ a → b ≠ dx → H' b = some o) → Q .non H'
theorem run_wi (T : TX K mg) {f : Addr} {cdv : Value} {A : Around} {outer : List Env} {s : Shared} {H : Hp} {vs : List V} {Q : VK} {E : XK} (hr : Room 2 (A.deeper (envOfC wInit.qual wInit.scope s.heap.objs.size f cdv))) (h : spWI K vs H Q E) :
    ∃ t, PSs (cxOf CX0 P w K mg base ["self", "chain", "pool", "stand"] wInit.qual wInit.scope f cdv A outer s H E).nox wInit.body t ∧ t { nx := fun _ H' => Q .non H', rt := Q } (start ["self", "chain", "pool", "stand"] vs) H := by
  obtain ⟨a, dx, tc, td, ch, pool, rfl, ha, hdx, hne, hc, hl, hd, k⟩ := h
  have CT : Cal P w K mg base "tupled" 2 ["value"] (spTup1 K) := ok_tup1 T
  have SC : SlX.SCls K (wC K) := T.scls
  refine ⟨_, pss_one (ps_asg (pe_tup (pa_cons (pe_cal CT hr (by rfl) (pa_cons (pv 1) pa_nil)) (pa_cons (pv 2) (pa_cons (pe_lst (pa_cons (pe_cal CT hr (by rfl) (pa_cons (pv 3) pa_nil)) pa_nil)) (pa_cons (pe_lst pa_nil) pa_nil)))))
    (pg_tup rfl (pgs_cons (LbO.pg_sl (pv 0)) (pgs_cons (LbO.pg_sl (pv 0)) (pgs_cons (LbO.pg_sl (pv 0)) (pgs_cons (LbO.pg_sl (pv 0)) pgs_nil)))))), ?_⟩
  refine ⟨_, rfl, tc, ch, rfl, hc, hl, fun c H1 s1 hcf => ⟨_, rfl, _, rfl, td, [], rfl, sq_same s1 hd, Nat.zero_le _, fun d H2 s2 hdf => ?_⟩⟩
  refine ⟨by show 1 ≤ sizeLine; decide, fun l1 n1 => ⟨Nat.zero_le _, fun l2 n2 => ⟨by show 4 ≤ sizeLine; decide, fun t nt => ?_⟩⟩⟩
  have S2 : Same H H2 := s1.trans s2
  have S3 : Same H2 (upd H2 l1 (.lst [d])) := Same.new n1
  have S4 : Same (upd H2 l1 (.lst [d])) (upd (upd H2 l1 (.lst [d])) l2 (.lst [])) := Same.new n2
  have nl : l1 ≠ l2 := fun z => by
    rw [← z, upd_same] at n2
    cases n2
  have n2' : H2 l2 = none := by
    rw [upd_ne (Ne.symm nl)] at n2
    exact n2
  generalize eH4 : upd (upd H2 l1 (.lst [d])) l2 (.lst []) = H4 at S4 nt ⊢
  have el1 : H4 l1 = some (.lst [d]) := S4 _ _ upd_same
  have el2 : H4 l2 = some (.lst []) := by rw [← eH4, upd_same]
  have S5 : Same H4 (upd H4 t (.tup [c, .int pool, .ref l1, .ref l2])) := Same.new nt
  generalize eH5 : upd H4 t (.tup [c, .int pool, .ref l1, .ref l2]) = H5 at S5 ⊢
  have et : H5 t = some (.tup [c, .int pool, .ref l1, .ref l2]) := by rw [← eH5, upd_same]
  have SS : Same H H5 := S2.trans (S3.trans (S4.trans S5))
  have hne' : a ≠ dx := Ne.symm hne
  refine ⟨t, _, rfl, SqT.of et, rfl, _, _, rfl, ?_⟩
  refine ⟨_, rfl, a, wC K, dx, _, [], 0, rfl, .inl ⟨SS _ _ ha, rfl⟩, SC, T.sl0, _, _, rfl, ?_⟩
  refine ⟨_, rfl, a, wC K, dx, _, [some c], 1, rfl, SlX.slH_slt hne, SC, T.sl1, _, _, rfl, ?_⟩
  rw [SlX.slH_twice hne]
  refine ⟨_, rfl, a, wC K, dx, _, [some c, some (.int pool)], 2, rfl, SlX.slH_slt hne, SC, T.sl2, _, _, rfl, ?_⟩
  rw [SlX.slH_twice hne]
  refine ⟨_, rfl, a, wC K, dx, _, [some c, some (.int pool), some (.ref l1)], 3, rfl, SlX.slH_slt hne, SC, T.sl3, rfl, ?_⟩
  rw [SlX.slH_twice hne]
  have hal1 : l1 ≠ a := fun z => by
    have h1 := S2 _ _ ha
    rw [← z, n1] at h1
    cases h1
  have hal2 : l2 ≠ a := fun z => by
    have h1 := S2 _ _ ha
    rw [← z, n2'] at h1
    cases h1
  have hdl1 : l1 ≠ dx := fun z => by
    have h1 := S2 _ _ hdx
    rw [← z, n1] at h1
    cases h1
  have hdl2 : l2 ≠ dx := fun z => by
    have h1 := S2 _ _ hdx
    rw [← z, n2'] at h1
    cases h1
  have fr : ∀ b o, H5 b = some o → b ≠ a → b ≠ dx → (SlX.slH H5 a (wC K) dx (slV c pool l1 l2)) b = some o := fun b o e h1 h2 => by
    rw [SlX.slH_ne h1 h2]
    exact e
  have tk : ∀ b o, (∀ C d fs, o ≠ .ins C d fs) → (∀ x, o ≠ .own x) → H5 b = some o → (SlX.slH H5 a (wC K) dx (slV c pool l1 l2)) b = some o := fun b o h1 h2 e => fr b o e (ne_of e (SS _ _ ha) (h1 _ _ _)) (ne_of e (SS _ _ hdx) (h2 _))
  refine k (SlX.slH H5 a (wC K) dx (slV c pool l1 l2)) l1 l2 (S2.free n1) (S2.free n2') ⟨⟨c, ?_, ?_⟩, ⟨[d], fr _ _ (S5 _ _ el1) hal1 hdl1, .cons ?_ .nil⟩, fr _ _ (S5 _ _ el2) hal2 hdl2, nl⟩ fun b o e h1 h2 => fr b o (SS _ _ e) h1 h2
  · rcases SlX.slH_slt (H := H5) (C := wC K) (vs := slV c pool l1 l2) hne with ⟨_, z⟩ | z
    · cases z
    · exact z
  · obtain ⟨tt, oo, e1, e2, e3⟩ := hcf
    exact ⟨tt, oo, e1, tk _ _ (fun _ _ _ z => (nomatch z)) (fun _ z => (nomatch z)) (S5 _ _ (S4 _ _ (S3 _ _ (s2 _ _ e2)))), e3⟩
  · obtain ⟨tt, oo, e1, e2, e3⟩ := hdf
    exact ⟨tt, oo, [], e1, tk _ _ (fun _ _ _ z => (nomatch z)) (fun _ z => (nomatch z)) (S5 _ _ (S4 _ _ (S3 _ _ e2))), e3, .nil⟩
theorem TX.mkW (T : TX K mg) : FnR P w K mg base CX0 3 (He.ma K (wC K) "__init__") (fun vs H Q E => spWI K (vs ++ [.ref (He.dflAt ("Watch", some "__init__") 0 K)]) H Q E) := by
  obtain ⟨fd, F⟩ := T.fn 37 (d := wInit)
  have F : FunD K "__init__" "Watch.__init__" wInit.params wInit.body wInit.scope [.ref (He.dflAt ("Watch", some "__init__") 0 K)] [] (He.ma K (wC K) "__init__") fd := F
  have G : FnOk P w K mg base CX0 3 (He.ma K (wC K) "__init__") fd ["self", "chain", "pool", "stand"] (spWI K) := F.ok scWI (fun vs H Q E h => by
    obtain ⟨a, dx, tc, td, ch, pool, rfl, _⟩ := h
    rfl) fun cdv A outer s H vs Q E hr h => by
      obtain ⟨t, h, q⟩ := run_wi T hr h
      exact ⟨t, h.nox, q⟩
  obtain ⟨ds, hv, hb⟩ := F.binds1 (ps := ["self", "chain", "pool", "stand"]) 3 0 (by simp) rfl fun T kV doc pm an cdv ct us its h1 h2 => match us, its, h1, h2 with | [_, _, _], [_], _, _ => ⟨_, rfl, rfl⟩
  exact G.raw hb hv
theorem TX.mW (T : TX K mg) : Mk K (wC K) (He.ma K (wC K) "__init__") := He.mkr_ok (x := "Watch") (T.d.fact 25)
theorem TX.mB (T : TX K mg) : Mk K (bC K) (He.ma K (bC K) "__init__") := He.mkr_ok (x := "Board") (T.d.fact 24)
/-- Watch(chain, pool) -/
theorem made_w (T : TX K mg) {H : Hp} {tc : Addr} {ch : List Int} {pool : Int} {Q : Addr → Hp → Prop} {E : XK} (hc : SqT K H tc (ch.map V.int)) (hl : ch.length ≤ 1000) (k : ∀ a dx l1 l2 H', H a = none → H l1 = none → H l2 = none → Wat K H' a dx l1 l2 ch pool [[]] [] → Same H H' → Q a H') :
    ∀ x dx, H x = none → H dx = none → dx ≠ x → spWI K ((V.ref x :: [V.ref tc, .int pool]) ++ [.ref (He.dflAt ("Watch", some "__init__") 0 K)]) (upd (upd H dx (.own x)) x (.ins (wC K) dx [])) (fun v H2 => v = .non ∧ Q x H2) E := by
  intro x dx nx nd ne
  have s1 : Same H (upd H dx (.own x)) := Same.new nd
  have nx1 : (upd H dx (.own x)) x = none := by
    rw [upd_ne (Ne.symm ne)]
    exact nx
  have s2 : Same (upd H dx (.own x)) (upd (upd H dx (.own x)) x (.ins (wC K) dx [])) := Same.new nx1
  refine ⟨x, dx, tc, _, ch, pool, rfl, upd_same, by rw [upd_ne ne, upd_same], ne, sq_same (s1.trans s2) hc, hl, T.dfl _, fun H' l1 l2 n1 n2 hw fr => ⟨rfl, k x dx l1 l2 H' nx ((s1.trans s2).free n1) ((s1.trans s2).free n2) hw fun b o e => ?_⟩⟩
  exact fr b o (s2 _ _ (s1 _ _ e)) (ne_of_none e nx) (ne_of_none e nd)
end Lb
/-! The Watch: its properties, live, refused, len. -/
namespace Lb
open PySem PySem.Spec PyProof.Rows L2
variable {P : Program} {w : World} {K : PySem.W.Frag} {mg : Str → Option Value} {base : Heap}
/-! ### the sizes of a stand, in a comprehension -/
abbrev LcT (K : PySem.W.Frag) (a : Addr) (g : TG) (tt : TT) (te : TE) (vs : List Nat) (σ : L2.St) (H1 : Hp) (D : Addr) (Qd : Hp → Prop) : Prop :=
  ∃ W : Nat → Nat → Hp → Prop, (∃ m, W 0 m (upd H1 D (.lst []))) ∧ ∀ i m H, W i m H →
      ((Itt K a).stop i H ∧ Qd H) ∨ ((Itt K a).go i H ∧ ∃ Nx : Hp → Prop, (∀ H', Nx H' → ∃ m', m' < m ∧ W (i + 1) m' H') ∧ ∀ x H', (Itt K a).yld i H x H' → g x (wipe σ vs) H' fun σ2 H2 => wipe σ2 vs = wipe σ vs ∧ tt σ2 H2 fun b H3 =>
        if b = true then te σ2 H3 fun y H4 => ∃ acc, H4 D = some (.lst acc) ∧ acc.length < sizeLine ∧ Nx (upd H4 D (.lst (acc ++ [y]))) else Nx H3)
theorem lc_sizes {a : Addr} {us : List V} {bs : List Blk} {i j : Nat} {vs : List Nat} {σ : L2.St} {H1 : Hp} {D : Addr} {Qd : Hp → Prop} (h : Rd H1 a (.tup us)) (hp : Ps H1 us bs) (hl : bs.length ≤ 1000) (nD : H1 D = none)
    (hw : ∀ x y : V, wipe (((wipe σ vs).set i (some x)).set j (some y)) vs = wipe σ vs) (hr : ∀ x y : V, (((wipe σ vs).set i (some x)).set j (some y))[j]? = some (some y))
    (k : ∀ H', Same H1 H' → H' D = some (.lst ((bs.map (·.2)).map V.int)) → Qd H') : LcT K a (gTup K 2 (gCons (gName i) (gCons (gName j) gNil))) tYes (tVar j) vs σ H1 D Qd := by
  have hul := paired_len hp
  refine lc_tup (K := K) (a := a) (xs := us) (fun n H' => Same H1 H' ∧ H' D = some (.lst (((bs.take n).map (·.2)).map V.int))) ⟨Same.new nD, by rw [upd_same]; rfl⟩ ?_ ?_ ?_
  · rintro n H' _ ⟨sm, _⟩
    exact sqT_rd (rd_same (sm _) h)
  · rintro n x H' hx ⟨sm, eD⟩
    obtain ⟨b, hb, ⟨tb, rfl, htb⟩⟩ := paired_get hp hx
    refine ⟨tb, _, rfl, SqT.of (sm _ _ htb), rfl, _, _, rfl, _, _, rfl, rfl, hw _ _, ?_⟩
    refine ⟨_, hr _ _, _, eD, ?_, sm.put nD, ?_⟩
    · rw [List.length_map, List.length_map, List.length_take]
      exact small (by omega)
    · rw [upd_same, List.take_add_one, hb, List.map_append, List.map_append]
      rfl
  · rintro H' ⟨sm, eD⟩
    rw [hul, List.take_length] at eD
    exact k H' sm eD
/-! ### the properties -/
theorem scG (i : Nat) (h : FnScope ["self"] ["self"] (defScope (GetD.st (getters.getD i ⟨"", "", "", 0, 0⟩)))) : FnScope ["self"] ["self"] (defScope (GetD.st (getters.getD i ⟨"", "", "", 0, 0⟩))) := h
/-- a Watch as the caller sees it -/
def spGet (K : PySem.W.Frag) (R : Addr → Addr → Addr → Addr → List Int → Int → List (List Blk) → List V → Hp → VK → Prop) : Sp := fun vs H Q _ => ∃ (a dx l1 l2 : Addr) (ch : List Int) (pool : Int) (sts : List (List Blk)) (told : List V), vs = [.ref a] ∧ Wat K H a dx l1 l2 ch pool sts told ∧ R a dx l1 l2 ch pool sts told H Q
def spChain (K : PySem.W.Frag) : Sp := spGet K fun _ _ _ _ ch _ _ _ H Q => ∀ v, IsCF H v ch → Q v H
def spPool (K : PySem.W.Frag) : Sp := spGet K fun _ _ _ _ _ pool _ _ H Q => Q (.int pool) H
def spStand (K : PySem.W.Frag) : Sp := spGet K fun _ _ _ _ _ _ sts _ H Q => ∃ pre bs, sts = pre ++ [bs] ∧ ∀ v, IsN H v bs → Q v H
def spTold (K : PySem.W.Frag) : Sp := spGet K fun _ _ _ _ _ _ _ told H Q => ∀ t H', Same H H' → H' t = some (.tup told) → Q (.ref t) H'
theorem spGet_len {R : Addr → Addr → Addr → Addr → List Int → Int → List (List Blk) → List V → Hp → VK → Prop} {vs : List V} {H : Hp} {Q : VK} {E : XK} (h : spGet K R vs H Q E) : vs.length = 1 := by
  obtain ⟨_, _, _, _, _, _, _, _, rfl, _⟩ := h
  rfl
theorem ok_chain (T : TX K mg) : Prp P w K mg base "Watch" "chain" 1 (spChain K) := by
  refine T.okG (d := ⟨"Watch", "chain", "Watch.chain", 34, 2⟩) (N := ["self"]) 0 rfl ⟨rfl, rfl, rfl, by decide +kernel, rfl, by decide +kernel, by decide +kernel⟩ (fun vs H Q E h => spGet_len h) (fun _ _ _ _ _ _ us hl => match us, hl with | [_], _ => rfl) fun f cdv A outer s H vs Q E hr h => ?_
  obtain ⟨a, dx, l1, l2, ch, pool, sts, told, rfl, W, k⟩ := h
  obtain ⟨c, e, hc⟩ := W.slt
  exact ⟨_, pss_one (ps_ret (SlX.pe_sl (pv 0))), _, rfl, a, wC K, dx, _, _, 0, c, rfl, .inr e, T.scls, T.sl0, rfl, k c hc⟩
theorem ok_pool (T : TX K mg) : Prp P w K mg base "Watch" "pool" 1 (spPool K) := by
  refine T.okG (d := ⟨"Watch", "pool", "Watch.pool", 34, 3⟩) (N := ["self"]) 1 rfl ⟨rfl, rfl, rfl, by decide +kernel, rfl, by decide +kernel, by decide +kernel⟩ (fun vs H Q E h => spGet_len h) (fun _ _ _ _ _ _ us hl => match us, hl with | [_], _ => rfl) fun f cdv A outer s H vs Q E hr h => ?_
  obtain ⟨a, dx, l1, l2, ch, pool, sts, told, rfl, W, k⟩ := h
  obtain ⟨c, e, hc⟩ := W.slt
  exact ⟨_, pss_one (ps_ret (SlX.pe_sl (pv 0))), _, rfl, a, wC K, dx, _, _, 1, _, rfl, .inr e, T.scls, T.sl1, rfl, k⟩
/-- its last stand -/
theorem Wat.last {H : Hp} {a dx l1 l2 : Addr} {ch : List Int} {pool : Int} {pre : List (List Blk)} {bs : List Blk} {told : List V} (h : Wat K H a dx l1 l2 ch pool (pre ++ [bs]) told) : ∃ us v, H l1 = some (.lst (us ++ [v])) ∧ IsN H v bs ∧ Paired (IsN H) us pre := by
  obtain ⟨us, e, p⟩ := h.st
  obtain ⟨vs, ws, e1, p1, p2⟩ : ∃ vs ws, us = vs ++ ws ∧ Paired (IsN H) vs pre ∧ Paired (IsN H) ws [bs] := by
    clear e
    clear h
    induction pre generalizing us with
    | nil => exact ⟨[], us, rfl, .nil, p⟩
    | cons b r ih =>
      cases p with
      | cons q t =>
        obtain ⟨vs, ws, e1, p1, p2⟩ := ih _ t
        exact ⟨_ :: vs, ws, by rw [e1]; rfl, .cons q p1, p2⟩
  cases p2 with
  | cons q t =>
    cases t
    exact ⟨vs, _, by rw [e, e1], q, p1⟩
theorem ok_stand (T : TX K mg) : Prp P w K mg base "Watch" "stand" 1 (spStand K) := by
  refine T.okG (d := ⟨"Watch", "stand", "Watch.stand", 34, 4⟩) (N := ["self"]) 2 rfl ⟨rfl, rfl, rfl, by decide +kernel, rfl, by decide +kernel, by decide +kernel⟩ (fun vs H Q E h => spGet_len h) (fun _ _ _ _ _ _ us hl => match us, hl with | [_], _ => rfl) fun f cdv A outer s H vs Q E hr h => ?_
  obtain ⟨a, dx, l1, l2, ch, pool, sts, told, rfl, W, pre, bs, rfl, k⟩ := h
  obtain ⟨c, e, hc⟩ := W.slt
  obtain ⟨us, v, e1, hv, _⟩ := W.last
  exact ⟨_, pss_one (ps_ret (pe_ix ix_list (SlX.pe_sl (pv 0)) (pe_un un_neg pe_int) (fun _ _ => rfl))), _, rfl, a, wC K, dx, _, _, 2, _, rfl, .inr e, T.scls, T.sl2, rfl, 1, rfl, l1, _, -1, v, rfl, rfl, SqL.of e1, atI_last _ _, k v hv⟩
theorem ok_told (T : TX K mg) : Prp P w K mg base "Watch" "told" 1 (spTold K) := by
  refine T.okG (d := ⟨"Watch", "told", "Watch.told", 34, 5⟩) (N := ["self"]) 3 rfl ⟨rfl, rfl, rfl, by decide +kernel, rfl, by decide +kernel, by decide +kernel⟩ (fun vs H Q E h => spGet_len h) (fun _ _ _ _ _ _ us hl => match us, hl with | [_], _ => rfl) fun f cdv A outer s H vs Q E hr h => ?_
  obtain ⟨a, dx, l1, l2, ch, pool, sts, told, rfl, W, k⟩ := h
  obtain ⟨c, e, hc⟩ := W.slt
  have htup : mg "tuple" = none := T.free 5
  exact ⟨_, pss_one (ps_ret (pe_callTy call_tuple_of (by rfl) htup (by decide +kernel) (pa_cons (SlX.pe_sl (pv 0)) pa_nil))), _, rfl, a, wC K, dx, _, _, 3, _, rfl, .inr e, T.scls, T.sl3, rfl, l2, _, rfl, .inl ⟨SqL.of W.tl, fun t nt => k t _ (Same.new nt) upd_same⟩⟩
/-! ### reading them -/
theorem pe_wp {X : Cx} {e : Expr} {f : Str} {pos : Pos} {ta : TE} {k : Nat} {sp : Sp} (T : TX X.K X.mg) (h : Prp X.prog X.w X.K X.mg X.base "Watch" f k sp) (he : PE X e ta) (hr : Room (k + 1) X.A) (hb : attributeBase e f X.env (eval e X.env) = eval e X.env := by rfl) : PE X (.Attribute e f pos) (SlX.tPropSl (wC X.K) sp E0 ta) :=
  SlX.pe_propSl he T.scls h.of.at_ h.of.get h.of.tak h.of.rec_ h.R hr (fun _ _ _ _ z => z) hb
section
variable {H : Hp} {a dx l1 l2 : Addr} {ch : List Int} {pool : Int} {sts : List (List Blk)} {told : List V} {Q : VK}
theorem Wat.s (h : Wat K H a dx l1 l2 ch pool sts told) : ∃ vs, SlX.Slt H a (wC K) dx vs := by
  obtain ⟨c, e, _⟩ := h.slt
  exact ⟨_, .inr e⟩
theorem rd_stand {pre : List (List Blk)} {bs : List Blk} (h : Wat K H a dx l1 l2 ch pool (pre ++ [bs]) told) (k : ∀ v, IsN H v bs → Q v H) : ∃ a' dx vs, V.ref a = .ref a' ∧ SlX.Slt H a' (wC K) dx vs ∧ spStand K [.ref a'] H Q E0 := by
  obtain ⟨vs, e⟩ := h.s
  exact ⟨a, dx, vs, rfl, e, a, dx, l1, l2, ch, pool, _, told, rfl, h, pre, bs, rfl, k⟩
theorem rd_chain (h : Wat K H a dx l1 l2 ch pool sts told) (k : ∀ v, IsCF H v ch → Q v H) : ∃ a' dx vs, V.ref a = .ref a' ∧ SlX.Slt H a' (wC K) dx vs ∧ spChain K [.ref a'] H Q E0 := by
  obtain ⟨vs, e⟩ := h.s
  exact ⟨a, dx, vs, rfl, e, a, dx, l1, l2, ch, pool, _, told, rfl, h, k⟩
theorem rd_pool (h : Wat K H a dx l1 l2 ch pool sts told) (k : Q (.int pool) H) : ∃ a' dx vs, V.ref a = .ref a' ∧ SlX.Slt H a' (wC K) dx vs ∧ spPool K [.ref a'] H Q E0 := by
  obtain ⟨vs, e⟩ := h.s
  exact ⟨a, dx, vs, rfl, e, a, dx, l1, l2, ch, pool, _, told, rfl, h, k⟩
theorem rd_told (h : Wat K H a dx l1 l2 ch pool sts told) (k : ∀ t H', Same H H' → H' t = some (.tup told) → Q (.ref t) H') : ∃ a' dx vs, V.ref a = .ref a' ∧ SlX.Slt H a' (wC K) dx vs ∧ spTold K [.ref a'] H Q E0 := by
  obtain ⟨vs, e⟩ := h.s
  exact ⟨a, dx, vs, rfl, e, a, dx, l1, l2, ch, pool, _, told, rfl, h, k⟩
end
/-! ### live -/
def spWLive (K : PySem.W.Frag) : Sp := spGet K fun _ _ _ _ _ _ sts _ H Q => ∃ pre bs, sts = pre ++ [bs] ∧ bs.length ≤ 1000 ∧ ∀ H', Same H H' → Q (.int (live bs)) H'
theorem ok_wlive (T : TX K mg) : Met P w K mg base "Watch" "live" 3 ["self"] (spWLive K) := by
  refine T.okM (d := mdef "Watch" "live" "Watch.live" 34 6) (N := ["self", "first", "size"]) 38 rfl (j := 63) rfl rfl rfl rfl ⟨rfl, rfl, rfl, by decide +kernel, rfl, by decide +kernel, by decide +kernel⟩ (fun vs H Q E h => spGet_len h) (fun _ _ _ _ _ _ us hl => match us, hl with | [_], _ => rfl) fun f cdv A outer s H vs Q E hr h => ?_
  obtain ⟨a, dx, l1, l2, ch, pool, sts, told, rfl, W, pre, bs, rfl, hl, k⟩ := h
  have hsum : mg "sum" = none := T.free 9
  have PS : Prp P w K mg base "Watch" "stand" 1 (spStand K) := ok_stand T
  have nd : (["self", "first", "size"] : List Str).Nodup := by decide +kernel
  refine ⟨_, pss_one (ps_ret (pe_callB (cr_sum rfl) (by rfl) hsum (by decide +kernel) (pa_cons (pe_lc (own := [("first", 1), ("size", 2)]) (g := gTup K 2 (gCons (gName 1) (gCons (gName 2) gNil))) (tt := tYes) rfl nd (pi_tup (pe_wp T PS (pv 0) hr)) (blkOk_by (N := ["self", "first", "size"]) (sc := (mdef "Watch" "live" "Watch.live" 34 6).scope) (by decide +kernel))
          (fun _ _ _ _ _ => pg_tup rfl (pgs_cons (pg_name (i := 1) nd rfl (Or.inl rfl)) (pgs_cons (pg_name (i := 2) nd rfl (Or.inl rfl)) pgs_nil)))
          (fun _ _ _ _ _ => pts_nil) (fun _ _ _ _ _ => pv 2)) pa_nil))), ?_⟩
  refine ⟨_, rfl, rd_stand W fun v hv => ?_⟩
  obtain ⟨t, o, us, rfl, e, _, hp⟩ := hv
  refine ⟨t, rfl, ⟨_, sqT_rd (.inr ⟨o, e⟩)⟩, fun D nD => ?_⟩
  exact lc_sizes (K := K) (.inr ⟨o, e⟩) hp hl nD (fun _ _ => rfl) (fun _ _ => rfl) fun H' sm eD => ⟨D, bs.map Prod.snd, rfl, SqL.of eD, k H' sm⟩
/-! ### len, refused -/
def spWLen (K : PySem.W.Frag) : Sp := spGet K fun _ _ _ _ _ _ _ told H Q => Q (.int told.length) H
theorem ok_wlen (T : TX K mg) : Met P w K mg base "Watch" "__len__" 1 ["self"] (spWLen K) := by
  refine T.okM (d := mdef "Watch" "__len__" "Watch.__len__" 34 10) (N := ["self"]) 42 rfl (j := 67) rfl rfl rfl rfl ⟨rfl, rfl, rfl, by decide +kernel, rfl, by decide +kernel, by decide +kernel⟩ (fun vs H Q E h => spGet_len h) (fun _ _ _ _ _ _ us hl => match us, hl with | [_], _ => rfl) fun f cdv A outer s H vs Q E hr h => ?_
  obtain ⟨a, dx, l1, l2, ch, pool, sts, told, rfl, W, k⟩ := h
  have hlen : mg "len" = none := T.free 0
  obtain ⟨c, e, hc⟩ := W.slt
  exact ⟨_, pss_one (ps_ret (pe_callB call_len_seq (by rfl) hlen (by decide +kernel) (pa_cons (SlX.pe_sl (pv 0)) pa_nil))), _, rfl, a, wC K, dx, _, _, 3, _, rfl, .inr e, T.scls, T.sl3, rfl, l2, told, rfl, .inl (SqL.of W.tl), k⟩
def spRef (K : PySem.W.Frag) : Sp := spGet K fun _ _ _ _ _ _ _ told H Q => told.length ≤ 1000 ∧ ∀ H', Same H H' → Q (.int (told.filter fun v => decide (v = .non)).length) H'
theorem ok_ref (T : TX K mg) : Met P w K mg base "Watch" "refused" 1 ["self"] (spRef K) := by
  refine T.okM (d := mdef "Watch" "refused" "Watch.refused" 34 9) (N := ["self", "told"]) 41 rfl (j := 66) rfl rfl rfl rfl ⟨rfl, rfl, rfl, by decide +kernel, rfl, by decide +kernel, by decide +kernel⟩ (fun vs H Q E h => spGet_len h) (fun _ _ _ _ _ _ us hl => match us, hl with | [_], _ => rfl) fun f cdv A outer s H vs Q E hr h => ?_
  obtain ⟨a, dx, l1, l2, ch, pool, sts, told, rfl, W, hl, k⟩ := h
  have hlen : mg "len" = none := T.free 0
  have nd : (["self", "told"] : List Str).Nodup := by decide +kernel
  refine ⟨_, pss_one (ps_ret (pe_callB call_len_seq (by rfl) hlen (by decide +kernel) (pa_cons (pe_lc (own := [("told", 1)]) (g := gName 1) (tt := tTest (tOp (fun x y H Q => y = V.non ∧ Q (.bl (decide (x = V.non))) H) (tVar 1) (tC .non))) rfl nd (pi_list (SlX.pe_sl (pv 0))) (blkOk_by (N := ["self", "told"]) (sc := (mdef "Watch" "refused" "Watch.refused" 34 9).scope) (by decide +kernel))
          (fun _ _ _ _ _ => pg_name (i := 1) nd rfl (Or.inl rfl)) (fun _ _ _ _ _ => pts_one (pt_cmpR op_isN (pv 1) pe_non (nomark _))) (fun _ _ _ _ _ => pv 1)) pa_nil))), ?_⟩
  obtain ⟨c, e, hc⟩ := W.slt
  refine ⟨_, rfl, a, wC K, dx, _, _, 3, _, rfl, .inr e, T.scls, T.sl3, rfl, l2, rfl, ⟨_, SqL.of W.tl⟩, fun D nD => ?_⟩
  refine lc_list (K := K) (a := l2) (xs := told) (fun i H' => Same H H' ∧ H' D = some (.lst ((told.take i).filter fun v => decide (v = .non)))) ⟨Same.new nD, upd_same⟩ (fun i H' _ p => SqL.of (p.1 _ _ W.tl)) ?_ ?_
  · rintro i x H' hx ⟨sm, eD⟩
    have et : (told.take (i + 1)).filter (fun v => decide (v = .non)) = ((told.take i).filter fun v => decide (v = .non)) ++ (if x = .non then [x] else []) := by
      rw [List.take_add_one, hx, List.filter_append]
      congr 1
      show List.filter _ [x] = _
      rw [List.filter_cons]
      by_cases q : x = .non
      · rw [if_pos (by simp [q]), if_pos q]
        rfl
      · rw [if_neg (by simp [q]), if_neg q]
        rfl
    refine ⟨rfl, _, rfl, rfl, _, rfl, ite2 (fun q => ?_) (fun q => ?_)⟩
    · have q1 : x = .non := of_decide_eq_true q
      rw [if_pos q1] at et
      refine ⟨_, rfl, _, eD, ?_, sm.put nD, ?_⟩
      · have := List.length_filter_le (fun v => decide (v = V.non)) (told.take i)
        rw [List.length_take] at this
        exact small (by omega)
      · rw [upd_same, et]
    · have q1 : ¬ x = .non := fun z => q (decide_eq_true z)
      rw [if_neg q1, List.append_nil] at et
      rw [et]
      exact ⟨sm, eD⟩
  · rintro H' ⟨sm, eD⟩
    rw [List.take_length] at eD
    exact ⟨D, _, rfl, .inl (SqL.of eD), k H' sm⟩
end Lb
/-! The Watch: ask, give, back. -/
namespace Lb
open PySem PySem.Spec PyProof.Rows L2
variable {P : Program} {w : World} {K : PySem.W.Frag} {mg : Str → Option Value} {base : Heap}
/-! ### back -/
def spBack (K : PySem.W.Frag) : Sp := spGet K fun a dx l1 l2 ch pool sts told H Q => ∃ pre bs tp x, sts = pre ++ [bs] ∧ told = tp ++ [x] ∧ ∀ H', Wat K H' a dx l1 l2 ch pool pre tp → But [l1, l2] H H' → Q .non H'
theorem ok_back (T : TX K mg) : Met P w K mg base "Watch" "back" 1 ["self"] (spBack K) := by
  refine T.okM (d := mdef "Watch" "back" "Watch.back" 34 15) (N := ["self"]) 46 rfl (j := 71) rfl rfl rfl rfl ⟨rfl, rfl, rfl, by decide +kernel, rfl, by decide +kernel, by decide +kernel⟩ (fun vs H Q E h => spGet_len h) (fun _ _ _ _ _ _ us hl => match us, hl with | [_], _ => rfl) fun f cdv A outer s H vs Q E hr h => ?_
  obtain ⟨a, dx, l1, l2, ch, pool, sts, told, rfl, W, pre, bs, tp, x, rfl, rfl, k⟩ := h
  have hlen : mg "len" = none := T.free 0
  obtain ⟨c, e, hc⟩ := W.slt
  obtain ⟨us, v, e1, hv, hp⟩ := W.last
  refine ⟨_, pss_cons (ps_if (pt_cmpR op_eq (pe_callB call_len_seq (by rfl) hlen (by decide +kernel) (pa_cons (SlX.pe_sl (pv 0)) pa_nil)) pe_int (nomark _)) (pss_one ps_never) pss_nil)
    (pss_cons (ps_expr (pe_bm0 PySem.F.plainAttrs_list PySem.F.slot_list_pop PySem.F.type_list_pop mt_pop (SlX.pe_sl (pv 0))))
    (pss_one (ps_expr (pe_bm0 PySem.F.plainAttrs_list PySem.F.slot_list_pop PySem.F.type_list_pop mt_pop (SlX.pe_sl (pv 0)))))), ?_⟩
  refine ⟨_, rfl, a, wC K, dx, _, _, 3, _, rfl, .inr e, T.scls, T.sl3, rfl, l2, _, rfl, .inl (SqL.of W.tl), rfl, _, rfl, ?_⟩
  have hne : ¬ (V.int ((tp ++ [x]).length : Nat) = V.int 0) := fun z => by
    injection z with z
    rw [List.length_append, List.length_singleton] at z
    omega
  rw [decide_eq_false hne]
  refine iteF ?_
  have n12 := W.ne
  have H1k : ∀ b o, b ≠ l1 → H b = some o → (upd H l1 (.lst us)) b = some o := fun b o hb q => by
    rw [upd_ne hb]
    exact q
  have na1 : a ≠ l1 := ne_of e.1 e1 (by unfold SlX.SlO; intro z; cases z)
  have nd1 : dx ≠ l1 := ne_of e.2 e1 (by intro z; cases z)
  have ki1 : KI H (upd H l1 (.lst us)) := KI.put e1 rfl
  have g1 : (us ++ [v])[(us ++ [v]).length - 1]? = some v := by
    rw [List.length_append, List.length_singleton]
    simp
  have g2 : (tp ++ [x])[(tp ++ [x]).length - 1]? = some x := by
    rw [List.length_append, List.length_singleton]
    simp
  refine ⟨_, rfl, a, wC K, dx, _, _, 2, _, rfl, .inr e, T.scls, T.sl2, rfl, .inl ⟨rfl, _, SqL.of e1⟩, l1, _, v, rfl, rfl, e1, g1, ?_⟩
  rw [List.dropLast_concat]
  have et : (upd H l1 (.lst us)) l2 = some (.lst (tp ++ [x])) := H1k _ _ (Ne.symm n12) W.tl
  refine ⟨_, rfl, a, wC K, dx, _, _, 3, _, rfl, .inr ⟨H1k _ _ na1 e.1, H1k _ _ nd1 e.2⟩, T.scls, T.sl3, rfl, .inl ⟨rfl, _, SqL.of et⟩, l2, _, x, rfl, rfl, et, g2, ?_⟩
  rw [List.dropLast_concat]
  have ki2 : KI H (upd (upd H l1 (.lst us)) l2 (.lst tp)) := ki1.trans (KI.put et rfl)
  refine k _ ⟨⟨c, ⟨ki2 _ _ e.1 rfl, ki2 _ _ e.2 rfl⟩, hc.ki ki2⟩, ⟨us, ?_, Paired.mapP hp fun _ _ => IsN.ki ki2⟩, upd_same, n12⟩ ((But.put (List.Mem.head _)).trans (But.put (by simp)))
  rw [upd_ne n12, upd_same]
/-! ### what an append to both lists leaves -/
theorem Wat.push {H H1 : Hp} {a dx l1 l2 : Addr} {ch : List Int} {pool : Int} {sts : List (List Blk)} {told : List V} {v x : V} {bs : List Blk} (W : Wat K H a dx l1 l2 ch pool sts told) (s : Same H H1) (hv : IsN H1 v bs) :
    ∃ us, H1 l1 = some (.lst us) ∧ us.length = sts.length ∧ H1 l2 = some (.lst told) ∧ (upd H1 l1 (.lst (us ++ [v]))) l2 = some (.lst told) ∧ SlX.Slt H1 a (wC K) dx (slV (W.slt.choose) pool l1 l2) ∧ SlX.Slt (upd H1 l1 (.lst (us ++ [v]))) a (wC K) dx (slV (W.slt.choose) pool l1 l2) ∧
    Wat K (upd (upd H1 l1 (.lst (us ++ [v]))) l2 (.lst (told ++ [x]))) a dx l1 l2 ch pool (sts ++ [bs]) (told ++ [x]) ∧ But [l1, l2] H (upd (upd H1 l1 (.lst (us ++ [v]))) l2 (.lst (told ++ [x]))) := by
  have hc := W.slt.choose_spec
  generalize W.slt.choose = c at hc ⊢
  obtain ⟨e, hcf⟩ := hc
  obtain ⟨us, e1, hp⟩ := W.st
  have n12 := W.ne
  have q1 := s _ _ e1
  have q2 := s _ _ W.tl
  have ki1 : KI H1 (upd H1 l1 (.lst (us ++ [v]))) := KI.put q1 rfl
  have q3 : (upd H1 l1 (.lst (us ++ [v]))) l2 = some (.lst told) := by
    rw [upd_ne (Ne.symm n12)]
    exact q2
  have ki2 : KI H1 (upd (upd H1 l1 (.lst (us ++ [v]))) l2 (.lst (told ++ [x]))) := ki1.trans (KI.put q3 rfl)
  have ki3 := (KI.of s).trans ki2
  refine ⟨us, q1, paired_len hp, q2, q3, .inr ⟨s _ _ e.1, s _ _ e.2⟩, .inr ⟨ki1 _ _ (s _ _ e.1) rfl, ki1 _ _ (s _ _ e.2) rfl⟩, ⟨⟨c, ⟨ki3 _ _ e.1 rfl, ki3 _ _ e.2 rfl⟩, hcf.ki ki3⟩, ⟨us ++ [v], ?_, paired_snoc (Paired.mapP hp fun _ _ => IsN.ki ki3) (hv.ki ki2)⟩, upd_same, n12⟩, (But.of s).trans ((But.put (List.Mem.head _)).trans (But.put (by simp)))⟩
  rw [upd_ne n12, upd_same]
/-! ### ask -/
def spWAsk (K : PySem.W.Frag) : Sp := fun vs H Q _ => ∃ (a dx l1 l2 : Addr) (ch : List Int) (pool : Int) (pre : List (List Blk)) (bs : List Blk) (told : List V) (z : Int), vs = [.ref a, .int z] ∧ Wat K H a dx l1 l2 ch pool (pre ++ [bs]) told ∧ z ∈ ch ∧ Stand bs ∧ 0 < z ∧ z < 1073741824 ∧ pre.length ≤ 1000 ∧ told.length ≤ 1000 ∧
  ∀ H', Wat K H' a dx l1 l2 ch pool (pre ++ [bs] ++ [lentTo pool bs z]) (told ++ [fpV pool bs z]) → But [l1, l2] H H' → Q (fpV pool bs z) H'
theorem ok_wask (T : TX K mg) : Met P w K mg base "Watch" "ask" 5 ["self", "size"] (spWAsk K) := by
  have sc : FnScope ["self", "size", "first", "stand"] ["self", "size"] (mdef "Watch" "ask" "Watch.ask" 34 13).scope := ⟨rfl, rfl, rfl, by decide +kernel, rfl, by decide +kernel, by decide +kernel⟩
  refine T.okM (d := mdef "Watch" "ask" "Watch.ask" 34 13) (N := ["self", "size", "first", "stand"]) 44 rfl (j := 69) rfl rfl rfl rfl sc (fun vs H Q E h => by obtain ⟨_, _, _, _, _, _, _, _, _, _, rfl, _⟩ := h; rfl) (fun _ _ _ _ _ _ us hl => match us, hl with | [_, _], _ => rfl) fun f cdv A outer s H vs Q E hr h => ?_
  obtain ⟨a, dx, l1, l2, ch, pool, pre, bs, told, z, rfl, W, hin, S, h1, h2, hl1, hl2, k⟩ := h
  have PS : Prp P w K mg base "Watch" "stand" 1 (spStand K) := ok_stand T
  have PC : Prp P w K mg base "Watch" "chain" 1 (spChain K) := ok_chain T
  have PP : Prp P w K mg base "Watch" "pool" 1 (spPool K) := ok_pool T
  have CL : Cal P w K mg base "lent" 4 ["chain", "pool", "stand", "size"] spLent := ok_lent T
  refine ⟨_, pss_cons (ps_asg (pe_cal CL hr (by rfl) (pa_cons (pe_wp T PC (pv 0) (hr.mono (by decide))) (pa_cons (pe_wp T PP (pv 0) (hr.mono (by decide))) (pa_cons (pe_wp T PS (pv 0) (hr.mono (by decide))) (pa_cons (pv 1) pa_nil))))) (pg_tup rfl (pgs_cons (pg_name (i := 2) sc.nd rfl (.inl rfl)) (pgs_cons (pg_name (i := 3) sc.nd rfl (.inl rfl)) pgs_nil))))
    (pss_cons (ps_expr (pe_bm PySem.F.plainAttrs_list PySem.F.slot_list_append PySem.F.type_list_append mt_append (SlX.pe_sl (pv 0)) (pa_cons (pv 3) pa_nil)))
    (pss_cons (ps_expr (pe_bm PySem.F.plainAttrs_list PySem.F.slot_list_append PySem.F.type_list_append mt_append (SlX.pe_sl (pv 0)) (pa_cons (pv 2) pa_nil)))
    (pss_one (ps_ret (pv 2))))), ?_⟩
  refine ⟨_, rfl, rd_chain W fun vc hvc => ⟨_, rfl, rd_pool W ⟨_, rfl, rd_stand W fun v hv => ⟨_, rfl, ?_⟩⟩⟩⟩
  refine ⟨vc, ch, pool, v, bs, z, rfl, hvc.cn, hin, hv, S, h1, h2, fun r H1 s1 hr1 => ?_⟩
  obtain ⟨t, st, rfl, et, hst⟩ := hr1
  obtain ⟨us, q1, q2, q3, q4, q5, q6, W', B'⟩ := W.push (x := fpV pool bs z) s1 hst
  have hul : us.length ≤ 1001 := by
    rw [q2, List.length_append, List.length_singleton]
    omega
  refine ⟨t, _, rfl, SqT.of et, rfl, _, _, rfl, _, _, rfl, rfl, ?_⟩
  refine ⟨_, rfl, a, wC K, dx, _, _, 2, _, rfl, q5, T.scls, T.sl2, rfl, .inl ⟨rfl, _, SqL.of q1⟩, _, rfl, l1, us, _, rfl, rfl, q1, small (by omega), ?_⟩
  refine ⟨_, rfl, a, wC K, dx, _, _, 3, _, rfl, q6, T.scls, T.sl3, rfl, .inl ⟨rfl, _, SqL.of q4⟩, _, rfl, l2, told, _, rfl, rfl, q4, small (by omega), ?_⟩
  exact ⟨_, rfl, k _ W' B'⟩
end Lb
/-! The Watch: give, ==. -/
namespace Lb
open PySem PySem.Spec PyProof.Rows L2
variable {P : Program} {w : World} {K : PySem.W.Frag} {mg : Str → Option Value} {base : Heap}
/-! ### give -/
/-- what dict(stand) holds -/
def kvsOf (bs : List Blk) : List (Key × V) := bs.map fun b => (Sum.inl b.1, V.int b.2)
theorem valV_merge {k : Key} {v : V} : ∀ (kvs acc : List (Key × V)), (∀ p ∈ kvs, p.1 = k → p.2 = v) → (valV acc k = some v ∨ ∃ p ∈ kvs, p.1 = k) → valV (mergeK acc kvs) k = some v
  | [], acc, _, h => by
    rcases h with h | ⟨p, hp, _⟩
    · exact h
    · cases hp
  | q :: r, acc, h1, h2 => by
    have h3 : ∀ p ∈ r, p.1 = k → p.2 = v := fun p hp => h1 p (List.mem_cons_of_mem _ hp)
    show valV (mergeK (putK acc q.1 q.2) r) k = some v
    by_cases e : q.1 = k
    · refine valV_merge r _ h3 (.inl ?_)
      rw [valV_put, if_pos e.symm, h1 q List.mem_cons_self e]
    · refine valV_merge r _ h3 ?_
      rcases h2 with h2 | ⟨p, hp, hk⟩
      · refine .inl ?_
        rw [valV_put, if_neg (Ne.symm e)]
        exact h2
      · rcases List.mem_cons.mp hp with rfl | hp
        · exact absurd hk e
        · exact .inr ⟨p, hp, hk⟩
theorem kvs_val {bs : List Blk} {b : Blk} (S : Stand bs) (hb : b ∈ bs) : valV (mergeK [] (kvsOf bs)) (Sum.inl b.1) = some (V.int b.2) := by
  refine valV_merge _ _ (fun p hp hk => ?_) (.inr ⟨(Sum.inl b.1, V.int b.2), List.mem_map.mpr ⟨b, hb, rfl⟩, rfl⟩)
  obtain ⟨c, hc, rfl⟩ := List.mem_map.mp hp
  have e : c.1 = b.1 := by
    have hk : (Sum.inl c.1 : Key) = Sum.inl b.1 := hk
    injection hk
  rw [sep_inj S.sep S.pos c hc b hb e]
theorem ps_refs {H : Hp} : ∀ {us : List V} {bs : List Blk}, Ps H us bs → ∃ ps : List Addr, us = ps.map V.ref ∧ Paired (fun p kv => SqT K H p [kV kv.1, kv.2]) ps (kvsOf bs)
  | _, _, .nil => ⟨[], rfl, .nil⟩
  | _, _, .cons h t => by
    obtain ⟨ps, e, p⟩ := ps_refs t
    obtain ⟨tt, rfl, ht⟩ := h
    exact ⟨tt :: ps, by rw [e]; rfl, .cons (SqT.of ht) p⟩
def spWGive (K : PySem.W.Frag) : Sp := fun vs H Q _ => ∃ (a dx l1 l2 : Addr) (ch : List Int) (pool : Int) (pre : List (List Blk)) (bs : List Blk) (told : List V) (b : Blk), vs = [.ref a, .int b.1] ∧ Wat K H a dx l1 l2 ch pool (pre ++ [bs]) told ∧ b ∈ bs ∧ Stand bs ∧ pre.length ≤ 1000 ∧ told.length ≤ 1000 ∧
  ∀ H', Wat K H' a dx l1 l2 ch pool (pre ++ [bs] ++ [outTo bs b.1]) (told ++ [.int b.2]) → But [l1, l2] H H' → Q (.int b.2) H'
theorem ok_wgive (T : TX K mg) : Met P w K mg base "Watch" "give" 3 ["self", "first"] (spWGive K) := by
  have sc : FnScope ["self", "first", "stand", "size"] ["self", "first"] (mdef "Watch" "give" "Watch.give" 34 14).scope := ⟨rfl, rfl, rfl, by decide +kernel, rfl, by decide +kernel, by decide +kernel⟩
  refine T.okM (d := mdef "Watch" "give" "Watch.give" 34 14) (N := ["self", "first", "stand", "size"]) 45 rfl (j := 70) rfl rfl rfl rfl sc (fun vs H Q E h => by obtain ⟨_, _, _, _, _, _, _, _, _, _, rfl, _⟩ := h; rfl) (fun _ _ _ _ _ _ us hl => match us, hl with | [_, _], _ => rfl) fun f cdv A outer s H vs Q E hr h => ?_
  obtain ⟨a, dx, l1, l2, ch, pool, pre, bs, told, b, rfl, W, hb, S, hl1, hl2, k⟩ := h
  have hdict : mg "dict" = none := T.free 15
  have PS : Prp P w K mg base "Watch" "stand" 1 (spStand K) := ok_stand T
  have CW : Cal P w K mg base "without_block" 1 ["stand", "first"] spWo := ok_wo T
  refine ⟨_, pss_cons (ps_set (i := 2) sc.nd rfl (.inl rfl) (pe_cal CW (hr.mono (by decide)) (by rfl) (pa_cons (pe_wp T PS (pv 0) hr) (pa_cons (pv 1) pa_nil))))
    (pss_cons (ps_set (i := 3) sc.nd rfl (.inl rfl) (pe_dget (hu_of hr) (pe_callTy (LbO.call_dictT rfl) (by rfl) hdict (by decide +kernel) (pa_cons (pe_wp T PS (pv 0) hr) pa_nil)) (pv 1) (fun _ _ => rfl)))
    (pss_cons (ps_expr (pe_bm PySem.F.plainAttrs_list PySem.F.slot_list_append PySem.F.type_list_append mt_append (SlX.pe_sl (pv 0)) (pa_cons (pv 2) pa_nil)))
    (pss_cons (ps_expr (pe_bm PySem.F.plainAttrs_list PySem.F.slot_list_append PySem.F.type_list_append mt_append (SlX.pe_sl (pv 0)) (pa_cons (pv 3) pa_nil)))
    (pss_one (ps_ret (pv 3)))))), ?_⟩
  refine ⟨_, rfl, rd_stand W fun v hv => ⟨_, rfl, v, bs, b.1, rfl, hv, S.len, ⟨b, hb, rfl⟩, fun r H1 s1 hr1 => ?_⟩⟩
  have W1 := W.same s1
  refine ⟨_, rfl, rd_stand W1 fun v2 hv2 => ?_⟩
  obtain ⟨t2, o2, us2, rfl, et2, ho2, hp2⟩ := hv2
  obtain ⟨ps, e2, pp⟩ := ps_refs (K := K) hp2
  refine ⟨t2, o2, ps, kvsOf bs, rfl, by rw [← e2]; exact et2, ho2, pp, fun d nd => ?_⟩
  have s2 : Same H1 (upd H1 d (.dK (mergeK [] (kvsOf bs)))) := Same.new nd
  have dg : DGet (upd H1 d (.dK (mergeK [] (kvsOf bs)))) d (V.int b.1) (some (V.int b.2)) := by
    have z := DGet.k (k := Sum.inl b.1) (show (upd H1 d (.dK (mergeK [] (kvsOf bs)))) d = some (.dK (mergeK [] (kvsOf bs))) from upd_same)
    rw [kvs_val S hb] at z
    exact z
  refine ⟨_, rfl, d, V.int b.2, rfl, dg, ?_⟩
  obtain ⟨us, q1, q2, q3, q4, q5, q6, W', B'⟩ := W.push (x := V.int b.2) (s1.trans s2) (hr1.same s2)
  have hul : us.length ≤ 1001 := by
    rw [q2, List.length_append, List.length_singleton]
    omega
  refine ⟨_, rfl, a, wC K, dx, _, _, 2, _, rfl, q5, T.scls, T.sl2, rfl, .inl ⟨rfl, _, SqL.of q1⟩, _, rfl, l1, us, _, rfl, rfl, q1, small (by omega), ?_⟩
  refine ⟨_, rfl, a, wC K, dx, _, _, 3, _, rfl, q6, T.scls, T.sl3, rfl, .inl ⟨rfl, _, SqL.of q4⟩, _, rfl, l2, told, _, rfl, rfl, q4, small (by omega), ?_⟩
  exact ⟨_, rfl, k _ W' B'⟩
/-! ### == -/
def dPool (ch : List Int) (pool : Int) : PyData := .tuple [dInts ch, .int pool]
def dNil2 : PyData := .tuple [.tuple [], .tuple []]
theorem can_dPool (ch : List Int) (pool : Int) : (dPool ch pool).canLay0 = true := by
  unfold dPool PyData.canLay0 PyData.canLayAll0
  rw [can_dInts]
  rfl
theorem sh_dPool (ch : List Int) (pool : Int) : SeqAt.shaped (dPool ch pool) = true := by
  refine shape_of (n := 2) (can_dPool ch pool) ?_ (by decide)
  unfold dPool PyData.depth PyData.depthAll
  exact Nat.succ_le_succ (Nat.max_le.mpr ⟨dep_dInts ch, Nat.zero_le _⟩)
theorem dp_cf {H : Hp} {v : V} {ns : List Int} (h : IsCF H v ns) : Dp K H v (dInts ns) := by
  obtain ⟨t, o, rfl, ht, _⟩ := h
  exact .tup (sqT_rd (.inr ⟨o, ht⟩)) (dpall_ints ns)
theorem dp_n {H : Hp} {v : V} {bs : List Blk} (h : IsN H v bs) : Dp K H v (dSt bs) := by
  obtain ⟨t, o, vs, rfl, ht, _, hp⟩ := h
  exact .tup (sqT_rd (.inr ⟨o, ht⟩)) (dp_all (fun _ _ q => dp_pair q) hp)
def spWEq (K : PySem.W.Frag) : Sp := fun vs H Q _ => ∃ (a dx l1 l2 b dy m1 m2 : Addr) (ch : List Int) (pool : Int) (pre pre' : List (List Blk)), vs = [.ref a, .ref b] ∧ Wat K H a dx l1 l2 ch pool (pre ++ [[]]) [] ∧ Wat K H b dy m1 m2 ch pool (pre' ++ [[]]) [] ∧ ∀ H', Same H H' → Q (.bl true) H'
theorem ok_weq (T : TX K mg) : Met P w K mg base "Watch" "__eq__" 3 ["self", "other"] (spWEq K) := by
  have sc : FnScope ["self", "other"] ["self", "other"] (mdef "Watch" "__eq__" "Watch.__eq__" 34 12).scope := ⟨rfl, rfl, rfl, by decide +kernel, rfl, by decide +kernel, by decide +kernel⟩
  refine T.okM (d := mdef "Watch" "__eq__" "Watch.__eq__" 34 12) (N := ["self", "other"]) 43 rfl (j := 68) rfl rfl rfl rfl sc (fun vs H Q E h => by obtain ⟨_, _, _, _, _, _, _, _, _, _, _, _, rfl, _⟩ := h; rfl) (fun _ _ _ _ _ _ us hl => match us, hl with | [_, _], _ => rfl) fun f cdv A outer s H vs Q E hr h => ?_
  obtain ⟨a, dx, l1, l2, b, dy, m1, m2, ch, pool, pre, pre', rfl, W, W', k⟩ := h
  have hi : mg "isinstance" = none := T.free 1
  have PS : Prp P w K mg base "Watch" "stand" 1 (spStand K) := ok_stand T
  have PC : Prp P w K mg base "Watch" "chain" 1 (spChain K) := ok_chain T
  have PP : Prp P w K mg base "Watch" "pool" 1 (spPool K) := ok_pool T
  have PT : Prp P w K mg base "Watch" "told" 1 (spTold K) := ok_told T
  refine ⟨_, pss_cons (ps_if (PW.pt (pw_or (pt_not (pt_val (pe_callB (SlX.call_isiSl (.ref (wC K))) (by rfl) hi (by decide +kernel) (pa_cons (pv 1) (pa_cons (pe_glob (v := .ref (wC K)) (by rfl) T.gW rfl) pa_nil)))))
      (pw_or1 (pt_cmpR (op_neD hr.units) (pe_tup (pa_cons (pe_wp T PC (pv 0) hr) (pa_cons (pe_wp T PP (pv 0) hr) pa_nil))) (pe_tup (pa_cons (pe_wp T PC (pv 1) hr) (pa_cons (pe_wp T PP (pv 1) hr) pa_nil))) (nomark _))))) (pss_one (ps_ret pe_bl)) pss_nil)
    (pss_one (ps_ret (pe_cmpR (op_eqD hr.units) (pe_tup (pa_cons (pe_wp T PS (pv 0) hr) (pa_cons (pe_wp T PT (pv 0) hr) pa_nil))) (pe_tup (pa_cons (pe_wp T PS (pv 1) hr) (pa_cons (pe_wp T PT (pv 1) hr) pa_nil))) (nomark _)))), ?_⟩
  obtain ⟨vs', e'⟩ := W'.s
  refine ⟨_, rfl, b, wC K, dy, vs', .ref (wC K), true, rfl, rfl, fun w h => h, e', T.scls, T.sisi, if_pos (beq_self_eq_true _), true, rfl, iteF ?_⟩
  refine ⟨_, rfl, rd_chain W fun c1 hc1 => ⟨_, rfl, rd_pool W ⟨by show 2 ≤ sizeLine; decide, fun t1 n1 => ?_⟩⟩⟩
  have s1 : Same H (upd H t1 (.tup [c1, .int pool])) := Same.new n1
  refine ⟨_, rfl, rd_chain (W'.same s1) fun c2 hc2 => ⟨_, rfl, rd_pool (W'.same s1) ⟨by show 2 ≤ sizeLine; decide, fun t2 n2 => ?_⟩⟩⟩
  have s2 : Same (upd H t1 (.tup [c1, .int pool])) (upd (upd H t1 (.tup [c1, .int pool])) t2 (.tup [c2, .int pool])) := Same.new n2
  refine ⟨dPool ch pool, dPool ch pool, .tup (SqT.of (s2 _ _ upd_same)) (.cons (dp_cf (hc1.same (s1.trans s2))) (.cons (.int _) .nil)), .tup (SqT.of upd_same) (.cons (dp_cf (hc2.same s2)) (.cons (.int _) .nil)), sh_dPool _ _, sh_dPool _ _, _, rfl, ?_⟩
  rw [eqv_same (can_dPool ch pool)]
  refine iteF ?_
  generalize eH2 : upd (upd H t1 (.tup [c1, .int pool])) t2 (.tup [c2, .int pool]) = H2 at s2 ⊢
  have S := s1.trans s2
  refine ⟨_, rfl, rd_stand (W.same S) fun v1 hv1 => ⟨_, rfl, rd_told (W.same S) fun u1 H3 s3 eu1 => ⟨by show 2 ≤ sizeLine; decide, fun t3 n3 => ?_⟩⟩⟩
  have s4 : Same H3 (upd H3 t3 (.tup [v1, .ref u1])) := Same.new n3
  refine ⟨_, rfl, rd_stand (W'.same (S.trans (s3.trans s4))) fun v2 hv2 => ⟨_, rfl, rd_told (W'.same (S.trans (s3.trans s4))) fun u2 H4 s5 eu2 => ⟨by show 2 ≤ sizeLine; decide, fun t4 n4 => ?_⟩⟩⟩
  have s6 : Same H4 (upd H4 t4 (.tup [v2, .ref u2])) := Same.new n4
  refine ⟨dNil2, dNil2, .tup (SqT.of (s6 _ _ (s5 _ _ upd_same))) (.cons (dp_n (hv1.same (s3.trans (s4.trans (s5.trans s6))))) (.cons (.tup (SqT.of (s6 _ _ (s5 _ _ (s4 _ _ eu1)))) .nil) .nil)), .tup (SqT.of upd_same) (.cons (dp_n (hv2.same (s5.trans s6))) (.cons (.tup (SqT.of (s6 _ _ eu2)) .nil) .nil)), by decide +kernel, by decide +kernel, ?_⟩
  have e9 : PyData.eqv dNil2 dNil2 = true := eqv_same rfl
  rw [e9]
  exact k _ (S.trans (s3.trans (s4.trans (s5.trans s6))))
end Lb
/-! The Watch: height, reach. -/
namespace Lb
open PySem PySem.Spec PyProof.Rows L2
variable {P : Program} {w : World} {K : PySem.W.Frag} {mg : Str → Option Value} {base : Heap}
def spWHgt (K : PySem.W.Frag) : Sp := spGet K fun _ _ _ _ _ _ sts _ H Q => sts ≠ [] ∧ sts.length ≤ 1000 ∧ (∀ bs ∈ sts, bs.length ≤ 1000) ∧ ∀ m H', Same H H' → m ∈ sts.map live → (∀ y ∈ sts.map live, y ≤ m) → Q (.int m) H'
def scOut1 : Scope := { kind := ScopeKind.function, names := [(".0", NameKind.local), ("stand", NameKind.local), ("sum", NameKind.globalImplicit)], isGenerator := false, isCoroutine := false }
theorem ok_whgt (T : TX K mg) : Met P w K mg base "Watch" "height" 1 ["self"] (spWHgt K) := by
  have sc : FnScope ["self", "stand", "first", "size"] ["self"] (mdef "Watch" "height" "Watch.height" 34 7).scope := ⟨rfl, rfl, rfl, by decide +kernel, rfl, by decide +kernel, by decide +kernel⟩
  refine T.okM (d := mdef "Watch" "height" "Watch.height" 34 7) (N := ["self", "stand", "first", "size"]) 39 rfl (j := 64) rfl rfl rfl rfl sc (fun vs H Q E h => spGet_len h) (fun _ _ _ _ _ _ us hl => match us, hl with | [_], _ => rfl) fun f cdv A outer s H vs Q E hr h => ?_
  obtain ⟨a, dx, l1, l2, ch, pool, sts, told, rfl, W, hne, hl, hls, k⟩ := h
  have hsum : mg "sum" = none := T.free 9
  have hmax : mg "max" = none := T.free 8
  have nd : (["self", "stand", "first", "size"] : List Str).Nodup := by decide +kernel
  refine ⟨_, pss_one (ps_ret (pe_callB (cr_max rfl) (by rfl) hmax (by decide +kernel) (pa_cons (pe_lc (own := [("stand", 1)]) (g := gName 1) (tt := tYes) (te := tCB (rSum K) (tCons (tLc (iTup K (tVar 1)) (gTup K 2 (gCons (gName 2) (gCons (gName 3) gNil))) tYes (tVar 3) [2, 3]) tNil)) rfl nd (pi_list (SlX.pe_sl (pv 0))) (blkOk_by (N := ["self", "stand", "first", "size"]) (sc := (mdef "Watch" "height" "Watch.height" 34 7).scope) (by decide +kernel))
      (fun _ _ _ _ _ => pg_name (i := 1) nd rfl (Or.inl rfl)) (fun _ _ _ _ _ => pts_nil)
      (fun _ _ _ _ _ => pe_callB (cr_sum rfl) (by rfl) hsum (by decide +kernel) (pa_cons (pe_lc (own := [("first", 2), ("size", 3)]) (g := gTup K 2 (gCons (gName 2) (gCons (gName 3) gNil))) (tt := tYes) rfl nd (pi_tup (pv 1)) (blkOk_by (N := ["self", "stand", "first", "size"]) (sc := scOut1) (by decide +kernel))
          (fun _ _ _ _ _ => pg_tup rfl (pgs_cons (pg_name (i := 2) nd rfl (Or.inl rfl)) (pgs_cons (pg_name (i := 3) nd rfl (Or.inl rfl)) pgs_nil)))
          (fun _ _ _ _ _ => pts_nil) (fun _ _ _ _ _ => pv 3)) pa_nil))) pa_nil))), ?_⟩
  obtain ⟨c, e, hc⟩ := W.slt
  obtain ⟨us, e1, hp⟩ := W.st
  refine ⟨_, rfl, a, wC K, dx, _, _, 2, _, rfl, .inr e, T.scls, T.sl2, rfl, l1, rfl, ⟨_, SqL.of e1⟩, fun D nD => ?_⟩
  refine lc_list (K := K) (a := l1) (xs := us) (fun i H' => Same H H' ∧ H' D = some (.lst (((sts.take i).map live).map V.int))) ⟨Same.new nD, by rw [upd_same]; rfl⟩ (fun i H' _ p => SqL.of (p.1 _ _ e1)) ?_ ?_
  · rintro i x H' hx ⟨sm, eD⟩
    obtain ⟨bs, hb, hn⟩ := paired_get hp hx
    obtain ⟨t, o, vs, rfl, et, _, pp⟩ := hn.same sm
    refine ⟨rfl, _, rfl, t, rfl, ⟨_, sqT_rd (.inr ⟨o, et⟩)⟩, fun D2 nD2 => ?_⟩
    refine lc_sizes (K := K) (.inr ⟨o, et⟩) pp (hls bs (List.mem_of_getElem? hb)) nD2 (fun _ _ => rfl) (fun _ _ => rfl) fun H2 s2 eD2 => ?_
    refine ⟨D2, bs.map Prod.snd, rfl, SqL.of eD2, _, s2 _ _ eD, ?_, (sm.trans s2).put nD, ?_⟩
    · rw [List.length_map, List.length_map, List.length_take]
      exact small (by omega)
    · rw [upd_same, List.take_add_one, hb, List.map_append, List.map_append]
      rfl
  · rintro H' ⟨sm, eD⟩
    rw [paired_len hp, List.take_length] at eD
    refine ⟨D, sts.map live, rfl, SqL.of eD, ?_, fun m h1 h2 => k m H' sm h1 h2⟩
    rw [List.length_map]
    exact List.length_pos_iff.mpr hne
/-! ### reach -/
def endsL (bs : List Blk) : List Int := bs.map fun b => b.1 + b.2
def spWRch (K : PySem.W.Frag) : Sp := spGet K fun _ _ _ _ _ _ sts _ H Q => sts.length ≤ 900 ∧ (∀ bs ∈ sts, bs.length ≤ 100) ∧ ∀ m H', Same H H' → m ∈ 0 :: sts.flatMap endsL → (∀ y ∈ 0 :: sts.flatMap endsL, y ≤ m) → Q (.int m) H'
theorem ends_len : ∀ {sts : List (List Blk)}, (∀ bs ∈ sts, bs.length ≤ 100) → (sts.flatMap endsL).length ≤ sts.length * 100
  | [], _ => Nat.zero_le _
  | b :: r, h => by
    have h1 := ends_len (sts := r) fun x hx => h x (List.mem_cons_of_mem _ hx)
    have h2 := h b List.mem_cons_self
    rw [List.flatMap_cons, List.length_append, List.length_cons]
    unfold endsL at h1 ⊢
    rw [List.length_map]
    omega
theorem ok_wrch (T : TX K mg) : Met P w K mg base "Watch" "reach" 1 ["self"] (spWRch K) := by
  have sc : FnScope ["self", "stand", "first", "size"] ["self"] (mdef "Watch" "reach" "Watch.reach" 34 8).scope := ⟨rfl, rfl, rfl, by decide +kernel, rfl, by decide +kernel, by decide +kernel⟩
  refine T.okM (d := mdef "Watch" "reach" "Watch.reach" 34 8) (N := ["self", "stand", "first", "size"]) 40 rfl (j := 65) rfl rfl rfl rfl sc (fun vs H Q E h => spGet_len h) (fun _ _ _ _ _ _ us hl => match us, hl with | [_], _ => rfl) fun f cdv A outer s H vs Q E hr h => ?_
  obtain ⟨a, dx, l1, l2, ch, pool, sts, told, rfl, W, hl, hls, k⟩ := h
  have hmax : mg "max" = none := T.free 8
  have nd : (["self", "stand", "first", "size"] : List Str).Nodup := by decide +kernel
  refine ⟨_, pss_one (ps_ret (pe_callB (cr_max rfl) (by rfl) hmax (by decide +kernel) (pa_cons (pe_lst (pa_cons pe_int (StX.pa_star (pe_lc2 (own := [("stand", 1), ("first", 2), ("size", 3)]) (vs1 := [2, 3]) (g := gName 1) (tt := tYes) (wi1 := iTup K (tVar 1)) (g1 := gTup K 2 (gCons (gName 2) (gCons (gName 3) gNil))) (tt1 := tYes) rfl nd (pi_list (SlX.pe_sl (pv 0)))
      (blkOk_by (N := ["self", "stand", "first", "size"]) (sc := (mdef "Watch" "reach" "Watch.reach" 34 8).scope) (by decide +kernel)) (by decide)
      (fun _ _ _ _ _ => pg_name (i := 1) nd rfl (Or.inl rfl)) (fun _ _ _ _ _ => pts_nil) (fun _ _ _ _ _ => pi_tup (pv 1))
      (fun _ _ _ _ _ => pg_tup rfl (pgs_cons (pg_name (i := 2) nd rfl (Or.inl rfl)) (pgs_cons (pg_name (i := 3) nd rfl (Or.inl rfl)) pgs_nil))) (fun _ _ _ _ _ => pts_nil) (fun _ _ _ _ _ => pe_op op_add (pv 2) (pv 3))) pa_nil))) pa_nil))), ?_⟩
  obtain ⟨c, e, hc⟩ := W.slt
  obtain ⟨us, e1, hp⟩ := W.st
  have hul := paired_len hp
  refine ⟨_, rfl, a, wC K, dx, _, _, 2, _, rfl, .inr e, T.scls, T.sl2, rfl, l1, rfl, ⟨_, SqL.of e1⟩, fun D nD => ?_⟩
  -- the two loops
  have room : ∀ {n : Nat} {bs : List Blk} {i : Nat}, sts[n]? = some bs → i ≤ bs.length → ((sts.take n).flatMap endsL ++ endsL (bs.take i)).length ≤ 100000 := by
    intro n bs i hb hi
    have h1 := ends_len (sts := sts.take n) fun x hx => hls x (List.mem_of_mem_take hx)
    have h2 := hls bs (List.mem_of_getElem? hb)
    obtain ⟨h3, _⟩ := List.getElem?_eq_some_iff.mp hb
    rw [List.length_append]
    have h4 : (endsL (bs.take i)).length ≤ bs.length := by
      unfold endsL
      rw [List.length_map, List.length_take]
      omega
    rw [List.length_take] at h1
    omega
  have stepO : ∀ {n : Nat} {bs : List Blk}, sts[n]? = some bs → (sts.take (n + 1)).flatMap endsL = (sts.take n).flatMap endsL ++ endsL bs := by
    intro n bs hb
    rw [List.take_add_one, hb, List.flatMap_append]
    congr 1
    exact List.append_nil _
  have stepI : ∀ {i : Nat} {bs : List Blk} {b : Blk}, bs[i]? = some b → endsL (bs.take (i + 1)) = endsL (bs.take i) ++ [b.1 + b.2] := by
    intro i bs b hb
    unfold endsL
    rw [List.take_add_one, hb, List.map_append]
    rfl
  refine ⟨fun n m H' => m = us.length - n ∧ n ≤ us.length ∧ Same H H' ∧ H' D = some (.lst (((sts.take n).flatMap endsL).map V.int)), ⟨us.length, by simp, Nat.zero_le _, Same.new nD, by rw [upd_same]; rfl⟩, ?_⟩
  rintro n m H' ⟨rfl, hn, sm, eD⟩
  have q := sm _ _ e1
  by_cases hlt : n < us.length
  · have hx : us[n]? = some us[n] := by simp [hlt]
    obtain ⟨bs, hb, hnn⟩ := paired_get hp hx
    obtain ⟨t, o, vs, et0, et, _, pp⟩ := hnn
    have hvl := paired_len pp
    refine .inr ⟨⟨us, us[n], SqL.of q, hx⟩, fun H'' => Same H H'' ∧ H'' D = some (.lst (((sts.take (n + 1)).flatMap endsL).map V.int)), fun H'' p' => ⟨us.length - (n + 1), by omega, rfl, hlt, p'⟩, fun x H'' y => ?_⟩
    obtain ⟨ey, y⟩ := y
    subst ey
    have ex : us[n]? = some x := y us (SqL.of q)
    rw [hx] at ex
    have ex : us[n] = x := Option.some.inj ex
    rw [← ex, et0]
    refine ⟨rfl, _, rfl, t, rfl, ⟨_, sqT_rd (.inr ⟨o, sm _ _ et⟩)⟩, ?_⟩
    refine ⟨fun i k H3 => k = vs.length - i ∧ i ≤ vs.length ∧ Same H H3 ∧ H3 D = some (.lst (((sts.take n).flatMap endsL ++ endsL (bs.take i)).map V.int)), ⟨vs.length, by simp, Nat.zero_le _, sm, by rw [eD]; simp [endsL]⟩, ?_⟩
    rintro i k H3 ⟨rfl, hi, s3, eD3⟩
    have q3 := s3 _ _ et
    by_cases hlt3 : i < vs.length
    · have hx3 : vs[i]? = some vs[i] := by simp [hlt3]
      refine .inr ⟨⟨vs, vs[i], sqT_rd (.inr ⟨o, q3⟩), hx3⟩, fun H4 => Same H H4 ∧ H4 D = some (.lst (((sts.take n).flatMap endsL ++ endsL (bs.take (i + 1))).map V.int)), fun H4 p' => ⟨vs.length - (i + 1), by omega, rfl, hlt3, p'⟩, fun x3 H4 y3 => ?_⟩
      obtain ⟨ey, y3⟩ := y3
      subst ey
      have ex3 : vs[i]? = some x3 := y3 vs (sqT_rd (.inr ⟨o, q3⟩))
      obtain ⟨b, hbb, ⟨tb, rfl, htb⟩⟩ := paired_get pp ex3
      refine ⟨tb, _, rfl, SqT.of (s3 _ _ htb), rfl, _, _, rfl, _, _, rfl, rfl, rfl, ?_⟩
      refine ⟨_, rfl, _, rfl, _, _, rfl, rfl, _, eD3, ?_, ?_⟩
      · rw [List.length_map]
        exact small (room hb (by omega))
      · refine ⟨s3.put nD, ?_⟩
        rw [upd_same, stepI hbb, List.map_append, List.map_append, List.map_append, List.append_assoc]
        rfl
    · have ei : i = vs.length := by omega
      subst ei
      refine .inl ⟨⟨vs, sqT_rd (.inr ⟨o, q3⟩), Nat.le_refl _⟩, s3, ?_⟩
      rw [stepO hb, eD3, hvl, List.take_length]
  · have en : n = us.length := by omega
    subst en
    refine .inl ⟨⟨us, SqL.of q, Nat.le_refl _⟩, ?_⟩
    rw [hul, List.take_length] at eD
    have hz := ends_len hls
    refine ⟨D, _, rfl, .inr (SqL.of eD), ?_, fun l nl => ⟨l, 0 :: sts.flatMap endsL, rfl, ?_, Nat.succ_pos _, fun m h1 h2 => k m _ (sm.trans (Same.new nl)) h1 h2⟩⟩
    · rw [List.append_nil, List.length_cons, List.length_map]
      exact Nat.le_of_lt (small (by omega))
    · refine SqL.of ?_
      rw [upd_same, List.append_nil, List.map_cons]
end Lb
/-! The Board: its state, __init__, take_over, put, __getitem__. -/
namespace Lb
open PySem PySem.Spec PyProof.Rows L2
variable {P : Program} {w : World} {K : PySem.W.Frag} {mg : Str → Option Value} {base : Heap}
/-! ### methods called -/
section
variable {X : Cx} {o e : Expr} {es : List Expr} {m : Str} {ta : TE} {t : TA} {k : Nat} {ps : List Str} {sp : Sp} {pos apos : Pos} {pl : Sem Bool}
theorem pe_bmeth (T : TX X.K X.mg) (h : Met X.prog X.w X.K X.mg X.base "Board" m k ps sp) (he : PE X o ta) (hr : Room k X.A) (ha : PA X (e :: es) t)
    (hst : starEach (e :: es) X.env = (false, eval e X.env) :: starEach es X.env := by rfl) (hpl : (backTo pos (starEach es X.env)).any (·.1) = false := by rfl)
    (ht : eval (.Call (.Attribute o m apos) (e :: es) [] pos) X.env = (do
      let ov ← eval o X.env
      standAt apos.atName
      let (f, first) ← holding [ov] (getMethod ov m pl)
      callWith pos f first (backTo pos (starEach (e :: es) X.env)) (backToKw pos (keywordEach [] X.env))) := by rfl) : PE X (.Call (.Attribute o m apos) (e :: es) [] pos) (tMeth (bC X.K) m sp [] E0 ta t) := by
  obtain ⟨fd, hm, _, F, b⟩ := h.ex
  exact pe_meth he T.bcls hm F hr b .nil pass0 ha hst hpl ht
theorem pe_bmeth0 (T : TX X.K X.mg) (h : Met X.prog X.w X.K X.mg X.base "Board" m k ps sp) (he : PE X o ta) (hr : Room k X.A)
    (ht : eval (.Call (.Attribute o m apos) [] [] pos) X.env = (do
      let ov ← eval o X.env
      standAt apos.atName
      let (f, first) ← holding [ov] (getMethod ov m pl)
      callWith pos f first (backTo pos (starEach [] X.env)) (backToKw pos (keywordEach [] X.env))) := by rfl) : PE X (.Call (.Attribute o m apos) [] [] pos) (tMeth (bC X.K) m sp [] E0 ta tNil) := by
  obtain ⟨fd, hm, _, F, b⟩ := h.ex
  exact pe_meth0 he T.bcls hm F hr b .nil pass0 ht
theorem pe_wmeth (T : TX X.K X.mg) (h : Met X.prog X.w X.K X.mg X.base "Watch" m k ps sp) (he : PE X o ta) (hr : Room k X.A) (ha : PA X (e :: es) t)
    (hst : starEach (e :: es) X.env = (false, eval e X.env) :: starEach es X.env := by rfl) (hpl : (backTo pos (starEach es X.env)).any (·.1) = false := by rfl)
    (ht : eval (.Call (.Attribute o m apos) (e :: es) [] pos) X.env = (do
      let ov ← eval o X.env
      standAt apos.atName
      let (f, first) ← holding [ov] (getMethod ov m pl)
      callWith pos f first (backTo pos (starEach (e :: es) X.env)) (backToKw pos (keywordEach [] X.env))) := by rfl) : PE X (.Call (.Attribute o m apos) (e :: es) [] pos) (SlX.tMethSl (wC X.K) sp E0 ta t) :=
  SlX.pe_methSl he T.scls h.meth h.R hr pass0 ha hst hpl ht
theorem pe_wmeth0 (T : TX X.K X.mg) (h : Met X.prog X.w X.K X.mg X.base "Watch" m k ps sp) (he : PE X o ta) (hr : Room k X.A)
    (ht : eval (.Call (.Attribute o m apos) [] [] pos) X.env = (do
      let ov ← eval o X.env
      standAt apos.atName
      let (f, first) ← holding [ov] (getMethod ov m pl)
      callWith pos f first (backTo pos (starEach [] X.env)) (backToKw pos (keywordEach [] X.env))) := by rfl) : PE X (.Call (.Attribute o m apos) [] [] pos) (SlX.tMethSl (wC X.K) sp E0 ta tNil) :=
  SlX.pe_methSl0 he T.scls h.meth h.R hr pass0 ht
end
/-! ### the state -/
/-- a pool's three: chain, pool, stand -/
def IsT (H : Hp) (v : V) (ch : List Int) (pool : Int) (bs : List Blk) : Prop := ∃ t c st, v = .ref t ∧ H t = some (.tup [c, .int pool, st]) ∧ IsCF H c ch ∧ IsN H st bs
/-- what own_pools holds: nothing yet; the one pool -/
def PD (ch : List Int) (pool : Int) (H : Hp) (v : V) (x : Option (List Blk)) : Prop := ∃ d kvs, v = .ref d ∧ H d = some (.dK kvs) ∧ match x with
  | none => kvs = []
  | some bs => ∃ tv, kvs = [(.inr "p", tv)] ∧ IsT H tv ch pool bs
def flds (dv : V) (lp : Addr) : List (Str × V) := [("own_pools", dv), ("own_past", .ref lp)]
structure Brd (K : PySem.W.Frag) (H : Hp) (b bd lp : Addr) (ch : List Int) (pool : Int) (x : Option (List Blk)) (past : List (Option (List Blk))) : Prop where
  ins : ∃ dv, H b = some (.ins (bC K) bd (flds dv lp)) ∧ PD ch pool H dv x
  past : ∃ ps, H lp = some (.lst ps) ∧ Paired (PD ch pool H) ps past
theorem IsT.ki {H H' : Hp} (s : KI H H') {v : V} {ch : List Int} {pool : Int} {bs : List Blk} (h : IsT H v ch pool bs) : IsT H' v ch pool bs := by
  obtain ⟨t, c, st, e, q, h1, h2⟩ := h
  exact ⟨t, c, st, e, s _ _ q rfl, h1.ki s, h2.ki s⟩
theorem PD.ki {H H' : Hp} (s : KI H H') {v : V} {ch : List Int} {pool : Int} {x : Option (List Blk)} (h : PD ch pool H v x) : PD ch pool H' v x := by
  obtain ⟨d, kvs, e, q, h⟩ := h
  refine ⟨d, kvs, e, s _ _ q rfl, ?_⟩
  cases x with
  | none => exact h
  | some bs =>
    obtain ⟨tv, e2, h2⟩ := h
    exact ⟨tv, e2, h2.ki s⟩
theorem Brd.keep {H H' : Hp} {b bd lp : Addr} {ch : List Int} {pool : Int} {x : Option (List Blk)} {past : List (Option (List Blk))} (h : Brd K H b bd lp ch pool x past) (ki : KI H H') (h1 : ∀ o, H b = some o → H' b = some o) (h2 : ∀ o, H lp = some o → H' lp = some o) : Brd K H' b bd lp ch pool x past := by
  obtain ⟨⟨dv, e1, e2⟩, ps, e3, e4⟩ := h
  exact ⟨⟨dv, h1 _ e1, e2.ki ki⟩, ps, h2 _ e3, Paired.mapP e4 fun _ _ => PD.ki ki⟩
theorem Brd.same {H H' : Hp} {b bd lp : Addr} {ch : List Int} {pool : Int} {x : Option (List Blk)} {past : List (Option (List Blk))} (h : Brd K H b bd lp ch pool x past) (s : Same H H') : Brd K H' b bd lp ch pool x past := h.keep (KI.of s) (s _) (s _)
/-! ### __init__ -/
def bInit : He.DefD := mdef "Board" "__init__" "Board.__init__" 36 0
def spBI (K : PySem.W.Frag) : Sp := fun vs H Q _ => ∃ (b bd : Addr) (ch : List Int) (pool : Int), vs = [.ref b] ∧ H b = some (.ins (bC K) bd []) ∧
  ∀ H' lp, H lp = none → Brd K H' b bd lp ch pool none [] → (∀ x o, H x = some o → x ≠ b → H' x = some o) → Q .non H'
theorem TX.mkB (T : TX K mg) : ∃ fd, FnOk P w K mg base CX0 1 (He.ma K (bC K) "__init__") fd ["self"] (spBI K) ∧ Binds K fd ["self"] [] := by
  obtain ⟨fd, F⟩ := T.fn 47 (d := bInit)
  have F : FunD K "__init__" "Board.__init__" bInit.params bInit.body bInit.scope [] [] (He.ma K (bC K) "__init__") fd := F
  have sc : FnScope ["self"] ["self"] bInit.scope := ⟨rfl, rfl, rfl, by decide +kernel, rfl, by decide +kernel, by decide +kernel⟩
  refine ⟨fd, F.ok sc (fun vs H Q E h => by
    obtain ⟨b, bd, ch, pool, rfl, _⟩ := h
    rfl) fun cdv A outer s H vs Q E hr h => ?_, F.bindsN fun _ _ _ _ _ _ us hl => match us, hl with | [_], _ => rfl⟩
  obtain ⟨b, bd, ch, pool, rfl, hb, k⟩ := h
  suffices z : ∃ t, PSs (cxOf CX0 P w K mg base ["self"] bInit.qual bInit.scope (He.ma K (bC K) "__init__") cdv A outer s H E).nox bInit.body t ∧ t { nx := fun _ H' => Q .non H', rt := Q } (start ["self"] [.ref b]) H by
    obtain ⟨t, h, q⟩ := z
    exact ⟨t, h.nox, q⟩
  refine ⟨_, pss_one (ps_asg (pe_tup (pa_cons pe_dnewK (pa_cons (pe_lst pa_nil) pa_nil))) (pg_tup rfl (pgs_cons (LbO.pg_fld (pv 0)) (pgs_cons (LbO.pg_fld (pv 0)) pgs_nil)))), ?_⟩
  intro d nd
  refine ⟨Nat.zero_le _, fun lp np => ⟨by show 2 ≤ sizeLine; decide, fun t nt => ?_⟩⟩
  have s1 : Same H (upd H d (.dK [])) := Same.new nd
  have s2 : Same (upd H d (.dK [])) (upd (upd H d (.dK [])) lp (.lst [])) := Same.new np
  have np0 : H lp = none := s1.free np
  generalize eH2 : upd (upd H d (.dK [])) lp (.lst []) = H2 at s2 nt ⊢
  have s3 : Same H2 (upd H2 t (.tup [.ref d, .ref lp])) := Same.new nt
  generalize eH3 : upd H2 t (.tup [.ref d, .ref lp]) = H3 at s3 ⊢
  have et : H3 t = some (.tup [.ref d, .ref lp]) := by rw [← eH3, upd_same]
  have ed : H3 d = some (.dK []) := s3 _ _ (s2 _ _ upd_same)
  have elp : H3 lp = some (.lst []) := s3 _ _ (by rw [← eH2, upd_same])
  have S := s1.trans (s2.trans s3)
  have eb := S _ _ hb
  refine ⟨t, _, rfl, SqT.of et, rfl, _, _, rfl, ?_⟩
  refine ⟨_, rfl, b, bC K, bd, [], rfl, eb, T.bcls, T.np, by decide, _, _, rfl, ?_⟩
  refine ⟨_, rfl, b, bC K, bd, _, rfl, upd_same, T.bcls, T.nq, by show 1 < 1000; decide, rfl, ?_⟩
  rw [upd_upd]
  have fr : ∀ x o, H3 x = some o → x ≠ b → (upd H3 b (.ins (bC K) bd (flds (.ref d) lp))) x = some o := fun x o e hx => by
    rw [upd_ne hx]
    exact e
  refine k (upd H3 b (.ins (bC K) bd (flds (.ref d) lp))) lp np0 ⟨⟨.ref d, upd_same, d, [], rfl, fr _ _ ed (ne_of ed eb (by intro z; cases z)), rfl⟩, [], fr _ _ elp (ne_of elp eb (by intro z; cases z)), .nil⟩ fun x o e hx => fr x o (S _ _ e) hx
/-! ### take_over -/
def spTO (K : PySem.W.Frag) : Sp := fun vs H Q _ => ∃ (b bd lp : Addr) (ch : List Int) (pool : Int) (x y : Option (List Blk)) (past : List (Option (List Blk))) (dv : V), vs = [.ref b, dv] ∧ Brd K H b bd lp ch pool x past ∧ PD ch pool H dv y ∧ past.length ≤ 1000 ∧
  ∀ H', Brd K H' b bd lp ch pool y (past ++ [x]) → But [b, lp] H H' → Q .non H'
theorem ok_to (T : TX K mg) : Met P w K mg base "Board" "take_over" 1 ["self", "pools"] (spTO K) := by
  have sc : FnScope ["self", "pools"] ["self", "pools"] (mdef "Board" "take_over" "Board.take_over" 36 8).scope := ⟨rfl, rfl, rfl, by decide +kernel, rfl, by decide +kernel, by decide +kernel⟩
  refine T.okM (d := mdef "Board" "take_over" "Board.take_over" 36 8) (N := ["self", "pools"]) 49 rfl (j := 73) rfl rfl rfl rfl sc (fun vs H Q E h => by obtain ⟨_, _, _, _, _, _, _, _, _, rfl, _⟩ := h; rfl) (fun _ _ _ _ _ _ us hl => match us, hl with | [_, _], _ => rfl) fun f cdv A outer s H vs Q E hr h => ?_
  obtain ⟨b, bd, lp, ch, pool, x, y, past, dv, rfl, B, hd, hl, k⟩ := h
  obtain ⟨⟨dv0, e1, e2⟩, ps, e3, e4⟩ := B
  refine ⟨_, pss_cons (ps_expr (pe_bm PySem.F.plainAttrs_list PySem.F.slot_list_append PySem.F.type_list_append mt_append (pe_fld (pv 0) rfl) (pa_cons (pe_fld (pv 0) rfl) pa_nil)))
    (pss_one (ps_fld (pv 0) (pv 1) rfl)), ?_⟩
  refine ⟨_, rfl, b, bC K, bd, _, _, rfl, e1, T.bcls, T.nq, rfl, .inl ⟨rfl, _, SqL.of e3⟩, _, rfl, b, bC K, bd, _, _, rfl, e1, T.bcls, T.np, rfl, lp, ps, _, rfl, rfl, e3, small (by rw [paired_len e4]; omega), ?_⟩
  have nb : b ≠ lp := ne_of e1 e3 (by intro z; cases z)
  have eb : (upd H lp (.lst (ps ++ [dv0]))) b = some (.ins (bC K) bd (flds dv0 lp)) := by
    rw [upd_ne nb]
    exact e1
  have ki1 : KI H (upd H lp (.lst (ps ++ [dv0]))) := KI.put e3 rfl
  refine ⟨_, rfl, _, rfl, b, bC K, bd, _, rfl, eb, T.bcls, T.np, by show 2 < 1000; decide, ?_⟩
  have ki2 := ki1.trans (KI.put (o := .ins (bC K) bd (flds dv lp)) eb rfl)
  refine k (upd (upd H lp (.lst (ps ++ [dv0]))) b (.ins (bC K) bd (flds dv lp))) ⟨⟨dv, upd_same, hd.ki ki2⟩, ps ++ [dv0], by rw [upd_ne (Ne.symm nb), upd_same], paired_snoc (Paired.mapP e4 fun _ _ => PD.ki ki2) (e2.ki ki2)⟩ ((But.put (by simp)).trans (But.put (by simp)))
/-! ### __getitem__ -/
def spGI (K : PySem.W.Frag) : Sp := fun vs H Q _ => ∃ (b bd lp : Addr) (ch : List Int) (pool : Int) (bs : List Blk) (past : List (Option (List Blk))), vs = [.ref b, .str "p"] ∧ Brd K H b bd lp ch pool (some bs) past ∧ ∀ v, IsT H v ch pool bs → Q v H
theorem ok_gi (T : TX K mg) : Met P w K mg base "Board" "__getitem__" 1 ["self", "name"] (spGI K) := by
  have sc : FnScope ["self", "name"] ["self", "name"] (mdef "Board" "__getitem__" "Board.__getitem__" 36 5).scope := ⟨rfl, rfl, rfl, by decide +kernel, rfl, by decide +kernel, by decide +kernel⟩
  refine T.okM (d := mdef "Board" "__getitem__" "Board.__getitem__" 36 5) (N := ["self", "name"]) 48 rfl (j := 72) rfl rfl rfl rfl sc (fun vs H Q E h => by obtain ⟨_, _, _, _, _, _, _, rfl, _⟩ := h; rfl) (fun _ _ _ _ _ _ us hl => match us, hl with | [_, _], _ => rfl) fun f cdv A outer s H vs Q E hr h => ?_
  obtain ⟨b, bd, lp, ch, pool, bs, past, rfl, B, k⟩ := h
  obtain ⟨⟨dv0, e1, d, kvs, rfl, ed, tv, rfl, ht⟩, ps, e3, e4⟩ := B
  refine ⟨_, pss_cons (ps_if (pt_cmp (pc_dnotin (hu_of hr) (pv 1) (pe_fld (pv 0) rfl))) (pss_one ps_never) pss_nil)
    (pss_one (ps_ret (pe_dget (hu_of hr) (pe_fld (pv 0) rfl) (pv 1) (fun _ _ => rfl)))), ?_⟩
  have dg : DGet H d (V.str "p") (some tv) := by
    have z := DGet.k (k := Sum.inr "p") ed
    have e : valV [((Sum.inr "p" : Key), tv)] (Sum.inr "p") = some tv := valV_pos rfl
    rw [e] at z
    exact z
  refine ⟨_, rfl, _, rfl, b, bC K, bd, _, _, rfl, e1, T.bcls, T.np, rfl, d, some tv, rfl, dg, _, rfl, iteF ?_⟩
  exact ⟨_, rfl, b, bC K, bd, _, _, rfl, e1, T.bcls, T.np, rfl, _, rfl, d, tv, rfl, dg, k tv ht⟩
end Lb
/-! The Board: put, ask, give, undo, live, place, deeds. -/
namespace Lb
open PySem PySem.Spec PyProof.Rows L2
variable {P : Program} {w : World} {K : PySem.W.Frag} {mg : Str → Option Value} {base : Heap}
/-- {**m, k: v}, m and k read without a change, v made anew -/
theorem dst_rd {tm tk tv : TE} {σ : L2.St} {H : Hp} {Q : VK} {m : Addr} {kvs : List (Key × V)} {q : Key} {Z : V → Hp → Prop} (hm : H m = some (.dK kvs)) (hl : kvs.length < sizeLine) (hZ : ∀ z H H', KI H H' → Z z H → Z z H')
    (hZd : ∀ z H a kvs, Z z H → H a = some (.dK kvs) → ∀ o, Z z (upd H a o)) (h1 : ∀ H' R, Same H H' → R (V.ref m) H' → tm σ H' R) (h2 : ∀ H' R, Same H H' → R (kV q) H' → tk σ H' R) (h3 : ∀ H' R, Same H H' → (∀ z H'', Same H' H'' → Z z H'' → R z H'') → tv σ H' R)
    (k : ∀ d z H', Same H H' → Z z H' → H' d = some (.dK (putK kvs q z)) → Q (.ref d) H') : LbO.tDst tm tk tv σ H Q := by
  intro d nd
  have s1 : Same H (upd H d (.dK [])) := Same.new nd
  refine h1 _ _ s1 ⟨m, kvs, rfl, ne_of_none hm nd, s1 _ _ hm, upd_same, hl, fun b nb => ?_⟩
  rw [upd_upd]
  have nb1 : b ≠ d := fun z => by
    rw [z, upd_same] at nb
    cases nb
  have nb0 : H b = none := by
    rw [upd_ne nb1] at nb
    exact nb
  have s2 : Same H (upd H d (.dK kvs)) := Same.new nd
  have nb2 : (upd H d (.dK kvs)) b = none := by
    rw [upd_ne nb1]
    exact nb0
  have s3 : Same (upd H d (.dK kvs)) (upd (upd H d (.dK kvs)) b (.dK [])) := Same.new nb2
  refine h2 _ _ (s2.trans s3) (h3 _ _ (s2.trans s3) fun z H3 s4 hz => ?_)
  have eb : H3 b = some (.dK []) := s4 _ _ upd_same
  have ed : H3 d = some (.dK kvs) := s4 _ _ (s3 _ _ upd_same)
  refine ⟨q, rfl, eb, ed, k d z _ ?_ ?_ upd_same⟩
  · intro c o e
    rw [upd_ne (ne_of_none e nd), upd_ne (ne_of_none e nb0)]
    exact s4 _ _ (s3 _ _ (s2 _ _ e))
  · have e2 : (upd H3 b (.dK [(q, z)])) d = some (.dK kvs) := by
      rw [upd_ne (Ne.symm nb1)]
      exact ed
    exact hZd _ _ _ _ (hZd _ _ _ _ hz eb _) e2 _
/-- the same of what is told here of tuples -/
theorem isT_dK {H : Hp} {v : V} {ch : List Int} {pool : Int} {bs : List Blk} {a : Addr} {kvs : List (Key × V)} (h : IsT H v ch pool bs) (e : H a = some (.dK kvs)) (o : HO) : IsT (upd H a o) v ch pool bs := by
  have nd : ∀ b u, H b = some u → (∀ l, u ≠ .dK l) → (upd H a o) b = some u := fun b u q n => by
    rw [upd_ne (ne_of q e (n _))]
    exact q
  obtain ⟨t, c, st, rfl, q, ⟨tc, oc, rfl, h1, h2⟩, ⟨ts, os, vs, rfl, h3, h4, h5⟩⟩ := h
  refine ⟨t, _, _, rfl, nd _ _ q (fun _ z => (nomatch z)), ⟨tc, oc, rfl, nd _ _ h1 (fun _ z => (nomatch z)), h2⟩, ⟨ts, os, vs, rfl, nd _ _ h3 (fun _ z => (nomatch z)), h4, Paired.mapP h5 fun x b hb => ?_⟩⟩
  obtain ⟨t2, rfl, h6⟩ := hb
  exact ⟨t2, rfl, nd _ _ h6 (fun _ z => (nomatch z))⟩
theorem put0 (z : V) : putK ([] : List (Key × V)) (Sum.inr "p") z = [((Sum.inr "p" : Key), z)] := rfl
theorem put1 (v z : V) : putK [((Sum.inr "p" : Key), v)] (Sum.inr "p") z = [((Sum.inr "p" : Key), z)] := by
  unfold putK
  rw [if_pos (by simp)]
  simp
/-- e.own_pools in a method of the Board -/
theorem rd_pools (T : TX K mg) {H : Hp} {b bd lp : Addr} {dv : V} {R : VK} (e : H b = some (.ins (bC K) bd (flds dv lp))) (q : R dv H) : ∃ a C dx fs v, V.ref b = .ref a ∧ H a = some (.ins C dx fs) ∧ Cls K C ∧ NoAttr K C "own_pools" ∧ fs.lookup ("own_pools" : Str) = some v ∧ R v H := ⟨b, bC K, bd, _, dv, rfl, e, T.bcls, T.np, rfl, q⟩
/-! ### put -/
def spPut (K : PySem.W.Frag) : Sp := fun vs H Q _ => ∃ (b bd lp tc : Addr) (ch : List Int) (pool : Int) (past : List (Option (List Blk))), vs = [.ref b, .str "p", .ref tc, .int pool] ∧ Brd K H b bd lp ch pool none past ∧ SqT K H tc (ch.map V.int) ∧ ch.length ≤ 1000 ∧ past.length ≤ 1000 ∧
  ∀ H', Brd K H' b bd lp ch pool (some []) (past ++ [none]) → But [b, lp] H H' → Q .non H'
theorem ok_put (T : TX K mg) : Met P w K mg base "Board" "put" 3 ["self", "name", "chain", "pool"] (spPut K) := by
  have sc : FnScope ["self", "name", "chain", "pool"] ["self", "name", "chain", "pool"] (mdef "Board" "put" "Board.put" 36 9).scope := ⟨rfl, rfl, rfl, by decide +kernel, rfl, by decide +kernel, by decide +kernel⟩
  refine T.okM (d := mdef "Board" "put" "Board.put" 36 9) (N := ["self", "name", "chain", "pool"]) 50 rfl (j := 74) rfl rfl rfl rfl sc (fun vs H Q E h => by obtain ⟨_, _, _, _, _, _, _, rfl, _⟩ := h; rfl) (fun _ _ _ _ _ _ us hl => match us, hl with | [_, _, _, _], _ => rfl) fun f cdv A outer s H vs Q E hr h => ?_
  obtain ⟨b, bd, lp, tc, ch, pool, past, rfl, B, hc, hlc, hl, k⟩ := h
  have CT : Cal P w K mg base "tupled" 2 ["value"] (spTup1 K) := ok_tup1 T
  have MT : Met P w K mg base "Board" "take_over" 1 ["self", "pools"] (spTO K) := ok_to T
  refine ⟨_, pss_cons (ps_if (pt_cmp (pc_din (hu_of hr) (pv 1) (pe_fld (pv 0) rfl))) (pss_one ps_never) pss_nil)
    (pss_one (ps_expr (pe_bmeth T MT (pv 0) (hr.mono (by decide)) (pa_cons (LbO.pe_dstar (pe_fld (pv 0) rfl) (pv 1) (pe_tup (pa_cons (pe_cal CT hr (by rfl) (pa_cons (pv 2) pa_nil)) (pa_cons (pv 3) (pa_cons (LbO.pe_tupF pa_nil) pa_nil))))) pa_nil)))), ?_⟩
  have B0 := B
  obtain ⟨⟨dv0, e1, d, kvs, rfl, ed, rfl⟩, ps, e3, e4⟩ := B
  have dg : DGet H d (V.str "p") none := DGet.k (k := Sum.inr "p") ed
  refine ⟨_, rfl, _, rfl, b, bC K, bd, _, _, rfl, e1, T.bcls, T.np, rfl, d, none, rfl, dg, _, rfl, iteF ?_⟩
  refine ⟨_, rfl, b, bd, _, rfl, e1, rfl, ?_⟩
  refine dst_rd (m := d) (kvs := []) (q := Sum.inr "p") (Z := fun z H => IsT H z ch pool []) ed (by decide) (fun _ _ _ s h => h.ki s) (fun _ _ _ _ h e o => isT_dK h e o) (fun H' R s q => ⟨_, rfl, rd_pools T (s _ _ e1) q⟩) (fun H' R s q => ⟨_, rfl, q⟩) (fun H' R s q => ?_) fun d2 z H' s hz hd2 => ?_
  · refine ⟨_, rfl, tc, ch, rfl, sq_same s hc, hlc, fun c H1 s1 hcf => ⟨_, rfl, Nat.zero_le _, fun p ob np ho => ⟨by show 3 ≤ sizeLine; decide, fun t nt => ?_⟩⟩⟩
    have s2 : Same H1 (upd H1 p (.frz ob (.tup []))) := Same.new np
    have s3 := Same.new (o := .tup [c, .int pool, .ref p]) nt
    exact q _ _ (s1.trans (s2.trans s3)) ⟨t, c, .ref p, rfl, upd_same, hcf.same (s2.trans s3), p, ob, [], rfl, s3 _ _ upd_same, ho, .nil⟩
  · refine ⟨b, bd, lp, ch, pool, none, some [], past, _, rfl, B0.same s, ⟨d2, _, rfl, hd2, z, put0 z, hz⟩, hl, fun H2 B2 bt => k H2 B2 ((But.of s).trans bt)⟩
/-! ### ask -/
def spBAsk (K : PySem.W.Frag) : Sp := fun vs H Q _ => ∃ (b bd lp : Addr) (ch : List Int) (pool : Int) (bs : List Blk) (past : List (Option (List Blk))) (z : Int), vs = [.ref b, .str "p", .int z] ∧ Brd K H b bd lp ch pool (some bs) past ∧ z ∈ ch ∧ Stand bs ∧ 0 < z ∧ z < 1073741824 ∧ past.length ≤ 1000 ∧
  ∀ H', Brd K H' b bd lp ch pool (some (lentTo pool bs z)) (past ++ [some bs]) → But [b, lp] H H' → Q (fpV pool bs z) H'
theorem ok_bask (T : TX K mg) : Met P w K mg base "Board" "ask" 5 ["self", "name", "size"] (spBAsk K) := by
  have sc : FnScope ["self", "name", "size", "chain", "pool", "stand", "first", "later"] ["self", "name", "size"] (mdef "Board" "ask" "Board.ask" 36 13).scope := ⟨rfl, rfl, rfl, by decide +kernel, rfl, by decide +kernel, by decide +kernel⟩
  refine T.okM (d := mdef "Board" "ask" "Board.ask" 36 13) (N := ["self", "name", "size", "chain", "pool", "stand", "first", "later"]) 51 rfl (j := 75) rfl rfl rfl rfl sc (fun vs H Q E h => by obtain ⟨_, _, _, _, _, _, _, _, rfl, _⟩ := h; rfl) (fun _ _ _ _ _ _ us hl => match us, hl with | [_, _, _], _ => rfl) fun f cdv A outer s H vs Q E hr h => ?_
  obtain ⟨b, bd, lp, ch, pool, bs, past, z, rfl, B, hin, S, h1, h2, hl, k⟩ := h
  have CL : Cal P w K mg base "lent" 4 ["chain", "pool", "stand", "size"] spLent := ok_lent T
  have MT : Met P w K mg base "Board" "take_over" 1 ["self", "pools"] (spTO K) := ok_to T
  have MG : Met P w K mg base "Board" "__getitem__" 1 ["self", "name"] (spGI K) := ok_gi T
  refine ⟨_, pss_cons (ps_asg (LbO.pe_ixOwn (pv 0) (pv 1) MG.meth MG.fi MG.R (hr.mono (by decide)) pass0) (pg_tup rfl (pgs_cons (pg_name (i := 3) sc.nd rfl (.inl rfl)) (pgs_cons (pg_name (i := 4) sc.nd rfl (.inl rfl)) (pgs_cons (pg_name (i := 5) sc.nd rfl (.inl rfl)) pgs_nil)))))
    (pss_cons (ps_asg (pe_cal CL hr (by rfl) (pa_cons (pv 3) (pa_cons (pv 4) (pa_cons (pv 5) (pa_cons (pv 2) pa_nil))))) (pg_tup rfl (pgs_cons (pg_name (i := 6) sc.nd rfl (.inl rfl)) (pgs_cons (pg_name (i := 7) sc.nd rfl (.inl rfl)) pgs_nil))))
    (pss_cons (ps_expr (pe_bmeth T MT (pv 0) (hr.mono (by decide)) (pa_cons (LbO.pe_dstar (pe_fld (pv 0) rfl) (pv 1) (pe_tup (pa_cons (pv 3) (pa_cons (pv 4) (pa_cons (pv 7) pa_nil))))) pa_nil)))
    (pss_one (ps_ret (pv 6))))), ?_⟩
  have B0 := B
  obtain ⟨⟨dv0, e1, d, kvs, rfl, ed, tv, rfl, ht⟩, ps, e3, e4⟩ := B
  refine ⟨_, rfl, _, rfl, b, bd, _, rfl, e1, b, bd, lp, ch, pool, bs, past, rfl, B0, fun v hv => ?_⟩
  obtain ⟨t, c, st, rfl, et, hcf, hst⟩ := hv
  refine ⟨t, _, rfl, SqT.of et, rfl, _, _, rfl, _, _, rfl, _, _, rfl, rfl, ?_⟩
  refine ⟨_, rfl, _, rfl, _, rfl, _, rfl, c, ch, pool, st, bs, z, rfl, hcf.cn, hin, hst, S, h1, h2, fun r H1 s1 hr1 => ?_⟩
  obtain ⟨t2, st2, rfl, et2, hst2⟩ := hr1
  refine ⟨t2, _, rfl, SqT.of et2, rfl, _, _, rfl, _, _, rfl, rfl, ?_⟩
  have e1' := s1 _ _ e1
  refine ⟨_, rfl, b, bd, _, rfl, e1', rfl, ?_⟩
  refine dst_rd (m := d) (kvs := [(Sum.inr "p", tv)]) (q := Sum.inr "p") (Z := fun z' H => IsT H z' ch pool (lentTo pool bs z)) (s1 _ _ ed) (by show 1 < sizeLine; decide) (fun _ _ _ s h => h.ki s) (fun _ _ _ _ h e o => isT_dK h e o) (fun H' R s q => ⟨_, rfl, rd_pools T (s _ _ e1') q⟩) (fun H' R s q => ⟨_, rfl, q⟩) (fun H' R s q => ?_) fun d2 z2 H' s hz hd2 => ?_
  · refine ⟨_, rfl, _, rfl, _, rfl, by show 3 ≤ sizeLine; decide, fun t3 n3 => ?_⟩
    have s3 := Same.new (o := .tup [c, .int pool, st2]) n3
    exact q _ _ s3 ⟨t3, c, st2, rfl, upd_same, hcf.same (s1.trans (s.trans s3)), hst2.same (s.trans s3)⟩
  · rw [put1] at hd2
    exact ⟨b, bd, lp, ch, pool, some bs, some (lentTo pool bs z), past, _, rfl, B0.same (s1.trans s), ⟨d2, _, rfl, hd2, z2, rfl, hz⟩, hl, fun H2 B2 bt => ⟨_, rfl, k H2 B2 ((But.of (s1.trans s)).trans bt)⟩⟩
end Lb
/-! The Board: give, undo, live, place, deeds. -/
namespace Lb
open PySem PySem.Spec PyProof.Rows L2
variable {P : Program} {w : World} {K : PySem.W.Frag} {mg : Str → Option Value} {base : Heap}
/-! ### give -/
def spBGive (K : PySem.W.Frag) : Sp := fun vs H Q _ => ∃ (b bd lp : Addr) (ch : List Int) (pool : Int) (bs : List Blk) (past : List (Option (List Blk))) (z : Blk), vs = [.ref b, .str "p", .int z.1] ∧ Brd K H b bd lp ch pool (some bs) past ∧ z ∈ bs ∧ bs.length ≤ 1000 ∧ past.length ≤ 1000 ∧
  ∀ H', Brd K H' b bd lp ch pool (some (outTo bs z.1)) (past ++ [some bs]) → But [b, lp] H H' → Q .non H'
theorem ok_bgive (T : TX K mg) : Met P w K mg base "Board" "give" 3 ["self", "name", "first"] (spBGive K) := by
  have sc : FnScope ["self", "name", "first", "chain", "pool", "stand"] ["self", "name", "first"] (mdef "Board" "give" "Board.give" 36 14).scope := ⟨rfl, rfl, rfl, by decide +kernel, rfl, by decide +kernel, by decide +kernel⟩
  refine T.okM (d := mdef "Board" "give" "Board.give" 36 14) (N := ["self", "name", "first", "chain", "pool", "stand"]) 52 rfl (j := 76) rfl rfl rfl rfl sc (fun vs H Q E h => by obtain ⟨_, _, _, _, _, _, _, _, rfl, _⟩ := h; rfl) (fun _ _ _ _ _ _ us hl => match us, hl with | [_, _, _], _ => rfl) fun f cdv A outer s H vs Q E hr h => ?_
  obtain ⟨b, bd, lp, ch, pool, bs, past, z, rfl, B, hin, hbs, hl, k⟩ := h
  have CW : Cal P w K mg base "without_block" 1 ["stand", "first"] spWo := ok_wo T
  have MT : Met P w K mg base "Board" "take_over" 1 ["self", "pools"] (spTO K) := ok_to T
  have MG : Met P w K mg base "Board" "__getitem__" 1 ["self", "name"] (spGI K) := ok_gi T
  refine ⟨_, pss_cons (ps_asg (LbO.pe_ixOwn (pv 0) (pv 1) MG.meth MG.fi MG.R hr pass0) (pg_tup rfl (pgs_cons (pg_name (i := 3) sc.nd rfl (.inl rfl)) (pgs_cons (pg_name (i := 4) sc.nd rfl (.inl rfl)) (pgs_cons (pg_name (i := 5) sc.nd rfl (.inl rfl)) pgs_nil)))))
    (pss_one (ps_expr (pe_bmeth T MT (pv 0) (hr.mono (by decide)) (pa_cons (LbO.pe_dstar (pe_fld (pv 0) rfl) (pv 1) (pe_tup (pa_cons (pv 3) (pa_cons (pv 4) (pa_cons (pe_cal CW (hr.mono (by decide)) (by rfl) (pa_cons (pv 5) (pa_cons (pv 2) pa_nil))) pa_nil))))) pa_nil)))), ?_⟩
  have B0 := B
  obtain ⟨⟨dv0, e1, d, kvs, rfl, ed, tv, rfl, ht⟩, ps, e3, e4⟩ := B
  refine ⟨_, rfl, _, rfl, b, bd, _, rfl, e1, b, bd, lp, ch, pool, bs, past, rfl, B0, fun v hv => ?_⟩
  obtain ⟨t, c, st, rfl, et, hcf, hst⟩ := hv
  refine ⟨t, _, rfl, SqT.of et, rfl, _, _, rfl, _, _, rfl, _, _, rfl, rfl, ?_⟩
  refine ⟨_, rfl, b, bd, _, rfl, e1, rfl, ?_⟩
  refine dst_rd (m := d) (kvs := [(Sum.inr "p", tv)]) (q := Sum.inr "p") (Z := fun z' H => IsT H z' ch pool (outTo bs z.1)) ed (by show 1 < sizeLine; decide) (fun _ _ _ s h => h.ki s) (fun _ _ _ _ h e o => isT_dK h e o) (fun H' R s q => ⟨_, rfl, rd_pools T (s _ _ e1) q⟩) (fun H' R s q => ⟨_, rfl, q⟩) (fun H' R s q => ?_) fun d2 z2 H' s hz hd2 => ?_
  · refine ⟨_, rfl, _, rfl, _, rfl, _, rfl, st, bs, z.1, rfl, hst.same s, hbs, ⟨z, hin, rfl⟩, fun r H1 s1 hr1 => ⟨by show 3 ≤ sizeLine; decide, fun t3 n3 => ?_⟩⟩
    have s3 := Same.new (o := .tup [c, .int pool, r]) n3
    exact q _ _ (s1.trans s3) ⟨t3, c, r, rfl, upd_same, hcf.same (s.trans (s1.trans s3)), hr1.same s3⟩
  · rw [put1] at hd2
    exact ⟨b, bd, lp, ch, pool, some bs, some (outTo bs z.1), past, _, rfl, B0.same s, ⟨d2, _, rfl, hd2, z2, rfl, hz⟩, hl, fun H2 B2 bt => k H2 B2 ((But.of s).trans bt)⟩
/-! ### undo -/
def spUndo (K : PySem.W.Frag) : Sp := fun vs H Q _ => ∃ (b bd lp : Addr) (ch : List Int) (pool : Int) (x y : Option (List Blk)) (past : List (Option (List Blk))), vs = [.ref b] ∧ Brd K H b bd lp ch pool x (past ++ [y]) ∧
  ∀ H', Brd K H' b bd lp ch pool y past → But [b, lp] H H' → Q .non H'
theorem paired_last {α β : Type} {F : α → β → Prop} {us : List α} : ∀ {pre : List β} {b : β}, Paired F us (pre ++ [b]) → ∃ vs v, us = vs ++ [v] ∧ Paired F vs pre ∧ F v b := by
  induction us with
  | nil =>
    intro pre b h
    cases pre <;> cases h
  | cons u us ih =>
    intro pre b h
    cases pre with
    | nil =>
      cases h with
      | cons q t =>
        cases t
        exact ⟨[], u, rfl, .nil, q⟩
    | cons p pre =>
      cases h with
      | cons q t =>
        obtain ⟨vs, v, e, h1, h2⟩ := ih t
        exact ⟨u :: vs, v, by rw [e]; rfl, .cons q h1, h2⟩
theorem ok_undo (T : TX K mg) : Met P w K mg base "Board" "undo" 1 ["self"] (spUndo K) := by
  have sc : FnScope ["self"] ["self"] (mdef "Board" "undo" "Board.undo" 36 15).scope := ⟨rfl, rfl, rfl, by decide +kernel, rfl, by decide +kernel, by decide +kernel⟩
  refine T.okM (d := mdef "Board" "undo" "Board.undo" 36 15) (N := ["self"]) 53 rfl (j := 77) rfl rfl rfl rfl sc (fun vs H Q E h => by obtain ⟨_, _, _, _, _, _, _, _, rfl, _⟩ := h; rfl) (fun _ _ _ _ _ _ us hl => match us, hl with | [_], _ => rfl) fun f cdv A outer s H vs Q E hr h => ?_
  obtain ⟨b, bd, lp, ch, pool, x, y, past, rfl, B, k⟩ := h
  have hlen : mg "len" = none := T.free 0
  obtain ⟨⟨dv0, e1, e2⟩, ps, e3, e4⟩ := B
  obtain ⟨qs, v, rfl, hq, hv⟩ := paired_last e4
  refine ⟨_, pss_cons (ps_if (pt_cmpR op_eq (pe_callB call_len_seq (by rfl) hlen (by decide +kernel) (pa_cons (pe_fld (pv 0) rfl) pa_nil)) pe_int (nomark _)) (pss_one ps_never) pss_nil)
    (pss_one (ps_fld (pv 0) (pe_bm0 PySem.F.plainAttrs_list PySem.F.slot_list_pop PySem.F.type_list_pop mt_pop (pe_fld (pv 0) rfl)) rfl)), ?_⟩
  refine ⟨_, rfl, b, bC K, bd, _, _, rfl, e1, T.bcls, T.nq, rfl, lp, _, rfl, .inl (SqL.of e3), rfl, _, rfl, ?_⟩
  have hne : ¬ (V.int ((qs ++ [v]).length : Nat) = V.int 0) := fun z => by
    injection z with z
    rw [List.length_append, List.length_singleton] at z
    omega
  rw [decide_eq_false hne]
  refine iteF ?_
  have g1 : (qs ++ [v])[(qs ++ [v]).length - 1]? = some v := by
    rw [List.length_append, List.length_singleton]
    simp
  refine ⟨_, rfl, b, bC K, bd, _, _, rfl, e1, T.bcls, T.nq, rfl, .inl ⟨rfl, _, SqL.of e3⟩, lp, _, v, rfl, rfl, e3, g1, ?_⟩
  rw [List.dropLast_concat]
  have nb : b ≠ lp := ne_of e1 e3 (by intro z; cases z)
  have eb : (upd H lp (.lst qs)) b = some (.ins (bC K) bd (flds dv0 lp)) := by
    rw [upd_ne nb]
    exact e1
  have ki1 : KI H (upd H lp (.lst qs)) := KI.put e3 rfl
  refine ⟨_, rfl, b, bC K, bd, _, rfl, eb, T.bcls, T.np, by show 2 < 1000; decide, ?_⟩
  have ki2 := ki1.trans (KI.put (o := .ins (bC K) bd (flds v lp)) eb rfl)
  exact k (upd (upd H lp (.lst qs)) b (.ins (bC K) bd (flds v lp))) ⟨⟨v, upd_same, hv.ki ki2⟩, qs, by rw [upd_ne (Ne.symm nb), upd_same], Paired.mapP hq fun _ _ => PD.ki ki2⟩ ((But.put (by simp)).trans (But.put (by simp)))
/-! ### live -/
def spBLive (K : PySem.W.Frag) : Sp := fun vs H Q _ => ∃ (b bd lp : Addr) (ch : List Int) (pool : Int) (bs : List Blk) (past : List (Option (List Blk))), vs = [.ref b, .str "p"] ∧ Brd K H b bd lp ch pool (some bs) past ∧ bs.length ≤ 1000 ∧ ∀ H', Same H H' → Q (.int (live bs)) H'
theorem ok_blive (T : TX K mg) : Met P w K mg base "Board" "live" 3 ["self", "name"] (spBLive K) := by
  have sc : FnScope ["self", "name", "chain", "pool", "stand", "first", "size"] ["self", "name"] (mdef "Board" "live" "Board.live" 36 17).scope := ⟨rfl, rfl, rfl, by decide +kernel, rfl, by decide +kernel, by decide +kernel⟩
  refine T.okM (d := mdef "Board" "live" "Board.live" 36 17) (N := ["self", "name", "chain", "pool", "stand", "first", "size"]) 54 rfl (j := 78) rfl rfl rfl rfl sc (fun vs H Q E h => by obtain ⟨_, _, _, _, _, _, _, rfl, _⟩ := h; rfl) (fun _ _ _ _ _ _ us hl => match us, hl with | [_, _], _ => rfl) fun f cdv A outer s H vs Q E hr h => ?_
  obtain ⟨b, bd, lp, ch, pool, bs, past, rfl, B, hl, k⟩ := h
  have hsum : mg "sum" = none := T.free 9
  have MG : Met P w K mg base "Board" "__getitem__" 1 ["self", "name"] (spGI K) := ok_gi T
  refine ⟨_, pss_cons (ps_asg (LbO.pe_ixOwn (pv 0) (pv 1) MG.meth MG.fi MG.R hr pass0) (pg_tup rfl (pgs_cons (pg_name (i := 2) sc.nd rfl (.inl rfl)) (pgs_cons (pg_name (i := 3) sc.nd rfl (.inl rfl)) (pgs_cons (pg_name (i := 4) sc.nd rfl (.inl rfl)) pgs_nil)))))
    (pss_one (ps_ret (pe_callB (cr_sum rfl) (by rfl) hsum (by decide +kernel) (pa_cons (pe_lc (own := [("first", 5), ("size", 6)]) (g := gTup K 2 (gCons (gName 5) (gCons (gName 6) gNil))) (tt := tYes) rfl sc.nd (pi_tup (pv 4)) (blkOk_by (N := ["self", "name", "chain", "pool", "stand", "first", "size"]) (sc := (mdef "Board" "live" "Board.live" 36 17).scope) (by decide +kernel))
          (fun _ _ _ _ _ => pg_tup rfl (pgs_cons (pg_name (i := 5) sc.nd rfl (Or.inl rfl)) (pgs_cons (pg_name (i := 6) sc.nd rfl (Or.inl rfl)) pgs_nil)))
          (fun _ _ _ _ _ => pts_nil) (fun _ _ _ _ _ => pv 6)) pa_nil)))), ?_⟩
  have B0 := B
  obtain ⟨⟨dv0, e1, _⟩, _⟩ := B
  refine ⟨_, rfl, _, rfl, b, bd, _, rfl, e1, b, bd, lp, ch, pool, bs, past, rfl, B0, fun v hv => ?_⟩
  obtain ⟨t, c, st, rfl, et, hcf, t2, o2, us, rfl, e2, _, pp⟩ := hv
  refine ⟨t, _, rfl, SqT.of et, rfl, _, _, rfl, _, _, rfl, _, _, rfl, rfl, ?_⟩
  refine ⟨_, rfl, t2, rfl, ⟨_, sqT_rd (.inr ⟨o2, e2⟩)⟩, fun D nD => ?_⟩
  exact lc_sizes (K := K) (.inr ⟨o2, e2⟩) pp hl nD (fun _ _ => rfl) (fun _ _ => rfl) fun H' sm eD => ⟨D, bs.map Prod.snd, rfl, SqL.of eD, k H' sm⟩
/-! ### place -/
def spPlace (K : PySem.W.Frag) : Sp := fun vs H Q _ => ∃ (b bd lp : Addr) (ch : List Int) (pool : Int) (bs : List Blk) (past : List (Option (List Blk))) (z : Int), vs = [.ref b, .str "p", .int z] ∧ Brd K H b bd lp ch pool (some bs) past ∧ z ∈ ch ∧ Stand bs ∧ 0 < z ∧ z < 1073741824 ∧ Q (fpV pool bs z) H
theorem ok_place (T : TX K mg) : Met P w K mg base "Board" "place" 4 ["self", "name", "size"] (spPlace K) := by
  have sc : FnScope ["self", "name", "size", "chain", "pool", "stand"] ["self", "name", "size"] (mdef "Board" "place" "Board.place" 36 18).scope := ⟨rfl, rfl, rfl, by decide +kernel, rfl, by decide +kernel, by decide +kernel⟩
  refine T.okM (d := mdef "Board" "place" "Board.place" 36 18) (N := ["self", "name", "size", "chain", "pool", "stand"]) 55 rfl (j := 79) rfl rfl rfl rfl sc (fun vs H Q E h => by obtain ⟨_, _, _, _, _, _, _, _, rfl, _⟩ := h; rfl) (fun _ _ _ _ _ _ us hl => match us, hl with | [_, _, _], _ => rfl) fun f cdv A outer s H vs Q E hr h => ?_
  obtain ⟨b, bd, lp, ch, pool, bs, past, z, rfl, B, hin, S, h1, h2, k⟩ := h
  have CP : Cal P w K mg base "first_place" 3 ["pool", "stand", "size"] spFP := ok_fp T
  have MG : Met P w K mg base "Board" "__getitem__" 1 ["self", "name"] (spGI K) := ok_gi T
  refine ⟨_, pss_cons (ps_asg (LbO.pe_ixOwn (pv 0) (pv 1) MG.meth MG.fi MG.R (hr.mono (by decide)) pass0) (pg_tup rfl (pgs_cons (pg_name (i := 3) sc.nd rfl (.inl rfl)) (pgs_cons (pg_name (i := 4) sc.nd rfl (.inl rfl)) (pgs_cons (pg_name (i := 5) sc.nd rfl (.inl rfl)) pgs_nil)))))
    (pss_cons (ps_if (pt_cmpR op_notIn_seq (pv 2) (pv 3) (by rfl)) (pss_one ps_never) pss_nil)
    (pss_one (ps_ret (pe_cal CP hr (by rfl) (pa_cons (pv 4) (pa_cons (pv 5) (pa_cons (pv 2) pa_nil))))))), ?_⟩
  have B0 := B
  obtain ⟨⟨dv0, e1, _⟩, _⟩ := B
  refine ⟨_, rfl, _, rfl, b, bd, _, rfl, e1, b, bd, lp, ch, pool, bs, past, rfl, B0, fun v hv => ?_⟩
  obtain ⟨t, c, st, rfl, et, ⟨tc, oc, rfl, hc, _⟩, hst⟩ := hv
  refine ⟨t, _, rfl, SqT.of et, rfl, _, _, rfl, _, _, rfl, _, _, rfl, rfl, ?_⟩
  refine ⟨_, rfl, _, rfl, tc, _, rfl, .inr (sqT_rd (.inr ⟨oc, hc⟩)), rfl, flat_ints ch, _, rfl, ?_⟩
  rw [if_pos rfl, inV_int, decide_eq_true hin]
  exact iteF ⟨_, rfl, _, rfl, _, rfl, pool, st, z, bs, rfl, hst.s, h1, h2, S.low, k⟩
/-! ### deeds -/
def spDeeds (K : PySem.W.Frag) : Sp := fun vs H Q _ => ∃ (b bd lp : Addr) (ch : List Int) (pool : Int) (x : Option (List Blk)) (past : List (Option (List Blk))), vs = [.ref b] ∧ Brd K H b bd lp ch pool x past ∧ Q (.int past.length) H
theorem ok_deeds (T : TX K mg) : Prp P w K mg base "Board" "deeds" 1 (spDeeds K) := by
  refine T.okG (d := ⟨"Board", "deeds", "Board.deeds", 36, 2⟩) (N := ["self"]) 4 rfl ⟨rfl, rfl, rfl, by decide +kernel, rfl, by decide +kernel, by decide +kernel⟩ (fun vs H Q E h => by obtain ⟨_, _, _, _, _, _, _, rfl, _⟩ := h; rfl) (fun _ _ _ _ _ _ us hl => match us, hl with | [_], _ => rfl) fun f cdv A outer s H vs Q E hr h => ?_
  obtain ⟨b, bd, lp, ch, pool, x, past, rfl, B, k⟩ := h
  have hlen : mg "len" = none := T.free 0
  obtain ⟨⟨dv0, e1, _⟩, ps, e3, e4⟩ := B
  rw [← paired_len e4] at k
  exact ⟨_, pss_one (ps_ret (pe_callB call_len_seq (by rfl) hlen (by decide +kernel) (pa_cons (pe_fld (pv 0) rfl) pa_nil))), _, rfl, b, bC K, bd, _, _, rfl, e1, T.bcls, T.nq, rfl, lp, ps, rfl, .inl (SqL.of e3), k⟩
/-- e.deeds -/
theorem pe_bp {X : Cx} {e : Expr} {f : Str} {pos : Pos} {ta : TE} {k : Nat} {sp : Sp} (T : TX X.K X.mg) (h : Prp X.prog X.w X.K X.mg X.base "Board" f k sp) (he : PE X e ta) (hr : Room (k + 1) X.A) (hb : attributeBase e f X.env (eval e X.env) = eval e X.env := by rfl) : PE X (.Attribute e f pos) (tProp (bC X.K) sp [] E0 ta) := by
  obtain ⟨fd, hp, F, b⟩ := h.ex
  exact pe_prop he T.bcls hp F hr b .nil pass0 hb
end Lb
/-! _law_undone_right. -/
namespace Lb
open PySem PySem.Spec PyProof.Rows L2
variable {P : Program} {w : World} {K : PySem.W.Frag} {mg : Str → Option Value} {base : Heap}
def dT (ch : List Int) (pool : Int) (bs : List Blk) : PyData := .tuple [dInts ch, .int pool, dSt bs]
theorem can_dT (ch : List Int) (pool : Int) (bs : List Blk) : (dT ch pool bs).canLay0 = true := by
  unfold dT
  simp only [PyData.canLay0, PyData.canLayAll0]
  rw [can_dInts, can_dSt]
  rfl
theorem sh_dT (ch : List Int) (pool : Int) (bs : List Blk) : SeqAt.shaped (dT ch pool bs) = true := by
  refine shape_of (n := 3) (can_dT ch pool bs) ?_ (by decide)
  unfold dT
  simp only [PyData.depth, PyData.depthAll]
  have h1 := dep_dInts ch
  have h2 := dep_dSt bs
  omega
theorem dp_cn {H : Hp} {t : Addr} {ns : List Int} (h : Rd H t (.tup (ns.map V.int))) : Dp K H (.ref t) (dInts ns) := .tup (sqT_rd h) (dpall_ints ns)
theorem dp_T {H : Hp} {v : V} {ch : List Int} {pool : Int} {bs : List Blk} (h : IsT H v ch pool bs) : Dp K H v (dT ch pool bs) := by
  obtain ⟨t, c, st, rfl, ht, h1, h2⟩ := h
  exact .tup (SqT.of ht) (.cons (dp_cf h1) (.cons (.int _) (.cons (dp_n h2) .nil)))
theorem rd_ki {H H' : Hp} (k : KI H H') {a : Addr} {xs : List V} (h : Rd H a (.tup xs)) : Rd H' a (.tup xs) := by
  rcases h with h | ⟨o, h⟩
  · exact .inl (k _ _ h rfl)
  · exact .inr ⟨o, k _ _ h rfl⟩
/-- what both do, one behind another: a Watch and a Board, in their own lists -/
structure Apart (l1 l2 b lp : Addr) : Prop where
  n1 : l1 ≠ lp
  n2 : l2 ≠ lp
  n3 : l1 ≠ b
  n4 : l2 ≠ b
theorem Brd.butW {H H' : Hp} {b bd lp l1 l2 : Addr} {ch : List Int} {pool : Int} {x : Option (List Blk)} {past : List (Option (List Blk))} (h : Brd K H b bd lp ch pool x past) (ki : KI H H') (bt : But [l1, l2] H H') (A : Apart l1 l2 b lp) : Brd K H' b bd lp ch pool x past :=
  h.keep ki (fun o e => bt _ _ e (by simp [A.n3.symm, A.n4.symm])) (fun o e => bt _ _ e (by simp [A.n1.symm, A.n2.symm]))
theorem Wat.butB {H H' : Hp} {a dx l1 l2 b lp : Addr} {ch : List Int} {pool : Int} {sts : List (List Blk)} {told : List V} (h : Wat K H a dx l1 l2 ch pool sts told) (ki : KI H H') (bt : But [b, lp] H H') (A : Apart l1 l2 b lp) : Wat K H' a dx l1 l2 ch pool sts told :=
  h.keep ki (fun o e => bt _ _ e (by simp [A.n3, A.n1])) (fun o e => bt _ _ e (by simp [A.n4, A.n2]))
theorem Wat.kiW {H H' : Hp} {a dx l1 l2 : Addr} {ch : List Int} {pool : Int} {sts : List (List Blk)} {told : List V} (h : Wat K H a dx l1 l2 ch pool sts told) (bt : But [l1, l2] H H') : KI H H' := by
  obtain ⟨us, e, _⟩ := h.st
  refine bt.ki fun x hx => ?_
  rcases List.mem_cons.mp hx with rfl | hx
  · exact ⟨_, e, rfl⟩
  · rw [List.mem_singleton] at hx
    rw [hx]
    exact ⟨_, h.tl, rfl⟩
theorem Brd.kiB {H H' : Hp} {b bd lp : Addr} {ch : List Int} {pool : Int} {x : Option (List Blk)} {past : List (Option (List Blk))} (h : Brd K H b bd lp ch pool x past) (bt : But [b, lp] H H') : KI H H' := by
  obtain ⟨⟨dv, e1, _⟩, ps, e3, _⟩ := h
  refine bt.ki fun x hx => ?_
  rcases List.mem_cons.mp hx with rfl | hx
  · exact ⟨_, e1, rfl⟩
  · rw [List.mem_singleton] at hx
    rw [hx]
    exact ⟨_, e3, rfl⟩
theorem take_snoc {α : Type} {l : List α} {m : Nat} (d : α) (h : m < l.length) : l.take (m + 1) = l.take m ++ [l.getD m d] := by
  rw [List.take_add_one, List.getElem?_eq_getElem h, List.getD_eq_getElem?_getD, List.getElem?_eq_getElem h]
  rfl
theorem Brd.i {H : Hp} {b bd lp : Addr} {ch : List Int} {pool : Int} {x : Option (List Blk)} {past : List (Option (List Blk))} (h : Brd K H b bd lp ch pool x past) : ∃ dv, H b = some (.ins (bC K) bd (flds dv lp)) := let ⟨⟨dv, e, _⟩, _⟩ := h; ⟨dv, e⟩
/-- both behind the m-th deed of a game whose stands are F -/
structure Both (K : PySem.W.Frag) (H : Hp) (a dx l1 l2 b bd lp : Addr) (ch : List Int) (pool : Int) (F : List (List Blk)) (told : List V) (m : Nat) : Prop where
  w : Wat K H a dx l1 l2 ch pool (F.take (m + 1)) (told.take m)
  b : Brd K H b bd lp ch pool (some (F.getD m [])) (none :: (F.take m).map some)
theorem Both.w' {H : Hp} {a dx l1 l2 b bd lp : Addr} {ch : List Int} {pool : Int} {F : List (List Blk)} {told : List V} {m : Nat} (h : Both K H a dx l1 l2 b bd lp ch pool F told m) (hm : m < F.length) : Wat K H a dx l1 l2 ch pool (F.take m ++ [F.getD m []]) (told.take m) := by
  have z := h.w
  rw [take_snoc [] hm] at z
  exact z
def spUnd (K : PySem.W.Frag) : Sp := fun vs H Q _ => ∃ (a dx l1 l2 b bd lp tc : Addr) (ch : List Int) (pool : Int) (F : List (List Blk)) (told : List V), vs = [.ref a, .ref b, .ref tc, .int pool] ∧
  Both K H a dx l1 l2 b bd lp ch pool F told told.length ∧ F.length = told.length + 1 ∧ F.getD 0 [] = [] ∧ Rd H tc (.tup (ch.map V.int)) ∧ ch.length ≤ 1000 ∧ Apart l1 l2 b lp ∧ told.length ≤ 1000 ∧ ∀ H', KI H H' → But [l1, l2, b, lp] H H' → Q (.bl true) H'
theorem ok_und (T : TX K mg) : Cal P w K mg base "_law_undone_right" 5 ["_law_eyes", "_law_desk", "_law_chain_so", "_law_pool_so"] (spUnd K) := by
  have sc : FnScope ["_law_eyes", "_law_desk", "_law_chain_so", "_law_pool_so"] ["_law_eyes", "_law_desk", "_law_chain_so", "_law_pool_so"] (gdef "_law_undone_right" 55).scope := ⟨rfl, rfl, rfl, by decide +kernel, rfl, by decide +kernel, by decide +kernel⟩
  refine T.ok (d := gdef "_law_undone_right" 55) 31 rfl (j := 57) rfl rfl rfl rfl sc (fun vs H Q E h => ?_) (fun _ _ _ _ _ _ us hl => match us, hl with | [_, _, _, _], _ => rfl) fun f cdv A outer s H vs Q E hr h => ?_
  · obtain ⟨_, _, _, _, _, _, _, _, _, _, _, _, rfl, _⟩ := h
    rfl
  obtain ⟨a, dx, l1, l2, b, bd, lp, tc, ch, pool, F, told, rfl, BO, hF, hF0, hc, hlc, AP, hS, k⟩ := h
  have hlen : mg "len" = none := T.free 0
  have ML : Met P w K mg base "Watch" "__len__" 1 ["self"] (spWLen K) := ok_wlen T
  have MB : Met P w K mg base "Watch" "back" 1 ["self"] (spBack K) := ok_back T
  have ME : Met P w K mg base "Watch" "__eq__" 3 ["self", "other"] (spWEq K) := ok_weq T
  have MU : Met P w K mg base "Board" "undo" 1 ["self"] (spUndo K) := ok_undo T
  have MG : Met P w K mg base "Board" "__getitem__" 1 ["self", "name"] (spGI K) := ok_gi T
  have MV : Met P w K mg base "Board" "live" 3 ["self", "name"] (spBLive K) := ok_blive T
  have PS : Prp P w K mg base "Watch" "stand" 1 (spStand K) := ok_stand T
  have PD' : Prp P w K mg base "Board" "deeds" 1 (spDeeds K) := ok_deeds T
  have MW : FnR P w K mg base CX0 3 (He.ma K (wC K) "__init__") (fun vs H Q E => spWI K (vs ++ [.ref (He.dflAt ("Watch", some "__init__") 0 K)]) H Q E) := T.mkW
  refine ⟨_, pss_cons (ps_while PassesOwn.never (pt_cmpR op_gt (pe_callB (LbO.call_lenOwn ML.meth ML.R (hr.mono (by decide)) pass0) (by rfl) hlen (by decide +kernel) (pa_cons (pv 0) pa_nil)) pe_int (nomark _))
      (pss_cons (ps_expr (pe_wmeth0 T MB (pv 0) (hr.mono (by decide))))
      (pss_cons (ps_expr (pe_bmeth0 T MU (pv 1) (hr.mono (by decide))))
      (pss_one (ps_if (pt_cmpR (op_neD hr.units) (LbO.pe_ixOwn (pv 1) pe_str MG.meth MG.fi MG.R (hr.mono (by decide)) pass0) (pe_tup (pa_cons (pv 2) (pa_cons (pv 3) (pa_cons (pe_wp T PS (pv 0) (hr.mono (by decide))) pa_nil)))) (nomark _)) (pss_one (ps_ret pe_bl)) pss_nil)))))
    (pss_one (ps_ret (pe_and (pe_cmpR (SlX.op_own (op := .Eq) (fun _ _ => rfl) ME.meth.at_ ME.meth.fn ME.R (hr.mono (by decide)) pass0) (pv 0) (StX.pe_makeR T.mW MW hr (by rfl) T.gW pass0 (pa_cons (pv 2) (pa_cons (pv 3) pa_nil))) (nomark _))
      (pe_and (pe_cmpR op_eq (pe_bp T PD' (pv 1) (hr.mono (by decide))) pe_int (nomark _)) (pe_one (pe_cmpR op_eq (pe_bmeth T MV (pv 1) (hr.mono (by decide)) (pa_cons pe_str pa_nil)) pe_int (nomark _))))))), ?_⟩
  refine ⟨fun m σ H' => σ = [some (.ref a), some (.ref b), some (.ref tc), some (.int pool)] ∧ m ≤ told.length ∧ KI H H' ∧ But [l1, l2, b, lp] H H' ∧ Both K H' a dx l1 l2 b bd lp ch pool F told m, ⟨told.length, rfl, Nat.le_refl _, KI.refl _, But.refl _, BO⟩, ?_⟩
  rintro m σ H' ⟨rfl, hm, ki, bt, BO'⟩
  obtain ⟨vs', es⟩ := BO'.w.s
  have hml : (told.take m).length = m := by
    rw [List.length_take]
    omega
  refine ⟨_, rfl, a, dx, vs', rfl, es, a, dx, l1, l2, ch, pool, _, _, rfl, BO'.w, (told.take m).length, rfl, Nat.le_of_lt (small (by omega)), _, _, rfl, rfl, _, rfl, ?_⟩
  rw [hml]
  cases m with
  | zero =>
    have e : decide ((0 : Int) < ((0 : Nat) : Int)) = false := by decide
    rw [e]
    refine iteF ?_
    have W0 := BO'.w' (by omega)
    have B0 := BO'.b
    rw [hF0] at W0 B0
    have hcs : SqT K H' tc (ch.map V.int) := sqT_rd (rd_ki ki hc)
    refine ⟨_, rfl, _, rfl, _, rfl, made_w T hcs hlc fun a2 dy m1 m2 H1 n1 n2 n3 W2 s1 => ?_⟩
    have W1 := W0.same s1
    obtain ⟨us1, e1⟩ := W1.s
    obtain ⟨us2, e2⟩ := W2.s
    refine ⟨a, dx, us1, a2, wC K, dy, us2, rfl, rfl, e1, e2, by simp [PySem.W.notFirst], a, dx, l1, l2, a2, dy, m1, m2, ch, pool, F.take 0, [], rfl, W1, W2, fun H2 s2 => ?_⟩
    have B2 := B0.same (s1.trans s2)
    obtain ⟨dv2, eb2⟩ := B2.i
    refine ⟨true, rfl, iteT ?_⟩
    refine ⟨_, rfl, b, bd, _, rfl, eb2, ⟨b, bd, lp, ch, pool, _, _, rfl, B2, ?_⟩⟩
    refine ⟨rfl, _, rfl, iteT ?_⟩
    refine ⟨_, rfl, b, bd, _, rfl, eb2, rfl, b, bd, lp, ch, pool, [], _, rfl, B2, Nat.zero_le _, fun H3 s3 => ?_⟩
    exact ⟨rfl, k H3 (ki.trans (KI.of (s1.trans (s2.trans s3)))) (bt.trans (But.of (s1.trans (s2.trans s3))))⟩
  | succ j =>
    have e : decide ((0 : Int) < ((j + 1 : Nat) : Int)) = true := decide_eq_true (by omega)
    rw [e]
    refine iteT ⟨fun σ' H2 => σ' = [some (.ref a), some (.ref b), some (.ref tc), some (.int pool)] ∧ KI H H2 ∧ But [l1, l2, b, lp] H H2 ∧ Both K H2 a dx l1 l2 b bd lp ch pool F told j, fun σ' H2 ⟨q1, q2, q4, q3⟩ => ⟨j, Nat.lt_succ_self _, q1, by omega, q2, q4, q3⟩, ?_⟩
    have W1 := BO'.w' (by omega)
    have hj : j < told.length := hm
    have et : told.take (j + 1) = told.take j ++ [told.getD j V.non] := take_snoc V.non hj
    rw [et] at W1
    refine ⟨_, rfl, a, dx, vs', rfl, es, a, dx, l1, l2, ch, pool, _, _, rfl, W1, F.take (j + 1), _, told.take j, _, rfl, rfl, fun H1 W2 bt1 => ?_⟩
    have ki1 := W1.kiW bt1
    have B1 := BO'.b.butW ki1 bt1 AP
    obtain ⟨dv, eb⟩ := B1.i
    have ep : (none :: (F.take (j + 1)).map some : List (Option (List Blk))) = (none :: (F.take j).map some) ++ [some (F.getD j [])] := by
      rw [take_snoc [] (by omega), List.map_append]
      rfl
    rw [ep] at B1
    refine ⟨_, rfl, b, bd, _, rfl, eb, rfl, b, bd, lp, ch, pool, _, _, _, rfl, B1, fun H2 B2 bt2 => ?_⟩
    have ki2 := B1.kiB bt2
    have W3 := W2.butB ki2 bt2 AP
    have BO2 : Both K H2 a dx l1 l2 b bd lp ch pool F told j := ⟨W3, B2⟩
    have W4 := BO2.w' (by omega)
    obtain ⟨dv2, eb2⟩ := B2.i
    have KI2 := ki.trans (ki1.trans ki2)
    refine ⟨_, rfl, b, bd, _, rfl, eb2, b, bd, lp, ch, pool, _, _, rfl, B2, fun v hv => ?_⟩
    refine ⟨_, rfl, _, rfl, _, rfl, rd_stand W4 fun v2 hv2 => ⟨by show 3 ≤ sizeLine; decide, fun t nt => ?_⟩⟩
    have s3 : Same H2 (upd H2 t (.tup [.ref tc, .int pool, v2])) := Same.new nt
    refine ⟨dT ch pool (F.getD j []), dT ch pool (F.getD j []), dp_T (hv.ki (KI.of s3)), .tup (SqT.of upd_same) (.cons (dp_cn (rd_ki (KI2.trans (KI.of s3)) hc)) (.cons (.int _) (.cons (dp_n (hv2.same s3)) .nil))), sh_dT _ _ _, sh_dT _ _ _, _, rfl, ?_⟩
    rw [eqv_same (can_dT ch pool _)]
    exact iteF ⟨rfl, KI2.trans (KI.of s3), bt.trans ((bt1.more (by simp)).trans ((bt2.more (by simp)).trans (But.of s3))), W3.same s3, B2.same s3⟩
end Lb
/-! _law_same. -/
namespace Lb
open PySem PySem.Spec PyProof.Rows L2
variable {P : Program} {w : World} {K : PySem.W.Frag} {mg : Str → Option Value} {base : Heap}
/-- two values that are the same ints and Nones, in lists as deep as n -/
def Leaf (g d : V) : Prop := (∃ i : Int, g = .int i ∧ d = .int i) ∨ (g = .non ∧ d = .non)
def EqN : Nat → Hp → V → V → Prop
  | 0, _, g, d => Leaf g d
  | n + 1, H, g, d => Leaf g d ∨ ∃ l m xs ys, g = .ref l ∧ d = .ref m ∧ H l = some (.lst xs) ∧ H m = some (.lst ys) ∧ xs.length ≤ 1000 ∧ Paired (EqN n H) xs ys
theorem EqN.same {H H' : Hp} (s : Same H H') : ∀ {n : Nat} {g d : V}, EqN n H g d → EqN n H' g d
  | 0, _, _, h => h
  | n + 1, _, _, h => by
    rcases h with h | ⟨l, m, xs, ys, e1, e2, e3, e4, e5, e6⟩
    · exact .inl h
    · exact .inr ⟨l, m, xs, ys, e1, e2, s _ _ e3, s _ _ e4, e5, Paired.mapP e6 fun _ _ => EqN.same s⟩
def spSame (n : Nat) : Sp := fun vs H Q _ => ∃ g d, vs = [g, d] ∧ EqN n H g d ∧ ∀ H', Same H H' → Q (.bl true) H'
theorem kitN2 : PySem.W.kitAny K (.type "NoneType") [.type "list", .type "tuple"] = some false :=
  kitAny_cons (b := false) (kit_ty (by decide +kernel)) (fun _ => kitAny_cons (b := false) (kit_ty (by decide +kernel)) (fun _ => rfl) (fun z => nomatch z)) (fun z => nomatch z)
theorem kitL2 : PySem.W.kitAny K (.type "list") [.type "list", .type "tuple"] = some true :=
  kitAny_cons (b := true) (kit_ty (by decide +kernel)) (fun z => nomatch z) (fun _ => rfl)
theorem kitBS : PySem.W.kitAny K (.type "int") [.type "bool", .type "str"] = some false :=
  kitAny_cons (b := false) (kit_ty (by decide +kernel)) (fun _ => kitAny_cons (b := false) (kit_ty (by decide +kernel)) (fun _ => rfl) (fun z => nomatch z)) (fun z => nomatch z)
theorem scSame : FnScope ["_law_got", "_law_due", "_law_own", "_law_mine_so"] ["_law_got", "_law_due"] (gdef "_law_same" 52).scope := ⟨rfl, rfl, rfl, by decide +kernel, rfl, by decide +kernel, by decide +kernel⟩
theorem ok_same0 (T : TX K mg) : Cal P w K mg base "_law_same" 1 ["_law_got", "_law_due"] (spSame 0) := by
  refine T.ok (d := gdef "_law_same" 52) 28 rfl (j := 54) rfl rfl rfl rfl scSame (fun vs H Q E h => ?_) (fun _ _ _ _ _ _ us hl => match us, hl with | [_, _], _ => rfl) fun f cdv A outer s H vs Q E hr h => ?_
  · obtain ⟨_, _, rfl, _⟩ := h
    rfl
  obtain ⟨g, d, rfl, hq, k⟩ := h
  have hi : mg "isinstance" = none := T.free 1
  have hint : mg "int" = none := T.free 2
  have hbool : mg "bool" = none := T.free 3
  have hlst : mg "list" = none := T.free 4
  have htup : mg "tuple" = none := T.free 5
  have hstr : mg "str" = none := T.free 6
  refine ⟨_, pss_cons (ps_if (pt_val (pe_callB call_isiT (by rfl) hi (by decide +kernel) (pa_cons (pv 1) (pa_cons (pe_tup (pa_cons (pe_bltn (v := .ty "list") (by rfl) hlst (by decide +kernel) rfl) (pa_cons (pe_bltn (v := .ty "tuple") (by rfl) htup (by decide +kernel) rfl) pa_nil))) pa_nil)))) pss_never pss_nil)
    (pss_cons (ps_if (PW.pt (pw_or (pt_cmpR op_isN (pv 1) pe_non (nomark _)) (pw_or1 (pt_val (pe_callB call_isiT (by rfl) hi (by decide +kernel) (pa_cons (pv 1) (pa_cons (pe_tup (pa_cons (pe_bltn (v := .ty "bool") (by rfl) hbool (by decide +kernel) rfl) (pa_cons (pe_bltn (v := .ty "str") (by rfl) hstr (by decide +kernel) rfl) pa_nil))) pa_nil)))))))
        (pss_one (ps_ret (pe_and (pe_cmpR op_eq (pv 0) (pv 1) (nomark _)) (pe_and (pe_cmpR op_eq (pe_callB call_isi (by rfl) hi (by decide +kernel) (pa_cons (pv 0) (pa_cons (pe_bltn (v := .ty "bool") (by rfl) hbool (by decide +kernel) rfl) pa_nil))) (pe_callB call_isi (by rfl) hi (by decide +kernel) (pa_cons (pv 1) (pa_cons (pe_bltn (v := .ty "bool") (by rfl) hbool (by decide +kernel) rfl) pa_nil))) (nomark _))
          (pe_one (pe_cmpR op_eq (pe_cmpR op_isN (pv 0) pe_non (nomark _)) (pe_cmpR op_isN (pv 1) pe_non (nomark _)) (nomark _))))))) pss_nil)
    (pss_one (ps_ret (pe_and (pe_callB call_isi (by rfl) hi (by decide +kernel) (pa_cons (pv 0) (pa_cons (pe_bltn (v := .ty "int") (by rfl) hint (by decide +kernel) rfl) pa_nil))) (pe_and (pe_not (pe_callB call_isi (by rfl) hi (by decide +kernel) (pa_cons (pv 0) (pa_cons (pe_bltn (v := .ty "bool") (by rfl) hbool (by decide +kernel) rfl) pa_nil)))) (pe_one (pe_cmpR op_eq (pv 0) (pv 1) (nomark _)))))))), ?_⟩
  rcases hq with ⟨i, rfl, rfl⟩ | ⟨rfl, rfl⟩
  · refine ⟨_, rfl, by show 2 ≤ sizeLine; decide, fun p np => ⟨_, p, _, _, [.type "list", .type "tuple"], false, rfl, upd_same, .cons (.ty _) (.cons (.ty _) .nil), ty_int, kit2F, false, rfl, iteF ?_⟩⟩
    refine ⟨_, rfl, rfl, _, rfl, iteF ?_⟩
    have s1 := Same.new (o := .tup [.ty "list", .ty "tuple"]) np
    refine ⟨_, rfl, by show 2 ≤ sizeLine; decide, fun p2 np2 => ⟨_, p2, _, _, [.type "bool", .type "str"], false, rfl, upd_same, .cons (.ty _) (.cons (.ty _) .nil), ty_int, kitBS, false, rfl, iteF ?_⟩⟩
    have s2 := Same.new (o := .tup [.ty "bool", .ty "str"]) np2
    refine ⟨_, rfl, .int i, .ty "int", .type "int", .type "int", true, rfl, .ty _, ty_int, kit_ty (by decide +kernel), true, rfl, iteT ?_⟩
    refine ⟨_, rfl, .int i, .ty "bool", .type "int", .type "bool", false, rfl, .ty _, ty_int, kit_ty (by decide +kernel), false, rfl, true, rfl, iteT ?_⟩
    refine ⟨_, rfl, _, rfl, rfl, ?_⟩
    rw [decide_eq_true rfl]
    exact k _ (s1.trans s2)
  · refine ⟨_, rfl, by show 2 ≤ sizeLine; decide, fun p np => ⟨_, p, _, _, [.type "list", .type "tuple"], false, rfl, upd_same, .cons (.ty _) (.cons (.ty _) .nil), ty_non, kitN2, false, rfl, iteF ?_⟩⟩
    have s1 := Same.new (o := .tup [.ty "list", .ty "tuple"]) np
    refine ⟨_, rfl, rfl, _, rfl, iteT ?_⟩
    refine ⟨_, rfl, _, rfl, rfl, true, rfl, iteT ?_⟩
    refine ⟨_, rfl, .non, .ty "bool", .type "NoneType", .type "bool", false, rfl, .ty _, ty_non, kit_ty (by decide +kernel), _, rfl, .non, .ty "bool", .type "NoneType", .type "bool", false, rfl, .ty _, ty_non, kit_ty (by decide +kernel), rfl, true, rfl, iteT ?_⟩
    exact ⟨_, rfl, rfl, _, rfl, rfl, rfl, k _ s1⟩
theorem ok_sameS (T : TX K mg) {n : Nat} (CS : Cal P w K mg base "_law_same" (n + 1) ["_law_got", "_law_due"] (spSame n)) : Cal P w K mg base "_law_same" (n + 2) ["_law_got", "_law_due"] (spSame (n + 1)) := by
  refine T.ok (d := gdef "_law_same" 52) 28 rfl (j := 54) rfl rfl rfl rfl scSame (fun vs H Q E h => ?_) (fun _ _ _ _ _ _ us hl => match us, hl with | [_, _], _ => rfl) fun f cdv A outer s H vs Q E hr h => ?_
  · obtain ⟨_, _, rfl, _⟩ := h
    rfl
  obtain ⟨g, d, rfl, hq, k⟩ := h
  have hi : mg "isinstance" = none := T.free 1
  have hint : mg "int" = none := T.free 2
  have hbool : mg "bool" = none := T.free 3
  have hlst : mg "list" = none := T.free 4
  have htup : mg "tuple" = none := T.free 5
  have hstr : mg "str" = none := T.free 6
  have hall : mg "all" = none := T.free 7
  have hlen : mg "len" = none := T.free 0
  have hzip : mg "zip" = none := T.free 11
  refine ⟨_, pss_cons (ps_if (pt_val (pe_callB call_isiT (by rfl) hi (by decide +kernel) (pa_cons (pv 1) (pa_cons (pe_tup (pa_cons (pe_bltn (v := .ty "list") (by rfl) hlst (by decide +kernel) rfl) (pa_cons (pe_bltn (v := .ty "tuple") (by rfl) htup (by decide +kernel) rfl) pa_nil))) pa_nil)))) (pss_cons (ps_if (PW.pt (pw_or (pt_cmpR op_ne (pe_callB call_isi (by rfl) hi (by decide +kernel) (pa_cons (pv 0) (pa_cons (pe_bltn (v := .ty "list") (by rfl) hlst (by decide +kernel) rfl) pa_nil))) (pe_callB call_isi (by rfl) hi (by decide +kernel) (pa_cons (pv 1) (pa_cons (pe_bltn (v := .ty "list") (by rfl) hlst (by decide +kernel) rfl) pa_nil))) (nomark _))
          (pw_or1 (pt_cmpR op_ne (pe_callB call_isi (by rfl) hi (by decide +kernel) (pa_cons (pv 0) (pa_cons (pe_bltn (v := .ty "tuple") (by rfl) htup (by decide +kernel) rfl) pa_nil))) (pe_callB call_isi (by rfl) hi (by decide +kernel) (pa_cons (pv 1) (pa_cons (pe_bltn (v := .ty "tuple") (by rfl) htup (by decide +kernel) rfl) pa_nil))) (nomark _))))) (pss_one (ps_ret pe_bl)) pss_nil)
        (pss_one (ps_ret (pe_and (pe_cmpR op_eq (pe_callB call_len_seq (by rfl) hlen (by decide +kernel) (pa_cons (pv 0) pa_nil)) (pe_callB call_len_seq (by rfl) hlen (by decide +kernel) (pa_cons (pv 1) pa_nil)) (nomark _))
          (pe_one (pe_callB (cr_all rfl) (by rfl) hall (by decide +kernel) (pa_cons (pe_lc (own := [("_law_own", 2), ("_law_mine_so", 3)]) (g := gTup K 2 (gCons (gName 3) (gCons (gName 2) gNil))) (tt := tYes) rfl scSame.nd (RZ.pi_zipA (by rfl) hzip (pa_cons (pv 0) (pa_cons (pv 1) pa_nil)))
            (blkOk_by (N := ["_law_got", "_law_due", "_law_own", "_law_mine_so"]) (sc := (gdef "_law_same" 52).scope) (by decide +kernel))
            (fun _ _ _ _ _ => pg_tup rfl (pgs_cons (pg_name (i := 3) scSame.nd rfl (Or.inl rfl)) (pgs_cons (pg_name (i := 2) scSame.nd rfl (Or.inl rfl)) pgs_nil))) (fun _ _ _ _ _ => pts_nil)
            (fun _ _ _ _ _ => pe_cal CS hr (by rfl) (pa_cons (pv 3) (pa_cons (pv 2) pa_nil)))) pa_nil))))))) pss_nil)
    (pss_cons (ps_if (PW.pt (pw_or (pt_cmpR op_isN (pv 1) pe_non (nomark _)) (pw_or1 (pt_val (pe_callB call_isiT (by rfl) hi (by decide +kernel) (pa_cons (pv 1) (pa_cons (pe_tup (pa_cons (pe_bltn (v := .ty "bool") (by rfl) hbool (by decide +kernel) rfl) (pa_cons (pe_bltn (v := .ty "str") (by rfl) hstr (by decide +kernel) rfl) pa_nil))) pa_nil)))))))
        (pss_one (ps_ret (pe_and (pe_cmpR op_eq (pv 0) (pv 1) (nomark _)) (pe_and (pe_cmpR op_eq (pe_callB call_isi (by rfl) hi (by decide +kernel) (pa_cons (pv 0) (pa_cons (pe_bltn (v := .ty "bool") (by rfl) hbool (by decide +kernel) rfl) pa_nil))) (pe_callB call_isi (by rfl) hi (by decide +kernel) (pa_cons (pv 1) (pa_cons (pe_bltn (v := .ty "bool") (by rfl) hbool (by decide +kernel) rfl) pa_nil))) (nomark _))
          (pe_one (pe_cmpR op_eq (pe_cmpR op_isN (pv 0) pe_non (nomark _)) (pe_cmpR op_isN (pv 1) pe_non (nomark _)) (nomark _))))))) pss_nil)
    (pss_one (ps_ret (pe_and (pe_callB call_isi (by rfl) hi (by decide +kernel) (pa_cons (pv 0) (pa_cons (pe_bltn (v := .ty "int") (by rfl) hint (by decide +kernel) rfl) pa_nil))) (pe_and (pe_not (pe_callB call_isi (by rfl) hi (by decide +kernel) (pa_cons (pv 0) (pa_cons (pe_bltn (v := .ty "bool") (by rfl) hbool (by decide +kernel) rfl) pa_nil)))) (pe_one (pe_cmpR op_eq (pv 0) (pv 1) (nomark _)))))))), ?_⟩
  rcases hq with (⟨i, rfl, rfl⟩ | ⟨rfl, rfl⟩) | ⟨l, m, xs, ys, rfl, rfl, hx, hy, hlx, hp⟩
  · refine ⟨_, rfl, by show 2 ≤ sizeLine; decide, fun p np => ⟨_, p, _, _, [.type "list", .type "tuple"], false, rfl, upd_same, .cons (.ty _) (.cons (.ty _) .nil), ty_int, kit2F, false, rfl, iteF ?_⟩⟩
    refine ⟨_, rfl, rfl, _, rfl, iteF ?_⟩
    have s1 := Same.new (o := .tup [.ty "list", .ty "tuple"]) np
    refine ⟨_, rfl, by show 2 ≤ sizeLine; decide, fun p2 np2 => ⟨_, p2, _, _, [.type "bool", .type "str"], false, rfl, upd_same, .cons (.ty _) (.cons (.ty _) .nil), ty_int, kitBS, false, rfl, iteF ?_⟩⟩
    have s2 := Same.new (o := .tup [.ty "bool", .ty "str"]) np2
    refine ⟨_, rfl, .int i, .ty "int", .type "int", .type "int", true, rfl, .ty _, ty_int, kit_ty (by decide +kernel), true, rfl, iteT ?_⟩
    refine ⟨_, rfl, .int i, .ty "bool", .type "int", .type "bool", false, rfl, .ty _, ty_int, kit_ty (by decide +kernel), false, rfl, true, rfl, iteT ?_⟩
    refine ⟨_, rfl, _, rfl, rfl, ?_⟩
    rw [decide_eq_true rfl]
    exact k _ (s1.trans s2)
  · refine ⟨_, rfl, by show 2 ≤ sizeLine; decide, fun p np => ⟨_, p, _, _, [.type "list", .type "tuple"], false, rfl, upd_same, .cons (.ty _) (.cons (.ty _) .nil), ty_non, kitN2, false, rfl, iteF ?_⟩⟩
    have s1 := Same.new (o := .tup [.ty "list", .ty "tuple"]) np
    refine ⟨_, rfl, rfl, _, rfl, iteT ?_⟩
    refine ⟨_, rfl, _, rfl, rfl, true, rfl, iteT ?_⟩
    refine ⟨_, rfl, .non, .ty "bool", .type "NoneType", .type "bool", false, rfl, .ty _, ty_non, kit_ty (by decide +kernel), _, rfl, .non, .ty "bool", .type "NoneType", .type "bool", false, rfl, .ty _, ty_non, kit_ty (by decide +kernel), rfl, true, rfl, iteT ?_⟩
    exact ⟨_, rfl, rfl, _, rfl, rfl, rfl, k _ s1⟩
  · refine ⟨_, rfl, by show 2 ≤ sizeLine; decide, fun p np => ⟨_, p, _, _, [.type "list", .type "tuple"], true, rfl, upd_same, .cons (.ty _) (.cons (.ty _) .nil), ty_lst ((Same.new np) _ _ hy), kitL2, true, rfl, iteT ?_⟩⟩
    have s1 := Same.new (o := .tup [.ty "list", .ty "tuple"]) np
    generalize eH1 : upd H p (.tup [.ty "list", .ty "tuple"]) = H1 at s1 ⊢
    have hx1 := s1 _ _ hx
    have hy1 := s1 _ _ hy
    refine ⟨_, rfl, .ref l, .ty "list", .type "list", .type "list", true, rfl, .ty _, ty_lst hx1, kit_ty (by decide +kernel), _, rfl, .ref m, .ty "list", .type "list", .type "list", true, rfl, .ty _, ty_lst hy1, kit_ty (by decide +kernel), rfl, _, rfl, iteF ?_⟩
    refine ⟨_, rfl, .ref l, .ty "tuple", .type "list", .type "tuple", false, rfl, .ty _, ty_lst hx1, kit_ty (by decide +kernel), _, rfl, .ref m, .ty "tuple", .type "list", .type "tuple", false, rfl, .ty _, ty_lst hy1, kit_ty (by decide +kernel), rfl, _, rfl, iteF ?_⟩
    have hxy := paired_len hp
    refine ⟨_, rfl, l, xs, rfl, .inl (SqL.of hx1), _, rfl, m, ys, rfl, .inl (SqL.of hy1), rfl, ?_⟩
    rw [hxy, decide_eq_true rfl]
    refine ⟨true, rfl, iteT ?_⟩
    refine ⟨_, rfl, _, rfl, l, m, xs, ys, rfl, .inl ⟨SqL.of hx1, SqL.of hy1, fun D nD => ?_⟩⟩
    refine lc_it (walk_zip (n := xs.length) (by omega)) (fun i H' => Same H1 H' ∧ H' D = some (.lst (List.replicate i (V.bl true)))) ⟨Same.new nD, by rw [upd_same]; rfl⟩ (fun i H' _ q => ⟨SqL.of (q.1 _ _ hx1), SqL.of (q.1 _ _ hy1)⟩) ?_ ?_
    · rintro i v H' H'' hi ⟨sm, eD⟩ ⟨T1, x, y, rfl, n1, rfl, ex, ey⟩
      obtain ⟨y', ey', hxy2⟩ := paired_get hp ex
      have e : y' = y := Option.some.inj (ey'.symm.trans ey)
      subst e
      have s2 := Same.new (o := .tup [x, y']) n1
      refine ⟨T1, _, rfl, SqT.of upd_same, rfl, _, _, rfl, _, _, rfl, rfl, rfl, ?_⟩
      refine ⟨_, rfl, _, rfl, x, y', rfl, hxy2.same (s1.trans (sm.trans s2)), fun H3 s3 => ⟨_, s3 _ _ (s2 _ _ eD), ?_, (sm.trans (s2.trans s3)).put nD, ?_⟩⟩
      · rw [List.length_replicate]
        exact small (by omega)
      · rw [upd_same, List.replicate_succ']
    · rintro H' ⟨sm, eD⟩
      refine ⟨D, List.replicate xs.length true, rfl, ?_, ?_⟩
      · rw [List.map_replicate]
        exact SqL.of eD
      · have e : (List.replicate xs.length true).all id = true := by
          rw [List.all_eq_true]
          intro b hb
          exact (List.mem_replicate.mp hb).2
        rw [e]
        exact k H' (s1.trans sm)
theorem ok_same (T : TX K mg) : ∀ n : Nat, Cal P w K mg base "_law_same" (n + 1) ["_law_got", "_law_due"] (spSame n)
  | 0 => ok_same0 T
  | n + 1 => ok_sameS T (ok_same T n)
end Lb
/-! chains.py, fractions.py, bound.py: ratios, common_part, unit, is_even, check_even, lines, least_pool. -/
namespace Lb
open PySem PySem.Spec PyProof.Rows L2
variable {P : Program} {w : World} {K : PySem.W.Frag} {mg : Str → Option Value} {base : Heap}
/-! ### what they reckon -/
def ratiosOf (ch : List Int) : List Int := List.zipWith (fun near far => far / near) ch (ch.drop 1)
def stepU (f r : Int) : Int := f * r / (Int.gcd f r : Int)
def lastOf (ch : List Int) : Int := ch.getLastD 0
def unitOf (ch : List Int) : Int := (ratiosOf ch).foldl stepU 1 * lastOf ch
def stepL (B : Int) (l : List Int) (r : Int) : List Int := l ++ [lastOf l + B - B / r]
def linesOf (ch : List Int) (B : Int) : List Int := (ratiosOf ch).foldl (stepL B) [B]
def chOk (ch : List Int) (B : Int) : Bool := !ch.isEmpty && (decide (ch.length ≤ 10) && (ch.all (fun x => decide (0 < x) && decide (x < 1073741824)) && ((ratiosOf ch).all (fun x => decide (0 < x) && decide (x < 1073741824)) && (decide (0 < unitOf ch) && (decide (B % unitOf ch = 0) && decide (0 ≤ B))))))
structure ChOk (ch : List Int) (B : Int) : Prop where
  ne : ch ≠ []
  len : ch.length ≤ 10
  pos : ∀ x ∈ ch, 0 < x ∧ x < 1073741824
  rat : ∀ x ∈ ratiosOf ch, 0 < x ∧ x < 1073741824
  unit : 0 < unitOf ch
  even : B % unitOf ch = 0
  nn : 0 ≤ B
theorem chOk_of {ch : List Int} {B : Int} (h : chOk ch B = true) : ChOk ch B := by
  unfold chOk at h
  simp only [Bool.and_eq_true, decide_eq_true_eq, List.all_eq_true, Bool.not_eq_true', List.isEmpty_eq_false_iff] at h
  obtain ⟨h1, h2, h3, h4, h5, h6, h7⟩ := h
  exact ⟨h1, h2, h3, h4, h5, h6, h7⟩
theorem last_split {l : List Int} (h : l ≠ []) : l = l.dropLast ++ [lastOf l] := by
  have e := List.dropLast_concat_getLast h
  have e2 : lastOf l = l.getLast h := by
    unfold lastOf
    rw [List.getLastD_eq_getLast?, List.getLast?_eq_getLast h]
    rfl
  rw [e2, e]
theorem last_mem {l : List Int} (h : l ≠ []) : lastOf l ∈ l := by
  have e2 : lastOf l = l.getLast h := by
    unfold lastOf
    rw [List.getLastD_eq_getLast?, List.getLast?_eq_getLast h]
    rfl
  rw [e2]
  exact List.getLast_mem h
theorem atI_lastV {l : List Int} (h : l ≠ []) : atI (l.map V.int) (-1) = some (V.int (lastOf l)) := by
  have e := last_split h
  have e2 : l.map V.int = l.dropLast.map V.int ++ [V.int (lastOf l)] := by
    conv => lhs; rw [e]
    rw [List.map_append]
    rfl
  rw [e2]
  exact atI_last _ _
theorem ratios_len (ch : List Int) : (ratiosOf ch).length = ch.length - 1 := by
  unfold ratiosOf
  rw [List.length_zipWith, List.length_drop]
  omega
/-! ### ratios -/
theorem walk_zipM {a b : Addr} {xs ys : List V} {n : Nat} (hn : n = min xs.length ys.length) : Walk (RZ.ItzT K a b) n (fun H => SqT K H a xs ∧ SqT K H b ys) (YPair (fun i => xs[i]?) (fun i => ys[i]?)) :=
  ⟨fun i H hi ⟨q1, q2⟩ => ⟨xs, ys, xs[i]'(by omega), ys[i]'(by omega), q1, q2, List.getElem?_eq_getElem _, List.getElem?_eq_getElem _⟩, fun H ⟨q1, q2⟩ => ⟨xs, ys, q1, q2, by omega⟩,
    fun i H v H' hi ⟨q1, q2⟩ ⟨T, x, y, e1, e2, e3, e5, e6⟩ => ⟨T, x, y, e1, e2, e3, e5 xs q1, e6 ys q2⟩⟩
theorem cut_one (xs : List V) : cutV xs (some 1) none = xs.drop 1 := by
  unfold cutV
  rw [show HT.sIx xs.length 0 (some 1) = min 1 xs.length from HT.sIx_nat xs.length 0 1, HT.sIx_none]
  cases xs with
  | nil => rfl
  | cons x r =>
    rw [show min 1 (x :: r).length = 1 by rw [List.length_cons]; omega]
    refine List.take_of_length_le ?_
    rw [List.length_drop]
    exact Nat.le_refl _
theorem scRatios : FnScope ["chain", "near", "far"] ["chain"] (gdef "ratios" 38).scope := ⟨rfl, rfl, rfl, by decide +kernel, rfl, by decide +kernel, by decide +kernel⟩
def spRatios : Sp := fun vs H Q _ => ∃ (c : V) (ch : List Int) (B : Int), vs = [c] ∧ IsCn H c ch ∧ ChOk ch B ∧ ∀ v H', Same H H' → IsCh H' v (ratiosOf ch) → Q v H'
theorem ok_ratios (T : TX K mg) : Cal P w K mg base "ratios" 1 ["chain"] spRatios := by
  refine T.ok (d := gdef "ratios" 38) 17 rfl (j := 43) rfl rfl rfl rfl scRatios (fun vs H Q E h => ?_) (fun _ _ _ _ _ _ us hl => match us, hl with | [_], _ => rfl) fun f cdv A outer s H vs Q E hr h => ?_
  · obtain ⟨c, ch, B, rfl, _⟩ := h
    rfl
  · obtain ⟨c, ch, B, rfl, ⟨tc, rfl, hc⟩, ok, k⟩ := h
    have hzip : mg "zip" = none := T.free 11
    have htup : mg "tuple" = none := T.free 5
    refine ⟨_, pss_one (ps_ret (pe_callTy call_tuple_of (by rfl) htup (by decide +kernel) (pa_cons (pe_lc (own := [("near", 1), ("far", 2)]) (g := gTup K 2 (gCons (gName 1) (gCons (gName 2) gNil))) (tt := tYes) rfl scRatios.nd
      (RZ.pi_zipA (by rfl) hzip (pa_cons (pv 0) (pa_cons (pe_slice sl_tup (pv 0) (po_some pe_int) po_none) pa_nil)))
      (blkOk_by (N := ["chain", "near", "far"]) (sc := (gdef "ratios" 38).scope) (by decide +kernel))
      (fun _ _ _ _ _ => pg_tup rfl (pgs_cons (pg_name (i := 1) scRatios.nd rfl (Or.inl rfl)) (pgs_cons (pg_name (i := 2) scRatios.nd rfl (Or.inl rfl)) pgs_nil))) (fun _ _ _ _ _ => pts_nil) (fun _ _ _ _ _ => pe_op op_fdiv (pv 2) (pv 1))) pa_nil))), ?_⟩
    refine ⟨_, rfl, _, rfl, 1, rfl, tc, _, rfl, sqT_rd hc, ?_, fun p np => ?_⟩
    · rintro ⟨q, _⟩
      have q2 : HT.sIx (ch.map V.int).length 0 (some 1) = min 1 (ch.map V.int).length := HT.sIx_nat _ 0 1
      rw [q2, List.length_map] at q
      have : ch.length ≠ 0 := fun z => ok.ne (List.length_eq_zero_iff.mp z)
      omega
    rw [cut_one]
    have s1 : Same H (upd H p (.tup ((ch.map V.int).drop 1))) := Same.new np
    have hd : (ch.map V.int).drop 1 = (ch.drop 1).map V.int := by rw [List.map_drop]
    rw [hd] at s1 ⊢
    refine ⟨tc, p, _, _, rfl, .inr ⟨sqT_rd (rd_same (s1 _) hc), SqT.of upd_same, fun D nD => ?_⟩⟩
    have hn : (ratiosOf ch).length = min (ch.map V.int).length ((ch.drop 1).map V.int).length := by
      rw [ratios_len, List.length_map, List.length_map, List.length_drop]
      omega
    refine lc_it (walk_zipM hn) (fun i H' => Same (upd H p (.tup ((ch.drop 1).map V.int))) H' ∧ H' D = some (.lst (((ratiosOf ch).take i).map V.int))) ⟨Same.new nD, upd_same⟩ (fun i H' _ ⟨sm, _⟩ => ⟨sqT_rd (rd_same (sm _) (rd_same (s1 _) hc)), SqT.of (sm _ _ upd_same)⟩) ?_ ?_
    · rintro i v H' H'' hi ⟨sm, eD⟩ ⟨T1, x, y, rfl, n1, rfl, hx, hy⟩
      obtain ⟨a, ha, rfl⟩ := get_int hx
      obtain ⟨b, hb, rfl⟩ := get_int hy
      have hi2 : (ratiosOf ch)[i]? = some (b / a) := by
        unfold ratiosOf
        rw [List.getElem?_zipWith, ha, hb]
      have nDT : D ≠ T1 := ne_of_none eD n1
      obtain ⟨a1, a2⟩ := ok.pos a (List.mem_of_getElem? ha)
      refine ⟨T1, _, rfl, SqT.of upd_same, rfl, _, _, rfl, _, _, rfl, rfl, rfl, ?_⟩
      refine ⟨_, rfl, _, rfl, _, _, rfl, rfl, ⟨a1, a2⟩, _, by rw [upd_ne nDT]; exact eD, ?_, (sm.trans (Same.new n1)).put nD, ?_⟩
      · rw [List.length_map, List.length_take, ratios_len]
        have := ok.len
        exact small (by omega)
      · rw [upd_same, List.take_add_one, hi2, List.map_append]
        rfl
    · rintro H' ⟨sm, eD⟩
      rw [List.take_length] at eD
      exact ⟨D, _, rfl, .inl ⟨SqL.of eD, fun l nl => k _ _ (s1.trans (sm.trans (Same.new nl))) ⟨l, rfl, upd_same⟩⟩⟩
/-! ### common_part -/
theorem scCommon : FnScope ["one", "other"] ["one", "other"] (gdef "common_part" 40).scope := ⟨rfl, rfl, rfl, by decide +kernel, rfl, by decide +kernel, by decide +kernel⟩
def spCommon : Sp := fun vs H Q _ => ∃ (a b : Nat), vs = [.int a, .int b] ∧ Q (.int (Nat.gcd a b : Nat)) H
theorem ok_common (T : TX K mg) : Cal P w K mg base "common_part" 1 ["one", "other"] spCommon := by
  refine T.ok (d := gdef "common_part" 40) 18 rfl (j := 44) rfl rfl rfl rfl scCommon (fun vs H Q E h => ?_) (fun _ _ _ _ _ _ us hl => match us, hl with | [_, _], _ => rfl) fun f cdv A outer s H vs Q E hr h => ?_
  · obtain ⟨a, b, rfl, _⟩ := h
    rfl
  · obtain ⟨a, b, rfl, k⟩ := h
    have habs : mg "abs" = none := T.free 14
    refine ⟨_, pss_cons (ps_while PassesOwn.never (pt_cmpR op_ne (pv 1) pe_int (nomark _))
        (pss_one (ps_par (i := 0) (j := 1) rfl scCommon.nd rfl rfl (by decide) rfl rfl (pa_cons (pv 1) (pa_cons (pe_op op_mod (pv 0) (pv 1)) pa_nil)) (by rfl))))
      (pss_one (ps_ret (pe_callB call_abs (by rfl) habs (by decide +kernel) (pa_cons (pv 0) pa_nil)))), ?_⟩
    refine ⟨fun m σ H' => H' = H ∧ ∃ x y : Nat, σ = [some (.int x), some (.int y)] ∧ Nat.gcd x y = Nat.gcd a b ∧ y = m, ⟨b, rfl, a, b, rfl, rfl, rfl⟩, ?_⟩
    rintro m σ H' ⟨rfl, x, y, rfl, hg, rfl⟩
    refine ⟨_, rfl, rfl, _, rfl, ?_⟩
    by_cases hy : y = 0
    · have e : (!decide (V.int (y : Int) = V.int 0)) = false := by
        rw [hy]
        rfl
      rw [e]
      refine iteF ⟨_, rfl, x, rfl, ?_⟩
      rw [if_neg (by omega)]
      rw [hy, Nat.gcd_zero_right] at hg
      rw [hg]
      exact k
    · have e : (!decide (V.int (y : Int) = V.int 0)) = true := by
        rw [decide_eq_false (fun z => hy (by have := V.int.inj z; omega))]
        rfl
      rw [e]
      refine iteT ⟨fun σ' H2 => H2 = H' ∧ ∃ x' y' : Nat, σ' = [some (.int x'), some (.int y')] ∧ Nat.gcd x' y' = Nat.gcd a b ∧ y' < y, fun σ' H2 ⟨q1, x', y', q2, q3, q4⟩ => ⟨y', q4, q1, x', y', q2, q3, rfl⟩, ?_⟩
      refine ⟨_, rfl, _, rfl, _, rfl, _, _, rfl, rfl, (by show (0 : Int) < (y : Int); omega), _, _, rfl, rfl, y, x % y, rfl, ?_, Nat.mod_lt _ (by omega)⟩
      rw [← hg, Nat.gcd_comm x y, Nat.gcd_rec y x, Nat.gcd_comm]
/-! ### unit -/
theorem stepU_pos {f r : Int} (hf : 0 < f) (hr : 0 < r) : 0 < stepU f r := by
  unfold stepU
  have h1 : (Int.gcd f r : Int) ∣ r := Int.gcd_dvd_right ..
  have h2 : 0 < (Int.gcd f r : Int) := by
    have : Int.gcd f r ≠ 0 := fun z => by
      have := Int.gcd_eq_zero_iff.mp z
      omega
    omega
  have h3 : (Int.gcd f r : Int) ≤ r := Int.le_of_dvd hr h1
  have h4 : (Int.gcd f r : Int) ≤ f * r := by
    have : 1 * r ≤ f * r := Int.mul_le_mul_of_nonneg_right (by omega) (by omega)
    omega
  exact Int.ediv_pos_of_pos_of_dvd (Int.mul_pos hf hr) (by omega) (Int.dvd_mul_of_dvd_right h1)
theorem scUnit : FnScope ["chain", "found", "ratio"] ["chain"] (gdef "unit" 42).scope := ⟨rfl, rfl, rfl, by decide +kernel, rfl, by decide +kernel, by decide +kernel⟩
def spUnit : Sp := fun vs H Q _ => ∃ (c : V) (ch : List Int) (B : Int), vs = [c] ∧ IsCn H c ch ∧ ChOk ch B ∧ ∀ H', Same H H' → Q (.int (unitOf ch)) H'
theorem ok_unit (T : TX K mg) : Cal P w K mg base "unit" 2 ["chain"] spUnit := by
  refine T.ok (d := gdef "unit" 42) 19 rfl (j := 45) rfl rfl rfl rfl scUnit (fun vs H Q E h => ?_) (fun _ _ _ _ _ _ us hl => match us, hl with | [_], _ => rfl) fun f cdv A outer s H vs Q E hr h => ?_
  · obtain ⟨c, ch, B, rfl, _⟩ := h
    rfl
  · obtain ⟨c, ch, B, rfl, hc, ok, k⟩ := h
    have CR : Cal P w K mg base "ratios" 1 ["chain"] spRatios := ok_ratios T
    have CC : Cal P w K mg base "common_part" 1 ["one", "other"] spCommon := ok_common T
    refine ⟨_, pss_cons (ps_set (i := 1) scUnit.nd rfl (.inl rfl) pe_int)
      (pss_cons (ps_for PassesOwn.never rfl (pi_tup (pe_cal CR hr (by rfl) (pa_cons (pv 0) pa_nil))) (pg_name (i := 2) scUnit.nd rfl (.inl rfl))
        (pss_one (ps_set (i := 1) scUnit.nd rfl (.inl rfl) (pe_op op_fdiv (pe_op op_mul (pv 1) (pv 2)) (pe_cal CC hr (by rfl) (pa_cons (pv 1) (pa_cons (pv 2) pa_nil)))))))
      (pss_one (ps_ret (pe_op op_mul (pv 1) (pe_ix ix_tup (pv 0) (pe_un un_neg pe_int) (fun _ _ => rfl)))))), ?_⟩
    refine ⟨_, rfl, c, ch, B, rfl, hc, ok, fun v H1 s1 hv => ?_⟩
    obtain ⟨tv, rfl, hv⟩ := hv
    refine ⟨tv, rfl, ⟨_, SqT.of hv⟩, for_tup (K := K) (a := tv) (xs := (ratiosOf ch).map V.int) (fun i σ H' => H' = H1 ∧ ∃ (y : Option V), σ = [some c, some (.int (((ratiosOf ch).take i).foldl stepU 1)), y] ∧ 0 < ((ratiosOf ch).take i).foldl stepU 1) ⟨rfl, none, rfl, (by show (0 : Int) < 1; decide)⟩ (fun i σ H' _ p => by rw [p.1]; exact SqT.of hv) ?_ ?_⟩
    · rintro i x σ H' hx ⟨rfl, y, rfl, hp⟩
      obtain ⟨r, hr2, rfl⟩ := get_int hx
      obtain ⟨r1, r2⟩ := ok.rat r (List.mem_of_getElem? hr2)
      have et : ((ratiosOf ch).take (i + 1)).foldl stepU 1 = stepU (((ratiosOf ch).take i).foldl stepU 1) r := by
        rw [List.take_add_one, hr2, List.foldl_append]
        rfl
      generalize eF : ((ratiosOf ch).take i).foldl stepU 1 = F at hp et ⊢
      obtain ⟨a, rfl⟩ := Int.eq_ofNat_of_zero_le (Int.le_of_lt hp)
      obtain ⟨b, rfl⟩ := Int.eq_ofNat_of_zero_le (Int.le_of_lt r1)
      have hg : 0 < Nat.gcd a b := Nat.gcd_pos_of_pos_right _ (by omega)
      have hgl : Nat.gcd a b ≤ b := Nat.gcd_le_right _ (by omega)
      refine ⟨_, rfl, _, rfl, _, _, rfl, rfl, .inr ⟨by omega, by omega⟩, _, rfl, _, rfl, a, b, rfl, _, _, rfl, rfl, ⟨by show (0 : Int) < _; omega, by show (_ : Int) < _; omega⟩, rfl, some (.int (b : Int)), ?_, ?_⟩
      · rw [et]
        rfl
      · rw [et]
        exact stepU_pos hp r1
    · rintro σ H' ⟨rfl, y, rfl, hp⟩
      obtain ⟨tc, rfl, hc⟩ := hc
      rw [List.length_map, List.take_length] at hp ⊢
      have hl := ok.pos (lastOf ch) (last_mem ok.ne)
      refine ⟨_, rfl, _, rfl, 1, rfl, tc, _, -1, _, rfl, rfl, sqT_rd (rd_same (s1 _) hc), atI_lastV ok.ne, _, _, rfl, rfl, .inr ⟨by omega, by omega⟩, k _ s1⟩
/-! ### is_even, check_even -/
theorem scEven : FnScope ["chain", "budget"] ["chain", "budget"] (gdef "is_even" 43).scope := ⟨rfl, rfl, rfl, by decide +kernel, rfl, by decide +kernel, by decide +kernel⟩
def spEven : Sp := fun vs H Q _ => ∃ (c : V) (ch : List Int) (B : Int), vs = [c, .int B] ∧ IsCn H c ch ∧ ChOk ch B ∧ ∀ H', Same H H' → Q (.bl true) H'
theorem ok_even (T : TX K mg) : Cal P w K mg base "is_even" 3 ["chain", "budget"] spEven := by
  refine T.ok (d := gdef "is_even" 43) 20 rfl (j := 46) rfl rfl rfl rfl scEven (fun vs H Q E h => ?_) (fun _ _ _ _ _ _ us hl => match us, hl with | [_, _], _ => rfl) fun f cdv A outer s H vs Q E hr h => ?_
  · obtain ⟨c, ch, B, rfl, _⟩ := h
    rfl
  · obtain ⟨c, ch, B, rfl, hc, ok, k⟩ := h
    have CU : Cal P w K mg base "unit" 2 ["chain"] spUnit := ok_unit T
    refine ⟨_, pss_one (ps_ret (pe_cmpR op_eq (pe_op op_mod (pv 1) (pe_cal CU hr (by rfl) (pa_cons (pv 0) pa_nil))) pe_int (nomark _))), ?_⟩
    refine ⟨_, rfl, _, rfl, c, ch, B, rfl, hc, ok, fun H1 s1 => ?_⟩
    refine ⟨_, _, rfl, rfl, ok.unit, rfl, ?_⟩
    show Q (.bl (decide (V.int (B % unitOf ch) = V.int 0))) H1
    rw [ok.even]
    exact k _ s1
theorem scCheck : FnScope ["chain", "budget"] ["chain", "budget"] (gdef "check_even" 44).scope := ⟨rfl, rfl, rfl, by decide +kernel, rfl, by decide +kernel, by decide +kernel⟩
def spCheck : Sp := fun vs H Q _ => ∃ (c : V) (ch : List Int) (B : Int), vs = [c, .int B] ∧ IsCn H c ch ∧ ChOk ch B ∧ ∀ H', Same H H' → Q .non H'
theorem ok_check (T : TX K mg) : Cal P w K mg base "check_even" 4 ["chain", "budget"] spCheck := by
  refine T.ok (d := gdef "check_even" 44) 21 rfl (j := 47) rfl rfl rfl rfl scCheck (fun vs H Q E h => ?_) (fun _ _ _ _ _ _ us hl => match us, hl with | [_, _], _ => rfl) fun f cdv A outer s H vs Q E hr h => ?_
  · obtain ⟨c, ch, B, rfl, _⟩ := h
    rfl
  · obtain ⟨c, ch, B, rfl, hc, ok, k⟩ := h
    have CU : Cal P w K mg base "is_even" 3 ["chain", "budget"] spEven := ok_even T
    refine ⟨_, pss_one (ps_if (pt_not (pt_val (pe_cal CU hr (by rfl) (pa_cons (pv 0) (pa_cons (pv 1) pa_nil))))) (pss_one ps_never) pss_nil), ?_⟩
    exact ⟨_, rfl, _, rfl, c, ch, B, rfl, hc, ok, fun H1 s1 => ⟨true, rfl, iteF (k _ s1)⟩⟩
/-! ### lines, least_pool -/
theorem scLines : FnScope ["chain", "budget", "found", "ratio"] ["chain", "budget"] (gdef "lines" 45).scope := ⟨rfl, rfl, rfl, by decide +kernel, rfl, by decide +kernel, by decide +kernel⟩
def spLines : Sp := fun vs H Q _ => ∃ (c : V) (ch : List Int) (B : Int), vs = [c, .int B] ∧ IsCn H c ch ∧ ChOk ch B ∧ ∀ v H', Same H H' → IsCh H' v (linesOf ch B) → Q v H'
theorem ok_lines (T : TX K mg) : Cal P w K mg base "lines" 5 ["chain", "budget"] spLines := by
  refine T.ok (d := gdef "lines" 45) 22 rfl (j := 48) rfl rfl rfl rfl scLines (fun vs H Q E h => ?_) (fun _ _ _ _ _ _ us hl => match us, hl with | [_, _], _ => rfl) fun f cdv A outer s H vs Q E hr h => ?_
  · obtain ⟨c, ch, B, rfl, _⟩ := h
    rfl
  · obtain ⟨c, ch, B, rfl, hc, ok, k⟩ := h
    have htup : mg "tuple" = none := T.free 5
    have CR : Cal P w K mg base "ratios" 1 ["chain"] spRatios := ok_ratios T
    have CE : Cal P w K mg base "check_even" 4 ["chain", "budget"] spCheck := ok_check T
    refine ⟨_, pss_cons (ps_expr (pe_cal CE hr (by rfl) (pa_cons (pv 0) (pa_cons (pv 1) pa_nil))))
      (pss_cons (ps_set (i := 2) scLines.nd rfl (.inl rfl) (pe_lst (pa_cons (pv 1) pa_nil)))
      (pss_cons (ps_for PassesOwn.never rfl (pi_tup (pe_cal CR (hr.mono (by decide)) (by rfl) (pa_cons (pv 0) pa_nil))) (pg_name (i := 3) scLines.nd rfl (.inl rfl))
        (pss_one (ps_expr (pe_bm PySem.F.plainAttrs_list PySem.F.slot_list_append PySem.F.type_list_append mt_append (pv 2) (pa_cons (pe_op op_sub (pe_op op_add (pe_ix ix_list (pv 2) (pe_un un_neg pe_int) (fun _ _ => rfl)) (pv 1)) (pe_op op_fdiv (pv 1) (pv 3))) pa_nil)))))
      (pss_one (ps_ret (pe_callTy call_tuple_of (by rfl) htup (by decide +kernel) (pa_cons (pv 2) pa_nil)))))), ?_⟩
    refine ⟨_, rfl, _, rfl, c, ch, B, rfl, hc, ok, fun H1 s1 => ?_⟩
    refine ⟨_, rfl, by show 1 ≤ sizeLine; decide, fun o no => ?_⟩
    have s2 : Same H1 (upd H1 o (.lst [.int B])) := Same.new no
    have no0 : H o = none := s1.free no
    refine ⟨_, rfl, c, ch, B, rfl, IsCn.same (s1.trans s2) hc, ok, fun v H2 s3 hv => ?_⟩
    obtain ⟨tv, rfl, hv⟩ := hv
    have hne : ∀ (l : List Int) (a : List Int), a ≠ [] → l.foldl (stepL B) a ≠ [] ∧ (l.foldl (stepL B) a).length = a.length + l.length := by
      intro l
      induction l with
      | nil => exact fun a h => ⟨h, rfl⟩
      | cons x r ih =>
        intro a h
        have := ih (stepL B a x) (by unfold stepL; simp)
        rw [List.foldl_cons]
        refine ⟨this.1, ?_⟩
        rw [this.2]
        unfold stepL
        rw [List.length_append, List.length_singleton, List.length_cons]
        omega
    refine ⟨tv, rfl, ⟨_, SqT.of hv⟩, for_tup (K := K) (a := tv) (xs := (ratiosOf ch).map V.int) (fun i σ H' => ∃ (y : Option V), σ = [some c, some (.int B), some (.ref o), y] ∧ Same H H' ∧ H' tv = some (.tup ((ratiosOf ch).map V.int)) ∧ H' o = some (.lst ((((ratiosOf ch).take i).foldl (stepL B) [B]).map V.int))) ⟨none, rfl, s1.trans (s2.trans s3), hv, s3 _ _ upd_same⟩ (fun i σ H' _ ⟨_, _, _, p, _⟩ => SqT.of p) ?_ ?_⟩
    · rintro i x σ H' hx ⟨y, rfl, sm, ev, eo⟩
      obtain ⟨r, hr2, rfl⟩ := get_int hx
      obtain ⟨r1, r2⟩ := ok.rat r (List.mem_of_getElem? hr2)
      have et : ((ratiosOf ch).take (i + 1)).foldl (stepL B) [B] = stepL B (((ratiosOf ch).take i).foldl (stepL B) [B]) r := by
        rw [List.take_add_one, hr2, List.foldl_append]
        rfl
      obtain ⟨n1, n2⟩ := hne ((ratiosOf ch).take i) [B] (by simp)
      refine ⟨_, rfl, .inl ⟨rfl, _, SqL.of eo⟩, _, rfl, 1, rfl, o, _, -1, _, rfl, rfl, SqL.of eo, atI_lastV n1, _, rfl, _, _, rfl, rfl, _, rfl, _, rfl, _, _, rfl, rfl, ⟨r1, r2⟩, _, _, rfl, rfl, o, _, _, rfl, rfl, eo, ?_, ?_⟩
      · rw [List.length_map, n2, List.length_take, ratios_len]
        have := ok.len
        simp
        exact small (by omega)
      · refine ⟨_, rfl, sm.put no0, by rw [upd_ne (ne_of ev eo (by intro z; cases z))]; exact ev, ?_⟩
        rw [upd_same, et]
        unfold stepL
        rw [List.map_append]
        rfl
    · rintro σ H' ⟨y, rfl, sm, ev, eo⟩
      rw [List.length_map, List.take_length] at eo
      exact ⟨_, rfl, o, _, rfl, .inl ⟨SqL.of eo, fun l nl => k _ _ (sm.trans (Same.new nl)) ⟨l, rfl, upd_same⟩⟩⟩
theorem lines_ne (ch : List Int) (B : Int) : linesOf ch B ≠ [] := by
  unfold linesOf
  have h : ∀ (l : List Int) (a : List Int), a ≠ [] → l.foldl (stepL B) a ≠ [] := by
    intro l
    induction l with
    | nil => exact fun a h => h
    | cons x r ih => exact fun a h => ih _ (by unfold stepL; simp)
  exact h _ _ (by simp)
theorem scLeast : FnScope ["chain", "budget"] ["chain", "budget"] (gdef "least_pool" 46).scope := ⟨rfl, rfl, rfl, by decide +kernel, rfl, by decide +kernel, by decide +kernel⟩
def spLeast : Sp := fun vs H Q _ => ∃ (c : V) (ch : List Int) (B : Int), vs = [c, .int B] ∧ IsCn H c ch ∧ ChOk ch B ∧ ∀ H', Same H H' → Q (.int (lastOf (linesOf ch B))) H'
theorem ok_least (T : TX K mg) : Cal P w K mg base "least_pool" 6 ["chain", "budget"] spLeast := by
  refine T.ok (d := gdef "least_pool" 46) 23 rfl (j := 49) rfl rfl rfl rfl scLeast (fun vs H Q E h => ?_) (fun _ _ _ _ _ _ us hl => match us, hl with | [_, _], _ => rfl) fun f cdv A outer s H vs Q E hr h => ?_
  · obtain ⟨c, ch, B, rfl, _⟩ := h
    rfl
  · obtain ⟨c, ch, B, rfl, hc, ok, k⟩ := h
    have CL : Cal P w K mg base "lines" 5 ["chain", "budget"] spLines := ok_lines T
    refine ⟨_, pss_one (ps_ret (pe_ix ix_tup (pe_cal CL hr (by rfl) (pa_cons (pv 0) (pa_cons (pv 1) pa_nil))) (pe_un un_neg pe_int) (fun _ _ => rfl))), ?_⟩
    refine ⟨_, rfl, _, rfl, c, ch, B, rfl, hc, ok, fun v H1 s1 hv => ?_⟩
    obtain ⟨tv, rfl, hv⟩ := hv
    exact ⟨1, rfl, tv, _, -1, _, rfl, rfl, SqT.of hv, atI_lastV (lines_ne ch B), k _ s1⟩
end Lb
set_option maxHeartbeats 2000000
/-! _law_played_right. -/
namespace Lb
open PySem PySem.Spec PyProof.Rows L2
variable {P : Program} {w : World} {K : PySem.W.Frag} {mg : Str → Option Value} {base : Heap}
/-! ### the game told plainly -/
def stF (ds : List Deed) : List (List Blk) := [] :: (runF ds).stands
def toldAt (ds : List Deed) (i : Nat) : V := match ds[i]? with
  | some d => if d.1 = true then .int (ff (runF (ds.take i)).here d.2) else .int ((runF (ds.take i)).sizes.getD d.2.toNat 0)
  | none => .non
def toldF (ds : List Deed) : List V := (List.range ds.length).map (toldAt ds)
theorem stF_len (ds : List Deed) : (stF ds).length = ds.length + 1 := by
  unfold stF
  rw [List.length_cons, stands_len]
theorem stF_at (ds : List Deed) {i : Nat} (h : i ≤ ds.length) : (stF ds).getD i [] = (runF (ds.take i)).here := by
  cases i with
  | zero => rfl
  | succ j =>
    rw [List.getD_eq_getElem?_getD]
    show (((runF ds).stands[j]?).getD []) = _
    rw [stands_get ds (by omega)]
    rfl
theorem toldF_len (ds : List Deed) : (toldF ds).length = ds.length := by
  unfold toldF
  rw [List.length_map, List.length_range]
theorem toldF_at (ds : List Deed) {i : Nat} (h : i < ds.length) : (toldF ds).take (i + 1) = (toldF ds).take i ++ [toldAt ds i] := by
  rw [List.take_add_one]
  congr 1
  unfold toldF
  rw [List.getElem?_map, List.getElem?_range h]
  rfl
theorem here_le {cl : List (Int × Int)} {B : Int} {ds : List Deed} (r : RowOk cl B ds) (i : Nat) : (runF (ds.take i)).here.length ≤ ds.length ∧ (runF (ds.take i)).places.length ≤ ds.length := by
  have R := r.at_ i
  have h1 : (runF (ds.take i)).sizes.length ≤ (ds.take i).length := by
    rw [← asksOf_eq]
    exact asksOf_le _
  have h2 : (ds.take i).length ≤ ds.length := by
    rw [List.length_take]
    omega
  refine ⟨?_, by rw [R.len]; omega⟩
  rw [R.perm.length_eq, List.length_map]
  have h3 : (runF (ds.take i)).outs.length ≤ (List.range (runF (ds.take i)).sizes.length).length := R.nd.length_le_of_subset fun k hk => List.mem_range.mpr (R.lt k hk)
  rw [List.length_range] at h3
  omega
theorem here_stand {cl : List (Int × Int)} {B : Int} {ds : List Deed} (r : RowOk cl B ds) (i : Nat) : Stand (runF (ds.take i)).here :=
  ⟨(r.at_ i).good.sep, (r.at_ i).good.pos, Good.lowB r.fine (r.at_ i).good, (here_len r i).1⟩
theorem told_int (ds : List Deed) : (toldF ds).filter (fun v => decide (v = V.non)) = [] := by
  rw [List.filter_eq_nil_iff]
  intro v hv
  unfold toldF at hv
  obtain ⟨i, hi, rfl⟩ := List.mem_map.mp hv
  have hi := List.mem_range.mp hi
  unfold toldAt
  rw [List.getElem?_eq_getElem hi]
  dsimp only
  split <;> simp
theorem stF_stand {cl : List (Int × Int)} {B : Int} {ds : List Deed} (ok : RowOk cl B ds) : ∀ bs ∈ stF ds, Good cl bs ∧ bs.length ≤ ds.length := by
  intro bs hb
  obtain ⟨i, hi, e⟩ := List.mem_iff_getElem.mp hb
  rw [stF_len] at hi
  have h1 := stF_at ds (show i ≤ ds.length by omega)
  rw [List.getD_eq_getElem?_getD, List.getElem?_eq_getElem (by rw [stF_len]; exact hi), e] at h1
  have h1 : bs = (runF (ds.take i)).here := h1
  rw [h1]
  exact ⟨(ok.at_ i).good, (here_le ok i).1⟩
theorem ends_fit {cl : List (Int × Int)} {B pool : Int} {ds : List Deed} (ok : RowOk cl B ds) (fits : Fits cl pool) (hp : 0 ≤ pool) : ∀ y ∈ 0 :: (stF ds).flatMap endsL, y ≤ pool := by
  intro y hy
  rcases List.mem_cons.mp hy with rfl | hy
  · exact hp
  · obtain ⟨bs, hb, hy⟩ := List.mem_flatMap.mp hy
    obtain ⟨c, hc, rfl⟩ := List.mem_map.mp hy
    obtain ⟨l, h1, h2⟩ := (stF_stand ok bs hb).1.low c hc
    exact Int.le_trans h2 (fits _ h1)
theorem scPR : FnScope ["_law_chain_so", "_law_pool_so", "_law_deeds_so", "_law_eyes", "_law_desk", "_law_places_so", "_law_stands_so", "_law_word_so", "_law_far_so", "_law_due", "_law_got", "_law_size_so"] ["_law_chain_so", "_law_pool_so", "_law_deeds_so"] (gdef "_law_played_right" 54).scope := ⟨rfl, rfl, rfl, by decide +kernel, rfl, by decide +kernel, by decide +kernel⟩
def spPR : Sp := fun vs H Q _ => ∃ (tc : Addr) (r : V) (ch : List Int) (pool : Int) (ds : List Deed) (cl : List (Int × Int)) (B : Int), vs = [.ref tc, .int pool, r] ∧ Rd H tc (.tup (ch.map V.int)) ∧ ch.length ≤ 1000 ∧ IsRow H r ds ∧ RowOk cl B ds ∧ Fits cl pool ∧ 0 ≤ pool ∧ (∀ p ∈ cl, p.1 ∈ ch) ∧ ds.length ≤ 100 ∧ ∀ H', Same H H' → Q (.bl true) H'
/-! ### the end of a turn -/
def forBody : Stmt → List Stmt
  | .For _ _ b _ _ => b
  | _ => []
def prTail : List Stmt := (forBody ((gdef "_law_played_right" 54).body.getD 2 (.Pass ⟨0, 0, 0, 0⟩))).drop 1
abbrev prN : List Str := ["_law_chain_so", "_law_pool_so", "_law_deeds_so", "_law_eyes", "_law_desk", "_law_places_so", "_law_stands_so", "_law_word_so", "_law_far_so", "_law_due", "_law_got", "_law_size_so"]
theorem pr_tail (T : TX K mg) {f : Addr} {cdv : Value} {A : Around} {outer : List Env} {s : Shared} {H : Hp} {E : XK} (hr : Room 5 (A.deeper (envOfC (gdef "_law_played_right" 54).qual (gdef "_law_played_right" 54).scope s.heap.objs.size f cdv))) :
    ∃ tt, PSs (cxOf CX0 P w K mg base prN (gdef "_law_played_right" 54).qual (gdef "_law_played_right" 54).scope f cdv A outer s H E).nox prTail tt ∧
      ∀ (D : Ends) (c p r y1 y2 y3 y4 y5 v5 : Option V) (a dx l1 l2 b bd lp st : Addr) (ch : List Int) (pool : Int) (ds : List Deed) (cl : List (Int × Int)) (B : Int) (i : Nat) (ss : List V) (H2 : Hp), RowOk cl B ds → i < ds.length → Both K H2 a dx l1 l2 b bd lp ch pool (stF ds) (toldF ds) (i + 1) →
        H2 st = some (.lst ss) → Paired (IsN H2) ss ((runF ds).stands.take i) → st ∉ [l1, l2] → st ∉ [b, lp] →
        (∀ H3 ss', KI H2 H3 → Both K H3 a dx l1 l2 b bd lp ch pool (stF ds) (toldF ds) (i + 1) → H3 st = some (.lst ss') → Paired (IsN H3) ss' ((runF ds).stands.take (i + 1)) → (∀ x o, H2 x = some o → x ≠ st → H3 x = some o) →
          D.nx [c, p, r, some (.ref a), some (.ref b), v5, some (.ref st), y1, y2, y3, y4, y5] H3) →
        tt D [c, p, r, some (.ref a), some (.ref b), v5, some (.ref st), y1, y2, y3, y4, y5] H2 := by
  have MWL : Met P w K mg base "Watch" "live" 3 ["self"] (spWLive K) := ok_wlive T
  have MG : Met P w K mg base "Board" "__getitem__" 1 ["self", "name"] (spGI K) := ok_gi T
  have MBL : Met P w K mg base "Board" "live" 3 ["self", "name"] (spBLive K) := ok_blive T
  have PS : Prp P w K mg base "Watch" "stand" 1 (spStand K) := ok_stand T
  refine ⟨_, (pss_cons (ps_expr (pe_bm PySem.F.plainAttrs_list PySem.F.slot_list_append PySem.F.type_list_append mt_append (pv 6) (pa_cons (pe_wp T PS (pv 3) (hr.mono (by decide))) pa_nil)))
      (pss_one (ps_if (PW.pt (pw_or (pt_cmpR (op_neD hr.units) (pe_ix ix_tup (LbO.pe_ixOwn (pv 4) pe_str MG.meth MG.fi MG.R (hr.mono (by decide)) pass0) pe_int (fun _ _ => rfl)) (pe_wp T PS (pv 3) (hr.mono (by decide))) (nomark _))
        (pw_or1 (pt_cmpR op_ne (pe_bmeth T MBL (pv 4) (hr.mono (by decide)) (pa_cons pe_str pa_nil)) (pe_wmeth0 T MWL (pv 3) (hr.mono (by decide))) (nomark _))))) (pss_one (ps_ret pe_bl)) pss_nil))), ?_⟩
  intro D c p r y1 y2 y3 y4 y5 v5 a dx l1 l2 b bd lp st ch pool ds cl B i ss H2 ok hil BO est pst hW hB k
  have hF : i + 1 < (stF ds).length := by
    rw [stF_len]
    omega
  have W2 := BO.w' hF
  have eS := stF_at ds (show i + 1 ≤ ds.length by omega)
  have hlen := (here_stand ok (i + 1)).len
  rw [← eS] at hlen
  refine ⟨_, rfl, .inl ⟨rfl, _, SqL.of est⟩, _, rfl, rd_stand W2 fun v hv => ⟨st, ss, _, rfl, rfl, est, ?_, ?_⟩⟩
  · rw [paired_len pst, List.length_take]
    have := ok.len
    exact small (by omega)
  have ki : KI H2 (upd H2 st (.lst (ss ++ [v]))) := KI.put est rfl
  have fr : ∀ x o, H2 x = some o → x ≠ st → (upd H2 st (.lst (ss ++ [v]))) x = some o := fun x o e hx => by
    rw [upd_ne hx]
    exact e
  simp only [List.mem_cons, List.not_mem_nil, or_false, not_or] at hW hB
  have BO3 : Both K (upd H2 st (.lst (ss ++ [v]))) a dx l1 l2 b bd lp ch pool (stF ds) (toldF ds) (i + 1) := ⟨BO.w.keep ki (fun o e => fr _ _ e (Ne.symm hW.1)) (fun o e => fr _ _ e (Ne.symm hW.2)), BO.b.keep ki (fun o e => fr _ _ e (Ne.symm hB.1)) (fun o e => fr _ _ e (Ne.symm hB.2))⟩
  have est3 : (upd H2 st (.lst (ss ++ [v]))) st = some (.lst (ss ++ [v])) := upd_same
  have pst3 : Paired (IsN (upd H2 st (.lst (ss ++ [v])))) (ss ++ [v]) ((runF ds).stands.take (i + 1)) := by
    rw [take_snoc [] (by rw [stands_len]; exact hil)]
    have e : (runF ds).stands.getD i [] = (stF ds).getD (i + 1) [] := rfl
    rw [e]
    exact paired_snoc (Paired.mapP pst fun _ _ => IsN.ki ki) (hv.ki ki)
  generalize upd H2 st (.lst (ss ++ [v])) = H3 at ki fr BO3 est3 pst3 ⊢
  have W3 := BO3.w' hF
  have B3 := BO3.b
  obtain ⟨dv, eb⟩ := B3.i
  refine ⟨_, rfl, b, bd, _, rfl, eb, b, bd, lp, ch, pool, _, _, rfl, B3, fun tv htv => ?_⟩
  obtain ⟨t, c2, st2, rfl, et, hcf, hst2⟩ := htv
  refine ⟨t, _, 2, st2, rfl, rfl, SqT.of et, atI_nat (j := 2) rfl, _, rfl, rd_stand W3 fun v2 hv2 => ?_⟩
  refine ⟨_, _, dp_n hst2, dp_n hv2, sh_dSt _, sh_dSt _, _, rfl, ?_⟩
  rw [eqv_same (can_dSt _)]
  refine iteF ?_
  refine ⟨_, rfl, b, bd, _, rfl, eb, rfl, b, bd, lp, ch, pool, _, _, rfl, B3, hlen, fun H4 s4 => ?_⟩
  have W4 := W3.same s4
  obtain ⟨vs4, e4⟩ := W4.s
  refine ⟨_, rfl, a, dx, vs4, rfl, e4, a, dx, l1, l2, ch, pool, _, _, rfl, W4, _, _, rfl, hlen, fun H5 s5 => ?_⟩
  refine ⟨rfl, _, rfl, ?_⟩
  rw [decide_eq_true rfl]
  have s := s4.trans s5
  exact iteF (k H5 _ (ki.trans (KI.of s)) ⟨BO3.w.same s, BO3.b.same s⟩ (s _ _ est3) (Paired.mapP pst3 fun _ _ => IsN.same s) fun x o e hx => s _ _ (fr x o e hx))
theorem ok_pr (T : TX K mg) : Cal P w K mg base "_law_played_right" 6 ["_law_chain_so", "_law_pool_so", "_law_deeds_so"] spPR := by
  refine T.ok (d := gdef "_law_played_right" 54) 30 rfl (j := 56) rfl rfl rfl rfl scPR (fun vs H Q E h => ?_) (fun _ _ _ _ _ _ us hl => match us, hl with | [_, _, _], _ => rfl) fun f cdv A outer s H vs Q E hr h => ?_
  · obtain ⟨_, _, _, _, _, _, _, rfl, _⟩ := h
    rfl
  obtain ⟨tc, r, ch, pool, ds, cl, B, rfl, hc, hlc, hrow, ok, fits, hpool, hch, hlen, k⟩ := h
  have hl0 : mg "len" = none := T.free 0
  have htup : mg "tuple" = none := T.free 5
  have hlst : mg "list" = none := T.free 4
  have ML : Met P w K mg base "Watch" "__len__" 1 ["self"] (spWLen K) := ok_wlen T
  have MA : Met P w K mg base "Watch" "ask" 5 ["self", "size"] (spWAsk K) := ok_wask T
  have MGv : Met P w K mg base "Watch" "give" 3 ["self", "first"] (spWGive K) := ok_wgive T
  have MH : Met P w K mg base "Watch" "height" 1 ["self"] (spWHgt K) := ok_whgt T
  have MR : Met P w K mg base "Watch" "reach" 1 ["self"] (spWRch K) := ok_wrch T
  have MF : Met P w K mg base "Watch" "refused" 1 ["self"] (spRef K) := ok_ref T
  have MWL : Met P w K mg base "Watch" "live" 3 ["self"] (spWLive K) := ok_wlive T
  have MG : Met P w K mg base "Board" "__getitem__" 1 ["self", "name"] (spGI K) := ok_gi T
  have MBA : Met P w K mg base "Board" "ask" 5 ["self", "name", "size"] (spBAsk K) := ok_bask T
  have MBG : Met P w K mg base "Board" "give" 3 ["self", "name", "first"] (spBGive K) := ok_bgive T
  have MBL : Met P w K mg base "Board" "live" 3 ["self", "name"] (spBLive K) := ok_blive T
  have MBP : Met P w K mg base "Board" "place" 4 ["self", "name", "size"] (spPlace K) := ok_place T
  have MP : Met P w K mg base "Board" "put" 3 ["self", "name", "chain", "pool"] (spPut K) := ok_put T
  have PS : Prp P w K mg base "Watch" "stand" 1 (spStand K) := ok_stand T
  have PD' : Prp P w K mg base "Board" "deeds" 1 (spDeeds K) := ok_deeds T
  have CP : Cal P w K mg base "first_place" 3 ["pool", "stand", "size"] spFP := ok_fp T
  have CFP : Cal P w K mg base "first_places" 4 ["chain", "pool", "row"] spFPl := ok_fpl T
  have CFS : Cal P w K mg base "first_stands" 5 ["chain", "pool", "row"] spFSt := ok_fst T
  have CH : Cal P w K mg base "height" 3 ["row"] spHeight := ok_height T
  have CS : Cal P w K mg base "_law_same" 2 ["_law_got", "_law_due"] (spSame 1) := ok_same T 1
  have CU : Cal P w K mg base "_law_undone_right" 5 ["_law_eyes", "_law_desk", "_law_chain_so", "_law_pool_so"] (spUnd K) := ok_und T
  have MW : FnR P w K mg base CX0 3 (He.ma K (wC K) "__init__") (fun vs H Q E => spWI K (vs ++ [.ref (He.dflAt ("Watch", some "__init__") 0 K)]) H Q E) := T.mkW
  obtain ⟨fdB, GB, bB⟩ := T.mkB (P := P) (w := w) (base := base)
  have nd := scPR.nd
  obtain ⟨tailT, tailD, tailR⟩ := pr_tail (P := P) (w := w) (base := base) T (outer := outer) (H := H) (E := E) hr
  refine ⟨_, pss_cons (ps_asg (pe_tup (pa_cons (StX.pe_makeR T.mW MW (hr.mono (by decide)) (by rfl) T.gW pass0 (pa_cons (pv 0) (pa_cons (pv 1) pa_nil))) (pa_cons (pe_make0 T.mB GB (hr.mono (by decide)) (by rfl) T.gB bB .nil pass0) (pa_cons (pe_lst pa_nil) (pa_cons (pe_lst pa_nil) pa_nil)))))
      (pg_tup rfl (pgs_cons (pg_name (i := 3) nd rfl (.inl rfl)) (pgs_cons (pg_name (i := 4) nd rfl (.inl rfl)) (pgs_cons (pg_name (i := 5) nd rfl (.inl rfl)) (pgs_cons (pg_name (i := 6) nd rfl (.inl rfl)) pgs_nil))))))
    (pss_cons (ps_expr (pe_bmeth T MP (pv 4) (hr.mono (by decide)) (pa_cons pe_str (pa_cons (pv 0) (pa_cons (pv 1) pa_nil)))))
    (pss_cons (ps_for PassesOwn.never rfl (pi_tup (pv 2)) (pg_tup rfl (pgs_cons (pg_name (i := 7) nd rfl (.inl rfl)) (pgs_cons (pg_name (i := 8) nd rfl (.inl rfl)) pgs_nil)))
      (pss_cons (ps_if (pt_cmpR op_eq (pv 7) pe_str (nomark _))
        (pss_cons (ps_set (i := 9) nd rfl (.inl rfl) (pe_cal CP (hr.mono (by decide)) (by rfl) (pa_cons (pv 1) (pa_cons (pe_wp T PS (pv 3) (hr.mono (by decide))) (pa_cons (pv 8) pa_nil)))))
        (pss_cons (ps_set (i := 10) nd rfl (.inl rfl) (pe_lst (pa_cons (pe_bmeth T MBP (pv 4) (hr.mono (by decide)) (pa_cons pe_str (pa_cons (pv 8) pa_nil))) (pa_cons (pe_wmeth T MA (pv 3) hr (pa_cons (pv 8) pa_nil)) (pa_cons (pe_bmeth T MBA (pv 4) hr (pa_cons pe_str (pa_cons (pv 8) pa_nil))) pa_nil)))))
        (pss_cons (ps_if (PW.pt (pw_or (pt_cmpR op_isN (pv 9) pe_non (nomark _)) (pw_or1 (pt_not (pt_val (pe_cal CS (hr.mono (by decide)) (by rfl) (pa_cons (pv 10) (pa_cons (pe_op op_rep (pe_lst (pa_cons (pv 9) pa_nil)) pe_int) pa_nil)))))))) (pss_one (ps_ret pe_bl)) pss_nil)
        (pss_one (ps_expr (pe_bm PySem.F.plainAttrs_list PySem.F.slot_list_append PySem.F.type_list_append mt_append (pv 5) (pa_cons (pv 9) pa_nil)))))))
        (pss_cons (ps_set (i := 11) nd rfl (.inl rfl) (pe_wmeth T MGv (pv 3) (hr.mono (by decide)) (pa_cons (pe_ix ix_list (pv 5) (pv 8) (fun _ _ => rfl)) pa_nil)))
        (pss_cons (ps_expr (pe_bmeth T MBG (pv 4) (hr.mono (by decide)) (pa_cons pe_str (pa_cons (pe_ix ix_list (pv 5) (pv 8) (fun _ _ => rfl)) pa_nil))))
        (pss_one (ps_if (pt_cmpR op_notIn_seq (pv 11) (pv 0) (by rfl)) (pss_one (ps_ret pe_bl)) pss_nil)))))
      tailD))
    (pss_cons (ps_set (i := 10) nd rfl (.inl rfl) (pe_lst (pa_cons (pe_cmpR (op_eqD hr.units) (pe_callTy call_tuple_of (by rfl) htup (by decide +kernel) (pa_cons (pv 5) pa_nil)) (pe_callTy call_tuple_of (by rfl) htup (by decide +kernel) (pa_cons (pe_cal CFP (hr.mono (by decide)) (by rfl) (pa_cons (pv 0) (pa_cons (pv 1) (pa_cons (pv 2) pa_nil)))) pa_nil)) (nomark _)) pa_nil)))
    (pss_cons (ps_expr (pe_bm PySem.F.plainAttrs_list PySem.F.slot_list_append PySem.F.type_list_append mt_append (pv 10) (pa_cons (pe_cmpR (op_eqD hr.units) (pv 6) (pe_callTy call_list_of (by rfl) hlst (by decide +kernel) (pa_cons (pe_cal CFS hr (by rfl) (pa_cons (pv 0) (pa_cons (pv 1) (pa_cons (pv 2) pa_nil)))) pa_nil)) (nomark _)) pa_nil)))
    (pss_cons (ps_set (i := 10) nd rfl (.inl rfl) (pe_op op_cat (pv 10) (pe_lst (pa_cons (pe_cmpR op_eq (pe_wmeth0 T MH (pv 3) (hr.mono (by decide))) (pe_cal CH (hr.mono (by decide)) (by rfl) (pa_cons (pv 2) pa_nil)) (nomark _)) (pa_cons (pe_cmpR op_eq (pe_wmeth0 T MF (pv 3) (hr.mono (by decide))) pe_int (nomark _)) (pa_cons (pe_cmpR op_le (pe_wmeth0 T MR (pv 3) (hr.mono (by decide))) (pv 1) (nomark _)) pa_nil))))))
    (pss_cons (ps_expr (pe_bm PySem.F.plainAttrs_list PySem.F.slot_list_append PySem.F.type_list_append mt_append (pv 10) (pa_cons (pe_cmpR op_eq (pe_callB (LbO.call_lenOwn ML.meth ML.R (hr.mono (by decide)) pass0) (by rfl) hl0 (by decide +kernel) (pa_cons (pv 3) pa_nil)) (pe_callB call_len_seq (by rfl) hl0 (by decide +kernel) (pa_cons (pv 2) pa_nil)) (nomark _)) pa_nil)))
    (pss_cons (ps_if (PW.pt (pw_or (pt_cmpR op_in_seq pe_bl (pv 10) (by rfl)) (pw_or1 (pt_cmpR op_ne (pe_bp T PD' (pv 4) (hr.mono (by decide))) (pe_op op_add (pe_callB call_len_seq (by rfl) hl0 (by decide +kernel) (pa_cons (pv 2) pa_nil)) pe_int) (nomark _))))) (pss_one (ps_ret pe_bl)) pss_nil)
    (pss_one (ps_ret (pe_cal CU hr (by rfl) (pa_cons (pv 3) (pa_cons (pv 4) (pa_cons (pv 0) (pa_cons (pv 1) pa_nil)))))))))))))), ?_⟩
  obtain ⟨tr, us, rfl, hr0, hp⟩ := hrow
  have hul := paired_len hp
  refine ⟨_, rfl, _, rfl, made_w T (sqT_rd hc) hlc fun a dx l1 l2 H1 n1 n2 n3 W1 s1 => ?_⟩
  intro b bd nb nbd nbb
  have s2 : Same H1 (upd H1 bd (.own b)) := Same.new nbd
  have nb1 : (upd H1 bd (.own b)) b = none := by
    rw [upd_ne (Ne.symm nbb)]
    exact nb
  have s3 : Same (upd H1 bd (.own b)) (upd (upd H1 bd (.own b)) b (.ins (bC K) bd [])) := Same.new nb1
  refine ⟨b, bd, ch, pool, rfl, upd_same, fun H2 lp nlp B2 fr => ⟨rfl, ?_⟩⟩
  have s4 : Same H1 H2 := fun x o e => fr x o (s3 _ _ (s2 _ _ e)) (ne_of_none e nb)
  refine ⟨Nat.zero_le _, fun pl npl => ⟨Nat.zero_le _, fun st nst => ⟨by show 4 ≤ sizeLine; decide, fun t nt => ?_⟩⟩⟩
  have s5 : Same H2 (upd H2 pl (.lst [])) := Same.new npl
  have s6 : Same (upd H2 pl (.lst [])) (upd (upd H2 pl (.lst [])) st (.lst [])) := Same.new nst
  have nst2 : H2 st = none := s5.free nst
  have nps : pl ≠ st := fun z => by
    rw [← z, upd_same] at nst
    cases nst
  generalize eH4 : upd (upd H2 pl (.lst [])) st (.lst []) = H4 at s6 nt ⊢
  have epl4 : H4 pl = some (.lst []) := s6 _ _ upd_same
  have est4 : H4 st = some (.lst []) := by rw [← eH4, upd_same]
  have s7 : Same H4 (upd H4 t (.tup [.ref a, .ref b, .ref pl, .ref st])) := Same.new nt
  refine ⟨t, _, rfl, SqT.of upd_same, rfl, _, _, rfl, _, _, rfl, _, _, rfl, _, _, rfl, rfl, ?_⟩
  generalize eH5 : upd H4 t (.tup [.ref a, .ref b, .ref pl, .ref st]) = H5 at s7 ⊢
  have epl5 := s7 _ _ epl4
  have est5 := s7 _ _ est4
  have S15 : Same H1 H5 := s4.trans (s5.trans (s6.trans s7))
  have S05 : Same H H5 := s1.trans S15
  have W5 := W1.same S15
  have B5 := B2.same (s5.trans (s6.trans s7))
  -- who is who
  obtain ⟨us1, el1, _⟩ := W1.st
  have el2 := W1.tl
  have AP : Apart l1 l2 b lp := by
    obtain ⟨⟨dv, eb, _⟩, ps, elp, _⟩ := B2
    exact ⟨ne_of_none (s3 _ _ (s2 _ _ el1)) nlp, ne_of_none (s3 _ _ (s2 _ _ el2)) nlp, ne_of_none el1 nb, ne_of_none el2 nb⟩
  obtain ⟨dv0, eb2⟩ := B2.i
  have elp2 : ∃ ps, H2 lp = some (.lst ps) := let ⟨_, ps, e, _⟩ := B2; ⟨ps, e⟩
  obtain ⟨ps2, elp2⟩ := elp2
  have q1 : l1 ≠ pl := ne_of_none (s4 _ _ el1) npl
  have q2 : l2 ≠ pl := ne_of_none (s4 _ _ el2) npl
  have q3 : b ≠ pl := ne_of_none eb2 npl
  have q4 : lp ≠ pl := ne_of_none elp2 npl
  have q5 : l1 ≠ st := ne_of_none (s4 _ _ el1) nst2
  have q6 : l2 ≠ st := ne_of_none (s4 _ _ el2) nst2
  have q7 : b ≠ st := ne_of_none eb2 nst2
  have q8 : lp ≠ st := ne_of_none elp2 nst2
  have plW : pl ∉ [l1, l2] := by simp [q1.symm, q2.symm]
  have plB : pl ∉ [b, lp] := by simp [q3.symm, q4.symm]
  have stW : st ∉ [l1, l2] := by simp [q5.symm, q6.symm]
  have stB : st ∉ [b, lp] := by simp [q7.symm, q8.symm]
  obtain ⟨dv5, eb5⟩ := B5.i
  have v1 : H l1 = none := n2
  have v2 : H l2 = none := n3
  have v3 : H b = none := s1.free nb
  have v4 : H lp = none := (s1.trans (s2.trans s3)).free nlp
  have v5 : H pl = none := (s1.trans s4).free npl
  have v6 : H st = none := (s1.trans s4).free nst2
  have sW : ∀ {Ha Hb : Hp}, Same H Ha → But [l1, l2] Ha Hb → Same H Hb := fun q bt x o e => bt x o (q x o e) (by simp [ne_of_none e v1, ne_of_none e v2])
  have sB : ∀ {Ha Hb : Hp}, Same H Ha → But [b, lp] Ha Hb → Same H Hb := fun q bt x o e => bt x o (q x o e) (by simp [ne_of_none e v3, ne_of_none e v4])
  refine ⟨_, rfl, b, bd, _, rfl, eb5, rfl, _, rfl, _, rfl, b, bd, lp, tc, ch, pool, [], rfl, B5, sqT_rd (rd_same (S05 _) hc), hlc, Nat.zero_le _, fun H6 B6 bt6 => ?_⟩
  have ki6 := B5.kiB bt6
  have BO6 : Both K H6 a dx l1 l2 b bd lp ch pool (stF ds) (toldF ds) 0 := ⟨W5.butB ki6 bt6 AP, B6⟩
  have S06 : Same H H6 := sB S05 bt6
  have K06 : KI H H6 := KI.of S06
  refine ⟨_, rfl, tr, rfl, ⟨_, SqT.of (K06 _ _ hr0 rfl)⟩, for_tup (K := K) (a := tr) (xs := us) (fun i σ H' => ∃ (y1 y2 y3 y4 y5 : Option V) (ss : List V), σ = [some (.ref tc), some (.int pool), some (.ref tr), some (.ref a), some (.ref b), some (.ref pl), some (.ref st), y1, y2, y3, y4, y5] ∧ Same H H' ∧
    Both K H' a dx l1 l2 b bd lp ch pool (stF ds) (toldF ds) i ∧ H' pl = some (.lst ((runF (ds.take i)).places.map V.int)) ∧ H' st = some (.lst ss) ∧ Paired (IsN H') ss ((runF ds).stands.take i)) ?_ ?_ ?_ ?_⟩
  · exact ⟨none, none, none, none, none, [], rfl, S06, BO6, bt6 _ _ epl5 plB, bt6 _ _ est5 stB, .nil⟩
  · rintro i σ H' _ ⟨_, _, _, _, _, _, rfl, sk, _⟩
    exact SqT.of (sk _ _ hr0)
  · rintro i x σ H' hx ⟨y1, y2, y3, y4, y5, ss, rfl, sk, BO, epl, est, pst⟩
    have ki := KI.of sk
    obtain ⟨d, hd, ⟨td, rfl, htd⟩⟩ := paired_get hp hx
    obtain ⟨hil, _⟩ := List.getElem?_eq_some_iff.mp hd
    have R := ok.at_ i
    have SD := here_stand ok i
    have hle := here_le ok i
    refine ⟨td, _, rfl, SqT.of (ki _ _ htd rfl), rfl, _, _, rfl, _, _, rfl, rfl, ?_⟩
    refine ⟨_, rfl, rfl, _, rfl, ?_⟩
    have hiF : i < (stF ds).length := by
      rw [stF_len]
      omega
    have hiF1 : i + 1 < (stF ds).length := by
      rw [stF_len]
      omega
    have eSi := stF_at ds (show i ≤ ds.length by omega)
    have eSj := stF_at ds (show i + 1 ≤ ds.length by omega)
    have W := BO.w' hiF
    have B0 := BO.b
    rw [eSi] at W B0
    have hpre : ((stF ds).take i).length ≤ 1000 := by
      rw [List.length_take]
      omega
    have htl : ((toldF ds).take i).length ≤ 1000 := by
      rw [List.length_take, toldF_len]
      omega
    have hpast : (none :: ((stF ds).take i).map some : List (Option (List Blk))).length ≤ 1000 := by
      rw [List.length_cons, List.length_map, List.length_take]
      omega
    obtain ⟨vsW, eW⟩ := W.s
    obtain ⟨dvB, eB⟩ := B0.i
    have eF1 : (stF ds).take (i + 1) = (stF ds).take i ++ [(runF (ds.take i)).here] := by
      rw [take_snoc [] hiF, eSi]
    have eF2 : (stF ds).take (i + 1 + 1) = (stF ds).take i ++ [(runF (ds.take i)).here] ++ [(runF (ds.take (i + 1))).here] := by
      rw [take_snoc [] hiF1, eF1, eSj]
    have ePast : (none :: ((stF ds).take (i + 1)).map some : List (Option (List Blk))) = (none :: ((stF ds).take i).map some) ++ [some (runF (ds.take i)).here] := by
      rw [eF1, List.map_append]
      rfl
    rcases ok.row.deed hd with ⟨n, ln, rfl, hm, hl, e⟩ | ⟨n, rfl, hn, e⟩
    · have ew : decide (V.str (word true) = V.str "ask") = true := decide_eq_true rfl
      rw [ew]
      have hn0 : 0 < n := ok.fine.pos _ hm
      have hn64 : n ≤ 64 := ok.fine.small _ hm
      have hn1 : n < 1073741824 := by omega
      have hin : n ∈ ch := hch _ hm
      have hlow := ask_low ok.fine R.good hm hl
      have hfit : ff (runF (ds.take i)).here n + n ≤ pool := Int.le_trans hlow (fits _ hm)
      have e1 : fpV pool (runF (ds.take i)).here n = .int (ff (runF (ds.take i)).here n) := if_pos hfit
      have e2 : lentTo pool (runF (ds.take i)).here n = (runF (ds.take (i + 1))).here := by
        rw [e]
        exact if_pos hfit
      have eT : (toldF ds).take (i + 1) = (toldF ds).take i ++ [V.int (ff (runF (ds.take i)).here n)] := by
        rw [toldF_at ds hil]
        unfold toldAt
        rw [hd]
        rfl
      refine iteT ⟨_, rfl, _, rfl, rd_stand W fun v hv => ⟨_, rfl, pool, v, n, _, rfl, hv.s, hn0, hn1, SD.low, ?_⟩⟩
      rw [e1]
      refine ⟨_, rfl, b, bd, _, rfl, eB, rfl, _, rfl, b, bd, lp, ch, pool, _, _, n, rfl, B0, hin, SD, hn0, hn1, ?_⟩
      refine ⟨_, rfl, a, dx, vsW, rfl, eW, _, rfl, a, dx, l1, l2, ch, pool, _, _, _, n, rfl, W, hin, SD, hn0, hn1, hpre, htl, fun H2 W2 bt2 => ?_⟩
      have ki2 := W.kiW bt2
      have Bd2 := B0.butW ki2 bt2 AP
      obtain ⟨dvB2, eB2⟩ := Bd2.i
      refine ⟨_, rfl, b, bd, _, rfl, eB2, rfl, _, rfl, b, bd, lp, ch, pool, _, _, n, rfl, Bd2, hin, SD, hn0, hn1, hpast, fun H3 Bd3 bt3 => ?_⟩
      have ki3 := Bd2.kiB bt3
      have W3 := W2.butB ki3 bt3 AP
      rw [e1, e2, ← eF2, ← eT] at W3
      rw [e2, ← ePast, ← eSj] at Bd3
      rw [e1]
      have BO3 : Both K H3 a dx l1 l2 b bd lp ch pool (stF ds) (toldF ds) (i + 1) := ⟨W3, Bd3⟩
      have epl3 := bt3 _ _ (bt2 _ _ epl plW) plB
      have est3 := bt3 _ _ (bt2 _ _ est stW) stB
      have ki03 := ki.trans (ki2.trans ki3)
      refine ⟨by show 3 ≤ sizeLine; decide, fun g1 ng1 => ?_⟩
      have z1 : Same H3 (upd H3 g1 (.lst [.int (ff (runF (ds.take i)).here n), .int (ff (runF (ds.take i)).here n), .int (ff (runF (ds.take i)).here n)])) := Same.new ng1
      refine ⟨_, rfl, rfl, _, rfl, iteF ?_⟩
      refine ⟨_, rfl, _, rfl, by show 1 ≤ sizeLine; decide, fun g2 ng2 => ?_⟩
      have z2 := Same.new (o := .lst [.int (ff (runF (ds.take i)).here n)]) ng2
      refine ⟨g2, 3, [.int (ff (runF (ds.take i)).here n)], rfl, rfl, upd_same, by decide, by decide, by show 1 * 3 ≤ sizeLine; decide, fun g3 ng3 => ?_⟩
      have z3 := Same.new (o := .lst (List.replicate (3 : Int).toNat [V.int (ff (runF (ds.take i)).here n)]).flatten) ng3
      refine ⟨.ref g1, .ref g3, rfl, .inr ⟨g1, g3, _, _, rfl, rfl, z3 _ _ (z2 _ _ upd_same), upd_same, by show 3 ≤ 1000; decide, .cons (.inl ⟨_, rfl, rfl⟩) (.cons (.inl ⟨_, rfl, rfl⟩) (.cons (.inl ⟨_, rfl, rfl⟩) .nil))⟩, fun H7 s7 => ⟨true, rfl, iteF ?_⟩⟩
      have z := z1.trans (z2.trans (z3.trans s7))
      have epl7 := z _ _ epl3
      refine ⟨_, rfl, .inl ⟨rfl, _, SqL.of epl7⟩, _, rfl, pl, _, _, rfl, rfl, epl7, ?_, ?_⟩
      · rw [List.length_map]
        exact small (by omega)
      have fr8 : ∀ x o, H7 x = some o → x ≠ pl → (upd H7 pl (.lst ((runF (ds.take i)).places.map V.int ++ [.int (ff (runF (ds.take i)).here n)]))) x = some o := fun x o ex hx => by
        rw [upd_ne hx]
        exact ex
      have ki8 : KI H7 (upd H7 pl (.lst ((runF (ds.take i)).places.map V.int ++ [.int (ff (runF (ds.take i)).here n)]))) := KI.put epl7 rfl
      refine tailR _ _ _ _ _ _ _ _ _ _ a dx l1 l2 b bd lp st ch pool ds cl B i ss _ ok hil ⟨(BO3.w.same z).keep ki8 (fun o q => fr8 _ _ q q1) (fun o q => fr8 _ _ q q2), (BO3.b.same z).keep ki8 (fun o q => fr8 _ _ q q3) (fun o q => fr8 _ _ q q4)⟩ (fr8 _ _ (z _ _ est3) (Ne.symm nps)) (Paired.mapP pst fun _ _ => IsN.ki ((ki2.trans ki3).trans ((KI.of z).trans ki8))) stW stB fun H9 ss' ki9 BO9 est9 pst9 fr9 => ?_
      refine ⟨_, _, _, _, _, ss', rfl, fun x o ex => fr9 x o (fr8 x o (z x o (sB (sW sk bt2) bt3 x o ex)) (ne_of_none ex v5)) (ne_of_none ex v6), BO9, ?_, est9, pst9⟩
      refine fr9 _ _ ?_ nps
      rw [upd_same, e]
      show _ = some (HO.lst (((runF (ds.take i)).places ++ [ff (runF (ds.take i)).here n]).map V.int))
      rw [List.map_append]
      rfl
    · have ew : decide (V.str (word false) = V.str "ask") = false := decide_eq_false (by decide +kernel)
      rw [ew]
      have hmem := R.mem hn
      have hpz : (runF (ds.take i)).places[n]? = some ((runF (ds.take i)).places.getD n 0) := by
        have hlt : n < (runF (ds.take i)).places.length := by
          rw [R.len]
          exact R.lt n hn
        rw [List.getElem?_eq_getElem hlt, List.getD_eq_getElem?_getD, List.getElem?_eq_getElem hlt]
        rfl
      have hat : atI ((runF (ds.take i)).places.map V.int) (n : Int) = some (V.int ((runF (ds.take i)).places.getD n 0)) := atI_nat (by rw [List.getElem?_map, hpz]; rfl)
      obtain ⟨lz, hz, _⟩ := R.ends n (R.lt n hn)
      have hin : (blkOf (runF (ds.take i)) n).2 ∈ ch := hch _ hz
      have e2 : outTo (runF (ds.take i)).here (blkOf (runF (ds.take i)) n).1 = (runF (ds.take (i + 1))).here := by
        rw [e]
        rfl
      have eT : (toldF ds).take (i + 1) = (toldF ds).take i ++ [V.int (blkOf (runF (ds.take i)) n).2] := by
        rw [toldF_at ds hil]
        unfold toldAt
        rw [hd]
        show _ ++ [V.int ((runF (ds.take i)).sizes.getD ((n : Int).toNat) 0)] = _
        rw [Int.toNat_natCast]
        rfl
      refine iteF ⟨_, rfl, a, dx, vsW, rfl, eW, _, rfl, _, rfl, pl, _, (n : Int), _, rfl, rfl, SqL.of epl, hat, a, dx, l1, l2, ch, pool, _, _, _, blkOf (runF (ds.take i)) n, rfl, W, hmem, SD, hpre, htl, fun H2 W2 bt2 => ?_⟩
      have ki2 := W.kiW bt2
      have Bd2 := B0.butW ki2 bt2 AP
      obtain ⟨dvB2, eB2⟩ := Bd2.i
      have epl2 := bt2 _ _ epl plW
      refine ⟨_, rfl, b, bd, _, rfl, eB2, rfl, _, rfl, _, rfl, pl, _, (n : Int), _, rfl, rfl, SqL.of epl2, hat, b, bd, lp, ch, pool, _, _, blkOf (runF (ds.take i)) n, rfl, Bd2, hmem, SD.len, hpast, fun H3 Bd3 bt3 => ?_⟩
      have ki3 := Bd2.kiB bt3
      have W3 := W2.butB ki3 bt3 AP
      rw [e2, ← eF2, ← eT] at W3
      rw [e2, ← ePast, ← eSj] at Bd3
      have BO3 : Both K H3 a dx l1 l2 b bd lp ch pool (stF ds) (toldF ds) (i + 1) := ⟨W3, Bd3⟩
      have epl3 := bt3 _ _ epl2 plB
      have est3 := bt3 _ _ (bt2 _ _ est stW) stB
      have ki03 := ki.trans (ki2.trans ki3)
      refine ⟨_, rfl, _, rfl, tc, _, rfl, .inr (sqT_rd (rd_ki ki03 hc)), rfl, flat_ints ch, _, rfl, ?_⟩
      rw [if_pos rfl, inV_int, decide_eq_true hin]
      refine iteF ?_
      refine tailR _ _ _ _ _ _ _ _ _ _ a dx l1 l2 b bd lp st ch pool ds cl B i ss _ ok hil BO3 est3 (Paired.mapP pst fun _ _ => IsN.ki (ki2.trans ki3)) stW stB fun H9 ss' ki9 BO9 est9 pst9 fr9 => ?_
      refine ⟨_, _, _, _, _, ss', rfl, fun x o ex => fr9 x o (sB (sW sk bt2) bt3 x o ex) (ne_of_none ex v6), BO9, ?_, est9, pst9⟩
      refine fr9 _ _ ?_ nps
      rw [e]
      exact epl3
  · rintro σ H' ⟨y1, y2, y3, y4, y5, ss, rfl, sk, BO, epl, est, pst⟩
    have ki := KI.of sk
    rw [hul, List.take_length] at epl
    rw [hul, List.take_of_length_le (by rw [stands_len]; exact Nat.le_refl _)] at pst
    rw [hul] at BO
    have hfull : (stF ds).take (ds.length + 1) = stF ds := List.take_of_length_le (by rw [stF_len]; exact Nat.le_refl _)
    have htold : (toldF ds).take ds.length = toldF ds := List.take_of_length_le (by rw [toldF_len]; exact Nat.le_refl _)
    have row : ∀ {Hx : Hp}, KI H Hx → IsRow Hx (.ref tr) ds := fun kx => IsRow.keep kx.tk ⟨tr, us, rfl, hr0, hp⟩
    have hpl : (runF ds).places.length ≤ 1000 := by
      have := (here_le ok ds.length).2
      rw [List.take_length] at this
      omega
    -- the first
    refine ⟨_, rfl, pl, _, rfl, .inl ⟨SqL.of epl, fun t1 nt1 => ?_⟩⟩
    have z1 : Same H' (upd H' t1 (.tup ((runF ds).places.map V.int))) := Same.new nt1
    refine ⟨_, rfl, _, rfl, _, rfl, _, _, pool, ds, cl, B, rfl, row (ki.trans (KI.of z1)), ok, fits, fun v1 H1' z2 hv1 => ?_⟩
    obtain ⟨tv1, rfl, hv1⟩ := hv1
    refine ⟨tv1, _, rfl, .inr ⟨SqT.of hv1, dInts (runF ds).places, dInts (runF ds).places, .tup (SqT.of (z2 _ _ upd_same)) (dpall_ints _), .tup (SqT.of hv1) (dpall_ints _), sh_dInts _, sh_dInts _, ?_⟩⟩
    rw [eqv_same (can_dInts _)]
    refine ⟨by show 1 ≤ sizeLine; decide, fun g ng => ?_⟩
    have z3 : Same H1' (upd H1' g (.lst [.bl true])) := Same.new ng
    have Z3 := z1.trans (z2.trans z3)
    have eg3 : (upd H1' g (.lst [.bl true])) g = some (.lst [.bl true]) := upd_same
    generalize upd H1' g (.lst [.bl true]) = H3' at z3 Z3 eg3 ⊢
    have K3 := ki.trans (KI.of Z3)
    -- the second
    refine ⟨_, rfl, .inl ⟨rfl, _, SqL.of eg3⟩, _, rfl, _, rfl, _, rfl, _, rfl, _, _, pool, ds, cl, B, rfl, row K3, ok, fits, fun ts us2 H4' z4 ets pst2 => ?_⟩
    refine ⟨ts, us2, rfl, .inl (SqL.of ets), fun g2 ng2 => ?_⟩
    have z5 := Same.new (o := .lst us2) ng2
    refine ⟨dSts (runF ds).stands, dSts (runF ds).stands, .lst (SqL.of (z5 _ _ (z4 _ _ (Z3 _ _ est)))) (dp_all (fun _ _ q => dp_n q) (Paired.mapP pst fun _ _ => IsN.same (Z3.trans (z4.trans z5)))), .lst (SqL.of upd_same) (dp_all (fun _ _ q => dp_st q) (Paired.mapP pst2 fun _ _ => IsSt.keep (TK.of z5))), sh_dSts _, sh_dSts _, ?_⟩
    rw [eqv_same (can_dSts _)]
    have eg5 := z5 _ _ (z4 _ _ eg3)
    refine ⟨g, _, _, rfl, rfl, eg5, by show 1 < sizeLine; decide, ?_⟩
    have ng0 : H' g = none := (z1.trans z2).free ng
    have Z6 : Same H' (upd (upd H4' g2 (.lst us2)) g (.lst ([.bl true] ++ [.bl true]))) := (Z3.trans (z4.trans z5)).put ng0
    have eg6 : (upd (upd H4' g2 (.lst us2)) g (.lst ([.bl true] ++ [.bl true]))) g = some (.lst [.bl true, .bl true]) := upd_same
    generalize upd (upd H4' g2 (.lst us2)) g (.lst ([.bl true] ++ [.bl true])) = H6' at Z6 eg6 ⊢
    -- height, refused, reach
    have W6 := BO.w.same Z6
    rw [hfull, htold] at W6
    have hne : stF ds ≠ [] := by
      unfold stF
      exact List.cons_ne_nil _ _
    have hFl : (stF ds).length ≤ 900 := by
      rw [stF_len]
      omega
    obtain ⟨v6, e6⟩ := W6.s
    refine ⟨_, rfl, _, rfl, a, dx, v6, rfl, e6, a, dx, l1, l2, ch, pool, _, _, rfl, W6, hne, by omega, fun bs hb => Nat.le_trans (stF_stand ok bs hb).2 (by omega), fun m H7' z7 hm1 hm2 => ?_⟩
    have em : m = hgt ds := by
      unfold hgt
      have e0 : (stF ds).map live = 0 :: (runF ds).stands.map live := rfl
      rw [e0] at hm1 hm2
      exact maxL_uniq hm1 hm2
    refine ⟨_, rfl, _, ds, cl, B, rfl, row (ki.trans (KI.of (Z6.trans z7))), ok, fun H8' z8 => ?_⟩
    rw [em]
    refine ⟨rfl, ?_⟩
    rw [decide_eq_true rfl]
    have z78 := z7.trans z8
    have W8 := W6.same z78
    obtain ⟨v8, e8⟩ := W8.s
    refine ⟨_, rfl, a, dx, v8, rfl, e8, a, dx, l1, l2, ch, pool, _, _, rfl, W8, by rw [toldF_len]; omega, fun H9' z9 => ?_⟩
    rw [told_int]
    refine ⟨rfl, ?_⟩
    have W9 := W8.same z9
    obtain ⟨v9, e9⟩ := W9.s
    refine ⟨_, rfl, a, dx, v9, rfl, e9, a, dx, l1, l2, ch, pool, _, _, rfl, W9, hFl, fun bs hb => Nat.le_trans (stF_stand ok bs hb).2 hlen, fun m2 Ha za hma _ => ?_⟩
    refine ⟨_, rfl, _, _, rfl, rfl, ?_⟩
    have hle2 : decide (m2 ≤ pool) = true := decide_eq_true (ends_fit ok fits hpool m2 hma)
    dsimp only
    rw [hle2]
    have z6a := z78.trans (z9.trans za)
    refine ⟨by show 3 ≤ sizeLine; decide, fun g3 ng3 => ?_⟩
    have zb := Same.new (o := .lst [V.bl true, V.bl (decide (V.int (([] : List V).length : Nat) = V.int 0)), .bl true]) ng3
    have Z9 := Z6.trans z6a
    refine ⟨g, g3, _, _, rfl, rfl, zb _ _ (z6a _ _ eg6), upd_same, by show 5 ≤ sizeLine; decide, fun g4 ng4 => ?_⟩
    have eg4 : ∀ {X : Hp}, (upd X g4 (.lst ([V.bl true, .bl true] ++ [V.bl true, V.bl (decide (V.int (([] : List V).length : Nat) = V.int 0)), .bl true]))) g4 = some (.lst [.bl true, .bl true, .bl true, .bl true, .bl true]) := fun {X} => by
      rw [upd_same]
      rfl
    have zc := Same.new (o := .lst ([V.bl true, .bl true] ++ [V.bl true, V.bl (decide (V.int (([] : List V).length : Nat) = V.int 0)), .bl true])) ng4
    have zbc := zb.trans zc
    have ng40 : H6' g4 = none := (z6a.trans zb).free ng4
    generalize eHc : upd (upd Ha g3 (.lst [V.bl true, V.bl (decide (V.int (([] : List V).length : Nat) = V.int 0)), .bl true])) g4 (.lst ([V.bl true, .bl true] ++ [V.bl true, V.bl (decide (V.int (([] : List V).length : Nat) = V.int 0)), .bl true])) = Hc at zc zbc ⊢
    have eg4 : Hc g4 = some (.lst [.bl true, .bl true, .bl true, .bl true, .bl true]) := by
      rw [← eHc]
      exact eg4
    have Zc := z6a.trans zbc
    have ZZ := Z6.trans Zc
    have Wc := W6.same Zc
    obtain ⟨vc, ec⟩ := Wc.s
    refine ⟨_, rfl, .inl ⟨rfl, _, SqL.of eg4⟩, _, rfl, a, dx, vc, rfl, ec, a, dx, l1, l2, ch, pool, _, _, rfl, Wc, (toldF ds).length, rfl, Nat.le_of_lt (small (by rw [toldF_len]; omega)), ?_⟩
    have K9 := ki.trans (KI.of ZZ)
    refine ⟨_, rfl, tr, us, rfl, .inr (SqT.of (K9 _ _ hr0 rfl)), rfl, ?_⟩
    rw [toldF_len, hul, decide_eq_true rfl]
    refine ⟨g4, _, _, rfl, rfl, eg4, by show 5 < sizeLine; decide, ?_⟩
    have ng4H : H' g4 = none := Z6.free ng40
    have Zd : Same H' (upd Hc g4 (.lst ([.bl true, .bl true, .bl true, .bl true, .bl true] ++ [.bl true]))) := ZZ.put ng4H
    have egd : (upd Hc g4 (.lst ([.bl true, .bl true, .bl true, .bl true, .bl true] ++ [.bl true]))) g4 = some (.lst [.bl true, .bl true, .bl true, .bl true, .bl true, .bl true]) := upd_same
    generalize upd Hc g4 (.lst ([.bl true, .bl true, .bl true, .bl true, .bl true] ++ [.bl true])) = Hd at Zd egd ⊢
    refine ⟨_, rfl, g4, _, rfl, .inl (SqL.of egd), rfl, rfl, _, rfl, iteF ?_⟩
    have BOd : Both K Hd a dx l1 l2 b bd lp ch pool (stF ds) (toldF ds) (toldF ds).length := by
      rw [toldF_len]
      exact ⟨BO.w.same Zd, BO.b.same Zd⟩
    have Bd := BOd.b
    obtain ⟨dvd, ebd⟩ := Bd.i
    have Kd := ki.trans (KI.of Zd)
    refine ⟨_, rfl, b, bd, _, rfl, ebd, ⟨b, bd, lp, ch, pool, _, _, rfl, Bd, ?_⟩⟩
    refine ⟨_, rfl, tr, us, rfl, .inr (SqT.of (Kd _ _ hr0 rfl)), _, _, rfl, rfl, ?_⟩
    refine ⟨rfl, _, rfl, ?_⟩
    have epast : (none :: ((stF ds).take (toldF ds).length).map some : List (Option (List Blk))).length = us.length + 1 := by
      rw [List.length_cons, List.length_map, List.length_take, stF_len, toldF_len, hul]
      omega
    rw [epast]
    have ed : decide (V.int ((us.length + 1 : Nat) : Int) = V.int ((us.length : Int) + 1)) = true := decide_eq_true (by congr 1)
    rw [ed]
    refine iteF ?_
    exact ⟨_, rfl, _, rfl, _, rfl, _, rfl, a, dx, l1, l2, b, bd, lp, tc, ch, pool, stF ds, toldF ds, rfl, BOd, by rw [stF_len, toldF_len], rfl, rd_ki Kd hc, hlc, AP, by rw [toldF_len]; omega, fun Hz _ btz => k Hz fun x o e => btz x o (Zd x o (sk x o e)) (by simp [ne_of_none e v1, ne_of_none e v2, ne_of_none e v3, ne_of_none e v4])⟩
end Lb
set_option maxHeartbeats 1000000
/-! _law_case_right. -/
namespace Lb
open PySem PySem.Spec PyProof.Rows L2
variable {P : Program} {w : World} {K : PySem.W.Frag} {mg : Str → Option Value} {base : Heap}
/-! ### a chain and a budget -/
def clOf (ch : List Int) (B : Int) : List (Int × Int) := ch.zip (linesOf ch B)
def cbOk (ch : List Int) (B : Int) : Bool := chOk ch B && (fine (clOf ch B) B && ((clOf ch B).all (fun p => decide (p.2 ≤ lastOf (linesOf ch B))) && (decide (0 ≤ lastOf (linesOf ch B)) && (decide ch.Nodup && decide ((linesOf ch B).length = ch.length)))))
structure CB (ch : List Int) (B : Int) : Prop where
  ok : ChOk ch B
  fine : Fine (clOf ch B) B
  fits : Fits (clOf ch B) (lastOf (linesOf ch B))
  pool : 0 ≤ lastOf (linesOf ch B)
  nd : ch.Nodup
  len : (linesOf ch B).length = ch.length
theorem cb_of {ch : List Int} {B : Int} (h : cbOk ch B = true) : CB ch B := by
  unfold cbOk at h
  simp only [Bool.and_eq_true, decide_eq_true_eq, List.all_eq_true] at h
  obtain ⟨h1, h2, h3, h4, h5, h6⟩ := h
  exact ⟨chOk_of h1, fine_of h2, h3, h4, h5, h6⟩
theorem CB.fst {ch : List Int} {B : Int} (_ : CB ch B) : ∀ p ∈ clOf ch B, p.1 ∈ ch := fun p hp => (List.of_mem_zip hp).1
/-- the line of a size -/
theorem line_at : ∀ {xs ys : List Int} {a l : Int}, xs.Nodup → (a, l) ∈ xs.zip ys → ys[xs.idxOf a]? = some l
  | [], _, _, _, _, h => by simp at h
  | _ :: _, [], _, _, _, h => by simp at h
  | x :: xs, y :: ys, a, l, hn, h => by
    obtain ⟨h1, h2⟩ := List.nodup_cons.mp hn
    rw [List.zip_cons_cons] at h
    rcases List.mem_cons.mp h with e | h
    · cases e
      rw [List.idxOf_cons_self]
      rfl
    · have hne : x ≠ a := fun e => h1 (e ▸ (List.of_mem_zip h).1)
      have hb : (x == a) = false := beq_eq_false_iff_ne.mpr hne
      rw [List.idxOf_cons, hb]
      exact line_at h2 h
/-! ### the row's bits -/
def bitsOf (ds : List Deed) (i : Nat) : List Bool := (List.range (runF (ds.take i)).sizes.length).map fun k => decide (k ∈ (runF (ds.take i)).outs)
theorem bits_row {ch : List Int} {cl : List (Int × Int)} {B : Int} {ds : List Deed} (ok : RowOk cl B ds) (hch : ∀ p ∈ cl, p.1 ∈ ch) : Bits ch ds (bitsOf ds) := by
  refine ⟨rfl, fun i d hd => ?_⟩
  have R := ok.at_ i
  rcases ok.row.deed hd with ⟨n, ln, rfl, hm, hl, e⟩ | ⟨k, rfl, hn, e⟩
  · refine .inl ⟨rfl, hch _ hm, ?_⟩
    unfold bitsOf
    rw [e]
    show (List.range ((runF (ds.take i)).sizes ++ [n]).length).map (fun k => decide (k ∈ (runF (ds.take i)).outs ++ [(runF (ds.take i)).sizes.length])) = _
    rw [List.length_append, List.length_singleton, List.range_succ, List.map_append]
    congr 1
    · refine List.map_congr_left fun k hk => ?_
      have hk := List.mem_range.mp hk
      have e2 : (k ∈ (runF (ds.take i)).outs ++ [(runF (ds.take i)).sizes.length]) ↔ k ∈ (runF (ds.take i)).outs := by
        rw [List.mem_append, List.mem_singleton]
        constructor
        · rintro (h | h)
          · exact h
          · omega
        · exact .inl
      simp only [e2]
    · simp
  · have hlt := R.lt k hn
    refine .inr ⟨rfl, k, rfl, ?_, ?_⟩
    · unfold bitsOf
      rw [List.getElem?_map, List.getElem?_range hlt]
      show some (decide (k ∈ _)) = _
      rw [decide_eq_true hn]
    · unfold bitsOf
      rw [e]
      show (List.range (runF (ds.take i)).sizes.length).map (fun j => decide (j ∈ (runF (ds.take i)).outs.filter fun j => decide (j ≠ k))) = _
      refine List.ext_getElem? fun j => ?_
      rw [List.getElem?_set, List.getElem?_map, List.getElem?_map, List.length_map, List.length_range]
      by_cases hj : j < (runF (ds.take i)).sizes.length
      · rw [List.getElem?_range hj]
        show some (decide (j ∈ _)) = _
        by_cases ej : k = j
        · subst ej
          rw [if_pos rfl, if_pos hj]
          congr 1
          exact decide_eq_false fun z => by simp [List.mem_filter] at z
        · rw [if_neg ej]
          show _ = some (decide (j ∈ (runF (ds.take i)).outs))
          congr 1
          have e3 : (j ∈ (runF (ds.take i)).outs.filter fun j => decide (j ≠ k)) ↔ j ∈ (runF (ds.take i)).outs := by
            rw [List.mem_filter]
            constructor
            · exact fun z => z.1
            · exact fun z => ⟨z, decide_eq_true (Ne.symm ej)⟩
          simp only [e3]
      · have e4 : (List.range (runF (ds.take i)).sizes.length)[j]? = none := List.getElem?_eq_none (by rw [List.length_range]; omega)
        rw [e4]
        by_cases ej : k = j
        · omega
        · rw [if_neg ej]
          rfl
theorem hgt_le {cl : List (Int × Int)} {B : Int} {ds : List Deed} (ok : RowOk cl B ds) : hgt ds ≤ B := by
  obtain ⟨a, b, c⟩ := maxL_spec ((runF ds).stands.map live)
  unfold hgt
  rcases c with c | c
  · rw [c]
    exact ok.nn
  · obtain ⟨st, hst, e⟩ := List.mem_map.mp c
    rw [← e]
    exact (ok.all.goods st hst).2
theorem ends_le {cl : List (Int × Int)} {B pool : Int} {ds : List Deed} (ok : RowOk cl B ds) (fits : Fits cl pool) (hp : 0 ≤ pool) : maxL (endsOf ds) ≤ pool := by
  obtain ⟨a, b, c⟩ := maxL_spec (endsOf ds)
  rcases c with c | c
  · rw [c]
    exact hp
  · obtain ⟨i, hi⟩ := List.getElem?_of_mem c
    unfold endsOf at hi
    rw [List.getElem?_zipWith] at hi
    cases e1 : (runF ds).places[i]? with
    | none =>
      rw [e1] at hi
      cases hi
    | some p =>
      cases e2 : (asksOf ds)[i]? with
      | none =>
        rw [e1, e2] at hi
        cases hi
      | some s =>
        rw [e1, e2] at hi
        have hi : p + s = maxL (endsOf ds) := Option.some.inj hi
        obtain ⟨l, h1, h2, h3⟩ := ends_at ok e1 e2
        rw [← hi]
        exact Int.le_trans h2 (fits _ h1)
/-! ### the walk -/
theorem scCase : FnScope ["_law_chain_so", "_law_budget_so", "_law_deeds_so", "_law_pool_so", "_law_bars_so", "_law_lot", "_law_own"] ["_law_chain_so", "_law_budget_so", "_law_deeds_so"] (gdef "_law_case_right" 56).scope := ⟨rfl, rfl, rfl, by decide +kernel, rfl, by decide +kernel, by decide +kernel⟩
def spCase : Sp := fun vs H Q _ => ∃ (c r : V) (ch : List Int) (B : Int) (ds : List Deed), vs = [c, .int B, r] ∧ IsCF H c ch ∧ CB ch B ∧ IsRow H r ds ∧ Row (clOf ch B) B ds ∧ ds.length ≤ 100 ∧ ∀ H', Same H H' → Q (.bl true) H'
theorem ok_case (T : TX K mg) : Cal P w K mg base "_law_case_right" 7 ["_law_chain_so", "_law_budget_so", "_law_deeds_so"] spCase := by
  refine T.ok (d := gdef "_law_case_right" 56) 32 rfl (j := 58) rfl rfl rfl rfl scCase (fun vs H Q E h => ?_) (fun _ _ _ _ _ _ us hl => match us, hl with | [_, _, _], _ => rfl) fun f cdv A outer s H vs Q E hr h => ?_
  · obtain ⟨_, _, _, _, _, rfl, _⟩ := h
    rfl
  obtain ⟨c, r, ch, B, ds, rfl, hcf, cb, hrow, rw', hlen, k⟩ := h
  have hcf0 := hcf
  obtain ⟨tc, oc, rfl, hc, hoc⟩ := hcf
  have ok : RowOk (clOf ch B) B ds := ⟨cb.fine, cb.ok.nn, rw', by omega⟩
  have CLe : Cal P w K mg base "least_pool" 6 ["chain", "budget"] spLeast := ok_least T
  have CLi : Cal P w K mg base "lines" 5 ["chain", "budget"] spLines := ok_lines T
  have CI : Cal P w K mg base "is_row" 3 ["chain", "thing"] spIsRow := ok_isrow T
  have CH : Cal P w K mg base "height" 3 ["row"] spHeight := ok_height T
  have CSv : Cal P w K mg base "serves_first" 5 ["chain", "pool", "row"] spServes := ok_serves T
  have CPR : Cal P w K mg base "_law_played_right" 6 ["_law_chain_so", "_law_pool_so", "_law_deeds_so"] spPR := ok_pr T
  have CFS : Cal P w K mg base "first_stands" 5 ["chain", "pool", "row"] spFSt := ok_fst T
  have nd := scCase.nd
  refine ⟨_, pss_cons (ps_asg (pe_tup (pa_cons (pe_cal CLe hr (by rfl) (pa_cons (pv 0) (pa_cons (pv 1) pa_nil))) (pa_cons (pe_cal CLi (hr.mono (by decide)) (by rfl) (pa_cons (pv 0) (pa_cons (pv 1) pa_nil))) pa_nil))) (pg_tup rfl (pgs_cons (pg_name (i := 3) nd rfl (.inl rfl)) (pgs_cons (pg_name (i := 4) nd rfl (.inr rfl)) pgs_nil))))
    (pss_cons (ps_if (PW.pt (pw_or (pt_not (pt_val (pe_cal CI (hr.mono (by decide)) (by rfl) (pa_cons (pv 0) (pa_cons (pv 2) pa_nil))))) (pw_or1 (pt_cmpR op_gt (pe_cal CH (hr.mono (by decide)) (by rfl) (pa_cons (pv 2) pa_nil)) (pv 1) (nomark _))))) (pss_one (ps_ret pe_bl)) pss_nil)
    (pss_cons (ps_if (PW.pt (pw_or (pt_not (pt_val (pe_cal CSv (hr.mono (by decide)) (by rfl) (pa_cons (pv 0) (pa_cons (pv 3) (pa_cons (pv 2) pa_nil)))))) (pw_or1 (pt_not (pt_val (pe_cal CPR hr (by rfl) (pa_cons (pv 0) (pa_cons (pv 3) (pa_cons (pv 2) pa_nil))))))))) (pss_one (ps_ret pe_bl)) pss_nil)
    (pss_cons (ps_for PassesOwn.never rfl (pi_list (pe_cal CFS (hr.mono (by decide)) (by rfl) (pa_cons (pv 0) (pa_cons (pv 3) (pa_cons (pv 2) pa_nil))))) (pg_name (i := 5) nd rfl (.inl rfl))
      (pss_one (ps_if (pt_cmpR (op_neD hr.units) (pe_lc (own := [("_law_own", 6)]) (g := gName 6) (tt := tTest (tOp (rI0 fun i j => .bl (decide (j < i))) (tOp (rI0 fun i j => .int (i + j)) (tOp (rIxT K) (tVar 6) (tC (.int 0))) (tOp (rIxT K) (tVar 6) (tC (.int 1)))) (tOp (rIxT K) (tVar 4) (LbO.tIdxF (tVar 0) (tCons (tOp (rIxT K) (tVar 6) (tC (.int 1))) tNil))))) rfl nd (pi_tup (pv 5))
          (blkOk_by (N := ["_law_chain_so", "_law_budget_so", "_law_deeds_so", "_law_pool_so", "_law_bars_so", "_law_lot", "_law_own"]) (sc := (gdef "_law_case_right" 56).scope) (by decide +kernel))
          (fun _ _ _ _ _ => pg_name (i := 6) nd rfl (Or.inl rfl))
          (fun _ _ _ _ _ => pts_one (pt_cmpR op_gt (pe_op op_add (pe_ix ix_tup (pv 6) pe_int (fun _ _ => rfl)) (pe_ix ix_tup (pv 6) pe_int (fun _ _ => rfl))) (pe_ix ix_tup (pv 4) (LbO.pe_index (pv 0) (pa_cons (pe_ix ix_tup (pv 6) pe_int (fun _ _ => rfl)) pa_nil)) (fun _ _ => rfl)) (nomark _)))
          (fun _ _ _ _ _ => pv 6)) (pe_lst pa_nil) (nomark _)) (pss_one (ps_ret pe_bl)) pss_nil)))
    (pss_one (ps_ret pe_bl))))), ?_⟩
  have hlc : ch.length ≤ 1000 := by
    have := cb.ok.len
    omega
  refine ⟨_, rfl, _, rfl, .ref tc, ch, B, rfl, hcf0.cn, cb.ok, fun H1 s1 => ⟨_, rfl, _, rfl, .ref tc, ch, B, rfl, (hcf0.same s1).cn, cb.ok, fun v H2 s2 hv => ⟨by show 2 ≤ sizeLine; decide, fun t nt => ?_⟩⟩⟩
  obtain ⟨tb, rfl, hb⟩ := hv
  have s3 := Same.new (o := .tup [.int (lastOf (linesOf ch B)), .ref tb]) nt
  refine ⟨t, _, rfl, SqT.of upd_same, rfl, _, _, rfl, _, _, rfl, rfl, ?_⟩
  have hb3 := s3 _ _ hb
  generalize upd H2 t (.tup [.int (lastOf (linesOf ch B)), .ref tb]) = H3 at s3 hb3 ⊢
  have S3 := s1.trans (s2.trans s3)
  have row : ∀ {Hx : Hp}, KI H Hx → IsRow Hx r ds := fun kx => IsRow.keep kx.tk hrow
  refine ⟨_, rfl, _, rfl, .ref tc, r, ch, ds, bitsOf ds, rfl, (hcf0.same S3).cn, row (KI.of S3), by omega, bits_row ok cb.fst, fun H4 s4 => ⟨true, rfl, iteF ?_⟩⟩
  have S4 := S3.trans s4
  refine ⟨_, rfl, r, ds, _, B, rfl, row (KI.of S4), ok, fun H5 s5 => ⟨_, rfl, _, _, rfl, rfl, _, rfl, ?_⟩⟩
  have hh := hgt_le ok
  rw [decide_eq_false (show ¬ B < hgt ds by omega)]
  refine iteF ?_
  have S5 := S4.trans s5
  refine ⟨_, rfl, _, rfl, _, rfl, .ref tc, r, _, ds, _, B, rfl, row (KI.of S5), ok, fun H6 s6 => ⟨_, rfl, ?_⟩⟩
  rw [decide_eq_true (ends_le ok cb.fits cb.pool)]
  refine iteF ?_
  have S6 := S5.trans s6
  have k6 := KI.of S6
  refine ⟨_, rfl, _, rfl, _, rfl, tc, r, ch, _, ds, _, B, rfl, rd_ki k6 (.inr ⟨oc, hc⟩), hlc, row k6, ok, cb.fits, cb.pool, cb.fst, hlen, fun H7 s7 => ⟨true, rfl, iteF ?_⟩⟩
  have k7 := KI.of s7
  have K7 := k6.trans k7
  have hb7 : H7 tb = some (.tup ((linesOf ch B).map V.int)) := k7 _ _ (s6 _ _ (s5 _ _ (s4 _ _ hb3))) rfl
  refine ⟨_, rfl, _, rfl, _, rfl, .ref tc, r, _, ds, _, B, rfl, row K7, ok, cb.fits, fun ts us H8 s8 ets pst => ?_⟩
  refine ⟨ts, rfl, ⟨_, SqL.of ets⟩, for_list (K := K) (a := ts) (xs := us) (fun i σ H' => (∃ y1 y2 : Option V, σ = [some (.ref tc), some (.int B), some r, some (.int (lastOf (linesOf ch B))), some (.ref tb), y1, y2]) ∧ Same H8 H') ⟨⟨none, none, rfl⟩, Same.refl _⟩ (fun i σ H' _ q => SqL.of (q.2 _ _ ets)) ?_ ?_⟩
  · rintro i x σ H' hx ⟨⟨y1, y2, rfl⟩, sm⟩
    obtain ⟨bs, hbs, t2, vs, rfl, et2, pp⟩ := paired_get pst hx
    have hg : Good (clOf ch B) bs := (ok.all.goods bs (List.mem_of_getElem? hbs)).1
    have et2' := sm _ _ et2
    refine ⟨_, rfl, t2, rfl, ⟨_, SqT.of et2'⟩, fun D nD => ?_⟩
    refine lc_tup (K := K) (a := t2) (xs := vs) (fun j Hj => Same H' Hj ∧ Hj D = some (.lst [])) ⟨Same.new nD, upd_same⟩ (fun j Hj _ q => SqT.of (q.1 _ _ et2')) ?_ ?_
    · rintro j y Hj hy ⟨sj, eD⟩
      obtain ⟨b, hbb, ⟨t3, rfl, et3⟩⟩ := paired_get pp hy
      obtain ⟨l, hl1, hl2⟩ := hg.low b (List.mem_of_getElem? hbb)
      have q3 := SqT.of (K := K) (sj _ _ (sm _ _ et3))
      have hc' : Hj tc = some (.frz oc (.tup (ch.map V.int))) := sj _ _ (sm _ _ (s8 _ _ (K7 _ _ hc rfl)))
      have hb' : Hj tb = some (.tup ((linesOf ch B).map V.int)) := sj _ _ (sm _ _ (s8 _ _ hb7))
      have hmem : b.2 ∈ ch := cb.fst _ hl1
      refine ⟨rfl, _, rfl, t3, _, 0, _, rfl, rfl, q3, atI_nat (j := 0) rfl, _, rfl, t3, _, 1, _, rfl, rfl, q3, atI_nat (j := 1) rfl, _, _, rfl, rfl, ?_⟩
      refine ⟨_, rfl, _, rfl, tc, oc, ch, rfl, hc', hoc, _, rfl, t3, _, 1, _, rfl, rfl, q3, atI_nat (j := 1) rfl, b.2, rfl, hc', hmem, ?_⟩
      refine ⟨tb, _, _, .int l, rfl, rfl, SqT.of hb', atI_nat (j := ch.idxOf b.2) (by rw [List.getElem?_map, line_at cb.nd hl1]; rfl), _, _, rfl, rfl, _, rfl, ?_⟩
      rw [decide_eq_false (show ¬ l < b.1 + b.2 by omega)]
      exact ⟨sj, eD⟩
    · rintro Hj ⟨sj, eD⟩
      refine ⟨Nat.zero_le _, fun l nl => ?_⟩
      have sl := Same.new (o := .lst []) nl
      refine ⟨.list [], .list [], .lst (SqL.of (sl _ _ eD)) .nil, .lst (SqL.of upd_same) .nil, by decide +kernel, by decide +kernel, _, rfl, ?_⟩
      have e0 : PyData.eqv (.list []) (.list []) = true := eqv_same rfl
      rw [e0]
      exact iteF ⟨⟨_, _, rfl⟩, sm.trans (sj.trans sl)⟩
  · rintro σ H' ⟨⟨y1, y2, rfl⟩, sm⟩
    exact k _ (S6.trans (s7.trans (s8.trans sm)))
end Lb
/-! _law_box, _law_take, _law_of. -/
namespace Lb
open PySem PySem.Spec PyProof.Rows L2
variable {P : Program} {w : World} {K : PySem.W.Frag} {mg : Str → Option Value} {base : Heap}
/-- the box that is drawn from -/
def Box (H : Hp) (x : Addr) (C : Int) : Prop := ∃ A B : Int, H x = some (.lst [.int A, .int B, .int C]) ∧ 0 ≤ B ∧ B < 9000000000000000000 ∧ 0 ≤ C ∧ C ≤ 1000000
theorem scTake : FnScope ["_law_box_here", "_law_top_so", "_law_digit_so", "_law_once", "_law_far", "_law_again"] ["_law_box_here", "_law_top_so"] (gdef "_law_take" 49).scope := ⟨rfl, rfl, rfl, by decide +kernel, rfl, by decide +kernel, by decide +kernel⟩
def spTake : Sp := fun vs H Q _ => ∃ (x : Addr) (top C : Int), vs = [.ref x, .int top] ∧ Box H x C ∧ C < 1000000 ∧ 0 < top ∧ top < 1073741824 ∧ ∀ d C' H', 0 ≤ d → d < top → C' ≤ C + 1 → Box H' x C' → But [x] H H' → KI H H' → Q (.int d) H'
theorem ok_take (T : TX K mg) : Cal P w K mg base "_law_take" 1 ["_law_box_here", "_law_top_so"] spTake := by
  refine T.ok (d := gdef "_law_take" 49) 25 rfl (j := 51) rfl rfl rfl rfl scTake (fun vs H Q E h => ?_) (fun _ _ _ _ _ _ us hl => match us, hl with | [_, _], _ => rfl) fun f cdv A outer s H vs Q E hr h => ?_
  · obtain ⟨_, _, _, rfl, _⟩ := h
    rfl
  obtain ⟨x, top, C, rfl, ⟨A', B, hx, hB0, hB1, hC0, hC1⟩, hC2, ht0, ht1, k⟩ := h
  have hint : mg "int" = none := T.free 2
  have nd := scTake.nd
  refine ⟨_, pss_cons (ps_if (pt_cmpR op_gt (pe_ix ix_list (pv 0) pe_int (fun _ _ => rfl)) pe_int (nomark _))
      (pss_cons (ps_set (i := 2) nd rfl (.inl rfl) (pe_op op_mod (pe_callTy call_int1 (by rfl) hint (by decide +kernel) (pa_cons (pe_ix ix_list (pv 0) pe_int (fun _ _ => rfl)) pa_nil)) (pv 1)))
      (pss_cons (ps_asg (pe_op op_fdiv (pe_ix ix_list (pv 0) pe_int (fun _ _ => rfl)) (pv 1)) (pg_sub (pv 0) pe_int set_list))
      (pss_one (ps_ret (pv 2))))) pss_nil)
    (pss_cons (ps_asg (pe_op op_add (pe_ix ix_list (pv 0) pe_int (fun _ _ => rfl)) pe_int) (pg_sub (pv 0) pe_int set_list))
    (pss_cons (ps_set (i := 3) nd rfl (.inl rfl) (pe_op op_mod (pe_callTy call_int1 (by rfl) hint (by decide +kernel) (pa_cons (pe_op op_mul (pe_op op_add (pe_ix ix_list (pv 0) pe_int (fun _ _ => rfl)) (pe_op op_mul pe_int (pe_ix ix_list (pv 0) pe_int (fun _ _ => rfl)))) (pe_op op_add pe_int (pe_ix ix_list (pv 0) pe_int (fun _ _ => rfl)))) pa_nil)) pe_int))
    (pss_cons (ps_set (i := 4) nd rfl (.inl rfl) (pe_op op_add (pe_op op_mod (pe_callTy call_int1 (by rfl) hint (by decide +kernel) (pa_cons (pv 3) pa_nil)) pe_int) pe_int))
    (pss_cons (ps_set (i := 5) nd rfl (.inl rfl) (pe_op op_mod (pe_callTy call_int1 (by rfl) hint (by decide +kernel) (pa_cons (pe_op op_mul (pe_op op_add (pe_op op_add (pv 3) (pe_ix ix_list (pv 0) pe_int (fun _ _ => rfl))) (pe_op op_fdiv (pe_ix ix_list (pv 0) pe_int (fun _ _ => rfl)) pe_int)) (pv 4)) pa_nil)) pe_int))
    (pss_one (ps_ret (pe_op op_mod (pe_callTy call_int1 (by rfl) hint (by decide +kernel) (pa_cons (pe_op op_fdiv (pe_op op_mod (pe_callTy call_int1 (by rfl) hint (by decide +kernel) (pa_cons (pe_op op_add (pe_op op_mul (pv 5) pe_int) (pv 3)) pa_nil)) pe_int) pe_int) pa_nil)) (pv 1)))))))), ?_⟩
  have a0 : atI [V.int A', V.int B, V.int C] 0 = some (V.int A') := atI_nat (j := 0) rfl
  refine ⟨_, rfl, x, _, 0, _, rfl, rfl, SqL.of hx, a0, _, _, rfl, rfl, _, rfl, ite2 (fun q => ?_) (fun q => ?_)⟩
  · refine ⟨_, rfl, x, _, 0, _, rfl, rfl, SqL.of hx, a0, .inl ⟨_, rfl, _, rfl, _, _, rfl, rfl, ht0, ?_⟩⟩
    refine ⟨_, rfl, x, _, 0, _, rfl, rfl, SqL.of hx, a0, _, rfl, _, _, rfl, rfl, ⟨ht0, ht1⟩, _, rfl, x, _, 0, 0, rfl, rfl, hx, rfl, ?_⟩
    exact ⟨_, rfl, k _ C _ (Int.emod_nonneg _ (by omega)) (Int.emod_lt_of_pos _ ht0) (by omega) ⟨A' / top, B, upd_same, hB0, hB1, hC0, hC1⟩ (But.put (by simp)) (KI.put hx rfl)⟩
  · have a2 : atI [V.int A', V.int B, V.int C] 2 = some (V.int C) := atI_nat (j := 2) rfl
    refine ⟨_, rfl, x, _, 2, _, rfl, rfl, SqL.of hx, a2, _, _, rfl, rfl, _, rfl, x, _, 2, 2, rfl, rfl, hx, rfl, ?_⟩
    have hx1 : (upd H x (.lst ([V.int A', V.int B, V.int C].set 2 (.int (C + 1))))) x = some (.lst [.int A', .int B, .int (C + 1)]) := upd_same
    have bt : But [x] H (upd H x (.lst ([V.int A', V.int B, V.int C].set 2 (.int (C + 1))))) := But.put (by simp)
    have ki : KI H (upd H x (.lst ([V.int A', V.int B, V.int C].set 2 (.int (C + 1))))) := KI.put hx rfl
    generalize upd H x (.lst ([V.int A', V.int B, V.int C].set 2 (.int (C + 1)))) = H1 at hx1 bt ki ⊢
    have b1 : atI [V.int A', V.int B, V.int (C + 1)] 1 = some (V.int B) := atI_nat (j := 1) rfl
    have b2 : atI [V.int A', V.int B, V.int (C + 1)] 2 = some (V.int (C + 1)) := atI_nat (j := 2) rfl
    have l1 := SqL.of (K := K) hx1
    have m1 : (0 : Int) < 2147483647 := by decide
    refine ⟨_, rfl, x, _, 1, _, rfl, rfl, l1, b1, _, rfl, x, _, 2, _, rfl, rfl, l1, b2, _, _, rfl, rfl, .inl ⟨by decide, by decide⟩, _, _, rfl, rfl, _, rfl, x, _, 2, _, rfl, rfl, l1, b2, _, _, rfl, rfl, _, _, rfl, rfl, .inr ⟨by omega, by omega⟩, .inl ⟨_, rfl, _, _, rfl, rfl, m1, ?_⟩⟩
    have o0 := Int.emod_nonneg ((B + 48271 * (C + 1)) * (39373 + (C + 1))) (show (2147483647 : Int) ≠ 0 by decide)
    have o1 := Int.emod_lt_of_pos ((B + 48271 * (C + 1)) * (39373 + (C + 1))) m1
    generalize (B + 48271 * (C + 1)) * (39373 + (C + 1)) % 2147483647 = o at o0 o1 ⊢
    have m2 : (0 : Int) < 40009 := by decide
    refine ⟨_, rfl, .inl ⟨_, rfl, _, _, rfl, rfl, m2, _, _, rfl, rfl, ?_⟩⟩
    have f0 := Int.emod_nonneg o (show (40009 : Int) ≠ 0 by decide)
    have f1 := Int.emod_lt_of_pos o m2
    have g0 : 0 ≤ o % 40009 + 7 := by omega
    have g1 : o % 40009 + 7 < 100000 := by omega
    generalize o % 40009 + 7 = fr at g0 g1 ⊢
    have m3 : (0 : Int) < 2147483629 := by decide
    refine ⟨_, rfl, _, rfl, x, _, 2, _, rfl, rfl, l1, b2, _, _, rfl, rfl, _, rfl, x, _, 1, _, rfl, rfl, l1, b1, _, _, rfl, rfl, ⟨by decide, by decide⟩, _, _, rfl, rfl, _, rfl, _, _, rfl, rfl, .inr ⟨by omega, by omega⟩, .inl ⟨_, rfl, _, _, rfl, rfl, m3, ?_⟩⟩
    have h0 := Int.emod_nonneg ((o + (C + 1) + B / 1000003) * fr) (show (2147483629 : Int) ≠ 0 by decide)
    have h1 := Int.emod_lt_of_pos ((o + (C + 1) + B / 1000003) * fr) m3
    generalize (o + (C + 1) + B / 1000003) * fr % 2147483629 = ag at h0 h1 ⊢
    refine ⟨_, rfl, _, _, rfl, rfl, .inl ⟨by omega, by omega⟩, _, rfl, _, _, rfl, rfl, .inl ⟨_, rfl, _, _, rfl, rfl, (show (0 : Int) < 2147483587 by decide), _, _, rfl, rfl, ⟨by decide, by decide⟩, .inl ⟨_, rfl, _, rfl, _, _, rfl, rfl, ht0, ?_⟩⟩⟩
    exact k _ (C + 1) _ (Int.emod_nonneg _ (by omega)) (Int.emod_lt_of_pos _ ht0) (Int.le_refl _) ⟨A', B, hx1, hB0, hB1, by omega, by omega⟩ bt ki
/-! ### _law_of -/
def spOf : Sp := fun vs H Q _ => ∃ (x gl : Addr) (C : Int) (xs : List V), vs = [.ref x, .ref gl] ∧ Box H x C ∧ C < 1000000 ∧ H gl = some (.lst xs) ∧ gl ≠ x ∧ 0 < xs.length ∧ xs.length ≤ 1000 ∧ ∀ (i : Nat) y C' H', xs[i]? = some y → C' ≤ C + 1 → Box H' x C' → But [x] H H' → KI H H' → Q y H'
theorem ok_of (T : TX K mg) : Cal P w K mg base "_law_of" 2 ["_law_box_here", "_law_goods_so"] spOf := by
  have sc : FnScope ["_law_box_here", "_law_goods_so"] ["_law_box_here", "_law_goods_so"] (gdef "_law_of" 51).scope := ⟨rfl, rfl, rfl, by decide +kernel, rfl, by decide +kernel, by decide +kernel⟩
  refine T.ok (d := gdef "_law_of" 51) 27 rfl (j := 53) rfl rfl rfl rfl sc (fun vs H Q E h => ?_) (fun _ _ _ _ _ _ us hl => match us, hl with | [_, _], _ => rfl) fun f cdv A outer s H vs Q E hr h => ?_
  · obtain ⟨_, _, _, _, rfl, _⟩ := h
    rfl
  obtain ⟨x, gl, C, xs, rfl, bx, hC, hg, hne, h0, h1, k⟩ := h
  have hl0 : mg "len" = none := T.free 0
  have CT : Cal P w K mg base "_law_take" 1 ["_law_box_here", "_law_top_so"] spTake := ok_take T
  refine ⟨_, pss_one (ps_ret (pe_ix ix_list (pv 1) (pe_cal CT hr (by rfl) (pa_cons (pv 0) (pa_cons (pe_callB call_len_seq (by rfl) hl0 (by decide +kernel) (pa_cons (pv 1) pa_nil)) pa_nil))) (fun _ _ => rfl))), ?_⟩
  refine ⟨_, rfl, _, rfl, _, rfl, gl, xs, rfl, .inl (SqL.of hg), x, _, C, rfl, bx, hC, by omega, by omega, fun d C' H' d0 d1 hc bx' bt ki => ?_⟩
  obtain ⟨i, rfl⟩ := Int.eq_ofNat_of_zero_le d0
  have hi : i < xs.length := by omega
  have e : xs[i]? = some xs[i] := List.getElem?_eq_getElem hi
  exact ⟨gl, xs, _, _, rfl, rfl, SqL.of (bt _ _ hg (by simp [hne])), atI_nat e, k i _ C' H' e hc bx' bt ki⟩
/-! ### _law_box -/
theorem scBox : FnScope ["_law_script", "_law_k", "_law_cell"] ["_law_script", "_law_k"] (gdef "_law_box" 48).scope := ⟨rfl, rfl, rfl, by decide +kernel, rfl, by decide +kernel, by decide +kernel⟩
def spBox : Sp := fun vs H Q _ => ∃ (l : Addr) (ns : List Int) (k : Nat), vs = [.ref l, .int k] ∧ H l = some (.lst (ns.map V.int)) ∧ k < ns.length ∧ k ≤ 1000 ∧ ∀ x H', Same H H' → H x = none → Box H' x 0 → Q (.ref x) H'
theorem ok_box (T : TX K mg) : Cal P w K mg base "_law_box" 1 ["_law_script", "_law_k"] spBox := by
  refine T.ok (d := gdef "_law_box" 48) 24 rfl (j := 50) rfl rfl rfl rfl scBox (fun vs H Q E h => ?_) (fun _ _ _ _ _ _ us hl => match us, hl with | [_, _], _ => rfl) fun f cdv A outer s H vs Q E hr h => ?_
  · obtain ⟨_, _, _, rfl, _⟩ := h
    rfl
  obtain ⟨l, ns, n, rfl, hl, hn, hn2, k⟩ := h
  have hl0 : mg "len" = none := T.free 0
  have hint : mg "int" = none := T.free 2
  have habs : mg "abs" = none := T.free 14
  have nd := scBox.nd
  refine ⟨_, pss_cons (ps_set (i := 2) nd rfl (.inl rfl) (pe_ifExp (pt_cmpR op_lt (pv 1) (pe_callB call_len_seq (by rfl) hl0 (by decide +kernel) (pa_cons (pv 0) pa_nil)) (nomark _)) (pe_ix ix_list (pv 0) (pv 1) (fun _ _ => rfl)) pe_int))
    (pss_one (ps_ret (pe_lst (pa_cons (pe_op op_mul (pe_callB call_abs (by rfl) habs (by decide +kernel) (pa_cons (pv 2) pa_nil)) (pe_callTy call_int1 (by rfl) hint (by decide +kernel) (pa_cons (pe_cmpR op_ge (pe_callB call_abs (by rfl) habs (by decide +kernel) (pa_cons (pv 2) pa_nil)) (pe_op op_pow pe_int pe_int) (nomark _)) pa_nil)))
      (pa_cons (pe_op op_add (pe_op op_add (pe_op op_mod (pe_callTy call_int1 (by rfl) hint (by decide +kernel) (pa_cons (pv 2) pa_nil)) pe_int) (pe_op op_mul pe_int (pv 1))) pe_int) (pa_cons pe_int pa_nil)))))), ?_⟩
  have hg : ns[n]? = some ns[n] := List.getElem?_eq_getElem hn
  have ha : atI (ns.map V.int) (n : Int) = some (V.int ns[n]) := atI_nat (by rw [List.getElem?_map, hg]; rfl)
  generalize ns[n] = c at ha
  refine ⟨_, rfl, _, rfl, l, _, rfl, .inl (SqL.of hl), _, _, rfl, rfl, _, rfl, ?_⟩
  rw [List.length_map, decide_eq_true (show (n : Int) < (ns.length : Int) by omega)]
  refine iteT ⟨_, rfl, _, rfl, l, _, _, _, rfl, rfl, SqL.of hl, ha, ?_⟩
  refine ⟨_, rfl, c, rfl, _, rfl, c, rfl, _, _, rfl, rfl, ⟨by decide, by decide, by decide⟩, _, _, rfl, rfl, .inr ⟨_, rfl, _, _, rfl, rfl, ?_, ?_⟩⟩
  · have hb : ∀ b : Bool, -(2 ^ 64) < (if b = true then (1 : Int) else 0) ∧ (if b = true then (1 : Int) else 0) < 2 ^ 64 := by
      intro b
      cases b <;> exact ⟨by decide, by decide⟩
    exact .inr (hb _)
  have m0 := Int.emod_nonneg c (show (2305843009213693951 : Int) ≠ 0 by decide)
  have m1 := Int.emod_lt_of_pos c (show (0 : Int) < 2305843009213693951 by decide)
  refine ⟨_, rfl, .inl ⟨_, rfl, _, _, rfl, rfl, (show (0 : Int) < 2305843009213693951 by decide), _, rfl, _, _, rfl, rfl, .inl ⟨by decide, by decide⟩, _, _, rfl, rfl, _, _, rfl, rfl, by show 3 ≤ sizeLine; decide, fun x nx => ?_⟩⟩
  exact k x _ (Same.new nx) nx ⟨_, _, upd_same, by omega, by omega, by decide, by decide⟩
end Lb
set_option maxHeartbeats 2000000
/-! _law_deeds. -/
namespace Lb
open PySem PySem.Spec PyProof.Rows L2
variable {P : Program} {w : World} {K : PySem.W.Frag} {mg : Str → Option Value} {base : Heap}
def dLI (ns : List Int) : PyData := .list (ns.map .int)
theorem can_dLI (ns : List Int) : (dLI ns).canLay0 = true := by
  unfold dLI PyData.canLay0
  exact canAll_map (fun _ => rfl) ns
theorem sh_dLI (ns : List Int) : SeqAt.shaped (dLI ns) = true := by
  refine shape_of (n := 1) (can_dLI ns) ?_ (by decide)
  unfold dLI PyData.depth
  exact Nat.succ_le_succ (depth_map (f := PyData.int) (fun _ => Nat.le_of_eq rfl) ns)
theorem dp_LI {H : Hp} {a : Addr} {ns : List Int} (h : H a = some (.lst (ns.map V.int))) : Dp K H (.ref a) (dLI ns) := .lst (SqL.of h) (dpall_ints ns)
theorem eqv_LI (ns : List Int) : PyData.eqv (dLI ns) (dLI []) = decide (ns = []) := by
  cases ns with
  | nil => rfl
  | cons n r => rfl
theorem live_outs {cl : List (Int × Int)} {B : Int} {ds : List Deed} {q : Rs} (R : RInv cl B ds q) : (q.outs.map fun k => q.sizes.getD k 0).sum = live q.here := by
  rw [live_perm R.perm]
  unfold live
  rw [List.map_map]
  rfl
def iV (ks : List Nat) : List V := ks.map fun (k : Nat) => V.int (k : Int)
structure DInv (H0 H : Hp) (bx fo sz ou : Addr) (C : Int) (cl : List (Int × Int)) (B : Int) (ds : List Deed) : Prop where
  row : Row cl B ds
  box : Box H bx C
  hfo : ∃ fs, H fo = some (.lst fs) ∧ Paired (IsD H) fs ds
  hsz : H sz = some (.lst ((runF ds).sizes.map V.int))
  hou : H ou = some (.lst (iV (runF ds).outs))
  ne : fo ≠ bx ∧ sz ≠ bx ∧ ou ≠ bx ∧ fo ≠ sz ∧ fo ≠ ou ∧ sz ≠ ou
  nn : H0 fo = none ∧ H0 sz = none ∧ H0 ou = none
  bt : But [bx] H0 H
theorem DInv.same {H0 H H' : Hp} {bx fo sz ou : Addr} {C : Int} {cl : List (Int × Int)} {B : Int} {ds : List Deed} (I : DInv H0 H bx fo sz ou C cl B ds) (s : Same H H') : DInv H0 H' bx fo sz ou C cl B ds := by
  obtain ⟨a, ⟨A, Bq, b, c⟩, ⟨fs, d, d2⟩, e, f, g, h, i⟩ := I
  exact ⟨a, ⟨A, Bq, s _ _ b, c⟩, ⟨fs, s _ _ d, Paired.mapP d2 fun _ _ => IsD.keep (TK.of s)⟩, s _ _ e, s _ _ f, g, h, i.trans (But.of s)⟩
/-- the box has been drawn from -/
theorem DInv.draw {H0 H H' : Hp} {bx fo sz ou : Addr} {C C' : Int} {cl : List (Int × Int)} {B : Int} {ds : List Deed} (I : DInv H0 H bx fo sz ou C cl B ds) (b : Box H' bx C') (bt : But [bx] H H') (ki : KI H H') : DInv H0 H' bx fo sz ou C' cl B ds := by
  obtain ⟨a, _, ⟨fs, d, d2⟩, e, f, g, h, i⟩ := I
  exact ⟨a, b, ⟨fs, bt _ _ d (by simp [g.1]), Paired.mapP d2 fun _ _ => IsD.keep ki.tk⟩, bt _ _ e (by simp [g.2.1]), bt _ _ f (by simp [g.2.2.1]), g, h, i.trans bt⟩
def ifBody : Stmt → List Stmt
  | .If _ b _ _ => b
  | _ => []
def ifElse : Stmt → List Stmt
  | .If _ _ b _ => b
  | _ => []
abbrev dsN : List Str := ["_law_box_here", "_law_chain_so", "_law_budget_so", "_law_found", "_law_sizes_so", "_law_out_so", "_law_turn", "_law_live_so", "_law_able_so", "_law_gone", "_law_k", "_law_own"]
def dsIf : Stmt := (forBody ((gdef "_law_deeds" 53).body.getD 1 (.Pass ⟨0, 0, 0, 0⟩))).getD 2 (.Pass ⟨0, 0, 0, 0⟩)
theorem scDeeds : FnScope dsN ["_law_box_here", "_law_chain_so", "_law_budget_so"] (gdef "_law_deeds" 53).scope := ⟨rfl, rfl, rfl, by decide +kernel, rfl, by decide +kernel, by decide +kernel⟩
section
variable {f : Addr} {cdv : Value} {A : Around} {outer : List Env} {s : Shared} {H : Hp} {E : XK}
theorem ds_ask (T : TX K mg) (hr : Room 2 (A.deeper (envOfC (gdef "_law_deeds" 53).qual (gdef "_law_deeds" 53).scope s.heap.objs.size f cdv))) :
    ∃ tt, PSs (cxOf CX0 P w K mg base dsN (gdef "_law_deeds" 53).qual (gdef "_law_deeds" 53).scope f cdv A outer s H E).nox (ifBody dsIf) tt ∧
      ∀ (D : Ends) (c b y6 y7 y9 y10 y11 : Option V) (bx fo sz ou ab : Addr) (C : Int) (cl : List (Int × Int)) (B : Int) (ds : List Deed) (as : List Int) (H0 H2 : Hp), DInv H0 H2 bx fo sz ou C cl B ds → Fine cl B → 0 ≤ B → ds.length ≤ 100 → C < 1000000 → H2 ab = some (.lst (as.map V.int)) → ab ≠ bx → ab ≠ ou → ab ≠ sz → ab ≠ fo → as ≠ [] → as.length ≤ 1000 →
        (∀ n ∈ as, (∃ l, (n, l) ∈ cl) ∧ live (runF ds).here + n ≤ B) →
        (∀ H3 n C', DInv H0 H3 bx fo sz ou C' cl B (ds ++ [(true, n)]) → C' ≤ C + 1 → D.nx [some (.ref bx), c, b, some (.ref fo), some (.ref sz), some (.ref ou), y6, y7, some (.ref ab), y9, y10, y11] H3) →
        tt D [some (.ref bx), c, b, some (.ref fo), some (.ref sz), some (.ref ou), y6, y7, some (.ref ab), y9, y10, y11] H2 := by
  have hl0 : mg "len" = none := T.free 0
  have CO : Cal P w K mg base "_law_of" 2 ["_law_box_here", "_law_goods_so"] spOf := ok_of T
  refine ⟨_, pss_cons (ps_expr (pe_bm PySem.F.plainAttrs_list PySem.F.slot_list_append PySem.F.type_list_append mt_append (pv 5) (pa_cons (pe_callB call_len_seq (by rfl) hl0 (by decide +kernel) (pa_cons (pv 4) pa_nil)) pa_nil)))
    (pss_cons (ps_expr (pe_bm PySem.F.plainAttrs_list PySem.F.slot_list_append PySem.F.type_list_append mt_append (pv 4) (pa_cons (pe_cal CO hr (by rfl) (pa_cons (pv 0) (pa_cons (pv 8) pa_nil))) pa_nil)))
    (pss_one (ps_expr (pe_bm PySem.F.plainAttrs_list PySem.F.slot_list_append PySem.F.type_list_append mt_append (pv 3) (pa_cons (pe_tup (pa_cons pe_str (pa_cons (pe_ix ix_list (pv 4) (pe_un un_neg pe_int) (fun _ _ => rfl)) pa_nil))) pa_nil))))), ?_⟩
  intro D c b y6 y7 y9 y10 y11 bx fo sz ou ab C cl B ds as H0 H2 I F hB hlen hC hab na1 na2 na3 na4 hne hal hfit k
  obtain ⟨row, box, ⟨fs, efo, pfo⟩, esz, eou, ⟨g1, g2, g3, g4, g5, g6⟩, ⟨h1, h2, h3⟩, bt⟩ := I
  have R := Row.inv F hB row
  have hsz : (runF ds).sizes.length ≤ 100 := by
    rw [← asksOf_eq]
    exact Nat.le_trans (asksOf_le ds) hlen
  have hou : (runF ds).outs.length ≤ 100 := by
    have h3 : (runF ds).outs.length ≤ (List.range (runF ds).sizes.length).length := R.nd.length_le_of_subset fun k hk => List.mem_range.mpr (R.lt k hk)
    rw [List.length_range] at h3
    omega
  -- out.append(len(sizes))
  refine ⟨_, rfl, .inl ⟨rfl, _, SqL.of eou⟩, _, rfl, sz, _, rfl, .inl (SqL.of esz), ou, _, _, rfl, rfl, eou, ?_, ?_⟩
  · unfold iV
    rw [List.length_map]
    exact small (by omega)
  have fr1 : ∀ x o, H2 x = some o → x ≠ ou → (upd H2 ou (.lst (iV (runF ds).outs ++ [.int ((runF ds).sizes.map V.int).length]))) x = some o := fun x o e hx => by
    rw [upd_ne hx]
    exact e
  have ki1 : KI H2 (upd H2 ou (.lst (iV (runF ds).outs ++ [.int ((runF ds).sizes.map V.int).length]))) := KI.put eou rfl
  have eou1 : (upd H2 ou (.lst (iV (runF ds).outs ++ [.int ((runF ds).sizes.map V.int).length]))) ou = some (.lst (iV ((runF ds).outs ++ [(runF ds).sizes.length]))) := by
    rw [upd_same, List.length_map]
    unfold iV
    rw [List.map_append]
    rfl
  have bt1 : But [bx] H0 (upd H2 ou (.lst (iV (runF ds).outs ++ [.int ((runF ds).sizes.map V.int).length]))) := fun x o e hx => fr1 x o (bt x o e hx) (ne_of_none e h3)
  generalize upd H2 ou (.lst (iV (runF ds).outs ++ [.int ((runF ds).sizes.map V.int).length])) = H3 at fr1 ki1 eou1 bt1 ⊢
  -- sizes.append(_law_of(box, able))
  have box3 : Box H3 bx C := by
    obtain ⟨a1, a2, a3, a4⟩ := box
    exact ⟨a1, a2, fr1 _ _ a3 (Ne.symm g3), a4⟩
  have esz3 := fr1 _ _ esz g6
  refine ⟨_, rfl, .inl ⟨rfl, _, SqL.of esz3⟩, _, rfl, _, rfl, bx, ab, C, as.map V.int, rfl, box3, hC, fr1 _ _ hab na2, na1, by rw [List.length_map]; exact List.length_pos_iff.mpr hne, by rw [List.length_map]; exact hal, fun i y C' H4 hy hC' box4 bt4 ki4 => ?_⟩
  obtain ⟨n, hn, rfl⟩ := get_int hy
  obtain ⟨⟨l, hl⟩, hfit2⟩ := hfit n (List.mem_of_getElem? hn)
  have esz4 := bt4 _ _ esz3 (by simp [g2])
  refine ⟨sz, _, _, rfl, rfl, esz4, ?_, ?_⟩
  · rw [List.length_map]
    exact small (by omega)
  have fr5 : ∀ x o, H4 x = some o → x ≠ sz → (upd H4 sz (.lst ((runF ds).sizes.map V.int ++ [.int n]))) x = some o := fun x o e hx => by
    rw [upd_ne hx]
    exact e
  have ki5 : KI H4 (upd H4 sz (.lst ((runF ds).sizes.map V.int ++ [.int n]))) := KI.put esz4 rfl
  have esz5 : (upd H4 sz (.lst ((runF ds).sizes.map V.int ++ [.int n]))) sz = some (.lst ((runF ds).sizes.map V.int ++ [.int n])) := upd_same
  have bt5 : But [bx] H0 (upd H4 sz (.lst ((runF ds).sizes.map V.int ++ [.int n]))) := fun x o e hx => fr5 x o (bt4 x o (bt1 x o e hx) hx) (ne_of_none e h2)
  generalize upd H4 sz (.lst ((runF ds).sizes.map V.int ++ [.int n])) = H5 at fr5 ki5 esz5 bt5 ⊢
  have efo5 := fr5 _ _ (bt4 _ _ (fr1 _ _ efo g5) (by simp [g1])) g4
  have eou5 := fr5 _ _ (bt4 _ _ eou1 (by simp [g3])) (Ne.symm g6)
  have box5 : Box H5 bx C' := by
    obtain ⟨a1, a2, a3, a4⟩ := box4
    exact ⟨a1, a2, fr5 _ _ a3 (Ne.symm g2), a4⟩
  -- found.append(('ask', sizes[-1]))
  refine ⟨_, rfl, .inl ⟨rfl, _, SqL.of efo5⟩, _, rfl, 1, rfl, sz, _, -1, _, rfl, rfl, SqL.of esz5, atI_last _ _, by show 2 ≤ sizeLine; decide, fun t nt => ?_⟩
  have s6 : Same H5 (upd H5 t (.tup [.str "ask", .int n])) := Same.new nt
  refine ⟨fo, _, _, rfl, rfl, s6 _ _ efo5, small (by rw [paired_len pfo]; omega), ?_⟩
  have efo6 := s6 _ _ efo5
  have et6 : (upd H5 t (.tup [.str "ask", .int n])) t = some (.tup [.str "ask", .int n]) := upd_same
  have bt6 := bt5.trans (But.of s6)
  generalize upd H5 t (.tup [.str "ask", .int n]) = H6 at s6 efo6 et6 bt6 ⊢
  have fr7 : ∀ x o, H6 x = some o → x ≠ fo → (upd H6 fo (.lst (fs ++ [.ref t]))) x = some o := fun x o e hx => by
    rw [upd_ne hx]
    exact e
  have ki7 : KI H6 (upd H6 fo (.lst (fs ++ [.ref t]))) := KI.put efo6 rfl
  have KK : KI H2 (upd H6 fo (.lst (fs ++ [.ref t]))) := ki1.trans (ki4.trans (ki5.trans ((KI.of s6).trans ki7)))
  have es := runF_ask ds n
  refine k _ n C' ⟨.ask row hl hfit2, ?_, ⟨fs ++ [.ref t], upd_same, paired_snoc (Paired.mapP pfo fun _ _ => IsD.keep KK.tk) ⟨t, rfl, ki7 _ _ et6 rfl⟩⟩, ?_, ?_, ⟨g1, g2, g3, g4, g5, g6⟩, ⟨h1, h2, h3⟩, fun x o e hx => fr7 x o (bt6 x o e hx) (ne_of_none e h1)⟩ hC'
  · obtain ⟨a1, a2, a3, a4⟩ := box5
    exact ⟨a1, a2, fr7 _ _ (s6 _ _ a3) (Ne.symm g1), a4⟩
  · rw [es, fr7 _ _ (s6 _ _ esz5) (Ne.symm g4)]
    show _ = some (HO.lst (((runF ds).sizes ++ [n]).map V.int))
    rw [List.map_append]
    rfl
  · rw [es]
    exact fr7 _ _ (s6 _ _ eou5) (Ne.symm g5)
theorem iV_eq (ks : List Nat) : iV ks = (ks.map fun (k : Nat) => (k : Int)).map V.int := by
  unfold iV
  rw [List.map_map]
  rfl
theorem ds_back (T : TX K mg) (hr : Room 2 (A.deeper (envOfC (gdef "_law_deeds" 53).qual (gdef "_law_deeds" 53).scope s.heap.objs.size f cdv))) :
    ∃ tt, PSs (cxOf CX0 P w K mg base dsN (gdef "_law_deeds" 53).qual (gdef "_law_deeds" 53).scope f cdv A outer s H E).nox (ifElse dsIf) tt ∧
      ∀ (D : Ends) (c b y6 y7 y8 y9 y10 y11 : Option V) (bx fo sz ou : Addr) (C : Int) (cl : List (Int × Int)) (B : Int) (ds : List Deed) (H0 H2 : Hp), DInv H0 H2 bx fo sz ou C cl B ds → Fine cl B → 0 ≤ B → ds.length ≤ 100 → C < 1000000 →
        (∀ H3 ou' y9' y10' ds' C', DInv H0 H3 bx fo sz ou' C' cl B ds' → ds'.length ≤ ds.length + 1 → C' ≤ C + 1 → D.nx [some (.ref bx), c, b, some (.ref fo), some (.ref sz), some (.ref ou'), y6, y7, y8, y9', y10', y11] H3) →
        tt D [some (.ref bx), c, b, some (.ref fo), some (.ref sz), some (.ref ou), y6, y7, y8, y9, y10, y11] H2 := by
  have CO : Cal P w K mg base "_law_of" 2 ["_law_box_here", "_law_goods_so"] spOf := ok_of T
  have nd := scDeeds.nd
  refine ⟨_, pss_one (ps_if (pt_cmpR (op_neD hr.units) (pv 5) (pe_lst pa_nil) (nomark _))
    (pss_cons (ps_set (i := 9) nd rfl (.inr rfl) (pe_cal CO hr (by rfl) (pa_cons (pv 0) (pa_cons (pv 5) pa_nil))))
    (pss_cons (ps_setLc (i := 5) (own := [("_law_k", 10)]) (g := gName 10) (tt := tTest (tOp rNe (tVar 10) (tVar 9))) rfl nd rfl rfl (sw_true rfl rfl rfl (by decide +kernel)) (pi_list (pv 5)) (blkOk_by (N := dsN) (sc := (gdef "_law_deeds" 53).scope) (by decide +kernel))
        (fun _ _ _ _ _ => pg_name (i := 10) nd rfl (Or.inl rfl)) (fun _ _ _ _ _ => pts_one (pt_cmpR op_ne (pv 10) (pv 9) (nomark _))) (fun _ _ _ _ _ => pv 10))
    (pss_one (ps_expr (pe_bm PySem.F.plainAttrs_list PySem.F.slot_list_append PySem.F.type_list_append mt_append (pv 3) (pa_cons (pe_tup (pa_cons pe_str (pa_cons (pv 9) pa_nil))) pa_nil)))))) pss_nil), ?_⟩
  intro D c b y6 y7 y8 y9 y10 y11 bx fo sz ou C cl B ds H0 H2 I F hB hlen hC k
  have I0 := I
  obtain ⟨row, box, ⟨fs, efo, pfo⟩, esz, eou, ⟨g1, g2, g3, g4, g5, g6⟩, ⟨h1, h2, h3⟩, bt⟩ := I
  have R := Row.inv F hB row
  have hsz : (runF ds).sizes.length ≤ 100 := by
    rw [← asksOf_eq]
    exact Nat.le_trans (asksOf_le ds) hlen
  have hou : (runF ds).outs.length ≤ 100 := by
    have h3 : (runF ds).outs.length ≤ (List.range (runF ds).sizes.length).length := R.nd.length_le_of_subset fun k hk => List.mem_range.mpr (R.lt k hk)
    rw [List.length_range] at h3
    omega
  refine ⟨_, rfl, Nat.zero_le _, fun l nl => ?_⟩
  have s1 : Same H2 (upd H2 l (.lst [])) := Same.new nl
  have eou' := eou
  rw [iV_eq] at eou'
  refine ⟨dLI ((runF ds).outs.map fun (k : Nat) => (k : Int)), dLI [], dp_LI (s1 _ _ eou'), .lst (SqL.of upd_same) .nil, sh_dLI _, sh_dLI _, _, rfl, ?_⟩
  rw [eqv_LI]
  have I1 := I0.same s1
  generalize upd H2 l (.lst []) = H3 at s1 I1 ⊢
  by_cases ho : (runF ds).outs = []
  · rw [decide_eq_true (by rw [ho]; rfl)]
    exact iteF (k H3 ou y9 y10 ds C I1 (by omega) (by omega))
  · rw [decide_eq_false (fun z => ho (List.map_eq_nil_iff.mp z))]
    refine iteT ?_
    have eou3 := s1 _ _ eou
    refine ⟨_, rfl, _, rfl, bx, ou, C, iV (runF ds).outs, rfl, I1.box, hC, eou3, g3, by unfold iV; rw [List.length_map]; exact List.length_pos_iff.mpr ho, by unfold iV; rw [List.length_map]; omega, fun i y C' H4 hy hC' box4 bt4 ki4 => ?_⟩
    have I4 := I1.draw box4 bt4 ki4
    obtain ⟨n, hn, rfl⟩ : ∃ n : Nat, (runF ds).outs[i]? = some n ∧ y = V.int (n : Int) := by
      unfold iV at hy
      rw [List.getElem?_map] at hy
      cases e : (runF ds).outs[i]? with
      | none =>
        rw [e] at hy
        cases hy
      | some n =>
        rw [e] at hy
        exact ⟨n, rfl, (Option.some.inj hy).symm⟩
    have hmem : n ∈ (runF ds).outs := List.mem_of_getElem? hn
    refine ⟨_, rfl, ou, rfl, ⟨_, SqL.of I4.hou⟩, fun Dl nD => ?_⟩
    have nD0 : H0 Dl = none := by
      cases e : H0 Dl with
      | none => rfl
      | some o =>
        by_cases hx : Dl = bx
        · obtain ⟨a1, a2, a3, _⟩ := box4
          rw [hx, a3] at nD
          cases nD
        · have z := I4.bt _ _ e (by simp [hx])
          rw [nD] at z
          cases z
    refine lc_list (K := K) (a := ou) (xs := iV (runF ds).outs) (fun j Hj => Same H4 Hj ∧ Hj Dl = some (.lst (iV (((runF ds).outs.take j).filter fun x => decide (x ≠ n))))) ⟨Same.new nD, upd_same⟩ (fun j Hj _ q => SqL.of (q.1 _ _ I4.hou)) ?_ ?_
    · rintro j x Hj hx ⟨sj, eD⟩
      obtain ⟨m, hm, rfl⟩ : ∃ m : Nat, (runF ds).outs[j]? = some m ∧ x = V.int (m : Int) := by
        unfold iV at hx
        rw [List.getElem?_map] at hx
        cases e : (runF ds).outs[j]? with
        | none =>
          rw [e] at hx
          cases hx
        | some m =>
          rw [e] at hx
          exact ⟨m, rfl, (Option.some.inj hx).symm⟩
      have et : ((runF ds).outs.take (j + 1)).filter (fun x => decide (x ≠ n)) = (((runF ds).outs.take j).filter fun x => decide (x ≠ n)) ++ (if m = n then [] else [m]) := by
        rw [List.take_add_one, hm, List.filter_append]
        congr 1
        show List.filter _ [m] = _
        rw [List.filter_cons]
        by_cases q : m = n
        · rw [if_neg (by simp [q]), if_pos q]
          rfl
        · rw [if_pos (by simp [q]), if_neg q]
          rfl
      refine ⟨rfl, _, rfl, _, rfl, rfl, _, rfl, ite2 (fun q => ?_) (fun q => ?_)⟩
      · have q1 : ¬ m = n := fun z => by
          rw [z] at q
          simp at q
        rw [if_neg q1] at et
        refine ⟨_, rfl, _, eD, ?_, sj.put nD, ?_⟩
        · unfold iV
          rw [List.length_map]
          have := List.length_filter_le (fun x => decide (x ≠ n)) ((runF ds).outs.take j)
          rw [List.length_take] at this
          exact small (by omega)
        · rw [upd_same, et]
          unfold iV
          rw [List.map_append]
          rfl
      · have q1 : m = n := by
          by_cases z : m = n
          · exact z
          · exact absurd (by simp; omega) q
        rw [if_pos q1, List.append_nil] at et
        rw [et]
        exact ⟨sj, eD⟩
    · rintro Hj ⟨sj, eD⟩
      have ell : (iV (runF ds).outs).length = (runF ds).outs.length := by
        unfold iV
        rw [List.length_map]
      rw [ell, List.take_length] at eD
      have I5 := I4.same sj
      obtain ⟨_, box5, ⟨fs5, efo5, pfo5⟩, esz5, _, _, _, bt5⟩ := I5
      have nf : fo ≠ Dl := ne_of_none (I4.hfo.choose_spec.1) nD
      have ns : sz ≠ Dl := ne_of_none I4.hsz nD
      have nb : Dl ≠ bx := fun z => by
        obtain ⟨a1, a2, a3, _⟩ := box4
        rw [z, a3] at nD
        cases nD
      refine ⟨_, rfl, .inl ⟨rfl, _, SqL.of efo5⟩, _, rfl, by show 2 ≤ sizeLine; decide, fun t nt => ?_⟩
      have s6 : Same Hj (upd Hj t (.tup [.str "back", .int (n : Int)])) := Same.new nt
      refine ⟨fo, _, _, rfl, rfl, s6 _ _ efo5, small (by rw [paired_len pfo5]; omega), ?_⟩
      have efo6 := s6 _ _ efo5
      have et6 : (upd Hj t (.tup [.str "back", .int (n : Int)])) t = some (.tup [.str "back", .int (n : Int)]) := upd_same
      have bt6 := bt5.trans (But.of s6)
      generalize upd Hj t (.tup [.str "back", .int (n : Int)]) = H6 at s6 efo6 et6 bt6 ⊢
      have fr7 : ∀ x o, H6 x = some o → x ≠ fo → (upd H6 fo (.lst (fs5 ++ [.ref t]))) x = some o := fun x o e hx => by
        rw [upd_ne hx]
        exact e
      have ki7 : KI H6 (upd H6 fo (.lst (fs5 ++ [.ref t]))) := KI.put efo6 rfl
      have KK : KI Hj (upd H6 fo (.lst (fs5 ++ [.ref t]))) := (KI.of s6).trans ki7
      have es := runF_back ds n
      refine k _ Dl _ _ (ds ++ [(false, (n : Int))]) C' ⟨.back row hmem, ?_, ⟨fs5 ++ [.ref t], upd_same, paired_snoc (Paired.mapP pfo5 fun _ _ => IsD.keep KK.tk) ⟨t, rfl, ki7 _ _ et6 rfl⟩⟩, ?_, ?_, ⟨g1, g2, nb, g4, nf, ns⟩, ⟨h1, h2, nD0⟩, fun x o e hx => fr7 x o (bt6 x o e hx) (ne_of_none e h1)⟩ (by rw [List.length_append]; exact Nat.le_refl _) hC'
      · obtain ⟨a1, a2, a3, a4⟩ := box5
        exact ⟨a1, a2, fr7 _ _ (s6 _ _ a3) (Ne.symm g1), a4⟩
      · rw [es]
        exact fr7 _ _ (s6 _ _ esz5) (Ne.symm g4)
      · rw [es]
        exact fr7 _ _ (s6 _ _ eD) (Ne.symm nf)
end
/-! ### the whole -/
def spDs : Sp := fun vs H Q _ => ∃ (x : Addr) (c : V) (ch : List Int) (B C : Int), vs = [.ref x, c, .int B] ∧ IsCn H c ch ∧ CB ch B ∧ Box H x C ∧ C < 100000 ∧ ∀ v ds C' H', Row (clOf ch B) B ds → ds.length ≤ 24 → IsRow H' v ds → Box H' x C' → C' ≤ C + 48 → But [x] H H' → KI H H' → Q v H'
theorem ok_lds (T : TX K mg) : Cal P w K mg base "_law_deeds" 3 ["_law_box_here", "_law_chain_so", "_law_budget_so"] spDs := by
  refine T.ok (d := gdef "_law_deeds" 53) 29 rfl (j := 55) rfl rfl rfl rfl scDeeds (fun vs H Q E h => ?_) (fun _ _ _ _ _ _ us hl => match us, hl with | [_, _, _], _ => rfl) fun f cdv A outer s H vs Q E hr h => ?_
  · obtain ⟨_, _, _, _, _, rfl, _⟩ := h
    rfl
  obtain ⟨bx, c, ch, B, C, rfl, hc, cb, box, hC, k⟩ := h
  have hsum : mg "sum" = none := T.free 9
  have hrng : mg "range" = none := T.free 13
  have htup : mg "tuple" = none := T.free 5
  have CT : Cal P w K mg base "_law_take" 1 ["_law_box_here", "_law_top_so"] spTake := ok_take T
  obtain ⟨tA, askD, askR⟩ := ds_ask (P := P) (w := w) (base := base) T (outer := outer) (H := H) (E := E) hr
  obtain ⟨tB, backD, backR⟩ := ds_back (P := P) (w := w) (base := base) T (outer := outer) (H := H) (E := E) hr
  have nd := scDeeds.nd
  refine ⟨_, pss_cons (ps_asg (pe_tup (pa_cons (pe_lst pa_nil) (pa_cons (pe_lst pa_nil) (pa_cons (pe_lst pa_nil) pa_nil)))) (pg_tup rfl (pgs_cons (pg_name (i := 3) nd rfl (.inl rfl)) (pgs_cons (pg_name (i := 4) nd rfl (.inr rfl)) (pgs_cons (pg_name (i := 5) nd rfl (.inl rfl)) pgs_nil)))))
    (pss_cons (ps_for PassesOwn.never rfl (pi_range1 (by rfl) hrng (pa_cons pe_int pa_nil)) (pg_name (i := 6) nd rfl (.inl rfl))
      (pss_cons (ps_set (i := 7) nd rfl (.inr rfl) (pe_callB (cr_sum rfl) (by rfl) hsum (by decide +kernel) (pa_cons (pe_lc (own := [("_law_k", 10)]) (g := gName 10) (tt := tYes) (te := tOp (rIxL K) (tVar 4) (tVar 10)) rfl nd (pi_list (pv 5)) (blkOk_by (N := dsN) (sc := (gdef "_law_deeds" 53).scope) (by decide +kernel))
          (fun _ _ _ _ _ => pg_name (i := 10) nd rfl (Or.inl rfl)) (fun _ _ _ _ _ => pts_nil) (fun _ _ _ _ _ => pe_ix ix_list (pv 4) (pv 10) (fun _ _ => rfl))) pa_nil)))
      (pss_cons (ps_setLc (i := 8) (own := [("_law_own", 11)]) (g := gName 11) (tt := tTest (tOp (rI0 fun i j => .bl (decide (i ≤ j))) (tOp (rI0 fun i j => .int (i + j)) (tVar 7) (tVar 11)) (tVar 2))) rfl nd rfl rfl (sw_true rfl rfl rfl (by decide +kernel)) (pi_tup (pv 1)) (blkOk_by (N := dsN) (sc := (gdef "_law_deeds" 53).scope) (by decide +kernel))
          (fun _ _ _ _ _ => pg_name (i := 11) nd rfl (Or.inl rfl)) (fun _ _ _ _ _ => pts_one (pt_cmpR op_le (pe_op op_add (pv 7) (pv 11)) (pv 2) (nomark _))) (fun _ _ _ _ _ => pv 11))
      (pss_one (ps_if (PW.pt (pw_and (pt_cmpR (op_neD hr.units) (pv 8) (pe_lst pa_nil) (nomark _)) (pw_and1 (PW.pt (pw_or (pt_cmpR op_gt (pe_cal CT (hr.mono (by decide)) (by rfl) (pa_cons (pv 0) (pa_cons pe_int pa_nil))) pe_int (nomark _)) (pw_or1 (pt_cmpR (op_eqD hr.units) (pv 5) (pe_lst pa_nil) (nomark _)))))))) askD backD)))))
    (pss_one (ps_ret (pe_callTy call_tuple_of (by rfl) htup (by decide +kernel) (pa_cons (pv 3) pa_nil))))), ?_⟩
  refine ⟨Nat.zero_le _, fun fo nfo => ⟨Nat.zero_le _, fun sz nsz => ⟨Nat.zero_le _, fun ou nou => ⟨by show 3 ≤ sizeLine; decide, fun t nt => ?_⟩⟩⟩⟩
  have s1 : Same H (upd H fo (.lst [])) := Same.new nfo
  have s2 : Same (upd H fo (.lst [])) (upd (upd H fo (.lst [])) sz (.lst [])) := Same.new nsz
  have s3 : Same (upd (upd H fo (.lst [])) sz (.lst [])) (upd (upd (upd H fo (.lst [])) sz (.lst [])) ou (.lst [])) := Same.new nou
  have nsz0 := s1.free nsz
  have nou0 := (s1.trans s2).free nou
  have f1 : fo ≠ sz := ne_of_none upd_same nsz
  have f2 : fo ≠ ou := ne_of_none (s2 _ _ upd_same) nou
  have f3 : sz ≠ ou := ne_of_none upd_same nou
  have efo3 := s3 _ _ (s2 _ _ (show (upd H fo (.lst [])) fo = some (.lst []) from upd_same))
  have esz3 := s3 _ _ (show (upd (upd H fo (.lst [])) sz (.lst [])) sz = some (.lst []) from upd_same)
  have eou3 : (upd (upd (upd H fo (.lst [])) sz (.lst [])) ou (.lst [])) ou = some (.lst []) := upd_same
  have S3 := s1.trans (s2.trans s3)
  have s4 := Same.new (o := .tup [.ref fo, .ref sz, .ref ou]) nt
  refine ⟨t, _, rfl, SqT.of upd_same, rfl, _, _, rfl, _, _, rfl, _, _, rfl, rfl, ?_⟩
  have S4 := S3.trans s4
  have hxb : ∃ o, H bx = some o := let ⟨_, _, e, _⟩ := box; ⟨_, e⟩
  obtain ⟨ob, hxb⟩ := hxb
  have I0 : DInv H (upd (upd (upd (upd H fo (.lst [])) sz (.lst [])) ou (.lst [])) t (.tup [.ref fo, .ref sz, .ref ou])) bx fo sz ou C (clOf ch B) B [] :=
    ⟨.nil, (let ⟨a, b, e, r⟩ := box; ⟨a, b, S4 _ _ e, r⟩), ⟨[], s4 _ _ efo3, .nil⟩, s4 _ _ esz3, s4 _ _ eou3, ⟨Ne.symm (ne_of_none hxb nfo), Ne.symm (ne_of_none hxb nsz0), Ne.symm (ne_of_none hxb nou0), f1, f2, f3⟩, ⟨nfo, nsz0, nou0⟩, But.of S4⟩
  generalize upd (upd (upd (upd H fo (.lst [])) sz (.lst [])) ou (.lst [])) t (.tup [.ref fo, .ref sz, .ref ou]) = H4 at I0 ⊢
  have kiOf : ∀ {X : Hp}, But [bx] H X → KI H X := fun b => b.ki fun y hy => by
    rw [List.mem_singleton] at hy
    rw [hy]
    obtain ⟨_, _, e, _⟩ := box
    exact ⟨_, e, rfl⟩
  refine ⟨24, rfl, by decide, by decide, for_range (n := 24) (fun i σ H' => ∃ (y6 y7 y8 y9 y10 y11 : Option V) (ou' : Addr) (ds : List Deed) (C' : Int), σ = [some (.ref bx), some c, some (.int B), some (.ref fo), some (.ref sz), some (.ref ou'), y6, y7, y8, y9, y10, y11] ∧ DInv H H' bx fo sz ou' C' (clOf ch B) B ds ∧ ds.length ≤ i ∧ C' ≤ C + 2 * i) ⟨none, none, none, none, none, none, ou, [], C, rfl, I0, Nat.le_refl _, by omega⟩ ?_ ?_⟩
  · rintro i σ H' hi ⟨y6, y7, y8, y9, y10, y11, ou', ds, C', rfl, I, hlen, hC'⟩
    have R := Row.inv cb.fine cb.ok.nn I.row
    have hsz : (runF ds).sizes.length ≤ 100 := by
      rw [← asksOf_eq]
      exact Nat.le_trans (asksOf_le ds) (by omega)
    have hou : (runF ds).outs.length ≤ 100 := by
      have h3 : (runF ds).outs.length ≤ (List.range (runF ds).sizes.length).length := R.nd.length_le_of_subset fun k hk => List.mem_range.mpr (R.lt k hk)
      rw [List.length_range] at h3
      omega
    -- live
    refine ⟨_, rfl, ou', rfl, ⟨_, SqL.of I.hou⟩, fun D1 nD1 => ?_⟩
    refine lc_list (K := K) (a := ou') (xs := iV (runF ds).outs) (fun j Hj => Same H' Hj ∧ Hj D1 = some (.lst ((((runF ds).outs.take j).map fun k => (runF ds).sizes.getD k 0).map V.int))) ⟨Same.new nD1, by rw [upd_same]; rfl⟩ (fun j Hj _ q => SqL.of (q.1 _ _ I.hou)) ?_ ?_
    · rintro j x Hj hx ⟨sj, eD⟩
      obtain ⟨m, hm, rfl⟩ : ∃ m : Nat, (runF ds).outs[j]? = some m ∧ x = V.int (m : Int) := by
        unfold iV at hx
        rw [List.getElem?_map] at hx
        cases e : (runF ds).outs[j]? with
        | none =>
          rw [e] at hx
          cases hx
        | some m =>
          rw [e] at hx
          exact ⟨m, rfl, (Option.some.inj hx).symm⟩
      have hlt := R.lt m (List.mem_of_getElem? hm)
      have hz : (runF ds).sizes[m]? = some ((runF ds).sizes.getD m 0) := by
        rw [List.getD_eq_getElem?_getD, List.getElem?_eq_getElem hlt]
        rfl
      refine ⟨rfl, _, rfl, _, rfl, sz, _, (m : Int), .int ((runF ds).sizes.getD m 0), rfl, rfl, SqL.of (sj _ _ I.hsz), atI_nat (by rw [List.getElem?_map, hz]; rfl), _, eD, ?_, sj.put nD1, ?_⟩
      · rw [List.length_map, List.length_map, List.length_take]
        exact small (by omega)
      · rw [upd_same, List.take_add_one, hm, List.map_append, List.map_append]
        rfl
    rintro H1 ⟨sm1, eD1⟩
    have ell : (iV (runF ds).outs).length = (runF ds).outs.length := by
      unfold iV
      rw [List.length_map]
    rw [ell, List.take_length] at eD1
    refine ⟨D1, _, rfl, SqL.of eD1, ?_⟩
    rw [live_outs R]
    have I1 := I.same sm1
    -- able
    obtain ⟨tc, rfl, htc⟩ := hc
    have htc1 : Rd H1 tc (.tup (ch.map V.int)) := rd_ki (kiOf I1.bt) htc
    refine ⟨_, rfl, tc, rfl, ⟨_, sqT_rd htc1⟩, fun D2 nD2 => ?_⟩
    refine lc_tup (K := K) (a := tc) (xs := ch.map V.int) (fun j Hj => Same H1 Hj ∧ Hj D2 = some (.lst (((ch.take j).filter fun n => decide (live (runF ds).here + n ≤ B)).map V.int))) ⟨Same.new nD2, by rw [upd_same]; rfl⟩ (fun j Hj _ q => sqT_rd (rd_same (q.1 _) htc1)) ?_ ?_
    · rintro j x Hj hx ⟨sj, eD⟩
      obtain ⟨n, hn, rfl⟩ := get_int hx
      have et : (ch.take (j + 1)).filter (fun n => decide (live (runF ds).here + n ≤ B)) = ((ch.take j).filter fun n => decide (live (runF ds).here + n ≤ B)) ++ (if live (runF ds).here + n ≤ B then [n] else []) := by
        rw [List.take_add_one, hn, List.filter_append]
        congr 1
        show List.filter _ [n] = _
        rw [List.filter_cons]
        by_cases q : live (runF ds).here + n ≤ B
        · rw [if_pos (by simp [q]), if_pos q]
          rfl
        · rw [if_neg (by simp; omega), if_neg q]
          rfl
      refine ⟨rfl, _, rfl, _, rfl, _, _, rfl, rfl, _, rfl, _, _, rfl, rfl, _, rfl, ite2 (fun q => ?_) (fun q => ?_)⟩
      · rw [if_pos (of_decide_eq_true q)] at et
        refine ⟨_, rfl, _, eD, ?_, sj.put nD2, ?_⟩
        · rw [List.length_map]
          have := List.length_filter_le (fun n => decide (live (runF ds).here + n ≤ B)) (ch.take j)
          rw [List.length_take] at this
          have := cb.ok.len
          exact small (by omega)
        · rw [upd_same, et, List.map_append]
          rfl
      · rw [if_neg (fun z => q (decide_eq_true z)), List.append_nil] at et
        rw [et]
        exact ⟨sj, eD⟩
    rintro H2 ⟨sm2, eD2⟩
    rw [List.length_map, List.take_length] at eD2
    have I2 := I1.same sm2
    have hab : ∀ n ∈ ch.filter (fun n => decide (live (runF ds).here + n ≤ B)), (∃ l, (n, l) ∈ clOf ch B) ∧ live (runF ds).here + n ≤ B := by
      intro n hn
      obtain ⟨h1, h2⟩ := List.mem_filter.mp hn
      refine ⟨?_, of_decide_eq_true h2⟩
      obtain ⟨j, hj⟩ := List.getElem?_of_mem h1
      obtain ⟨hjl, _⟩ := List.getElem?_eq_some_iff.mp hj
      have hj2 : j < (linesOf ch B).length := by
        rw [cb.len]
        exact hjl
      refine ⟨(linesOf ch B)[j], List.mem_of_getElem? (i := j) ?_⟩
      unfold clOf
      rw [List.getElem?_zip_eq_some]
      exact ⟨hj, List.getElem?_eq_getElem hj2⟩
    have hal : (ch.filter (fun n => decide (live (runF ds).here + n ≤ B))).length ≤ 1000 := by
      have := List.length_filter_le (fun n => decide (live (runF ds).here + n ≤ B)) ch
      have := cb.ok.len
      omega
    generalize ch.filter (fun n => decide (live (runF ds).here + n ≤ B)) = as at eD2 hab hal
    -- the test
    have m1 : D2 ≠ bx := by
      obtain ⟨_, _, e, _⟩ := I1.box
      exact Ne.symm (ne_of_none e nD2)
    have m2 : D2 ≠ ou' := Ne.symm (ne_of_none I1.hou nD2)
    have m3 : D2 ≠ sz := Ne.symm (ne_of_none I1.hsz nD2)
    have m4 : D2 ≠ fo := by
      obtain ⟨_, e, _⟩ := I1.hfo
      exact Ne.symm (ne_of_none e nD2)
    refine ⟨_, rfl, Nat.zero_le _, fun l1 n1 => ?_⟩
    have s5 : Same H2 (upd H2 l1 (.lst [])) := Same.new n1
    refine ⟨dLI as, dLI [], dp_LI (s5 _ _ eD2), .lst (SqL.of upd_same) .nil, sh_dLI _, sh_dLI _, _, rfl, ?_⟩
    rw [eqv_LI]
    have I5 := I2.same s5
    have eD5 := s5 _ _ eD2
    generalize upd H2 l1 (.lst []) = H5 at s5 I5 eD5 ⊢
    by_cases has : as = []
    · rw [decide_eq_true has]
      refine iteF (iteF ?_)
      exact backR _ _ _ _ _ _ _ _ _ bx fo sz ou' C' (clOf ch B) B ds H H5 I5 cb.fine cb.ok.nn (by omega) (by omega) fun H7 ou2 z9 z10 ds2 C2 I7 h7 c7 => ⟨_, _, _, _, _, _, ou2, ds2, C2, rfl, I7, by omega, by omega⟩
    · rw [decide_eq_false has]
      refine iteT ?_
      refine ⟨_, rfl, bx, 5, C', rfl, I5.box, by omega, by decide, by decide, fun d C6 H6 d0 d1 c6 b6 bt6 ki6 => ?_⟩
      have I6 := I5.draw b6 bt6 ki6
      have eD6 := bt6 _ _ eD5 (by simp [m1])
      refine ⟨_, _, rfl, rfl, _, rfl, ite2 (fun q => ?_) (fun q => ?_)⟩
      · refine iteT ?_
        exact askR _ _ _ _ _ _ _ _ bx fo sz ou' D2 C6 (clOf ch B) B ds as H H6 I6 cb.fine cb.ok.nn (by omega) (by omega) eD6 m1 m2 m3 m4 has hal hab fun H7 n C7 I7 c7 => ⟨_, _, _, _, _, _, ou', _, C7, rfl, I7, by rw [List.length_append]; exact Nat.succ_le_succ hlen, by omega⟩
      · refine ⟨_, rfl, Nat.zero_le _, fun l2 n2 => ?_⟩
        have s7 : Same H6 (upd H6 l2 (.lst [])) := Same.new n2
        have eo := I6.hou
        rw [iV_eq] at eo
        refine ⟨dLI ((runF ds).outs.map fun (k : Nat) => (k : Int)), dLI [], dp_LI (s7 _ _ eo), .lst (SqL.of upd_same) .nil, sh_dLI _, sh_dLI _, _, rfl, ?_⟩
        rw [eqv_LI]
        have I7 := I6.same s7
        have eD7 := s7 _ _ eD6
        generalize upd H6 l2 (.lst []) = H7 at s7 I7 eD7 ⊢
        refine ite2 (fun _ => ?_) (fun _ => ?_)
        · exact askR _ _ _ _ _ _ _ _ bx fo sz ou' D2 C6 (clOf ch B) B ds as H H7 I7 cb.fine cb.ok.nn (by omega) (by omega) eD7 m1 m2 m3 m4 has hal hab fun H8 n C8 I8 c8 => ⟨_, _, _, _, _, _, ou', _, C8, rfl, I8, by rw [List.length_append]; exact Nat.succ_le_succ hlen, by omega⟩
        · exact backR _ _ _ _ _ _ _ _ _ bx fo sz ou' C6 (clOf ch B) B ds H H7 I7 cb.fine cb.ok.nn (by omega) (by omega) fun H8 ou2 z9 z10 ds2 C2 I8 h8 c8 => ⟨_, _, _, _, _, _, ou2, ds2, C2, rfl, I8, by omega, by omega⟩
  · rintro σ H' ⟨y6, y7, y8, y9, y10, y11, ou', ds, C', rfl, I, hlen, hC'⟩
    obtain ⟨fs, efo, pfo⟩ := I.hfo
    refine ⟨_, rfl, fo, _, rfl, .inl ⟨SqL.of efo, fun l nl => ?_⟩⟩
    have s5 := Same.new (o := .tup fs) nl
    have I5 := I.same s5
    exact k _ ds C' _ I.row hlen ⟨l, fs, rfl, upd_same, Paired.mapP pfo fun _ _ => IsD.keep (TK.of s5)⟩ I5.box (by omega) I5.bt (kiOf I5.bt)
end Lb
/-! _law_cells, _law_right, law. -/
namespace Lb
open PySem PySem.Spec PyProof.Rows L2
variable {P : Program} {w : World} {K : PySem.W.Frag} {mg : Str → Option Value} {base : Heap}
/-! ### _law_cells -/
theorem scCells : FnScope ["_law_script", "_law_top_so", "_law_cells_so", "_law_k", "_law_cell", "_law_at_so"] ["_law_script", "_law_top_so"] (gdef "_law_cells" 50).scope := ⟨rfl, rfl, rfl, by decide +kernel, rfl, by decide +kernel, by decide +kernel⟩
theorem cut_ints (ns : List Int) (lo hi : Option Int) : ∃ ms : List Int, cutV (ns.map V.int) lo hi = ms.map V.int := by
  unfold cutV
  rw [← List.map_drop, ← List.map_take]
  exact ⟨_, rfl⟩
theorem cut3 (ns : List Int) : cutV (ns.map V.int) none (some 3) = (ns.take 3).map V.int := by
  unfold cutV
  rw [HT.sIx_none, show HT.sIx (ns.map V.int).length (ns.map V.int).length (some 3) = min 3 (ns.map V.int).length from HT.sIx_nat _ _ 3, List.drop_zero, Nat.sub_zero, List.map_take, List.length_map]
  by_cases h : 3 ≤ ns.length
  · rw [Nat.min_eq_left h]
  · rw [Nat.min_eq_right (by omega), List.take_of_length_le (by rw [List.length_map]; exact Nat.le_refl _), List.take_of_length_le (by rw [List.length_map]; omega)]
theorem cut63 (ns : List Int) (h : ns.length ≤ 3) : cutV (ns.map V.int) (some 3) (some 63) = [] := by
  unfold cutV
  rw [show HT.sIx (ns.map V.int).length 0 (some 3) = min 3 (ns.map V.int).length from HT.sIx_nat _ _ 3, List.length_map, Nat.min_eq_right h, List.drop_eq_nil_of_le (by rw [List.length_map]; exact Nat.le_refl _)]
  exact List.take_nil
def spCells (K : PySem.W.Frag) : Sp := fun vs H Q _ => ∃ (a : Addr) (ns : List Int), vs = [.ref a, .int 3] ∧ SqL K H a (ns.map V.int) ∧ ns.length ≤ 63 ∧ ∀ (l : Addr) (ms : List Int) (H' : Hp), Same H H' → H' l = some (.lst (ms.map V.int)) → 0 < ms.length → ms.length ≤ 3 → Q (.ref l) H'
theorem sqL_same {H H' : Hp} {a : Addr} {xs : List V} (s : Same H H') (h : SqL K H a xs) : SqL K H' a xs := by
  rcases h with h | h
  · exact .inl (rd_same (s _) h)
  · exact .inr h
abbrev ceN : List Str := ["_law_script", "_law_top_so", "_law_cells_so", "_law_k", "_law_cell", "_law_at_so"]
theorem cells_tail (T : TX K mg) {f : Addr} {cdv : Value} {A : Around} {outer : List Env} {s : Shared} {H : Hp} {E : XK} (hr : Room 0 (A.deeper (envOfC (gdef "_law_cells" 50).qual (gdef "_law_cells" 50).scope s.heap.objs.size f cdv))) :
    ∃ tt, PSs (cxOf CX0 P w K mg base ceN (gdef "_law_cells" 50).qual (gdef "_law_cells" 50).scope f cdv A outer s H E).nox ((gdef "_law_cells" 50).body.drop 1) tt ∧
      ∀ (D : Ends) (y3 y4 y5 : Option V) (a l : Addr) (ns ms : List Int) (H0 H1 : Hp), SqL K H0 a (ns.map V.int) → ns.length ≤ 63 → Same H0 H1 → H0 l = none → H1 l = some (.lst (ms.map V.int)) → 0 < ms.length → ms.length ≤ 3 → (3 < ns.length → ms.length = 3) →
        (∀ (ms' : List Int) (H2 : Hp), Same H0 H2 → H2 l = some (.lst (ms'.map V.int)) → 0 < ms'.length → ms'.length ≤ 3 → D.rt (.ref l) H2) →
        tt D [some (.ref a), some (.int 3), some (.ref l), y3, y4, y5] H1 := by
  have hint : mg "int" = none := T.free 2
  have henum : mg "enumerate" = none := T.free 12
  have nd := scCells.nd
  refine ⟨_, (pss_cons (ps_for PassesOwn.never rfl (pi_enum (by rfl) henum (pa_cons (pe_slice sl_list (pv 0) (po_some (pv 1)) (po_some pe_int)) pa_nil)) (pg_tup rfl (pgs_cons (pg_name (i := 3) nd rfl (.inl rfl)) (pgs_cons (pg_name (i := 4) nd rfl (.inl rfl)) pgs_nil)))
      (pss_cons (ps_set (i := 5) nd rfl (.inl rfl) (pe_op op_mod (pe_callTy call_int1 (by rfl) hint (by decide +kernel) (pa_cons (pv 3) pa_nil)) (pv 1)))
      (pss_one (ps_asg (pe_op op_add (pe_ix ix_list (pv 2) (pv 5) (fun _ _ => rfl)) (pe_op op_mul (pv 4) (pe_op op_add (pv 3) pe_int))) (pg_sub (pv 2) (pv 5) set_list)))))
    (pss_one (ps_ret (pv 2)))), ?_⟩
  intro D y3 y4 y5 a l ns ms H0 H1 hq hlen s1 nl0 hl h1 h2 h3 k
  obtain ⟨ms2, hcut⟩ := cut_ints ns (some 3) (some 63)
  refine ⟨_, rfl, _, rfl, 3, rfl, 63, rfl, a, _, rfl, sqL_same s1 hq, fun p np => ?_⟩
  rw [hcut]
  have hlong : 0 < ms2.length → 3 < ns.length := fun h => by
    by_cases q : ns.length ≤ 3
    · rw [cut63 ns q] at hcut
      have e := congrArg List.length hcut
      rw [List.length_map] at e
      simp at e
      omega
    · omega
  have hm2 : ms2.length ≤ 63 := by
    have e := congrArg List.length hcut
    have e2 := cutV_length (ns.map V.int) (some 3) (some 63)
    rw [e, List.length_map, List.length_map] at e2
    omega
  have s2 : Same H1 (upd H1 p (.lst (ms2.map V.int))) := Same.new np
  have np0 := s1.free np
  refine ⟨p, _, rfl, SqL.of upd_same, ?_⟩
  have nlp : l ≠ p := ne_of_none hl np
  refine for_it (walk_enum (xs := ms2.map V.int)) (fun i σ H' => ∃ (y3 y4 y5 : Option V) (ms' : List Int), σ = [some (.ref a), some (.int 3), some (.ref l), y3, y4, y5] ∧ Same H0 H' ∧ H' p = some (.lst (ms2.map V.int)) ∧ H' l = some (.lst (ms'.map V.int)) ∧ ms'.length = ms.length) ⟨y3, y4, y5, ms, rfl, s1.trans s2, upd_same, s2 _ _ hl, rfl⟩ (fun i σ H' _ ⟨_, _, _, _, _, _, q, _⟩ => SqL.of q) ?_ ?_
  · rintro i v σ H' H'' hi ⟨z3, z4, z5, ms', rfl, sm, ep, el, hm⟩ ⟨T1, x, y, rfl, n1, rfl, hx, hy⟩
    rw [List.length_map] at hi
    cases hx
    obtain ⟨n, hn, rfl⟩ := get_int hy
    have s3 : Same H' (upd H' T1 (.tup [.int (i : Nat), .int n])) := Same.new n1
    have el3 := s3 _ _ el
    have ep3 := s3 _ _ ep
    refine ⟨T1, _, rfl, SqT.of upd_same, rfl, _, _, rfl, _, _, rfl, rfl, ?_⟩
    refine ⟨_, rfl, .inl ⟨_, rfl, _, rfl, _, _, rfl, rfl, (show (0 : Int) < 3 by decide), ?_⟩⟩
    have hms : ms'.length = 3 := by
      rw [hm]
      exact h3 (hlong (by omega))
    have hat : ((i : Int) % 3) = ((i % 3 : Nat) : Int) := by omega
    have hlt : i % 3 < ms'.length := by
      rw [hms]
      exact Nat.mod_lt _ (by decide)
    have hg : ms'[i % 3]? = some ms'[i % 3] := List.getElem?_eq_getElem hlt
    dsimp only
    rw [hat]
    refine ⟨_, rfl, _, rfl, l, _, _, .int ms'[i % 3], rfl, rfl, SqL.of el3, atI_nat (by rw [List.getElem?_map, hg]; rfl), _, rfl, _, rfl, _, _, rfl, rfl, _, _, rfl, rfl, .inr ⟨by omega, by omega⟩, _, _, rfl, rfl, ?_⟩
    refine ⟨_, rfl, _, rfl, l, _, _, i % 3, rfl, rfl, el3, ?_, ?_⟩
    · rw [List.length_map]
      unfold ixN
      rw [if_pos (by omega), if_pos (by omega), Int.toNat_natCast]
    · refine ⟨_, _, _, ms'.set (i % 3) (ms'[i % 3] + n * ((i : Int) + 2)), rfl, (sm.trans s3).put nl0, ?_, ?_, ?_⟩
      · rw [upd_ne (Ne.symm nlp)]
        exact ep3
      · rw [upd_same, List.map_set]
      · rw [List.length_set]
        exact hm
  · rintro σ H' ⟨z3, z4, z5, ms', rfl, sm, ep, el, hm⟩
    exact ⟨_, rfl, k ms' H' sm el (by omega) (by omega)⟩
theorem ok_cells (T : TX K mg) : Cal P w K mg base "_law_cells" 1 ["_law_script", "_law_top_so"] (spCells K) := by
  refine T.ok (d := gdef "_law_cells" 50) 26 rfl (j := 52) rfl rfl rfl rfl scCells (fun vs H Q E h => ?_) (fun _ _ _ _ _ _ us hl => match us, hl with | [_, _], _ => rfl) fun f cdv A outer s H vs Q E hr h => ?_
  · obtain ⟨_, _, rfl, _⟩ := h
    rfl
  obtain ⟨a, ns, rfl, hq, hlen, k⟩ := h
  have hlst : mg "list" = none := T.free 4
  have nd := scCells.nd
  obtain ⟨tt, tD, tR⟩ := cells_tail (P := P) (w := w) (base := base) T (outer := outer) (H := H) (E := E) hr
  refine ⟨_, pss_cons (ps_set (i := 2) nd rfl (.inl rfl) (pe_orT (pe_callTy call_list_of (by rfl) hlst (by decide +kernel) (pa_cons (pe_slice sl_list (pv 0) po_none (po_some (pv 1))) pa_nil)) (pe_one (pe_lst (pa_cons pe_int pa_nil))))) tD, ?_⟩
  refine ⟨_, rfl, _, rfl, 3, rfl, a, _, rfl, hq, fun p np => ⟨p, _, rfl, .inl (SqL.of upd_same), fun l nl => ?_⟩⟩
  rw [cut3] at nl ⊢
  have s1 : Same H (upd H p (.lst ((ns.take 3).map V.int))) := Same.new np
  have s2 : Same (upd H p (.lst ((ns.take 3).map V.int))) (upd (upd H p (.lst ((ns.take 3).map V.int))) l (.lst ((ns.take 3).map V.int))) := Same.new nl
  have nl0 := s1.free nl
  refine ⟨!((ns.take 3).map V.int).isEmpty, .inl ⟨_, SqL.of upd_same, rfl⟩, ?_⟩
  by_cases he : ns.take 3 = []
  · rw [he]
    rw [he] at s1 s2
    have s12 := s1.trans s2
    refine iteF ⟨by show 1 ≤ sizeLine; decide, fun l2 nl2 => ?_⟩
    have s3 := Same.new (o := .lst [.int 0]) nl2
    refine tR _ _ _ _ a l2 ns [0] H _ hq hlen (s12.trans s3) (s12.free nl2) upd_same (by decide) (by decide) (fun h => ?_) fun ms' H2 sm el h1 h2 => k l2 ms' H2 sm el h1 h2
    exfalso
    have e := congrArg List.length he
    rw [List.length_take, List.length_nil] at e
    omega
  · have hb : (!((ns.take 3).map V.int).isEmpty) = true := by
      cases e : ns.take 3 with
      | nil => exact absurd e he
      | cons _ _ => rfl
    rw [hb]
    refine iteT ?_
    refine tR _ _ _ _ a l ns (ns.take 3) H _ hq hlen (s1.trans s2) nl0 upd_same (List.length_pos_iff.mpr he) (by rw [List.length_take]; omega) (fun h => by rw [List.length_take]; omega) fun ms' H2 sm el h1 h2 => k l ms' H2 sm el h1 h2
/-! ### _law_right -/
def menu : List (List Int) := [[1], [1, 2], [1, 3], [1, 4], [1, 2, 4], [1, 2, 6], [1, 2, 4, 8], [1, 4, 16]]
theorem menu_ok : (menu.all fun ch => cbOk ch (unitOf ch * (1 + 0)) && cbOk ch (unitOf ch * (1 + 1))) = true := by decide +kernel
theorem menu_cb {ch : List Int} (h : ch ∈ menu) {d : Int} (d0 : 0 ≤ d) (d1 : d < 2) : CB ch (unitOf ch * (1 + d)) := by
  have z := List.all_eq_true.mp menu_ok ch h
  rw [Bool.and_eq_true] at z
  rcases (show d = 0 ∨ d = 1 by omega) with rfl | rfl
  · exact cb_of z.1
  · exact cb_of z.2
def spRight : Sp := fun vs H Q _ => ∃ (x : Addr) (C : Int), vs = [.ref x] ∧ Box H x C ∧ C < 90000 ∧ ∀ C' H', Box H' x C' → C' ≤ C + 50 → But [x] H H' → Q (.bl true) H'
theorem ok_right (T : TX K mg) : Cal P w K mg base "_law_right" 8 ["_law_box_here"] spRight := by
  have sc : FnScope ["_law_box_here", "_law_chain_so", "_law_budget_so"] ["_law_box_here"] (gdef "_law_right" 59).scope := ⟨rfl, rfl, rfl, by decide +kernel, rfl, by decide +kernel, by decide +kernel⟩
  refine T.ok (d := gdef "_law_right" 59) 35 rfl (j := 61) rfl rfl rfl rfl sc (fun vs H Q E h => ?_) (fun _ _ _ _ _ _ us hl => match us, hl with | [_], _ => rfl) fun f cdv A outer s H vs Q E hr h => ?_
  · obtain ⟨_, _, rfl, _⟩ := h
    rfl
  obtain ⟨x, C, rfl, box, hC, k⟩ := h
  have CO : Cal P w K mg base "_law_of" 2 ["_law_box_here", "_law_goods_so"] spOf := ok_of T
  have CT : Cal P w K mg base "_law_take" 1 ["_law_box_here", "_law_top_so"] spTake := ok_take T
  have CU : Cal P w K mg base "unit" 2 ["chain"] spUnit := ok_unit T
  have CD : Cal P w K mg base "_law_deeds" 3 ["_law_box_here", "_law_chain_so", "_law_budget_so"] spDs := ok_lds T
  have CC : Cal P w K mg base "_law_case_right" 7 ["_law_chain_so", "_law_budget_so", "_law_deeds_so"] spCase := ok_case T
  have nd := sc.nd
  refine ⟨_, pss_cons (ps_set (i := 1) nd rfl (.inl rfl) (pe_cal CO (hr.mono (by decide)) (by rfl) (pa_cons (pv 0) (pa_cons (pe_lst
      (pa_cons (LbO.pe_tupF (pa_cons pe_int pa_nil))
      (pa_cons (LbO.pe_tupF (pa_cons pe_int (pa_cons pe_int pa_nil)))
      (pa_cons (LbO.pe_tupF (pa_cons pe_int (pa_cons pe_int pa_nil)))
      (pa_cons (LbO.pe_tupF (pa_cons pe_int (pa_cons pe_int pa_nil)))
      (pa_cons (LbO.pe_tupF (pa_cons pe_int (pa_cons pe_int (pa_cons pe_int pa_nil))))
      (pa_cons (LbO.pe_tupF (pa_cons pe_int (pa_cons pe_int (pa_cons pe_int pa_nil))))
      (pa_cons (LbO.pe_tupF (pa_cons pe_int (pa_cons pe_int (pa_cons pe_int (pa_cons pe_int pa_nil)))))
      (pa_cons (LbO.pe_tupF (pa_cons pe_int (pa_cons pe_int (pa_cons pe_int pa_nil)))) pa_nil))))))))) pa_nil))))
    (pss_cons (ps_set (i := 2) nd rfl (.inl rfl) (pe_op op_mul (pe_cal CU (hr.mono (by decide)) (by rfl) (pa_cons (pv 1) pa_nil)) (pe_op op_add pe_int (pe_cal CT (hr.mono (by decide)) (by rfl) (pa_cons (pv 0) (pa_cons pe_int pa_nil))))))
    (pss_one (ps_ret (pe_cal CC hr (by rfl) (pa_cons (pv 1) (pa_cons (pv 2) (pa_cons (pe_cal CD (hr.mono (by decide)) (by rfl) (pa_cons (pv 0) (pa_cons (pv 1) (pa_cons (pv 2) pa_nil)))) pa_nil))))))), ?_⟩
  have e1 : 1 ≤ sizeLine := by decide
  have e2 : 2 ≤ sizeLine := by decide
  have e3 : 3 ≤ sizeLine := by decide
  have e4 : 4 ≤ sizeLine := by decide
  refine ⟨_, rfl, e1, fun t1 o1 n1 d1 => ⟨e2, fun t2 o2 n2 d2 => ⟨e2, fun t3 o3 n3 d3 => ⟨e2, fun t4 o4 n4 d4 => ⟨e3, fun t5 o5 n5 d5 => ⟨e3, fun t6 o6 n6 d6 => ⟨e4, fun t7 o7 n7 d7 => ⟨e3, fun t8 o8 n8 d8 => ⟨by show 8 ≤ sizeLine; decide, fun gl ngl => ?_⟩⟩⟩⟩⟩⟩⟩⟩⟩
  have s1 := Same.new (o := .frz o1 (.tup [.int 1])) n1
  have s2 := Same.new (o := .frz o2 (.tup [.int 1, .int 2])) n2
  have s3 := Same.new (o := .frz o3 (.tup [.int 1, .int 3])) n3
  have s4 := Same.new (o := .frz o4 (.tup [.int 1, .int 4])) n4
  have s5 := Same.new (o := .frz o5 (.tup [.int 1, .int 2, .int 4])) n5
  have s6 := Same.new (o := .frz o6 (.tup [.int 1, .int 2, .int 6])) n6
  have s7 := Same.new (o := .frz o7 (.tup [.int 1, .int 2, .int 4, .int 8])) n7
  have s8 := Same.new (o := .frz o8 (.tup [.int 1, .int 4, .int 16])) n8
  have s9 := Same.new (o := .lst [.ref t1, .ref t2, .ref t3, .ref t4, .ref t5, .ref t6, .ref t7, .ref t8]) ngl
  have s89 := s8.trans s9
  have s79 := s7.trans s89
  have s69 := s6.trans s79
  have s59 := s5.trans s69
  have s49 := s4.trans s59
  have s39 := s3.trans s49
  have s29 := s2.trans s39
  have S := s1.trans s29
  have hp : Paired (IsCF _) [V.ref t1, .ref t2, .ref t3, .ref t4, .ref t5, .ref t6, .ref t7, .ref t8] menu :=
    .cons ⟨t1, o1, rfl, s29 _ _ upd_same, d1⟩ (.cons ⟨t2, o2, rfl, s39 _ _ upd_same, d2⟩ (.cons ⟨t3, o3, rfl, s49 _ _ upd_same, d3⟩ (.cons ⟨t4, o4, rfl, s59 _ _ upd_same, d4⟩ (.cons ⟨t5, o5, rfl, s69 _ _ upd_same, d5⟩ (.cons ⟨t6, o6, rfl, s79 _ _ upd_same, d6⟩ (.cons ⟨t7, o7, rfl, s89 _ _ upd_same, d7⟩ (.cons ⟨t8, o8, rfl, s9 _ _ upd_same, d8⟩ .nil)))))))
  have hgl : ∀ {X : Hp}, (upd X gl (.lst [.ref t1, .ref t2, .ref t3, .ref t4, .ref t5, .ref t6, .ref t7, .ref t8])) gl = some (.lst [.ref t1, .ref t2, .ref t3, .ref t4, .ref t5, .ref t6, .ref t7, .ref t8]) := upd_same
  have hbx : ∃ o, H x = some o := let ⟨_, _, e, _⟩ := box; ⟨_, e⟩
  obtain ⟨ox, hbx⟩ := hbx
  have hne : gl ≠ x := Ne.symm (ne_of_none ((s1.trans (s2.trans (s3.trans (s4.trans (s5.trans (s6.trans (s7.trans s8))))))) _ _ hbx) ngl)
  have box9 : Box _ x C := let ⟨a, b, e, r⟩ := box; ⟨a, b, S _ _ e, r⟩
  refine ⟨x, gl, C, _, rfl, box9, by omega, hgl, hne, by show 0 < 8; decide, by show 8 ≤ 1000; decide, fun i y C1 H1 hy c1 b1 bt1 ki1 => ?_⟩
  obtain ⟨ch, hch, hcf⟩ := paired_get hp hy
  have hmem : ch ∈ menu := List.mem_of_getElem? hch
  have hcf1 := hcf.ki ki1
  have bt01 : But [x] H H1 := (But.of S).trans bt1
  have cb0 := menu_cb hmem (d := 0) (by decide) (by decide)
  refine ⟨_, rfl, y, ch, _, rfl, hcf1.cn, cb0.ok, fun H2 u2 => ?_⟩
  have b2 : Box H2 x C1 := let ⟨a, b, e, r⟩ := b1; ⟨a, b, u2 _ _ e, r⟩
  refine ⟨_, rfl, x, 2, C1, rfl, b2, by omega, by decide, by decide, fun d C3 H3 q0 q1 c3 b3 bt3 ki3 => ?_⟩
  have cb := menu_cb hmem q0 q1
  have hcf3 := (hcf1.same u2).ki ki3
  refine ⟨_, _, rfl, rfl, _, _, rfl, rfl, .inr ⟨by omega, by omega⟩, ?_⟩
  refine ⟨_, rfl, _, rfl, _, rfl, _, rfl, _, rfl, x, y, ch, _, C3, rfl, hcf3.cn, cb, b3, by omega, fun v ds C4 H4 row hlen hrow b4 c4 bt4 ki4 => ?_⟩
  refine ⟨y, v, ch, _, ds, rfl, hcf3.ki ki4, cb, hrow, row, by omega, fun H5 u5 => ?_⟩
  exact k C4 H5 (let ⟨a, b, e, r⟩ := b4; ⟨a, b, u5 _ _ e, r⟩) (by omega) (bt01.trans ((But.of u2).trans (bt3.trans (bt4.trans (But.of u5)))))
/-! ### law -/
def spHand : Sp := fun vs H Q _ => vs = [] ∧ ∀ H', Same H H' → Q (.bl true) H'
def spLaw (K : PySem.W.Frag) : Sp := fun vs H Q _ => ∃ (a : Addr) (ns : List Int), vs = [.ref a] ∧ SqL K H a (ns.map V.int) ∧ ns.length ≤ 63 ∧ ∀ H', Q (.bl true) H'
theorem scLaw : FnScope ["_law_script", "_law_cells_so", "_law_k", "_law_box_here", "_law_turn"] ["_law_script"] (gdef "law" 60).scope := ⟨rfl, rfl, rfl, by decide +kernel, rfl, by decide +kernel, by decide +kernel⟩
theorem body_law (T : TX K mg) (CH : Cal P w K mg base "_law_by_hand_right" 8 [] spHand) {f : Addr} {cdv : Value} {A : Around} {outer : List Env} {s : Shared} {H : Hp} {vs : List V} {Q : VK} {E : XK} (hr : Room 8 (A.deeper (envOfC (gdef "law" 60).qual (gdef "law" 60).scope s.heap.objs.size f cdv))) (h : spLaw K vs H Q E) :
    ∃ t, PSs (cxOf CX0 P w K mg base ["_law_script", "_law_cells_so", "_law_k", "_law_box_here", "_law_turn"] (gdef "law" 60).qual (gdef "law" 60).scope f cdv A outer s H E).nox (gdef "law" 60).body t ∧ t { nx := fun _ H' => Q .non H', rt := Q } (start ["_law_script", "_law_cells_so", "_law_k", "_law_box_here", "_law_turn"] vs) H := by
  obtain ⟨a, ns, rfl, hq, hlen, k⟩ := h
  have hrng : mg "range" = none := T.free 13
  have hl0 : mg "len" = none := T.free 0
  have hall : mg "all" = none := T.free 7
  have CC : Cal P w K mg base "_law_cells" 1 ["_law_script", "_law_top_so"] (spCells K) := ok_cells T
  have CB' : Cal P w K mg base "_law_box" 1 ["_law_script", "_law_k"] spBox := ok_box T
  have CR : Cal P w K mg base "_law_right" 8 ["_law_box_here"] spRight := ok_right T
  have nd := scLaw.nd
  refine ⟨_, pss_cons (ps_if (pt_not (pt_val (pe_cal0 CH hr (by rfl)))) (pss_one (ps_ret pe_bl)) pss_nil)
    (pss_cons (ps_set (i := 1) nd rfl (.inl rfl) (pe_cal CC (hr.mono (by decide)) (by rfl) (pa_cons (pv 0) (pa_cons pe_int pa_nil))))
    (pss_cons (ps_for PassesOwn.never rfl (pi_range1 (by rfl) hrng (pa_cons (pe_callB call_len_seq (by rfl) hl0 (by decide +kernel) (pa_cons (pv 1) pa_nil)) pa_nil)) (pg_name (i := 2) nd rfl (.inl rfl))
      (pss_cons (ps_set (i := 3) nd rfl (.inr rfl) (pe_cal CB' (hr.mono (by decide)) (by rfl) (pa_cons (pv 1) (pa_cons (pv 2) pa_nil))))
      (pss_one (ps_if (pt_not (pt_val (pe_callB (cr_all rfl) (by rfl) hall (by decide +kernel) (pa_cons (pe_lc (own := [("_law_turn", 4)]) (g := gName 4) (tt := tYes) rfl nd (pi_range1 (by rfl) hrng (pa_cons pe_int pa_nil)) (blkOk_by (N := ["_law_script", "_law_cells_so", "_law_k", "_law_box_here", "_law_turn"]) (sc := (gdef "law" 60).scope) (by decide +kernel))
          (fun _ _ _ _ _ => pg_name (i := 4) nd rfl (Or.inl rfl)) (fun _ _ _ _ _ => pts_nil) (fun _ _ _ _ _ => pe_cal CR hr (by rfl) (pa_cons (pv 3) pa_nil))) pa_nil)))) (pss_one (ps_ret pe_bl)) pss_nil))))
    (pss_one (ps_ret pe_bl)))), ?_⟩
  refine ⟨rfl, fun H1 s1 => ⟨true, rfl, iteF ?_⟩⟩
  refine ⟨_, rfl, a, ns, rfl, sqL_same s1 hq, hlen, fun l ms H2 s2 el h1 h2 => ?_⟩
  refine ⟨_, rfl, l, _, rfl, .inl (SqL.of el), ((ms.map V.int).length : Nat), rfl, by omega, by rw [List.length_map]; omega, ?_⟩
  rw [List.length_map, Int.toNat_natCast]
  refine for_range (n := ms.length) (fun i σ H' => ∃ y2 y3 y4 : Option V, σ = [some (.ref a), some (.ref l), y2, y3, y4] ∧ H' l = some (.lst (ms.map V.int))) ⟨none, none, none, rfl, el⟩ ?_ ?_
  · rintro i σ H' hi ⟨y2, y3, y4, rfl, el'⟩
    have hi0 : (0 : Int) + (i : Int) = (i : Int) := Int.zero_add _
    rw [hi0]
    refine ⟨_, rfl, _, rfl, l, ms, i, rfl, el', hi, by omega, fun x H3 s3 nx bx => ?_⟩
    have el3 := s3 _ _ el'
    have nlx : l ≠ x := ne_of_none el' nx
    refine ⟨3, rfl, by decide, by decide, fun D nD => ?_⟩
    have nDx : D ≠ x := by
      obtain ⟨_, _, e, _⟩ := bx
      exact Ne.symm (ne_of_none e nD)
    have nDl : D ≠ l := Ne.symm (ne_of_none el3 nD)
    have s4 : Same H3 (upd H3 D (.lst [])) := Same.new nD
    have bx4 : Box (upd H3 D (.lst [])) x 0 := let ⟨a, b, e, r⟩ := bx; ⟨a, b, s4 _ _ e, r⟩
    refine lc_it (walk_range (lo := 0) (n := 3)) (fun j Hj => ∃ C : Int, C ≤ 50 * (j : Int) ∧ Box Hj x C ∧ Hj l = some (.lst (ms.map V.int)) ∧ Hj D = some (.lst (List.replicate j (V.bl true)))) ⟨0, by decide, bx4, s4 _ _ el3, by rw [upd_same]; rfl⟩ (fun _ _ _ _ => True.intro) ?_ ?_
    · rintro j v Hj Hj' hj ⟨C, hC, bj, lj, Dj⟩ ⟨rfl, rfl⟩
      refine ⟨rfl, _, rfl, x, C, rfl, bj, by omega, fun C' H5 b5 c5 bt5 => ?_⟩
      have D5 := bt5 _ _ Dj (by simp [nDx])
      have l5 := bt5 _ _ lj (by simp [nlx])
      refine ⟨_, D5, ?_, C', by omega, ?_, ?_, ?_⟩
      · rw [List.length_replicate]
        exact small (by omega)
      · obtain ⟨a1, b1, e, r⟩ := b5
        exact ⟨a1, b1, by rw [upd_ne (Ne.symm nDx)]; exact e, r⟩
      · rw [upd_ne (Ne.symm nDl)]
        exact l5
      · rw [upd_same, List.replicate_succ']
    · rintro Hj ⟨C, hC, bj, lj, Dj⟩
      refine ⟨D, List.replicate 3 true, rfl, ?_, ?_⟩
      · rw [List.map_replicate]
        exact SqL.of Dj
      · exact ⟨true, rfl, iteF ⟨_, _, _, rfl, lj⟩⟩
  · rintro σ H' ⟨y2, y3, y4, rfl, _⟩
    exact k H'
end Lb
/-! _law_opponent, _law_by_hand_right. -/
namespace Lb
open PySem PySem.Spec PyProof.Rows L2
variable {P : Program} {w : World} {K : PySem.W.Frag} {mg : Str → Option Value} {base : Heap}
/-! ### rows, checked -/
def rowGo (cl : List (Int × Int)) (B : Int) : Rs → List Deed → Bool
  | _, [] => true
  | q, d :: r => (if d.1 = true then (cl.any fun p => decide (p.1 = d.2)) && decide (live q.here + d.2 ≤ B) else decide (0 ≤ d.2) && decide (d.2.toNat ∈ q.outs)) && rowGo cl B (rstep q d) r
theorem row_go {cl : List (Int × Int)} {B : Int} : ∀ {r pre : List Deed}, Row cl B pre → rowGo cl B (runF pre) r = true → Row cl B (pre ++ r)
  | [], pre, h, _ => by
    rw [List.append_nil]
    exact h
  | d :: r, pre, h, e => by
    unfold rowGo at e
    rw [Bool.and_eq_true] at e
    obtain ⟨e1, e2⟩ := e
    rw [← runF_snoc] at e2
    have e3 : pre ++ d :: r = (pre ++ [d]) ++ r := by simp
    rw [e3]
    refine row_go ?_ e2
    obtain ⟨b, n⟩ := d
    cases b with
    | true =>
      have e1 : ((cl.any fun p => decide (p.1 = n)) && decide (live (runF pre).here + n ≤ B)) = true := e1
      rw [Bool.and_eq_true, List.any_eq_true] at e1
      obtain ⟨⟨⟨m, l⟩, hm, he⟩, hl⟩ := e1
      have he : m = n := of_decide_eq_true he
      subst he
      exact .ask h hm (of_decide_eq_true hl)
    | false =>
      have e1 : (decide (0 ≤ n) && decide (n.toNat ∈ (runF pre).outs)) = true := e1
      rw [Bool.and_eq_true] at e1
      have h0 : 0 ≤ n := of_decide_eq_true e1.1
      have h1 : n.toNat ∈ (runF pre).outs := of_decide_eq_true e1.2
      have e4 : n = ((n.toNat : Nat) : Int) := (Int.toNat_of_nonneg h0).symm
      rw [e4]
      exact .back h h1
theorem row_of {cl : List (Int × Int)} {B : Int} {ds : List Deed} (h : rowGo cl B rs0 ds = true) : Row cl B ds := row_go (pre := []) .nil h
def oppD : List Deed := [(true, 1), (true, 1), (true, 1), (true, 1), (true, 1), (true, 1), (true, 1), (true, 1), (false, 1), (false, 3), (false, 5), (false, 7), (true, 2), (true, 2), (false, 2), (false, 6), (false, 9), (true, 4)]
def rowD : List Deed := [(true, 1), (true, 1), (true, 1), (true, 1), (false, 1), (false, 3), (true, 2)]
def sevD : List Deed := [(true, 1), (true, 1), (true, 1), (true, 1), (true, 1), (true, 1), (true, 1), (false, 3), (true, 1)]
def fouD : List Deed := [(true, 4), (true, 4), (true, 4), (true, 4), (false, 0), (true, 1), (true, 1)]
theorem row_opp : Row (clOf [1, 2, 4] 8) 8 oppD := row_of (by decide +kernel)
theorem row_row : Row (clOf [1, 2] 4) 4 rowD := row_of (by decide +kernel)
theorem row_sev : Row (clOf [1] 7) 7 sevD := row_of (by decide +kernel)
theorem row_fou : Row (clOf [1, 4] 16) 16 fouD := row_of (by decide +kernel)
theorem cb_opp : CB [1, 2, 4] 8 := cb_of (by decide +kernel)
theorem cb_row : CB [1, 2] 4 := cb_of (by decide +kernel)
theorem cb_sev : CB [1] 7 := cb_of (by decide +kernel)
theorem cb_fou : CB [1, 4] 16 := cb_of (by decide +kernel)
theorem cb_nil : CB [1, 2] 0 := cb_of (by decide +kernel)
theorem row_over : decide (maxL (endsOf rowD) ≤ 4) = false := by decide +kernel
theorem paired_app {α β : Type} {F : α → β → Prop} : ∀ {l l' : List α} {m m' : List β}, Paired F l m → Paired F l' m' → Paired F (l ++ l') (m ++ m')
  | _, _, _, _, .nil, h => h
  | _, _, _, _, .cons r t, h => .cons r (paired_app t h)
/-! ### _law_opponent -/
def spOpp : Sp := fun vs H Q _ => vs = [] ∧ ∀ v H', Same H H' → IsRow H' v oppD → Q v H'
theorem ok_opp (T : TX K mg) : Cal P w K mg base "_law_opponent" 1 [] spOpp := by
  have sc : FnScope ["_law_found", "_law_k"] [] (gdef "_law_opponent" 57).scope := ⟨rfl, rfl, rfl, by decide +kernel, rfl, by decide +kernel, by decide +kernel⟩
  refine T.ok (d := gdef "_law_opponent" 57) 33 rfl (j := 59) rfl rfl rfl rfl sc (fun vs H Q E h => ?_) (fun _ _ _ _ _ _ us hl => match us, hl with | [], _ => rfl) fun f cdv A outer s H vs Q E hr h => ?_
  · obtain ⟨rfl, _⟩ := h
    rfl
  obtain ⟨rfl, k⟩ := h
  have htup : mg "tuple" = none := T.free 5
  have nd := sc.nd
  refine ⟨_, pss_cons (ps_set (i := 0) nd rfl (.inl rfl) (pe_op op_cat (pe_op op_cat (pe_op op_rep (pe_lst (pa_cons (pe_tup (pa_cons pe_str (pa_cons pe_int pa_nil))) pa_nil)) pe_int)
      (pe_lc (own := [("_law_k", 1)]) (g := gName 1) (tt := tYes) (te := tTup (tCons (tC (.str "back")) (tCons (tVar 1) tNil))) rfl nd (pi_tup (pe_tup (pa_cons pe_int (pa_cons pe_int (pa_cons pe_int (pa_cons pe_int pa_nil)))))) (blkOk_by (N := ["_law_found", "_law_k"]) (sc := (gdef "_law_opponent" 57).scope) (by decide +kernel))
        (fun _ _ _ _ _ => pg_name (i := 1) nd rfl (Or.inl rfl)) (fun _ _ _ _ _ => pts_nil) (fun _ _ _ _ _ => pe_tup (pa_cons pe_str (pa_cons (pv 1) pa_nil)))))
      (pe_op op_rep (pe_lst (pa_cons (pe_tup (pa_cons pe_str (pa_cons pe_int pa_nil))) pa_nil)) pe_int)))
    (pss_one (ps_ret (pe_callTy call_tuple_of (by rfl) htup (by decide +kernel) (pa_cons (pe_op op_cat (pv 0) (pe_lst (pa_cons (pe_tup (pa_cons pe_str (pa_cons pe_int pa_nil))) (pa_cons (pe_tup (pa_cons pe_str (pa_cons pe_int pa_nil))) (pa_cons (pe_tup (pa_cons pe_str (pa_cons pe_int pa_nil))) (pa_cons (pe_tup (pa_cons pe_str (pa_cons pe_int pa_nil))) pa_nil)))))) pa_nil)))), ?_⟩
  have e1 : 1 ≤ sizeLine := by decide
  have e2 : 2 ≤ sizeLine := by decide
  have e4 : 4 ≤ sizeLine := by decide
  refine ⟨e2, fun t1 n1 => ⟨e1, fun a1 m1 => ⟨a1, 8, [.ref t1], rfl, rfl, upd_same, by decide, by decide, by show 1 * 8 ≤ sizeLine; decide, fun b1 k1 => ?_⟩⟩⟩
  have s1 := Same.new (o := .tup [.str "ask", .int 1]) n1
  have s2 := Same.new (o := .lst [.ref t1]) m1
  have s3 := Same.new (o := .lst [.ref t1, .ref t1, .ref t1, .ref t1, .ref t1, .ref t1, .ref t1, .ref t1]) k1
  refine ⟨e4, fun c1 q1 => ?_⟩
  have s4 := Same.new (o := .tup [.int 1, .int 3, .int 5, .int 7]) q1
  refine ⟨c1, rfl, ⟨_, SqT.of upd_same⟩, fun D nD => ?_⟩
  have hT1 : IsD (upd H t1 (.tup [.str "ask", .int 1])) (.ref t1) (true, 1) := ⟨t1, rfl, upd_same⟩
  have hb3 : ∀ {X : Hp}, (upd X b1 (.lst [.ref t1, .ref t1, .ref t1, .ref t1, .ref t1, .ref t1, .ref t1, .ref t1])) b1 = some (.lst [.ref t1, .ref t1, .ref t1, .ref t1, .ref t1, .ref t1, .ref t1, .ref t1]) := upd_same
  refine lc_tup (K := K) (a := c1) (xs := [.int 1, .int 3, .int 5, .int 7]) (fun i Hj => Same _ Hj ∧ ∃ us, Hj D = some (.lst us) ∧ us.length ≤ i ∧ Paired (IsD Hj) us ((([1, 3, 5, 7] : List Int).take i).map fun n => (false, n))) ⟨Same.new nD, [], upd_same, Nat.le_refl _, .nil⟩ (fun i Hj _ q => SqT.of (q.1 _ _ upd_same)) ?_ ?_
  · rintro i x Hj hx ⟨sj, us, eD, hu, pu⟩
    obtain ⟨n, hn, rfl⟩ : ∃ n : Int, ([1, 3, 5, 7] : List Int)[i]? = some n ∧ x = .int n := get_int (ns := [1, 3, 5, 7]) hx
    obtain ⟨hi, _⟩ := List.getElem?_eq_some_iff.mp hn
    have hi : i < 4 := hi
    refine ⟨rfl, _, rfl, e2, fun t nt => ?_⟩
    have st := Same.new (o := .tup [.str "back", .int n]) nt
    have eD' := st _ _ eD
    have tk2 : TK Hj (upd (upd Hj t (.tup [.str "back", .int n])) D (.lst (us ++ [.ref t]))) := (TK.of st).trans (TK.put eD' (by intro xs z; cases z))
    refine ⟨us, eD', small (by omega), (sj.trans st).put nD, us ++ [.ref t], upd_same, by rw [List.length_append]; exact Nat.succ_le_succ hu, ?_⟩
    rw [List.take_add_one, hn, List.map_append]
    refine paired_snoc (Paired.mapP pu fun _ _ => IsD.keep tk2) ⟨t, rfl, ?_⟩
    exact (TK.put eD' (by intro xs z; cases z)) _ _ upd_same
  · rintro Hj ⟨sj, us, eD, hu, pu⟩
    have pu : Paired (IsD Hj) us [(false, 1), (false, 3), (false, 5), (false, 7)] := pu
    have hul : us.length = 4 := paired_len pu
    have b1j := sj _ _ (s4 _ _ hb3)
    have p1 : Paired (IsD Hj) [V.ref t1, .ref t1, .ref t1, .ref t1, .ref t1, .ref t1, .ref t1, .ref t1] [(true, 1), (true, 1), (true, 1), (true, 1), (true, 1), (true, 1), (true, 1), (true, 1)] := by
      have z := IsD.keep (TK.of (s2.trans (s3.trans (s4.trans sj)))) hT1
      exact .cons z (.cons z (.cons z (.cons z (.cons z (.cons z (.cons z (.cons z .nil)))))))
    have Sj := s1.trans (s2.trans (s3.trans (s4.trans sj)))
    refine ⟨b1, D, _, us, rfl, rfl, b1j, eD, by show 8 + us.length ≤ sizeLine; rw [hul]; decide, fun g1 ng1 => ?_⟩
    have s5 := Same.new (o := .lst ([V.ref t1, .ref t1, .ref t1, .ref t1, .ref t1, .ref t1, .ref t1, .ref t1] ++ us)) ng1
    refine ⟨e2, fun t2 n2 => ⟨e1, fun a2 m2 => ⟨a2, 2, [.ref t2], rfl, rfl, upd_same, by decide, by decide, by show 1 * 2 ≤ sizeLine; decide, fun b2 k2 => ?_⟩⟩⟩
    have s6 := Same.new (o := .tup [.str "ask", .int 2]) n2
    have s7 := Same.new (o := .lst [.ref t2]) m2
    have s8 := Same.new (o := .lst [.ref t2, .ref t2]) k2
    have S58 := s6.trans (s7.trans s8)
    refine ⟨g1, b2, _, [.ref t2, .ref t2], rfl, rfl, S58 _ _ upd_same, upd_same, by rw [List.length_append, hul]; show 14 ≤ sizeLine; decide, fun g2 ng2 => ?_⟩
    have s9 := Same.new (o := .lst (([V.ref t1, .ref t1, .ref t1, .ref t1, .ref t1, .ref t1, .ref t1, .ref t1] ++ us) ++ [.ref t2, .ref t2])) ng2
    refine ⟨_, rfl, e2, fun u1 v1 => ⟨e2, fun u2 v2 => ⟨e2, fun u3 v3 => ⟨e2, fun u4 v4 => ⟨e4, fun a4 m4 => ?_⟩⟩⟩⟩⟩
    have z1 := Same.new (o := .tup [.str "back", .int 2]) v1
    have z2 := Same.new (o := .tup [.str "back", .int 6]) v2
    have z3 := Same.new (o := .tup [.str "back", .int 9]) v3
    have z4 := Same.new (o := .tup [.str "ask", .int 4]) v4
    have z5 := Same.new (o := .lst [.ref u1, .ref u2, .ref u3, .ref u4]) m4
    have z45 := z4.trans z5
    have z35 := z3.trans z45
    have z25 := z2.trans z35
    have z15 := z1.trans z25
    refine ⟨g2, a4, _, _, rfl, rfl, z15 _ _ upd_same, upd_same, by simp [hul]; decide, fun g3 ng3 => ?_⟩
    have s10 := Same.new (o := .lst ((([V.ref t1, .ref t1, .ref t1, .ref t1, .ref t1, .ref t1, .ref t1, .ref t1] ++ us) ++ [.ref t2, .ref t2]) ++ [.ref u1, .ref u2, .ref u3, .ref u4])) ng3
    refine ⟨g3, _, rfl, .inl ⟨SqL.of upd_same, fun g4 ng4 => ?_⟩⟩
    have s11 := Same.new (o := .tup ((([V.ref t1, .ref t1, .ref t1, .ref t1, .ref t1, .ref t1, .ref t1, .ref t1] ++ us) ++ [.ref t2, .ref t2]) ++ [.ref u1, .ref u2, .ref u3, .ref u4])) ng4
    have s1011 := s10.trans s11
    have SA := s5.trans (S58.trans (s9.trans (z15.trans s1011)))
    refine k _ _ (Sj.trans SA) ⟨g4, _, rfl, upd_same, ?_⟩
    have d2 : IsD _ (.ref t2) (true, 2) := ⟨t2, rfl, s1011 _ _ (z15 _ _ (s9 _ _ (s8 _ _ (s7 _ _ upd_same))))⟩
    have q1 : IsD _ (.ref u1) (false, 2) := ⟨u1, rfl, s1011 _ _ (z25 _ _ upd_same)⟩
    have q2 : IsD _ (.ref u2) (false, 6) := ⟨u2, rfl, s1011 _ _ (z35 _ _ upd_same)⟩
    have q3 : IsD _ (.ref u3) (false, 9) := ⟨u3, rfl, s1011 _ _ (z45 _ _ upd_same)⟩
    have q4 : IsD _ (.ref u4) (true, 4) := ⟨u4, rfl, s1011 _ _ (z5 _ _ upd_same)⟩
    exact paired_app (paired_app (paired_app (Paired.mapP p1 fun _ _ => IsD.keep (TK.of SA)) (Paired.mapP pu fun _ _ => IsD.keep (TK.of SA))) (.cons d2 (.cons d2 .nil))) (.cons q1 (.cons q2 (.cons q3 (.cons q4 .nil))))
/-! ### the rows by hand -/
theorem isD_of {H H' : Hp} {t : Addr} {b : Bool} {n : Int} (s : Same H H') (e : H t = some (.tup [.str (word b), .int n])) : IsD H' (.ref t) (b, n) := ⟨t, rfl, s _ _ e⟩
theorem mk_row {H : Hp} {g : Addr} {us : List V} {ds : List Deed} (p : Paired (IsD H) us ds) (e : H g = some (.tup us)) : IsRow H (.ref g) ds := ⟨g, us, rfl, e, p⟩
abbrev haN : List Str := ["_law_eyes", "_law_got", "_law_due", "_law_tight_so", "_law_row_so", "_law_seven_so", "_law_fours_so", "_law_lap"]
theorem scHand : FnScope haN [] (gdef "_law_by_hand_right" 58).scope := ⟨rfl, rfl, rfl, by decide +kernel, rfl, by decide +kernel, by decide +kernel⟩
theorem hand_tail (T : TX K mg) {f : Addr} {cdv : Value} {A : Around} {outer : List Env} {s : Shared} {H : Hp} {E : XK} (hr : Room 7 (A.deeper (envOfC (gdef "_law_by_hand_right" 58).qual (gdef "_law_by_hand_right" 58).scope s.heap.objs.size f cdv))) :
    ∃ tt, PSs (cxOf CX0 P w K mg base haN (gdef "_law_by_hand_right" 58).qual (gdef "_law_by_hand_right" 58).scope f cdv A outer s H E).nox ((gdef "_law_by_hand_right" 58).body.drop 9) tt ∧
      ∀ (D : Ends) (y0 y1 y2 y3 y4 y5 y6 y7 : Option V) (H0 : Hp), (∀ H', Same H0 H' → D.rt (.bl true) H') → tt D [y0, y1, y2, y3, y4, y5, y6, y7] H0 := by
  have CC : Cal P w K mg base "_law_case_right" 7 ["_law_chain_so", "_law_budget_so", "_law_deeds_so"] spCase := ok_case T
  have CSv : Cal P w K mg base "serves_first" 5 ["chain", "pool", "row"] spServes := ok_serves T
  have COp : Cal P w K mg base "_law_opponent" 1 [] spOpp := ok_opp T
  have nd := scHand.nd
  refine ⟨_, pss_cons (ps_set (i := 4) nd rfl (.inl rfl) (pe_op op_catA (pe_op op_repT (pe_tup (pa_cons (pe_tup (pa_cons pe_str (pa_cons pe_int pa_nil))) pa_nil)) pe_int) (pe_tup (pa_cons (pe_tup (pa_cons pe_str (pa_cons pe_int pa_nil))) (pa_cons (pe_tup (pa_cons pe_str (pa_cons pe_int pa_nil))) (pa_cons (pe_tup (pa_cons pe_str (pa_cons pe_int pa_nil))) pa_nil))))))
    (pss_cons (ps_if (PW.pt (pw_or (pt_not (pt_val (pe_cal CC hr (by rfl) (pa_cons (LbO.pe_tupF (pa_cons pe_int (pa_cons pe_int pa_nil))) (pa_cons pe_int (pa_cons (pv 4) pa_nil)))))) (pw_or1 (pt_val (pe_cal CSv (hr.mono (by decide)) (by rfl) (pa_cons (pe_tup (pa_cons pe_int (pa_cons pe_int pa_nil))) (pa_cons pe_int (pa_cons (pv 4) pa_nil)))))))) (pss_one (ps_ret pe_bl)) pss_nil)
    (pss_cons (ps_set (i := 5) nd rfl (.inl rfl) (pe_op op_catA (pe_op op_repT (pe_tup (pa_cons (pe_tup (pa_cons pe_str (pa_cons pe_int pa_nil))) pa_nil)) pe_int) (pe_tup (pa_cons (pe_tup (pa_cons pe_str (pa_cons pe_int pa_nil))) (pa_cons (pe_tup (pa_cons pe_str (pa_cons pe_int pa_nil))) pa_nil)))))
    (pss_cons (ps_if (PW.pt (pw_or (pt_not (pt_val (pe_cal CC hr (by rfl) (pa_cons (LbO.pe_tupF (pa_cons pe_int (pa_cons pe_int (pa_cons pe_int pa_nil)))) (pa_cons pe_int (pa_cons (pe_cal0 COp (hr.mono (by decide)) (by rfl)) pa_nil)))))) (pw_or1 (pt_not (pt_val (pe_cal CC hr (by rfl) (pa_cons (LbO.pe_tupF (pa_cons pe_int pa_nil)) (pa_cons pe_int (pa_cons (pv 5) pa_nil))))))))) (pss_one (ps_ret pe_bl)) pss_nil)
    (pss_cons (ps_set (i := 6) nd rfl (.inl rfl) (pe_op op_catA (pe_op op_repT (pe_tup (pa_cons (pe_tup (pa_cons pe_str (pa_cons pe_int pa_nil))) pa_nil)) pe_int) (pe_tup (pa_cons (pe_tup (pa_cons pe_str (pa_cons pe_int pa_nil))) (pa_cons (pe_tup (pa_cons pe_str (pa_cons pe_int pa_nil))) (pa_cons (pe_tup (pa_cons pe_str (pa_cons pe_int pa_nil))) pa_nil))))))
    (pss_one (ps_ret (pe_and (pe_cal CC hr (by rfl) (pa_cons (LbO.pe_tupF (pa_cons pe_int (pa_cons pe_int pa_nil))) (pa_cons pe_int (pa_cons (pv 6) pa_nil)))) (pe_one (pe_cal CC hr (by rfl) (pa_cons (LbO.pe_tupF (pa_cons pe_int (pa_cons pe_int pa_nil))) (pa_cons pe_int (pa_cons (pe_tup pa_nil) pa_nil)))))))))))), ?_⟩
  intro D y0 y1 y2 y3 y4 y5 y6 y7 H0 k
  have e1 : 1 ≤ sizeLine := by decide
  have e2 : 2 ≤ sizeLine := by decide
  have e3 : 3 ≤ sizeLine := by decide
  -- row
  refine ⟨e2, fun t1 n1 => ⟨e1, fun a1 m1 => ⟨a1, 4, [.ref t1], rfl, rfl, SqT.of upd_same, by simp, by decide, by decide, by show 1 ≤ 1000; decide, fun b1 k1 => ?_⟩⟩⟩
  have s1 := Same.new (o := .tup [.str "ask", .int 1]) n1
  have s2 := Same.new (o := .tup [.ref t1]) m1
  have s3 := Same.new (o := .tup [.ref t1, .ref t1, .ref t1, .ref t1]) k1
  refine ⟨e2, fun u1 v1 => ⟨e2, fun u2 v2 => ⟨e2, fun u3 v3 => ⟨e3, fun a4 m4 => ?_⟩⟩⟩⟩
  have z1 := Same.new (o := .tup [.str "back", .int 1]) v1
  have z2 := Same.new (o := .tup [.str "back", .int 3]) v2
  have z3 := Same.new (o := .tup [.str "ask", .int 2]) v3
  have z4 := Same.new (o := .tup [.ref u1, .ref u2, .ref u3]) m4
  have z34 := z3.trans z4
  have z24 := z2.trans z34
  have z14 := z1.trans z24
  refine ⟨b1, a4, [.ref t1, .ref t1, .ref t1, .ref t1], [.ref u1, .ref u2, .ref u3], rfl, rfl, SqT.of (z14 _ _ upd_same), SqT.of upd_same, by show 7 ≤ sizeLine; decide, fun z => (nomatch z), fun _ z => (nomatch z), fun _ _ g ng => ?_⟩
  have s5 := Same.new (o := .tup ([V.ref t1, .ref t1, .ref t1, .ref t1] ++ [.ref u1, .ref u2, .ref u3])) ng
  have hrow := mk_row (ds := rowD) (.cons (isD_of (b := true) (s2.trans (s3.trans (z14.trans s5))) upd_same) (.cons (isD_of (b := true) (s2.trans (s3.trans (z14.trans s5))) upd_same) (.cons (isD_of (b := true) (s2.trans (s3.trans (z14.trans s5))) upd_same) (.cons (isD_of (b := true) (s2.trans (s3.trans (z14.trans s5))) upd_same)
    (.cons (isD_of (b := false) (z24.trans s5) upd_same) (.cons (isD_of (b := false) (z34.trans s5) upd_same) (.cons (isD_of (b := true) (z4.trans s5) upd_same) .nil))))))) (show _ = some (.tup ([V.ref t1, .ref t1, .ref t1, .ref t1] ++ [.ref u1, .ref u2, .ref u3])) from upd_same)
  have S1 := s1.trans (s2.trans (s3.trans (z14.trans s5)))
  generalize upd _ g (HO.tup ([V.ref t1, .ref t1, .ref t1, .ref t1] ++ [.ref u1, .ref u2, .ref u3])) = H1 at hrow S1 ⊢
  -- case_right((1, 2), 4, row), serves_first((1, 2), 4, row)
  refine ⟨e2, fun c1 o1 q1 d1 => ⟨_, rfl, ?_⟩⟩
  have r1 := Same.new (o := .frz o1 (.tup [.int 1, .int 2])) q1
  refine ⟨.ref c1, .ref g, [1, 2], 4, rowD, rfl, ⟨c1, o1, rfl, upd_same, d1⟩, cb_row, IsRow.keep (TK.of r1) hrow, row_row, by decide, fun H2 r2 => ⟨true, rfl, iteF ?_⟩⟩
  refine ⟨e2, fun c2 q2 => ⟨_, rfl, ?_⟩⟩
  have r3 := Same.new (o := .tup [.int 1, .int 2]) q2
  refine ⟨.ref c2, .ref g, 4, rowD, _, 4, rfl, IsRow.keep (TK.of (r1.trans (r2.trans r3))) hrow, ⟨cb_row.fine, by decide, row_row, by decide⟩, fun H3 r4 => ⟨_, rfl, ?_⟩⟩
  rw [row_over]
  refine iteF ?_
  have S3 := S1.trans (r1.trans (r2.trans (r3.trans r4)))
  -- seven
  refine ⟨e2, fun t2 n2 => ⟨e1, fun a2 m2 => ⟨a2, 7, [.ref t2], rfl, rfl, SqT.of upd_same, by simp, by decide, by decide, by show 1 ≤ 1000; decide, fun b2 k2 => ?_⟩⟩⟩
  have f1 := Same.new (o := .tup [.str "ask", .int 1]) n2
  have f2 := Same.new (o := .tup [.ref t2]) m2
  have f3 := Same.new (o := .tup [.ref t2, .ref t2, .ref t2, .ref t2, .ref t2, .ref t2, .ref t2]) k2
  refine ⟨e2, fun u4 v4 => ⟨e2, fun u5 v5 => ⟨e2, fun a5 m5 => ?_⟩⟩⟩
  have g1 := Same.new (o := .tup [.str "back", .int 3]) v4
  have g2 := Same.new (o := .tup [.str "ask", .int 1]) v5
  have g3 := Same.new (o := .tup [.ref u4, .ref u5]) m5
  have g23 := g2.trans g3
  have g13 := g1.trans g23
  refine ⟨b2, a5, [.ref t2, .ref t2, .ref t2, .ref t2, .ref t2, .ref t2, .ref t2], [.ref u4, .ref u5], rfl, rfl, SqT.of (g13 _ _ upd_same), SqT.of upd_same, by show 9 ≤ sizeLine; decide, fun z => (nomatch z), fun _ z => (nomatch z), fun _ _ gg ngg => ?_⟩
  have f5 := Same.new (o := .tup ([V.ref t2, .ref t2, .ref t2, .ref t2, .ref t2, .ref t2, .ref t2] ++ [.ref u4, .ref u5])) ngg
  have hask := isD_of (b := true) (n := 1) (f2.trans (f3.trans (g13.trans f5))) (show _ = some (.tup [.str "ask", .int 1]) from upd_same)
  have hsev := mk_row (ds := sevD) (.cons hask (.cons hask (.cons hask (.cons hask (.cons hask (.cons hask (.cons hask (.cons (isD_of (b := false) (g23.trans f5) upd_same) (.cons (isD_of (b := true) (g3.trans f5) upd_same) .nil))))))))) (show _ = some (.tup ([V.ref t2, .ref t2, .ref t2, .ref t2, .ref t2, .ref t2, .ref t2] ++ [.ref u4, .ref u5])) from upd_same)
  have S4 := S3.trans (f1.trans (f2.trans (f3.trans (g13.trans f5))))
  clear hask
  generalize upd _ gg (HO.tup ([V.ref t2, .ref t2, .ref t2, .ref t2, .ref t2, .ref t2, .ref t2] ++ [.ref u4, .ref u5])) = H4 at hsev S4 ⊢
  refine ⟨e3, fun c3 o3 q3 d3 => ⟨rfl, fun v H5 r5 hopp => ?_⟩⟩
  have r6 := Same.new (o := .frz o3 (.tup [.int 1, .int 2, .int 4])) q3
  refine ⟨.ref c3, v, [1, 2, 4], 8, oppD, rfl, ⟨c3, o3, rfl, r5 _ _ upd_same, d3⟩, cb_opp, hopp, row_opp, by decide, fun H6 r7 => ⟨true, rfl, iteF ?_⟩⟩
  have S6 := r6.trans (r5.trans r7)
  refine ⟨e1, fun c4 o4 q4 d4 => ⟨_, rfl, ?_⟩⟩
  have r8 := Same.new (o := .frz o4 (.tup [.int 1])) q4
  refine ⟨.ref c4, .ref gg, [1], 7, sevD, rfl, ⟨c4, o4, rfl, upd_same, d4⟩, cb_sev, IsRow.keep (TK.of (S6.trans r8)) hsev, row_sev, by decide, fun H7 r9 => ⟨true, rfl, iteF ?_⟩⟩
  have S7 := S4.trans (S6.trans (r8.trans r9))
  -- fours
  refine ⟨e2, fun t3 n3 => ⟨e1, fun a3 m3 => ⟨a3, 4, [.ref t3], rfl, rfl, SqT.of upd_same, by simp, by decide, by decide, by show 1 ≤ 1000; decide, fun b3 k3 => ?_⟩⟩⟩
  have j1 := Same.new (o := .tup [.str "ask", .int 4]) n3
  have j2 := Same.new (o := .tup [.ref t3]) m3
  have j3 := Same.new (o := .tup [.ref t3, .ref t3, .ref t3, .ref t3]) k3
  refine ⟨e2, fun u6 v6 => ⟨e2, fun u7 v7 => ⟨e2, fun u8 v8 => ⟨e3, fun a6 m6 => ?_⟩⟩⟩⟩
  have l1 := Same.new (o := .tup [.str "back", .int 0]) v6
  have l2 := Same.new (o := .tup [.str "ask", .int 1]) v7
  have l3 := Same.new (o := .tup [.str "ask", .int 1]) v8
  have l4 := Same.new (o := .tup [.ref u6, .ref u7, .ref u8]) m6
  have l34 := l3.trans l4
  have l24 := l2.trans l34
  have l14 := l1.trans l24
  refine ⟨b3, a6, [.ref t3, .ref t3, .ref t3, .ref t3], [.ref u6, .ref u7, .ref u8], rfl, rfl, SqT.of (l14 _ _ upd_same), SqT.of upd_same, by show 7 ≤ sizeLine; decide, fun z => (nomatch z), fun _ z => (nomatch z), fun _ _ hh nhh => ?_⟩
  have j5 := Same.new (o := .tup ([V.ref t3, .ref t3, .ref t3, .ref t3] ++ [.ref u6, .ref u7, .ref u8])) nhh
  have hask := isD_of (b := true) (n := 4) (j2.trans (j3.trans (l14.trans j5))) (show _ = some (.tup [.str "ask", .int 4]) from upd_same)
  have hfou := mk_row (ds := fouD) (.cons hask (.cons hask (.cons hask (.cons hask (.cons (isD_of (b := false) (l24.trans j5) upd_same) (.cons (isD_of (b := true) (l34.trans j5) upd_same) (.cons (isD_of (b := true) (l4.trans j5) upd_same) .nil))))))) (show _ = some (.tup ([V.ref t3, .ref t3, .ref t3, .ref t3] ++ [.ref u6, .ref u7, .ref u8])) from upd_same)
  have S8 := S7.trans (j1.trans (j2.trans (j3.trans (l14.trans j5))))
  clear hask
  generalize upd _ hh (HO.tup ([V.ref t3, .ref t3, .ref t3, .ref t3] ++ [.ref u6, .ref u7, .ref u8])) = H8 at hfou S8 ⊢
  refine ⟨e2, fun c5 o5 q5 d5 => ⟨_, rfl, ?_⟩⟩
  have w1 := Same.new (o := .frz o5 (.tup [.int 1, .int 4])) q5
  refine ⟨.ref c5, .ref hh, [1, 4], 16, fouD, rfl, ⟨c5, o5, rfl, upd_same, d5⟩, cb_fou, IsRow.keep (TK.of w1) hfou, row_fou, by decide, fun H9 w2 => ⟨true, rfl, iteT ?_⟩⟩
  refine ⟨e2, fun c6 o6 q6 d6 => ⟨Nat.zero_le _, fun p6 z6 => ?_⟩⟩
  have w3 := Same.new (o := .frz o6 (.tup [.int 1, .int 2])) q6
  have w4 := Same.new (o := .tup []) z6
  exact ⟨.ref c6, .ref p6, [1, 2], 0, [], rfl, ⟨c6, o6, rfl, w4 _ _ upd_same, d6⟩, cb_nil, ⟨p6, [], rfl, upd_same, .nil⟩, .nil, by decide, fun Hz w5 => k Hz (S8.trans (w1.trans (w2.trans (w3.trans (w4.trans w5)))))⟩
end Lb
/-! _law_by_hand_right: the two Watches. -/
namespace Lb
open PySem PySem.Spec PyProof.Rows L2
variable {P : Program} {w : World} {K : PySem.W.Frag} {mg : Str → Option Value} {base : Heap}
/-! ### the two games told plainly -/
def wS (i : Nat) : List Blk := (List.range i).map fun (k : Nat) => ((k : Int), (1 : Int))
def wT (i : Nat) : List V := (List.range i).map fun (k : Nat) => V.int (k : Int)
def wP (i : Nat) : List (List Blk) := (List.range i).map wS
def wB : List Blk := [(0, 1), (2, 1), (3, 1)]
def wC' : List Blk := [(0, 1), (2, 1)]
def wD : List Blk := [(0, 1), (2, 1), (4, 2)]
def standB (bs : List Blk) : Bool := decide (bs.Pairwise fun a b => a.1 + a.2 ≤ b.1) && bs.all (fun b => decide (0 < b.2) && decide (0 ≤ b.1) && decide (b.1 + b.2 ≤ 1000000000000)) && decide (bs.length ≤ 1000)
theorem stand_of {bs : List Blk} (h : standB bs = true) : Stand bs := by
  unfold standB at h
  rw [Bool.and_eq_true, Bool.and_eq_true, List.all_eq_true] at h
  obtain ⟨⟨h1, h2⟩, h3⟩ := h
  have z : ∀ b ∈ bs, 0 < b.2 ∧ 0 ≤ b.1 ∧ b.1 + b.2 ≤ 1000000000000 := fun b hb => by
    have q := h2 b hb
    rw [Bool.and_eq_true, Bool.and_eq_true] at q
    exact ⟨of_decide_eq_true q.1.1, of_decide_eq_true q.1.2, of_decide_eq_true q.2⟩
  exact ⟨(of_decide_eq_true h1 : bs.Pairwise fun a b => a.1 + a.2 ≤ b.1), fun b hb => (z b hb).1, fun b hb => ⟨(z b hb).2.1, by have := (z b hb).1; omega, (z b hb).2.2⟩, of_decide_eq_true h3⟩
theorem wS_stand : ∀ {j : Nat}, j < 5 → Stand (wS j)
  | 0, _ => stand_of (by decide +kernel)
  | 1, _ => stand_of (by decide +kernel)
  | 2, _ => stand_of (by decide +kernel)
  | 3, _ => stand_of (by decide +kernel)
  | 4, _ => stand_of (by decide +kernel)
  | _ + 5, h => absurd h (by omega)
theorem wB_stand : Stand wB := stand_of (by decide +kernel)
theorem wC_stand : Stand wC' := stand_of (by decide +kernel)
theorem w_ff : ∀ {j : Nat}, j < 4 → ff (wS j) 1 = (j : Int) ∧ insB ((j : Int), 1) (wS j) = wS (j + 1)
  | 0, _ => by decide +kernel
  | 1, _ => by decide +kernel
  | 2, _ => by decide +kernel
  | 3, _ => by decide +kernel
  | _ + 4, h => absurd h (by omega)
theorem w_fp {pool : Int} (hp : 4 ≤ pool) {j : Nat} (hj : j < 4) : fpV pool (wS j) 1 = .int (j : Int) ∧ lentTo pool (wS j) 1 = wS (j + 1) := by
  unfold fpV lentTo
  rw [(w_ff hj).1, if_pos (by omega), if_pos (by omega)]
  exact ⟨rfl, (w_ff hj).2⟩
theorem w_b : outTo (wS 4) 1 = wB := by decide +kernel
theorem w_c : outTo wB 3 = wC' := by decide +kernel
theorem w_ff2 : ff wC' 2 = 4 := by decide +kernel
theorem w_d6 : fpV 6 wC' 2 = .int 4 ∧ lentTo 6 wC' 2 = wD := by
  unfold fpV lentTo
  rw [w_ff2, if_pos (by decide), if_pos (by decide)]
  exact ⟨rfl, by decide +kernel⟩
theorem w_d4 : fpV 4 wC' 2 = .non ∧ lentTo 4 wC' 2 = wC' := by
  unfold fpV lentTo
  rw [w_ff2, if_neg (by decide), if_neg (by decide)]
  exact ⟨rfl, rfl⟩
theorem wP_succ (i : Nat) : wP (i + 1) = wP i ++ [wS i] := by
  unfold wP
  rw [List.range_succ, List.map_append]
  rfl
theorem wT_succ (i : Nat) : wT (i + 1) = wT i ++ [.int (i : Int)] := by
  unfold wT
  rw [List.range_succ, List.map_append]
  rfl
theorem wP_len (i : Nat) : (wP i).length = i := by
  unfold wP
  rw [List.length_map, List.length_range]
theorem wT_len (i : Nat) : (wT i).length = i := by
  unfold wT
  rw [List.length_map, List.length_range]
/-! ### a Watch in hand: the state while it plays -/
theorem Wat.put {H : Hp} {a dx l1 l2 D : Addr} {ch : List Int} {pool : Int} {sts : List (List Blk)} {told : List V} {xs ys : List V} (h : Wat K H a dx l1 l2 ch pool sts told) (hD : H D = some (.lst xs)) (n1 : l1 ≠ D) (n2 : l2 ≠ D) : Wat K (upd H D (.lst ys)) a dx l1 l2 ch pool sts told :=
  h.keep (KI.put hD rfl) (fun o e => by rw [upd_ne n1]; exact e) (fun o e => by rw [upd_ne n2]; exact e)
theorem but_same {H H1 H2 : Hp} {l1 l2 : Addr} (s : Same H H1) (n1 : H l1 = none) (n2 : H l2 = none) (b : But [l1, l2] H1 H2) : Same H H2 := fun x o e => b x o (s x o e) (by simp [ne_of_none e n1, ne_of_none e n2])
def due1 : List Int := [0, 1, 2, 3]
theorem eqn_int {n : Nat} {H : Hp} (i : Int) : EqN n H (.int i) (.int i) := by
  cases n with
  | zero => exact .inl ⟨i, rfl, rfl⟩
  | succ n => exact .inl (.inl ⟨i, rfl, rfl⟩)
theorem eqn_non {n : Nat} {H : Hp} : EqN n H .non .non := by
  cases n with
  | zero => exact .inr ⟨rfl, rfl⟩
  | succ n => exact .inl (.inr ⟨rfl, rfl⟩)
theorem eqn_four {H : Hp} {l m : Addr} (e1 : H l = some (.lst (wT 4))) (e2 : H m = some (.lst [.int 0, .int 1, .int 2, .int 3])) : EqN 1 H (.ref l) (.ref m) :=
  .inr ⟨l, m, _, _, rfl, rfl, e1, e2, by decide, .cons (eqn_int 0) (.cons (eqn_int 1) (.cons (eqn_int 2) (.cons (eqn_int 3) .nil)))⟩
theorem tight_none : ((wT 4 ++ [V.int 1] ++ [V.int 1] ++ [V.non]).filter fun v => decide (v = .non)).length = 1 := by decide +kernel
theorem eyes_none : ((wT 4 ++ [V.int 1] ++ [V.int 1] ++ [V.int 4]).filter fun v => decide (v = .non)).length = 0 := by decide +kernel
def eyS : List (List Blk) := wP 5 ++ [wB] ++ [wC'] ++ [wD]
theorem eyes_live {m : Int} (h : m ∈ eyS.map live) (h2 : ∀ y ∈ eyS.map live, y ≤ m) : m = 4 := by
  rw [show eyS.map live = [0, 1, 2, 3, 4, 3, 2, 4] from by decide +kernel] at h h2
  have := h2 4 (by decide)
  simp only [List.mem_cons, List.not_mem_nil, or_false] at h
  omega
theorem eyes_ends {m : Int} (h : m ∈ 0 :: eyS.flatMap endsL) (h2 : ∀ y ∈ 0 :: eyS.flatMap endsL, y ≤ m) : m = 6 := by
  rw [show (0 : Int) :: eyS.flatMap endsL = [0, 1, 1, 2, 1, 2, 3, 1, 2, 3, 4, 1, 3, 4, 1, 3, 1, 3, 6] from by decide +kernel] at h h2
  have := h2 6 (by decide)
  simp only [List.mem_cons, List.not_mem_nil, or_false] at h
  omega
theorem eyS_len : ∀ bs ∈ eyS, bs.length ≤ 100 := by decide +kernel
theorem paired_app3 {α β : Type} {F : α → β → Prop} {l m n : List α} {l' m' : List β} (p : Paired F l l') (q : Paired F (m ++ n) m') : Paired F ((l ++ m) ++ n) (l' ++ m') := by
  rw [List.append_assoc]
  exact paired_app p q
/-! ### the second Watch -/
theorem hand_mid (T : TX K mg) {f : Addr} {cdv : Value} {A : Around} {outer : List Env} {s : Shared} {H : Hp} {E : XK} (hr : Room 7 (A.deeper (envOfC (gdef "_law_by_hand_right" 58).qual (gdef "_law_by_hand_right" 58).scope s.heap.objs.size f cdv))) :
    ∃ tt, PSs (cxOf CX0 P w K mg base haN (gdef "_law_by_hand_right" 58).qual (gdef "_law_by_hand_right" 58).scope f cdv A outer s H E).nox ((gdef "_law_by_hand_right" 58).body.drop 4) tt ∧
      ∀ (D : Ends) (y0 y3 y4 y5 y6 y7 : Option V) (g d : Addr) (xs ys : List V) (H0 : Hp), H0 g = some (.lst xs) → H0 d = some (.lst ys) → xs.length = 7 → ys.length = 7 → Paired (EqN 1 H0) xs ys → (∀ H', Same H0 H' → D.rt (.bl true) H') → tt D [y0, some (.ref g), some (.ref d), y3, y4, y5, y6, y7] H0 := by
  have hrng : mg "range" = none := T.free 13
  have MA : Met P w K mg base "Watch" "ask" 5 ["self", "size"] (spWAsk K) := ok_wask T
  have MGv : Met P w K mg base "Watch" "give" 3 ["self", "first"] (spWGive K) := ok_wgive T
  have MF : Met P w K mg base "Watch" "refused" 1 ["self"] (spRef K) := ok_ref T
  have CS : Cal P w K mg base "_law_same" 3 ["_law_got", "_law_due"] (spSame 2) := ok_same T 2
  have MW : FnR P w K mg base CX0 3 (He.ma K (wC K) "__init__") (fun vs H Q E => spWI K (vs ++ [.ref (He.dflAt ("Watch", some "__init__") 0 K)]) H Q E) := T.mkW
  have nd := scHand.nd
  obtain ⟨tt, tD, tR⟩ := hand_tail (P := P) (w := w) (base := base) T (outer := outer) (H := H) (E := E) hr
  refine ⟨_, pss_cons (ps_set (i := 3) nd rfl (.inr rfl) (StX.pe_makeR T.mW MW (hr.mono (by decide)) (by rfl) T.gW pass0 (pa_cons (pe_tup (pa_cons pe_int (pa_cons pe_int pa_nil))) (pa_cons pe_int pa_nil))))
    (pss_cons (ps_set (i := 1) nd rfl (.inl rfl) (pe_op op_cat (pv 1) (pe_lst (pa_cons
      (pe_lc (own := [("_law_lap", 7)]) (g := gName 7) (tt := tYes) (te := SlX.tMethSl (wC K) (spWAsk K) E0 (tVar 3) (tCons (tC (.int 1)) tNil)) rfl nd (pi_range1 (by rfl) hrng (pa_cons pe_int pa_nil)) (blkOk_by (N := haN) (sc := (gdef "_law_by_hand_right" 58).scope) (by decide +kernel))
        (fun _ _ _ _ _ => pg_name (i := 7) nd rfl (Or.inl rfl)) (fun _ _ _ _ _ => pts_nil) (fun _ _ _ _ _ => pe_wmeth T MA (pv 3) (hr.mono (by decide)) (pa_cons pe_int pa_nil)))
      (pa_cons (pe_wmeth T MGv (pv 3) (hr.mono (by decide)) (pa_cons pe_int pa_nil)) (pa_cons (pe_wmeth T MGv (pv 3) (hr.mono (by decide)) (pa_cons pe_int pa_nil)) pa_nil))))))
    (pss_cons (ps_set (i := 1) nd rfl (.inl rfl) (pe_op op_cat (pv 1) (pe_lst (pa_cons (pe_wmeth T MA (pv 3) (hr.mono (by decide)) (pa_cons pe_int pa_nil)) (pa_cons (pe_wmeth0 T MF (pv 3) (hr.mono (by decide))) pa_nil)))))
    (pss_cons (ps_set (i := 2) nd rfl (.inl rfl) (pe_op op_cat (pv 2) (pe_lst (pa_cons (pe_lst (pa_cons pe_int (pa_cons pe_int (pa_cons pe_int (pa_cons pe_int pa_nil))))) (pa_cons pe_int (pa_cons pe_int (pa_cons pe_non (pa_cons pe_int pa_nil))))))))
    (pss_cons (ps_if (pt_not (pt_val (pe_cal CS (hr.mono (by decide)) (by rfl) (pa_cons (pv 1) (pa_cons (pv 2) pa_nil))))) (pss_one (ps_ret pe_bl)) pss_nil) tD)))), ?_⟩
  intro D y0 y3 y4 y5 y6 y7 g d xs ys H0 eg ed hx hy hp k
  have e1 : 1 ≤ sizeLine := by decide
  have e2 : 2 ≤ sizeLine := by decide
  refine ⟨e2, fun tc ntc => made_w T (ch := [1, 2]) (pool := 4) (SqT.of upd_same) (by decide) fun a dx l1 l2 H1 n1 n2 n3 W1 s1 => ?_⟩
  have s0 := Same.new (o := .tup [.int 1, .int 2]) ntc
  have S1 := s0.trans s1
  have f1 : H0 l1 = none := s0.free n2
  have f2 : H0 l2 = none := s0.free n3
  have eg1 := S1 _ _ eg
  refine ⟨_, rfl, 4, rfl, by decide, by decide, fun L nL => ?_⟩
  have nel1 : l1 ≠ L := by
    obtain ⟨us, e, _⟩ := W1.st
    exact ne_of_none e nL
  have nel2 : l2 ≠ L := ne_of_none W1.tl nL
  have sL : Same H1 (upd H1 L (.lst [])) := Same.new nL
  refine lc_it (walk_range (lo := 0) (n := 4)) (fun j Hj => Wat K Hj a dx l1 l2 [1, 2] 4 (wP j ++ [wS j]) (wT j) ∧ But [l1, l2] H1 Hj ∧ Hj L = some (.lst (wT j))) ⟨W1.same sL, But.of sL, upd_same⟩ (fun _ _ _ _ => True.intro) ?_ ?_
  · rintro j v Hj Hj' hj ⟨Wj, bt, Lj⟩ ⟨rfl, rfl⟩
    obtain ⟨vsW, eW⟩ := Wj.s
    obtain ⟨q1, q2⟩ := w_fp (pool := 4) (by decide) hj
    refine ⟨rfl, _, rfl, a, dx, vsW, rfl, eW, a, dx, l1, l2, [1, 2], 4, wP j, wS j, wT j, 1, rfl, Wj, by decide, wS_stand (by omega), by decide, by decide, by rw [wP_len]; omega, by rw [wT_len]; omega, fun H5 W5 bt5 => ?_⟩
    have L5 := bt5 _ _ Lj (by simp [nel1.symm, nel2.symm])
    rw [q1, q2, ← wP_succ, ← wT_succ] at W5
    rw [q1]
    refine ⟨_, L5, by rw [wT_len]; exact small (by omega), ?_, ?_, ?_⟩
    · exact W5.put L5 nel1 nel2
    · intro x o e hx
      have nxL : x ≠ L := ne_of_none e nL
      rw [upd_ne nxL]
      exact bt5 _ _ (bt _ _ e hx) hx
    · rw [upd_same, wT_succ]
  rintro H2 ⟨W2, b2, L2⟩
  have S2 := but_same S1 f1 f2 b2
  obtain ⟨vs2, t2⟩ := W2.s
  refine ⟨_, rfl, a, dx, vs2, rfl, t2, a, dx, l1, l2, [1, 2], 4, wP 4, wS 4, wT 4, (1, 1), rfl, W2, by decide +kernel, wS_stand (by decide), by decide, by decide, fun H3 W3 b3 => ?_⟩
  rw [show outTo (wS 4) ((1, 1) : Blk).1 = wB from w_b] at W3
  dsimp only at W3 ⊢
  have S3 := but_same S2 f1 f2 b3
  have L3 := b3 _ _ L2 (by simp [nel1.symm, nel2.symm])
  obtain ⟨vs3, t3⟩ := W3.s
  refine ⟨_, rfl, a, dx, vs3, rfl, t3, a, dx, l1, l2, [1, 2], 4, _, wB, _, (3, 1), rfl, W3, by decide +kernel, wB_stand, by decide, by decide, fun H4 W4 b4 => ?_⟩
  rw [show outTo wB ((3, 1) : Blk).1 = wC' from w_c] at W4
  dsimp only at W4 ⊢
  have S4 := but_same S3 f1 f2 b4
  have L4 := b4 _ _ L3 (by simp [nel1.symm, nel2.symm])
  refine ⟨by show 3 ≤ sizeLine; decide, fun p1 np1 => ?_⟩
  have z1 := Same.new (o := .lst [V.ref L, .int 1, .int 1]) np1
  refine ⟨g, p1, _, _, rfl, rfl, z1 _ _ (S4 _ _ eg), upd_same, by show xs.length + 3 ≤ sizeLine; rw [hx]; decide, fun g2 ng2 => ?_⟩
  have z2 := Same.new (o := .lst (xs ++ [V.ref L, .int 1, .int 1])) ng2
  have hg2 : g2 ∉ [l1, l2] := by
    obtain ⟨us, e, _⟩ := W4.st
    have q1 := ne_of_none (z1 _ _ e) ng2
    have q2 := ne_of_none (z1 _ _ W4.tl) ng2
    simp [q1.symm, q2.symm]
  have W5 := W4.same (z1.trans z2)
  have L5 := (z1.trans z2) _ _ L4
  have S5 := S4.trans (z1.trans z2)
  clear z1 z2
  generalize e5 : upd _ g2 (.lst (xs ++ [V.ref L, .int 1, .int 1])) = H5 at W5 L5 S5 ⊢
  have g5 : H5 g2 = some (.lst (xs ++ [V.ref L, .int 1, .int 1])) := by rw [← e5, upd_same]
  clear e5
  obtain ⟨vs5, t5⟩ := W5.s
  refine ⟨_, rfl, _, rfl, a, dx, vs5, rfl, t5, a, dx, l1, l2, [1, 2], 4, _, wC', _, 2, rfl, W5, by decide, wC_stand, by decide, by decide, by decide, by decide, fun H6 W6 b6 => ?_⟩
  rw [w_d4.1, w_d4.2] at W6
  rw [w_d4.1]
  have S6 := but_same S5 f1 f2 b6
  have L6 := b6 _ _ L5 (by simp [nel1.symm, nel2.symm])
  have g6 := b6 _ _ g5 hg2
  obtain ⟨vs6, t6⟩ := W6.s
  refine ⟨_, rfl, a, dx, vs6, rfl, t6, a, dx, l1, l2, [1, 2], 4, _, _, rfl, W6, by decide, fun H7 s7 => ?_⟩
  rw [tight_none]
  have S7 := S6.trans s7
  have L7 := s7 _ _ L6
  have g7 := s7 _ _ g6
  refine ⟨e2, fun p2 np2 => ⟨g2, p2, _, _, rfl, rfl, (Same.new np2) _ _ g7, upd_same, by simp [hx]; decide, fun g3 ng3 => ?_⟩⟩
  have z3 := Same.new (o := .lst [V.non, .int ((1 : Nat) : Int)]) np2
  have z4 := Same.new (o := .lst ((xs ++ [V.ref L, .int 1, .int 1]) ++ [V.non, .int ((1 : Nat) : Int)])) ng3
  have d7 := (S7.trans (z3.trans z4)) _ _ ed
  refine ⟨_, rfl, by show 4 ≤ sizeLine; decide, fun m1 nm1 => ⟨by show 5 ≤ sizeLine; decide, fun p3 np3 => ⟨d, p3, _, _, rfl, rfl, ((Same.new nm1).trans (Same.new np3)) _ _ d7, upd_same, by simp [hy]; decide, fun d2 nd2 => ?_⟩⟩⟩
  have z5 := Same.new (o := .lst [V.int 0, .int 1, .int 2, .int 3]) nm1
  have z6 := Same.new (o := .lst [V.ref m1, .int 1, .int 1, .non, .int 1]) np3
  have z7 := Same.new (o := .lst (ys ++ [V.ref m1, .int 1, .int 1, .non, .int 1])) nd2
  have z67 := z6.trans z7
  have z57 := z5.trans z67
  have z37 := z3.trans (z4.trans z57)
  refine ⟨_, rfl, _, rfl, .ref g3, .ref d2, rfl, .inr ⟨g3, d2, _, _, rfl, rfl, z57 _ _ upd_same, upd_same, by simp [hx], ?_⟩, fun H9 s9 => ⟨true, rfl, iteF ?_⟩⟩
  · refine paired_app3 (Paired.mapP hp fun _ _ => EqN.same (S7.trans z37)) (.cons (eqn_four (z37 _ _ L7) (z67 _ _ upd_same)) (.cons (eqn_int 1) (.cons (eqn_int 1) (.cons eqn_non (.cons (eqn_int 1) .nil)))))
  · exact tR _ _ _ _ _ _ _ _ _ _ fun H' s' => k H' (S7.trans (z37.trans (s9.trans s')))
end Lb
/-! _law_by_hand_right: the whole. -/
namespace Lb
open PySem PySem.Spec PyProof.Rows L2
variable {P : Program} {w : World} {K : PySem.W.Frag} {mg : Str → Option Value} {base : Heap}
theorem ok_hand (T : TX K mg) : Cal P w K mg base "_law_by_hand_right" 8 [] spHand := by
  refine T.ok (d := gdef "_law_by_hand_right" 58) 34 rfl (j := 60) rfl rfl rfl rfl scHand (fun vs H Q E h => ?_) (fun _ _ _ _ _ _ us hl => match us, hl with | [], _ => rfl) fun f cdv A outer s H vs Q E hr h => ?_
  · obtain ⟨rfl, _⟩ := h
    rfl
  obtain ⟨rfl, k⟩ := h
  have hrng : mg "range" = none := T.free 13
  have MA : Met P w K mg base "Watch" "ask" 5 ["self", "size"] (spWAsk K) := ok_wask T
  have MGv : Met P w K mg base "Watch" "give" 3 ["self", "first"] (spWGive K) := ok_wgive T
  have MH : Met P w K mg base "Watch" "height" 1 ["self"] (spWHgt K) := ok_whgt T
  have MR : Met P w K mg base "Watch" "reach" 1 ["self"] (spWRch K) := ok_wrch T
  have MF : Met P w K mg base "Watch" "refused" 1 ["self"] (spRef K) := ok_ref T
  have MW : FnR P w K mg base CX0 3 (He.ma K (wC K) "__init__") (fun vs H Q E => spWI K (vs ++ [.ref (He.dflAt ("Watch", some "__init__") 0 K)]) H Q E) := T.mkW
  have nd := scHand.nd
  obtain ⟨tt, tD, tR⟩ := hand_mid (P := P) (w := w) (base := base) T (outer := outer) (H := H) (E := E) hr
  refine ⟨_, pss_cons (ps_set (i := 0) nd rfl (.inr rfl) (StX.pe_makeR T.mW MW (hr.mono (by decide)) (by rfl) T.gW pass0 (pa_cons (pe_tup (pa_cons pe_int (pa_cons pe_int pa_nil))) (pa_cons pe_int pa_nil))))
    (pss_cons (ps_set (i := 1) nd rfl (.inl rfl) (pe_lst (pa_cons
      (pe_lc (own := [("_law_lap", 7)]) (g := gName 7) (tt := tYes) (te := SlX.tMethSl (wC K) (spWAsk K) E0 (tVar 0) (tCons (tC (.int 1)) tNil)) rfl nd (pi_range1 (by rfl) hrng (pa_cons pe_int pa_nil)) (blkOk_by (N := haN) (sc := (gdef "_law_by_hand_right" 58).scope) (by decide +kernel))
        (fun _ _ _ _ _ => pg_name (i := 7) nd rfl (Or.inl rfl)) (fun _ _ _ _ _ => pts_nil) (fun _ _ _ _ _ => pe_wmeth T MA (pv 0) (hr.mono (by decide)) (pa_cons pe_int pa_nil)))
      (pa_cons (pe_wmeth T MGv (pv 0) (hr.mono (by decide)) (pa_cons pe_int pa_nil)) (pa_cons (pe_wmeth T MGv (pv 0) (hr.mono (by decide)) (pa_cons pe_int pa_nil)) (pa_cons (pe_wmeth T MA (pv 0) (hr.mono (by decide)) (pa_cons pe_int pa_nil)) pa_nil))))))
    (pss_cons (ps_set (i := 1) nd rfl (.inl rfl) (pe_op op_cat (pv 1) (pe_lst (pa_cons (pe_wmeth0 T MH (pv 0) (hr.mono (by decide))) (pa_cons (pe_wmeth0 T MR (pv 0) (hr.mono (by decide))) (pa_cons (pe_wmeth0 T MF (pv 0) (hr.mono (by decide))) pa_nil))))))
    (pss_cons (ps_set (i := 2) nd rfl (.inl rfl) (pe_lst (pa_cons (pe_lst (pa_cons pe_int (pa_cons pe_int (pa_cons pe_int (pa_cons pe_int pa_nil))))) (pa_cons pe_int (pa_cons pe_int (pa_cons pe_int (pa_cons pe_int (pa_cons pe_int (pa_cons pe_int pa_nil))))))))) tD))), ?_⟩
  have e2 : 2 ≤ sizeLine := by decide
  refine ⟨e2, fun tc ntc => made_w T (ch := [1, 2]) (pool := 6) (SqT.of upd_same) (by decide) fun a dx l1 l2 H1 n1 n2 n3 W1 s1 => ?_⟩
  have s0 := Same.new (o := .tup [.int 1, .int 2]) ntc
  have S1 := s0.trans s1
  have f1 : H l1 = none := s0.free n2
  have f2 : H l2 = none := s0.free n3
  refine ⟨4, rfl, by decide, by decide, fun L nL => ?_⟩
  have nel1 : l1 ≠ L := by
    obtain ⟨us, e, _⟩ := W1.st
    exact ne_of_none e nL
  have nel2 : l2 ≠ L := ne_of_none W1.tl nL
  have sL : Same H1 (upd H1 L (.lst [])) := Same.new nL
  refine lc_it (walk_range (lo := 0) (n := 4)) (fun j Hj => Wat K Hj a dx l1 l2 [1, 2] 6 (wP j ++ [wS j]) (wT j) ∧ But [l1, l2] H1 Hj ∧ Hj L = some (.lst (wT j))) ⟨W1.same sL, But.of sL, upd_same⟩ (fun _ _ _ _ => True.intro) ?_ ?_
  · rintro j v Hj Hj' hj ⟨Wj, bt, Lj⟩ ⟨rfl, rfl⟩
    obtain ⟨vsW, eW⟩ := Wj.s
    obtain ⟨q1, q2⟩ := w_fp (pool := 6) (by decide) hj
    refine ⟨rfl, _, rfl, a, dx, vsW, rfl, eW, a, dx, l1, l2, [1, 2], 6, wP j, wS j, wT j, 1, rfl, Wj, by decide, wS_stand (by omega), by decide, by decide, by rw [wP_len]; omega, by rw [wT_len]; omega, fun H5 W5 bt5 => ?_⟩
    have L5 := bt5 _ _ Lj (by simp [nel1.symm, nel2.symm])
    rw [q1, q2, ← wP_succ, ← wT_succ] at W5
    rw [q1]
    refine ⟨_, L5, by rw [wT_len]; exact small (by omega), ?_, ?_, ?_⟩
    · exact W5.put L5 nel1 nel2
    · intro x o e hx
      have nxL : x ≠ L := ne_of_none e nL
      rw [upd_ne nxL]
      exact bt5 _ _ (bt _ _ e hx) hx
    · rw [upd_same, wT_succ]
  rintro H2 ⟨W2, b2, L2⟩
  have S2 := but_same S1 f1 f2 b2
  obtain ⟨vs2, t2⟩ := W2.s
  refine ⟨_, rfl, a, dx, vs2, rfl, t2, a, dx, l1, l2, [1, 2], 6, wP 4, wS 4, wT 4, (1, 1), rfl, W2, by decide +kernel, wS_stand (by decide), by decide, by decide, fun H3 W3 b3 => ?_⟩
  rw [show outTo (wS 4) ((1, 1) : Blk).1 = wB from w_b] at W3
  dsimp only at W3 ⊢
  have S3 := but_same S2 f1 f2 b3
  have L3 := b3 _ _ L2 (by simp [nel1.symm, nel2.symm])
  obtain ⟨vs3, t3⟩ := W3.s
  refine ⟨_, rfl, a, dx, vs3, rfl, t3, a, dx, l1, l2, [1, 2], 6, _, wB, _, (3, 1), rfl, W3, by decide +kernel, wB_stand, by decide, by decide, fun H4 W4 b4 => ?_⟩
  rw [show outTo wB ((3, 1) : Blk).1 = wC' from w_c] at W4
  dsimp only at W4 ⊢
  have S4 := but_same S3 f1 f2 b4
  have L4 := b4 _ _ L3 (by simp [nel1.symm, nel2.symm])
  obtain ⟨vs4, t4⟩ := W4.s
  refine ⟨_, rfl, a, dx, vs4, rfl, t4, a, dx, l1, l2, [1, 2], 6, _, wC', _, 2, rfl, W4, by decide, wC_stand, by decide, by decide, by decide, by decide, fun H5 W5 b5 => ?_⟩
  rw [w_d6.1, w_d6.2] at W5
  rw [w_d6.1]
  have S5 := but_same S4 f1 f2 b5
  have L5 := b5 _ _ L4 (by simp [nel1.symm, nel2.symm])
  have W5 : Wat K H5 a dx l1 l2 [1, 2] 6 eyS (wT 4 ++ [V.int 1] ++ [V.int 1] ++ [V.int 4]) := W5
  refine ⟨by show 4 ≤ sizeLine; decide, fun g1 ng1 => ?_⟩
  have z1 := Same.new (o := .lst [V.ref L, .int 1, .int 1, .int 4]) ng1
  have W6 := W5.same z1
  obtain ⟨vs6, t6⟩ := W6.s
  refine ⟨_, rfl, _, rfl, a, dx, vs6, rfl, t6, a, dx, l1, l2, [1, 2], 6, _, _, rfl, W6, by decide, by decide, fun bs hb => Nat.le_trans (eyS_len bs hb) (by decide), fun m H7 s7 hm hm2 => ?_⟩
  cases eyes_live hm hm2
  have W7 := W6.same s7
  obtain ⟨vs7, t7⟩ := W7.s
  refine ⟨_, rfl, a, dx, vs7, rfl, t7, a, dx, l1, l2, [1, 2], 6, _, _, rfl, W7, by decide, eyS_len, fun m H8 s8 hm hm2 => ?_⟩
  cases eyes_ends hm hm2
  have W8 := W7.same s8
  obtain ⟨vs8, t8⟩ := W8.s
  refine ⟨_, rfl, a, dx, vs8, rfl, t8, a, dx, l1, l2, [1, 2], 6, _, _, rfl, W8, by decide, fun H9 s9 => ?_⟩
  rw [eyes_none]
  have z19 := z1.trans (s7.trans (s8.trans s9))
  have g9 := (s7.trans (s8.trans s9)) g1 _ upd_same
  refine ⟨by show 3 ≤ sizeLine; decide, fun p1 np1 => ⟨g1, p1, _, _, rfl, rfl, (Same.new np1) _ _ g9, upd_same, by show 7 ≤ sizeLine; decide, fun g2 ng2 => ?_⟩⟩
  have z3 := Same.new (o := .lst [V.int 4, .int 6, .int ((0 : Nat) : Int)]) np1
  have z4 := Same.new (o := .lst ([V.ref L, .int 1, .int 1, .int 4] ++ [V.int 4, .int 6, .int ((0 : Nat) : Int)])) ng2
  refine ⟨by show 4 ≤ sizeLine; decide, fun m1 nm1 => ⟨by show 7 ≤ sizeLine; decide, fun d nd1 => ?_⟩⟩
  have z5 := Same.new (o := .lst [V.int 0, .int 1, .int 2, .int 3]) nm1
  have z6 := Same.new (o := .lst [V.ref m1, .int 1, .int 1, .int 4, .int 4, .int 6, .int 0]) nd1
  have z56 := z5.trans z6
  have Z := z19.trans (z3.trans (z4.trans z56))
  exact tR _ _ _ _ _ _ _ g2 d _ _ _ (z56 _ _ upd_same) upd_same rfl rfl (.cons (eqn_four (Z _ _ L5) (z6 _ _ upd_same)) (.cons (eqn_int 1) (.cons (eqn_int 1) (.cons (eqn_int 4) (.cons (eqn_int 4) (.cons (eqn_int 6) (.cons (eqn_int 0) .nil))))))) fun H' s' => k H' (S5.trans (Z.trans s'))
end Lb
/-! law: the def as it lies. -/
namespace Lb
open PySem PySem.Spec PyProof.Rows L2
theorem fin_F {P : Program} {w : World} {K : PySem.W.Frag} {mg : Str → Option Value} {fa : Addr} (T : TX K mg) (hfa : mg "law" = some (.ref fa)) :
    ∃ fd, (∀ (s : Shared) (u : Value), BindsTo s fd ⟨[u], []⟩ [("_law_script", u)]) ∧ ∀ base : Heap, FnOk P w K mg base CX0 9 fa fd ["_law_script"] (spLaw K) := by
  have hga : mg "law" = some (.ref (He.ga K "law")) := T.glo 62
  rw [hfa] at hga
  cases hga
  obtain ⟨fd, F⟩ := T.fn 36 (d := gdef "law" 60)
  have F : FunD K "law" "law" (gdef "law" 60).params (gdef "law" 60).body (gdef "law" 60).scope [] [] (He.ga K "law") fd := F
  refine ⟨fd, fun s u => F.bindsA (ps := ["_law_script"]) (fun _ _ _ _ _ _ us hl => match us, hl with | [_], _ => rfl) s [u] rfl, fun base => ?_⟩
  refine F.ok scLaw (fun vs H Q E h => by obtain ⟨_, _, rfl, _⟩ := h; rfl) fun cdv A outer s H vs Q E hr h => ?_
  obtain ⟨t, h, q⟩ := body_law T (ok_hand T) hr h
  exact ⟨t, h.nox, q⟩
end Lb
set_option maxHeartbeats 0
namespace Lb
open PySem PySem.Spec PyProof.Rows L2
theorem walk_ofEB {l : PySem.W.OpenLaw} {n k : Nat} {q : Program} {loose : List Str} {XP : (Str → Option Value) → Heap → Prop} {YP : World → Heap → Prop} {d : DefRec} {CX : CXT} {x : Str}
    (hn : l.most = some n) (hn2 : n ≤ sizeLine) (hdf : d.params.defaults = []) (hr : Room k callerA)
    (F : ∀ (w : World) (mg : Str → Option Value) (fa : Addr) (h : Heap), YP w h → h.Ns mainGlobals mg → mg d.name = some (.ref fa) →
      ∃ (K : PySem.W.Frag) (fd : FuncData) (sp : Sp), K.In h ∧ (∀ (s : Shared) (u : Value), BindsTo s fd ⟨[u], []⟩ [(x, u)]) ∧
        (∀ (H : Hp) (a : Addr) (ns : List Int), ns.length ≤ n → (∀ z ∈ ns, Builtin.Int.intBits z ≤ 1048576) → Only H → SqL K H a (ns.map V.int) → sp [.ref a] H (fun v _ => v = .bl true) fun _ _ _ => False) ∧
        ∀ base : Heap, K.In base → base.Ns mainGlobals mg → FnOk l.prog w K mg base CX k fa fd [x] sp)
    (hCX : ∀ (H : Hp) (s : Shared) (e : Value) (s' : Shared), CX [] H s (fun _ _ _ => False) e s' → False) :
    PySem.W.WalkO q loose XP YP l.row.toRowW d [] (fun f vs => PySem.call f vs) := by
  refine Att.attach_callB hn hdf fun w s₀ s₁ mg mb fa o pm cd doc a vs ns G Y ho hd hcd hmg hobj hints hlen hbits hg => ?_
  obtain ⟨K, fd, sp, KX, hb, hsp, hF⟩ := F w mg fa _ Y G.T.g hmg
  exact law_call KX G.T.g G.T.b G.T.builtins G.T.nolimit hg hobj hints (Nat.le_trans hlen hn2) hr hF hb (fun H hO hS => hsp H a ns hlen hbits hO hS) fun H e s' => hCX H s₁ e s'
end Lb
open PySem PySem.W PySem.Calls PyProof.Rows
theorem PySem.Challenge.cw_lentblocks_k68_whole_rows_by_a_watch_and_holds : PySem.Challenge.rw_lentblocks_k68_whole_rows_by_a_watch_and.Holds := by
  w_on; o_law
  refine HandSHeadRun.head_any (r := OpenLaw.row PySem.Challenge.rw_lentblocks_k68_whole_rows_by_a_watch_and) (q := view (OpenLaw.row PySem.Challenge.rw_lentblocks_k68_whole_rows_by_a_watch_and).prog [60]) (H := Lb.hookL 5) (ob := Lb.obL) (M := 6000) (loose := Lb.nms) (d := HandSHeadRun.topDef (OpenLaw.row PySem.Challenge.rw_lentblocks_k68_whole_rows_by_a_watch_and).prog 60) (kwd := []) Lb.obL_eq
    (by kernel_rfl) (fun s => by kernel_rfl) Lb.run (by kernel_rfl) (by kernel_rfl) (by kernel_rfl) (by rfl) (by first | assumption | decide +kernel) (by decide +kernel) ⟨rfl, rfl, rfl, rfl, rfl, by decide +kernel⟩ ?hw ?hc
  case hw => w_witness2
  case hc =>
    refine Lb.walk_ofEB (l := PySem.Challenge.rw_lentblocks_k68_whole_rows_by_a_watch_and) (n := 63) (k := 20) (x := "_law_script") (CX := L2.CX0) rfl (by decide) (by kernel_rfl) ⟨rfl, by decide, by decide⟩ ?F (fun _ _ _ _ z => z)
    intro w mg fa h Y G hmg0
    obtain ⟨K, KX, c⟩ := Y
    have T : Lb.TX K mg := ⟨c, fun x r e => match r, e with
      | some v, e => PySem.W.mg_of KX G e
      | none, e => PySem.W.mg_none_of KX G e⟩
    obtain ⟨fd, hb, F⟩ := Lb.fin_F (P := PySem.Challenge.rw_lentblocks_k68_whole_rows_by_a_watch_and.prog) (w := w) T hmg0
    exact ⟨K, fd, Lb.spLaw K, KX, hb, fun H a ns hlen _ _ hS => ⟨a, ns, rfl, hS, hlen, fun _ => rfl⟩, fun base _ _ => (F base).mono (by decide)⟩

import PyProof.Rows.All
import Wide.All
import OpenK.AllK
import Wide.FinOn
import HandS.ForMost
import HandS.TupSets
import KE.KeyNested
import HandS.SetKeys
import HandS.SetFor
import HandS.Wide
import HandS.Defaults
import HandS.Exc
import HandS.TryOnly
import HandS.ExcOwn
import HandS.WordsExc
import HandS.IsInst
import HandS.Zip
import HandS.Star
import HandS.HeadHook4
import HandS.Deep
import HandS.TupAny
import HandS.TupLe
import HandS.Property
import HandS.MakeKwOnly
import HandS.DictComp
import HandS.Strs
import HandS.Zip0
import HandS.Style
import HandS.Head0
import HandS.Head1
import HandS.Head2
import HandS.HeadEnd
import PySem.Challenge.RW_lastshown_k50_alike_by_reasons
set_option Elab.async false
set_option linter.all false
set_option maxRecDepth 100000
set_option maxHeartbeats 4000000
namespace PL
open PySem PySem.Spec PyProof.Rows L2
/-! ### properties of the top's classes; a tuple of the top -/
def getterAt (K : PySem.W.Frag) (C f : Str) : Addr := match PySem.W.recIn K (He.ma K (He.ga K C) f) "property" with
  | some (.ref g :: _) => g
  | _ => 0
def codeAt (K : PySem.W.Frag) (a : Addr) : He.FnW := match K.lookup a with
  | some ⟨_, _, .func fd, _⟩ => some (fd.name, fd.qualname, fd.params, fd.body, fd.scope, fd.globals, fd.closure, fd.builtins)
  | _ => none
/-- the getters: class, name, def -/
abbrev Getter : Type := Str × Str × He.DefD
def obsP (ps : List Getter) (K : PySem.W.Frag) : List He.FnW := ps.map fun q => codeAt K (getterAt K q.1 q.2.1)
def valP (ps : List Getter) : List He.FnW := ps.map fun q => q.2.2.val
def hookP (n : Nat) (fa : List He.Fa) (fn : List He.DefD) (ps : List Getter) (ex : PySem.W.Frag → Bool) : PySem.W.Hook where
  α := He.AlX × List He.FnW
  obs := fun s => (He.obsX n fa fn [] [] ex s.heap.get?, obsP ps (He.frT s.heap.get? (He.asD s.heap.get? n)))
  val := fun w => (He.valX fn [] w, valP ps)
  says := fun w h => ∃ K : PySem.W.Frag, K.In h ∧ He.SaysX fa fn [] [] ex w h K ∧ obsP ps K = valP ps
  of := fun _ _ e => ⟨_, He.frT_in, He.saysX_of (congrArg Prod.fst e), congrArg Prod.snd e⟩
  keeps := fun _ _ _ ⟨K, hK, c, d⟩ k => ⟨K, PySem.W.Frag.In.keeps hK k, ⟨c.t, c.more, c.hd, c.out, fun p hp => k _ _ (c.empty p hp)⟩, d⟩
def obsPG (n : Nat) (fa : List He.Fa) (fn : List He.DefD) (ps : List Getter) (ex : PySem.W.Frag → Bool) (g : Addr → Option Obj) : He.AlX × List He.FnW := (He.obsX n fa fn [] [] ex g, obsP ps (He.frT g (He.asD g n)))
theorem obsPG_eq {n : Nat} {fa : List He.Fa} {fn : List He.DefD} {ps : List Getter} {ex : PySem.W.Frag → Bool} {g : Addr → Option Obj} {s : Shared} (h : ∀ a, g a = s.heap.get? a) : obsPG n fa fn ps ex g = (hookP n fa fn ps ex).obs s := by
  have e : g = s.heap.get? := funext h
  rw [e] <;> rfl
/-- the tuple's object has no dict -/
def tupN (K : PySem.W.Frag) (x : Str) : Bool := match K.lookup (He.ga K x) with
  | some ⟨.type c, none, _, _⟩ => c == "tuple"
  | _ => false
/-! ### C(k = v), the others by their defaults: empty tuples -/
def dtB (K : PySem.W.Frag) (a : Addr) : Bool := match K.lookup a with
  | some ⟨.type c, _, .seq its _, _⟩ => decide (c = "tuple") && decide (its.size = 0)
  | _ => false
end PL
namespace Lw
open PySem PySem.Spec PyProof.Rows L2 PL
def top (i : Nat) : Stmt := PySem.Challenge.pw_lastshown_k50_alike_by_reasons.main.body.getD i (.Pass ⟨0, 0, 0, 0⟩)

abbrev s_law_pot : Stmt := top 27
def d_law_pot : He.DefD := ⟨("_law_pot", none), "_law_pot", "_law_pot", defArgs s_law_pot, defBody s_law_pot, defScope s_law_pot, [], []⟩
abbrev s_law_dip : Stmt := top 28
def d_law_dip : He.DefD := ⟨("_law_dip", none), "_law_dip", "_law_dip", defArgs s_law_dip, defBody s_law_dip, defScope s_law_dip, [], []⟩
abbrev s_law_rule : Stmt := top 29
def d_law_rule : He.DefD := ⟨("_law_rule", none), "_law_rule", "_law_rule", defArgs s_law_rule, defBody s_law_rule, defScope s_law_rule, [], []⟩
abbrev s_law_rules : Stmt := top 30
def d_law_rules : He.DefD := ⟨("_law_rules", none), "_law_rules", "_law_rules", defArgs s_law_rules, defBody s_law_rules, defScope s_law_rules, [], []⟩
abbrev s_is_rule : Stmt := top 24
def d_is_rule : He.DefD := ⟨("is_rule", none), "is_rule", "is_rule", defArgs s_is_rule, defBody s_is_rule, defScope s_is_rule, [], []⟩
abbrev s_Book__init : Stmt := inClass (top 25) 0
def d_Book__init : He.DefD := ⟨("Book", some "__init__"), "__init__", "Book.__init__", defArgs s_Book__init, defBody s_Book__init, defScope s_Book__init, [.adr (He.dflAt ("Book", some "__init__") 0), .adr (He.dflAt ("Book", some "__init__") 1), .adr (He.dflAt ("Book", some "__init__") 2), .adr (He.dflAt ("Book", some "__init__") 3), .adr (He.dflAt ("Book", some "__init__") 4), .adr (He.dflAt ("Book", some "__init__") 5)], []⟩
abbrev s_is_door : Stmt := top 23
def d_is_door : He.DefD := ⟨("is_door", none), "is_door", "is_door", defArgs s_is_door, defBody s_is_door, defScope s_is_door, [], []⟩
abbrev s_Book_rule : Stmt := inClass (top 25) 2
def d_Book_rule : He.DefD := ⟨("Book", some "rule"), "rule", "Book.rule", defArgs s_Book_rule, defBody s_Book_rule, defScope s_Book_rule, [], []⟩
abbrev s_Book_with_rule : Stmt := inClass (top 25) 4
def d_Book_with_rule : He.DefD := ⟨("Book", some "with_rule"), "with_rule", "Book.with_rule", defArgs s_Book_with_rule, defBody s_Book_with_rule, defScope s_Book_with_rule, [], []⟩
abbrev s_law_book : Stmt := top 32
def d_law_book : He.DefD := ⟨("_law_book", none), "_law_book", "_law_book", defArgs s_law_book, defBody s_law_book, defScope s_law_book, [], []⟩
abbrev s_Standing__init : Stmt := inClass (top 13) 0
def d_Standing__init : He.DefD := ⟨("Standing", some "__init__"), "__init__", "Standing.__init__", defArgs s_Standing__init, defBody s_Standing__init, defScope s_Standing__init, [], []⟩
abbrev s_ranks : Stmt := top 7
def d_ranks : He.DefD := ⟨("ranks", none), "ranks", "ranks", defArgs s_ranks, defBody s_ranks, defScope s_ranks, [], []⟩
abbrev s_Standing_mark : Stmt := inClass (top 13) 1
def d_Standing_mark : He.DefD := ⟨("Standing", some "mark"), "mark", "Standing.mark", defArgs s_Standing_mark, defBody s_Standing_mark, defScope s_Standing_mark, [], []⟩
abbrev s_gaps : Stmt := top 5
def d_gaps : He.DefD := ⟨("gaps", none), "gaps", "gaps", defArgs s_gaps, defBody s_gaps, defScope s_gaps, [], []⟩
abbrev s_between : Stmt := top 6
def d_between : He.DefD := ⟨("between", none), "between", "between", defArgs s_between, defBody s_between, defScope s_between, [], []⟩
abbrev s_Standing_priced : Stmt := inClass (top 13) 2
def d_Standing_priced : He.DefD := ⟨("Standing", some "priced"), "priced", "Standing.priced", defArgs s_Standing_priced, defBody s_Standing_priced, defScope s_Standing_priced, [], []⟩
abbrev s_LineWork_carry_out : Stmt := inClass (top 2) 1
def d_LineWork_carry_out : He.DefD := ⟨("LineWork", some "carry_out"), "carry_out", "LineWork.carry_out", defArgs s_LineWork_carry_out, defBody s_LineWork_carry_out, defScope s_LineWork_carry_out, [], []⟩
abbrev s_LineWork__init : Stmt := inClass (top 2) 0
def d_LineWork__init : He.DefD := ⟨("LineWork", some "__init__"), "__init__", "LineWork.__init__", defArgs s_LineWork__init, defBody s_LineWork__init, defScope s_LineWork__init, [], []⟩
abbrev s_Standing_behind : Stmt := inClass (top 13) 3
def d_Standing_behind : He.DefD := ⟨("Standing", some "behind"), "behind", "Standing.behind", defArgs s_Standing_behind, defBody s_Standing_behind, defScope s_Standing_behind, [], []⟩
abbrev s_Standing_persons : Stmt := inClass (top 13) 4
def d_Standing_persons : He.DefD := ⟨("Standing", some "persons"), "persons", "Standing.persons", defArgs s_Standing_persons, defBody s_Standing_persons, defScope s_Standing_persons, [], []⟩
abbrev s_with_amount : Stmt := top 9
def d_with_amount : He.DefD := ⟨("with_amount", none), "with_amount", "with_amount", defArgs s_with_amount, defBody s_with_amount, defScope s_with_amount, [], []⟩
abbrev s_with_amounts : Stmt := top 8
def d_with_amounts : He.DefD := ⟨("with_amounts", none), "with_amounts", "with_amounts", defArgs s_with_amounts, defBody s_with_amounts, defScope s_with_amounts, [], []⟩
abbrev s_told_apart : Stmt := top 14
def d_told_apart : He.DefD := ⟨("told_apart", none), "told_apart", "told_apart", defArgs s_told_apart, defBody s_told_apart, defScope s_told_apart, [], []⟩
abbrev s_law_right : Stmt := top 33
def d_law_right : He.DefD := ⟨("_law_right", none), "_law_right", "_law_right", defArgs s_law_right, defBody s_law_right, defScope s_law_right, [], []⟩
abbrev s_law : Stmt := top 34
def d_law : He.DefD := ⟨("law", none), "law", "law", defArgs s_law, defBody s_law, defScope s_law, [], []⟩
def fa : List He.Fa := [.free "len", .free "int", .free "abs", .free "max", .glo "_law_pot", .glo "_law_dip", .free "range", .free "tuple", .glo "_law_rule", .glo "_law_rules", .free "isinstance", .int "MOST_ACTIONS" 6, .free "str", .glo "ACTIONS", .free "all", .glo "is_rule", .glo "DOORS", .free "zip", .cls "Book", .noat "Book" "row", .glo "Book", .mkr "Book", .glo "is_door", .meth "Book" "rule", .meth "Book" "with_rule", .free "sum", .glo "_law_book", .cls "Standing", .noat "Standing" "kept_by", .cls "LineWork", .noat "LineWork" "seen", .noat "Standing" "seen", .noat "Standing" "now", .noat "Standing" "is_failed", .noat "Standing" "deeds", .noat "Standing" "is_apart", .glo "Standing", .mkr "Standing", .free "sorted", .free "set", .glo "ranks", .meth "Standing" "mark", .int "WIDTH" 1000000000000000000000000000000, .glo "gaps", .glo "between", .str "ITEM" "a", .meth "Standing" "priced", .noat "LineWork" "stays", .free "min", .noat "LineWork" "times", .noat "LineWork" "told", .meth "LineWork" "carry_out", .glo "LineWork", .mkr "LineWork", .meth "Standing" "behind", .str "OTHER" "b", .meth "Standing" "persons", .glo "with_amount", .glo "with_amounts", .glo "told_apart", .glo "_law_right", .glo "law"]
def fn : List He.DefD := [d_law_pot, d_law_dip, d_law_rule, d_law_rules, d_is_rule, d_Book__init, d_is_door, d_Book_rule, d_Book_with_rule, d_law_book, d_Standing__init, d_ranks, d_Standing_mark, d_gaps, d_between, d_Standing_priced, d_LineWork_carry_out, d_LineWork__init, d_Standing_behind, d_Standing_persons, d_with_amount, d_with_amounts, d_told_apart, d_law_right, d_law]
def gets : List Getter := []
def tv_ACTIONS : List Str := ["take", "least", "last", "show", "ask"]
def tv_DOORS : List Str := ["put", "look", "alter", "back", "pay", "again"]
def ex (K : PySem.W.Frag) : Bool := He.tupB K "ACTIONS" (tv_ACTIONS.map .str) && (tupN K "ACTIONS" && (He.tupB K "DOORS" (tv_DOORS.map .str) && (tupN K "DOORS" && (dtB K (He.dflAt ("Book", some "__init__") 0 K) && (dtB K (He.dflAt ("Book", some "__init__") 1 K) && (dtB K (He.dflAt ("Book", some "__init__") 2 K) && (dtB K (He.dflAt ("Book", some "__init__") 3 K) && (dtB K (He.dflAt ("Book", some "__init__") 4 K) && (dtB K (He.dflAt ("Book", some "__init__") 5 K) && (true))))))))))
def names0 : List Str := ["_wall", "LineWork", "WIDTH", "gaps", "between", "ranks", "with_amounts", "with_amount", "ITEM", "OTHER", "Standing", "told_apart", "ShownError", "NoRule", "NoDoor"]
def names1 : List Str := ["DOORS", "ACTIONS", "MOST_ACTIONS", "is_door", "is_rule", "Book", "_law_pot", "_law_dip", "_law_rule", "_law_rules", "_law_near", "_law_book", "_law_right"]
def namesA : List Str := names0 ++ names1
abbrev Rr : PySem.W.OpenRow := PySem.W.OpenLaw.row PySem.Challenge.rw_lastshown_k50_alike_by_reasons
abbrev hk : PySem.W.Hook := hookP 6 fa fn gets ex
def obQ (s : PySem.W.SharedT) : He.AlX × List He.FnW := obsPG 6 fa fn gets ex (HandSHeadRun.getT s)
theorem obQ_eq (s : PySem.W.SharedT) : obQ s = hk.obs s.abs := obsPG_eq (HandSHeadRun.getT_eq s)
set_option maxHeartbeats 0 in
theorem runQ (w : World) : HandSHeadRun.RunEq Rr (PySem.W.view Rr.prog [34]) hk obQ 6000 namesA w := by
  intro os
  kernel_rfl

end Lw
namespace NS
open PySem PySem.Spec PyProof.Rows L2
/-! ### tables of greater sets: the masks 7 to 2047 -/
/-- an odd mask whose last rounds come by all slots -/
structure Mk2 (m : Nat) : Prop where
  odd : m % 2 = 1
  cov : ∀ i j, i ≤ m → j ≤ m → ∃ k, k ≤ m ∧ lcgI m i k = j
def orbit (m : Nat) : Nat → Nat → List Nat
  | _, 0 => []
  | i, n + 1 => i :: orbit m ((i * 5 + 1) % (m + 1)) n
theorem lcgI_next (m : Nat) : ∀ (k i : Nat), lcgI m i (k + 1) = lcgI m ((i * 5 + 1) % (m + 1)) k
  | 0, i => rfl
  | k + 1, i => by
    have ih := lcgI_next m k i
    show (lcgI m i (k + 1) * 5 + 1) % (m + 1) = (lcgI m ((i * 5 + 1) % (m + 1)) k * 5 + 1) % (m + 1)
    rw [ih]
theorem orbit_at (m : Nat) : ∀ (n i j : Nat), j ∈ orbit m i n → ∃ k, k < n ∧ lcgI m i k = j
  | 0, i, j, h => by simp [orbit] at h
  | n + 1, i, j, h => by
    rcases List.mem_cons.mp h with z | z
    · exact ⟨0, by omega, z.symm⟩
    · obtain ⟨k, hk, e⟩ := orbit_at m n _ j z
      exact ⟨k + 1, by omega, by rw [lcgI_next]; exact e⟩
theorem at_orbit (m : Nat) : ∀ (n i k : Nat), k < n → lcgI m i k ∈ orbit m i n
  | 0, _, _, h => absurd h (by omega)
  | n + 1, i, 0, _ => List.mem_cons_self
  | n + 1, i, k + 1, h => by
    rw [lcgI_next]
    exact List.mem_cons_of_mem _ (at_orbit m n _ k (by omega))
theorem lcgI_plus (m i : Nat) : ∀ (b a : Nat), lcgI m (lcgI m i a) b = lcgI m i (a + b)
  | 0, a => rfl
  | b + 1, a => by
    show (lcgI m (lcgI m i a) b * 5 + 1) % (m + 1) = (lcgI m i (a + b) * 5 + 1) % (m + 1)
    rw [lcgI_plus m i b a]
/-- from 0 by all slots in m + 1 steps and back to 0 -/
theorem Mk2.of {m : Nat} (h1 : m % 2 = 1) (h2 : ((List.range (m + 1)).all fun j => (orbit m 0 (m + 1)).contains j) = true) (h3 : lcgI m 0 (m + 1) = 0) : Mk2 m where
  odd := h1
  cov := fun i j hi hj => by
    have at0 : ∀ j, j ≤ m → ∃ k, k < m + 1 ∧ lcgI m 0 k = j := fun j hj => by
      have := List.all_eq_true.mp h2 j (List.mem_range.mpr (by omega))
      exact orbit_at m (m + 1) 0 j (by simpa using this)
    obtain ⟨a, ha, ea⟩ := at0 i hi
    obtain ⟨b, hb, eb⟩ := at0 j hj
    by_cases c : a ≤ b
    · refine ⟨b - a, by omega, ?_⟩
      rw [← ea, lcgI_plus, show a + (b - a) = b by omega, eb]
    · refine ⟨m + 1 - a + b, by omega, ?_⟩
      rw [← ea, lcgI_plus, show a + (m + 1 - a + b) = (m + 1) + b by omega, ← lcgI_plus, h3, eb]
theorem mk7 : Mk2 7 := .of rfl (by decide +kernel) (by decide +kernel)
theorem mk31 : Mk2 31 := .of rfl (by decide +kernel) (by decide +kernel)
theorem mk127 : Mk2 127 := .of rfl (by decide +kernel) (by decide +kernel)
theorem mk511 : Mk2 511 := .of rfl (by decide +kernel) (by decide +kernel)
theorem Mk2.meets {m : Nat} (M : Mk2 m) (h : Int) {j : Nat} (hj : j ≤ m) : ∃ n, n ≤ m + 12 ∧ runI m (SetTable.bits h) n = j := by
  obtain ⟨k, hk, e⟩ := M.cov _ j (runI_le m (SetTable.bits h) 12) hj
  refine ⟨12 + k, by omega, ?_⟩
  rw [runI_tail (bits_lt h), e]
theorem Mk2.slots {m : Nat} (M : Mk2 m) (h : Int) {j : Nat} (hj : j ≤ m) : ∃ k, k < 10 * SetTable.turns m ∧ way m h k = j := by
  obtain ⟨n, hn, e⟩ := M.meets h hj
  obtain ⟨k, hk, e2⟩ := run_nth m (SetTable.bits h) n
  refine ⟨k, by unfold SetTable.turns; omega, ?_⟩
  unfold way
  rw [e2]
  exact e
theorem way_in {m : Nat} {h : Int} {k : Nat} : way m h k ≤ m := by
  have h0 : SetTable.bits h % (m + 1) ≤ m := Nat.le_of_lt_succ (Nat.mod_lt _ (Nat.succ_pos _))
  obtain ⟨r1, r2, _⟩ := runEnd_bd h0
  have := nth_in (m := m) k (runAt m (SetTable.bits h % (m + 1)) (SetTable.bits h)) (by unfold runAt; simp only; omega)
  unfold way
  omega
/-- what a table of hashes is -/
structure Tb (t : SetTable) (hs : List Int) : Prop where
  up : Ris t.place.toList
  no : t.dummies = #[]
  len : t.place.toList.length = hs.length
  msk : Mk2 t.mask
  le : ∀ x ∈ t.place.toList, x ≤ t.mask
  on : ∀ (i : Nat) (h : Int) (j : Nat), hs[i]? = some h → t.place.toList[i]? = some j → ∃ k, way t.mask h k = j ∧ ∀ q, q < k → way t.mask h q ∈ t.place.toList
variable {t : SetTable} {hs : List Int}
theorem Tb.gap (T : Tb t hs) (hl : hs.length ≤ t.mask) (h : Int) : ∃ K, K < 10 * SetTable.turns t.mask ∧ way t.mask h K ∉ t.place.toList ∧ ∀ k, k < K → way t.mask h k ∈ t.place.toList := by
  obtain ⟨j, hj, hn⟩ := st_missing t.place.toList (t.mask + 1) (by rw [T.len]; omega)
  obtain ⟨k, hk, e⟩ := T.msk.slots h (j := j) (by omega)
  obtain ⟨K, a1, a2, a3⟩ := st_least (p := fun q => ¬ way t.mask h q ∈ t.place.toList) k (by rw [e]; exact hn)
  exact ⟨K, by omega, a2, fun q hq => Classical.not_not.mp (a3 q hq)⟩
theorem Tb.prior (T : Tb t hs) {h : Int} {K i j : Nat} (hK : way t.mask h K ∉ t.place.toList) (hi : hs[i]? = some h) (hj : t.place.toList[i]? = some j) : ∃ k, k < K ∧ way t.mask h k = j := by
  obtain ⟨k, e, hb⟩ := T.on i h j hi hj
  have hm : j ∈ t.place.toList := List.mem_of_getElem? hj
  refine ⟨k, ?_, e⟩
  false_or_by_contra
  rename_i c
  by_cases z : k = K
  · subst z; rw [e] at hK; exact hK hm
  · exact hK (hb K (by omega))
/-- one more -/
theorem Tb.put (T : Tb t hs) {h : Int} {K j p : Nat} (ej : way t.mask h K = j) (ep : SetTable.below t.place j = p) (hK : j ∉ t.place.toList) (hb : ∀ k, k < K → way t.mask h k ∈ t.place.toList) :
    p ≤ hs.length ∧ Tb (t.put j).1 (hs.take p ++ h :: hs.drop p) ∧ (t.put j).1.fill = hs.length + 1 := by
  obtain ⟨c1, _, _⟩ := below_cut T.up j
  rw [ep] at c1
  have hpl : p ≤ t.place.toList.length := by rw [Array.length_toList]; exact c1
  have hph : p ≤ hs.length := by rw [← T.len]; exact hpl
  have hnp : t.place[SetTable.below t.place j]? ≠ some j := fun e => hK (by
    rw [← Array.getElem?_toList] at e
    exact List.mem_of_getElem? e)
  have hpp := put_place t j
  rw [ep] at hpp
  have hl : (t.put j).1.place.toList.length = hs.length + 1 := by rw [hpp, len_ins _ hpl, T.len]
  have more : ∀ x, x ∈ t.place.toList → x ∈ (t.put j).1.place.toList := fun x hx => by rw [hpp]; exact mem_ins.mpr (.inr hx)
  refine ⟨hph, ⟨ris_insert T.up hnp, put_dm T.no j, by rw [hl, len_ins _ hph], T.msk, fun x hx => ?_, fun i h' j' h1 h2 => ?_⟩, ?_⟩
  · rw [hpp] at hx
    rcases mem_ins.mp hx with z | z
    · subst z; rw [← ej]; exact way_in
    · exact T.le x z
  · rw [tins_get hs hph] at h1
    rw [hpp, tins_get _ hpl] at h2
    show ∃ k, way t.mask h' k = j' ∧ ∀ q, q < k → way t.mask h' q ∈ (t.put j).1.place.toList
    split at h1
    · rename_i c
      rw [if_pos c] at h2
      obtain ⟨k, e, z⟩ := T.on i h' j' h1 h2
      exact ⟨k, e, fun q hq => more _ (z q hq)⟩
    · rename_i c
      rw [if_neg c] at h2
      split at h1
      · rename_i d
        rw [if_pos d] at h2
        cases h1
        cases h2
        exact ⟨K, ej, fun q hq => more _ (hb q hq)⟩
      · rename_i d
        rw [if_neg d] at h2
        obtain ⟨k, e, z⟩ := T.on (i - 1) h' j' h1 h2
        exact ⟨k, e, fun q hq => more _ (z q hq)⟩
  · have e1 : (t.put j).1.place.size = hs.length + 1 := by rw [← Array.length_toList]; exact hl
    unfold SetTable.fill
    rw [e1, put_dm T.no j]
    rfl
/-! laying anew -/
theorem Mk2.free {m : Nat} (M : Mk2 m) (ow : Array (Option Nat)) (h : Int) {j : Nat} (hj : j ≤ m) (hf : oAt ow j = none) :
    ∃ K, SetTable.layClean.free m ow (SetTable.turns m) (SetTable.bits h % (m + 1)) (SetTable.bits h) = some (way m h K) ∧ oAt ow (way m h K) = none ∧ ∀ k, k < K → oAt ow (way m h k) ≠ none := by
  obtain ⟨n, hn, e⟩ := M.meets h hj
  obtain ⟨N, eN⟩ : ∃ N, N = off m (SetTable.bits h % (m + 1)) (SetTable.bits h) n := ⟨_, rfl⟩
  have hw : way m h N = j := by
    unfold way
    rw [eN, nth_off, itL_run]
    exact e
  obtain ⟨K, k1, k2, k3⟩ := st_least (p := fun q => oAt ow (way m h q) = none) N (by rw [hw]; exact hf)
  refine ⟨K, free_spec m ow (SetTable.turns m) n _ _ K (by unfold SetTable.turns; omega) (by rw [← eN]; exact k1) (fun k hk => ?_) ?_, k2, k3⟩
  · have := k3 k hk
    unfold way at this
    cases z : oAt ow (nth m (runAt m (SetTable.bits h % (m + 1)) (SetTable.bits h)) k).j with
    | none => exact absurd z this
    | some _ => rfl
  · unfold way at k2
    rw [k2]; rfl
theorem Mk2.one {m : Nat} (M : Mk2 m) {done : List Int} {ow : Array (Option Nat)} (W : Own m done ow) (hl : done.length ≤ m) (h : Int) :
    ∃ j, SetTable.layClean.free m ow (SetTable.turns m) (SetTable.bits h % (m + 1)) (SetTable.bits h) = some j ∧ Own m (done ++ [h]) (ow.setIfInBounds j (some done.length)) := by
  obtain ⟨ps, hps, hin⟩ := W.ps
  obtain ⟨j0, h0, n0⟩ := st_missing ps (m + 1) (by omega)
  have f0 : oAt ow j0 = none := by
    cases z : oAt ow j0 with
    | none => rfl
    | some k => exact absurd (hin j0 (by omega) (by rw [z]; simp)) n0
  obtain ⟨K, e1, e2, e3⟩ := M.free ow h (j := j0) (by omega) f0
  obtain ⟨j, ej⟩ : ∃ j, j = way m h K := ⟨_, rfl⟩
  have hjm : j ≤ m := by rw [ej]; exact way_in
  rw [← ej] at e1 e2
  have me := oAt_set_self (owner := ow) (some done.length) (j := j) (by rw [W.sz]; omega)
  have stay : ∀ i, oAt ow i ≠ none → oAt (ow.setIfInBounds j (some done.length)) i ≠ none := fun i hi => by
    by_cases c : i = j
    · subst c; rw [me]; simp
    · rw [oAt_set_ne _ c]; exact hi
  refine ⟨j, e1, ⟨by rw [Array.size_setIfInBounds]; exact W.sz, fun i k hi e => ?_, fun k hk => ?_, ⟨j :: ps, by simp [hps], fun i hi e => ?_⟩⟩⟩
  · by_cases c : i = j
    · subst c
      rw [me] at e
      cases e
      exact ⟨h, K, by simp, ej.symm, fun q hq => stay _ (e3 q hq)⟩
    · rw [oAt_set_ne _ c] at e
      obtain ⟨h', K', a1, a2, a3⟩ := W.at_ i k hi e
      exact ⟨h', K', by rw [List.getElem?_append_left (List.getElem?_eq_some_iff.mp a1).1]; exact a1, a2, fun q hq => stay _ (a3 q hq)⟩
  · by_cases c : k < done.length
    · obtain ⟨i, hi, e⟩ := W.all k c
      refine ⟨i, hi, ?_⟩
      rw [oAt_set_ne _ (fun z => by subst z; rw [e2] at e; cases e)]
      exact e
    · simp at hk
      have : k = done.length := by omega
      subst this
      exact ⟨j, hjm, me⟩
  · by_cases c : i = j
    · subst c; exact List.mem_cons_self
    · rw [oAt_set_ne _ c] at e
      exact List.mem_cons_of_mem _ (hin i hi e)
theorem Mk2.fold {m : Nat} (M : Mk2 m) : ∀ (rest done : List Int) (ow : Array (Option Nat)), Own m done ow → done.length + rest.length ≤ m →
    ∃ ow' n, rest.foldl (stepF m) (some (ow, done.length)) = some (ow', n) ∧ Own m (done ++ rest) ow'
  | [], done, ow, W, _ => ⟨ow, _, rfl, by simpa using W⟩
  | h :: rest, done, ow, W, hl => by
    simp only [List.length_cons] at hl
    obtain ⟨j, e, W'⟩ := M.one W (by omega) h
    obtain ⟨ow', n, f, W2⟩ := M.fold rest (done ++ [h]) _ W' (by simp; omega)
    refine ⟨ow', n, ?_, by simpa using W2⟩
    rw [List.foldl_cons, stepF_some e]
    simpa using f
theorem Mk2.lay {m : Nat} (M : Mk2 m) {hs : Array Int} (hn : hs.size ≤ m) : ∃ ow, SetTable.layClean m hs = some ow ∧ Own m hs.toList ow := by
  obtain ⟨ow, n, f, W⟩ := M.fold hs.toList [] _ (Own.init m) (by simp; omega)
  refine ⟨ow, ?_, by simpa using W⟩
  rw [layClean_eq, show (0 : Nat) = ([] : List Int).length from rfl, f]
  rfl
theorem relay2 (t : SetTable) {hs : Array Int} {wanted m : Nat} (hw : SetTable.sizeAbove wanted - 1 = m) (M : Mk2 m) (hn : hs.size ≤ m) :
    ∃ t' order, t.relaid hs wanted = some (t', order) ∧ order.toList.Perm (List.range hs.size) ∧ Tb t' (order.toList.map fun i => hs.getD i 0) ∧ t'.mask = m ∧ t'.led = t.led ∧ t'.plain = t.plain := by
  obtain ⟨ow, e, W⟩ := M.lay hn
  obtain ⟨L, eL⟩ : ∃ L, L = liveOf m ow := ⟨_, rfl⟩
  have mem : ∀ j k, (j, k) ∈ L ↔ j ≤ m ∧ oAt ow j = some k := fun j k => by rw [eL]; exact mem_live W.sz
  have ris := ris_live (fun j => ow.getD j none) (List.range (m + 1)) List.pairwise_lt_range
  have r1 : Ris (L.map (·.1)) := by rw [eL]; exact ris.1
  have r2 : ∀ x ∈ L.map (·.1), x ∈ List.range (m + 1) := by rw [eL]; exact ris.2
  have nd : (L.map (·.1)).Nodup := List.Pairwise.imp (fun h => Nat.ne_of_lt h) r1
  have all : ∀ k, k < hs.size → k ∈ L.map (·.2) := fun k hk => by
    obtain ⟨j, b1, b2⟩ := W.all k (by simpa using hk)
    exact List.mem_map.mpr ⟨(j, k), (mem j k).mpr ⟨b1, b2⟩, rfl⟩
  have hlen : L.length = hs.size := by
    obtain ⟨ps, p1, p2⟩ := W.ps
    have a := nat_nodup_len (L.map (·.1)) ps nd fun x hx => by
      obtain ⟨⟨y, k⟩, hq, rfl⟩ := List.mem_map.mp hx
      obtain ⟨b1, b2⟩ := (mem y k).mp hq
      exact p2 y b1 (by rw [b2]; simp)
    have b := nat_nodup_len (List.range hs.size) (L.map (·.2)) List.nodup_range fun k hk => all k (List.mem_range.mp hk)
    simp at a b p1
    omega
  refine ⟨tabOf t m ow, ((liveOf m ow).map (·.2)).toArray, by rw [relaid_eq, hw, e]; rfl, ?_, ⟨?_, rfl, ?_, M, fun x hx => ?_, fun i h j h1 h2 => ?_⟩, rfl, rfl, rfl⟩
  · rw [← eL]
    exact perm_range hs.size _ (by simp [hlen]) (by simpa using all)
  · show Ris ((liveOf m ow).map (·.1))
    rw [← eL]; exact r1
  · show ((liveOf m ow).map (·.1)).length = (((liveOf m ow).map (·.2)).map fun i => hs.getD i 0).length
    simp
  · have hx : x ∈ (liveOf m ow).map (·.1) := hx
    rw [← eL] at hx
    have := List.mem_range.mp (r2 x hx)
    show x ≤ m
    omega
  · have h1 : (((liveOf m ow).map (·.2)).map fun i => hs.getD i 0)[i]? = some h := h1
    have h2 : ((liveOf m ow).map (·.1))[i]? = some j := h2
    rw [← eL, List.getElem?_map, List.getElem?_map] at h1
    rw [← eL, List.getElem?_map] at h2
    show ∃ k, way m h k = j ∧ ∀ q, q < k → way m h q ∈ (liveOf m ow).map (·.1)
    rw [← eL]
    cases hq : L[i]? with
    | none => rw [hq] at h2; cases h2
    | some q =>
      obtain ⟨y, k⟩ := q
      rw [hq] at h1 h2
      simp only [Option.map_some, Option.some.injEq] at h1 h2
      subst h2
      obtain ⟨b1, b2⟩ := (mem y k).mp (List.mem_of_getElem? hq)
      obtain ⟨h0, K, a1, a2, a3⟩ := W.at_ y k b1 b2
      have e0 : h0 = h := by
        rw [← h1, Array.getD_eq_getD_getElem?, ← Array.getElem?_toList, a1]
        rfl
      subst e0
      refine ⟨K, a2, fun q hq => ?_⟩
      cases z : oAt ow (way m h0 q) with
      | none => exact absurd z (a3 q hq)
      | some k2 => exact List.mem_map.mpr ⟨(way m h0 q, k2), (mem _ _).mpr ⟨way_in, z⟩, rfl⟩
theorem size4_5 : SetTable.sizeAbove (SetTable.grown 5) = 32 := by decide +kernel
theorem size4_19 : SetTable.sizeAbove (SetTable.grown 19) = 128 := by decide +kernel
theorem size4_77 : SetTable.sizeAbove (SetTable.grown 77) = 512 := by decide +kernel
end NS

namespace NS
open PySem PySem.Spec PyProof.Rows L2
/-! ### sets of nested tuples -/
abbrev IsK (h : Heap) (k : NestedKey) (b : Addr) : Prop := NestedIs h k (.ref b) ∧ k.depth ≤ 8
section
variable {P : Program} {w : World} {A : Around} {E : Value → Shared → Prop} {s : Shared}
mutual
theorem notOfClass : ∀ (k : NestedKey) (v : Value) (n : Nat), NestedIs s.heap k v → k.depth ≤ n → ∀ (A : Around) (E : Value → Shared → Prop) (Q : Bool → Shared → Prop), Q false s → wpAny (model P w) A (ofAClassStatement n v) Q E s
  | _, _, n, .none, _, A, E, Q, h => by cases n <;> exact wpAny_pure h
  | _, _, n, .bool _, _, A, E, Q, h => by cases n <;> exact wpAny_pure h
  | _, _, n, .int _ _, _, A, E, Q, h => by cases n <;> exact wpAny_pure h
  | _, _, n, .text _ _, _, A, E, Q, h => by cases n <;> exact wpAny_pure h
  | .tup ks, _, n, .tup (a := b) (o := o) (vs := vs) (n := m) ho hc hd hi, hn, A, E, Q, h => by
    have hT : s.TypeIs (.ref b) "tuple" := ⟨o, ho, hc⟩
    cases n with
    | zero => simp [NestedKey.depth] at hn
    | succ n =>
      unfold ofAClassStatement
      refine wpAny_bind (wpAny_typeOf hT ?_)
      have e : (("tuple" : String) == "tuple") = true := by decide
      simp only [e, if_true, Bool.not_true, Bool.false_eq_true, if_false]
      try refine wpAny_bind (wpAny_pure ?_)
      try simp only [Bool.not_true, Bool.false_eq_true, if_false]
      show wpAny _ _ (seqItems? (.ref b) >>= _) _ _ s
      refine wpAny_bind (wpAny_seqItems ho hd ?_)
      try dsimp only
      refine wpAny_bind ?_
      show wpAny _ _ (forIn vs _ _) _ _ s
      rw [← Array.forIn_toList]
      have all := notOfClasses ks vs.toList n hi (by simp only [NestedKey.depth] at hn; omega)
      refine wpAny_forIn_list _ (fun rest r s' => r.1 = none ∧ s' = s ∧ ∀ v ∈ rest, v ∈ vs.toList) _ ?_ ?_ _ _ ⟨rfl, rfl, fun v hv => hv⟩
      · rintro v rest r s' ⟨hr, e1, sub⟩
        subst e1
        refine wpAny_bind (all v (sub v (by simp)) A _ _ ?_)
        try simp only [Bool.false_eq_true, if_false]
        exact wpAny_pure ⟨rfl, rfl, fun y hy => sub y (by simp [hy])⟩
      · rintro ⟨r1, r2⟩ s' ⟨hr, e1, _⟩
        subst e1
        simp only at hr
        subst hr
        exact wpAny_pure h
theorem notOfClasses : ∀ (ks : List NestedKey) (vs : List Value) (n : Nat), NestedAll s.heap ks vs → NestedKey.depthAll ks ≤ n → ∀ v ∈ vs, ∀ (A : Around) (E : Value → Shared → Prop) (Q : Bool → Shared → Prop), Q false s → wpAny (model P w) A (ofAClassStatement n v) Q E s
  | _, _, n, .nil, _, v, hv => by cases hv
  | k :: ks, _, n, .cons h1 h2, hn, v, hv => by
    simp only [NestedKey.depthAll] at hn
    rcases List.mem_cons.mp hv with e | hv
    · rw [e]; exact notOfClass k _ n h1 (by omega)
    · exact notOfClasses ks _ n h2 (by omega) v hv
end

mutual
/-- no text within -/
def bare : NestedKey → Bool
  | .none => true
  | .num _ => true
  | .text _ => false
  | .tup ks => bares ks
def bares : List NestedKey → Bool
  | [] => true
  | k :: ks => bare k && bares ks
end
mutual
theorem byVal : ∀ (k : NestedKey) (v : Value) (n : Nat), NestedIs s.heap k v → bare k = true → k.depth ≤ n → ∀ (A : Around) (E : Value → Shared → Prop) (Q : Bool → Shared → Prop), Q true s → wpAny (model P w) A (hashByValue n v) Q E s
  | _, _, n, .none, _, _, A, E, Q, h => by cases n <;> exact wpAny_pure h
  | _, _, n, .bool _, _, _, A, E, Q, h => by cases n <;> exact wpAny_pure h
  | _, _, n, .int _ _, _, _, A, E, Q, h => by cases n <;> exact wpAny_pure h
  | _, _, n, .text _ _, hb, _, A, E, Q, h => by simp [bare] at hb
  | .tup ks, _, n, .tup (a := b) (o := o) (vs := vs) (n := m) ho hc hd hi, hb, hn, A, E, Q, h => by
    have hT : s.TypeIs (.ref b) "tuple" := ⟨o, ho, hc⟩
    cases n with
    | zero => simp [NestedKey.depth] at hn
    | succ n =>
      unfold hashByValue
      refine wpAny_bind (wpAny_specialOf hT F.slot_tuple_hash.lookup ?_)
      show wpAny _ _ (seqItems? (.ref b) >>= _) _ _ s
      refine wpAny_bind (wpAny_seqItems ho hd ?_)
      refine wpAny_bind ?_
      show wpAny _ _ (forIn vs _ _) _ _ s
      rw [← Array.forIn_toList]
      have all := byVals ks vs.toList n hi (by simpa [bare] using hb) (by simp only [NestedKey.depth] at hn; omega)
      refine wpAny_forIn_list _ (fun rest r s' => r.1 = none ∧ s' = s ∧ ∀ v ∈ rest, v ∈ vs.toList) _ ?_ ?_ _ _ ⟨rfl, rfl, fun v hv => hv⟩
      · rintro v rest r s' ⟨hr, e1, sub⟩
        subst e1
        refine wpAny_bind (all v (sub v (by simp)) A _ _ ?_)
        try simp only [Bool.not_true, Bool.false_eq_true, if_false]
        exact wpAny_pure ⟨rfl, rfl, fun y hy => sub y (by simp [hy])⟩
      · rintro ⟨r1, r2⟩ s' ⟨hr, e1, _⟩
        subst e1
        simp only at hr
        subst hr
        exact wpAny_pure h
theorem byVals : ∀ (ks : List NestedKey) (vs : List Value) (n : Nat), NestedAll s.heap ks vs → bares ks = true → NestedKey.depthAll ks ≤ n → ∀ v ∈ vs, ∀ (A : Around) (E : Value → Shared → Prop) (Q : Bool → Shared → Prop), Q true s → wpAny (model P w) A (hashByValue n v) Q E s
  | _, _, n, .nil, _, _, v, hv => by cases hv
  | k :: ks, _, n, .cons h1 h2, hb, hn, v, hv => by
    simp only [NestedKey.depthAll] at hn
    simp only [bares, Bool.and_eq_true] at hb
    rcases List.mem_cons.mp hv with e | hv
    · rw [e]; exact byVal k _ n h1 hb.1 (by omega)
    · exact byVals ks _ n h2 hb.2 (by omega) v hv
end
/-- a search shows nothing -/
theorem unseen {k : NestedKey} {b : Addr} {Q : Bool → Shared → Prop} (hk : IsK s.heap k b) {ys : List Value} (hy : ∀ y ∈ ys, ∃ k' c, y = Value.ref c ∧ IsK s.heap k' c) (h : Q false s) : wpAny (model P w) A (searchCouldBeSeen (.ref b) ys) Q E s := by
  unfold searchCouldBeSeen
  refine wpAny_bind ?_
  refine wpAny_forIn_list _ (fun rest r s' => r.1 = none ∧ s' = s ∧ ∀ y ∈ rest, y ∈ ys) _ ?_ ?_ _ _ ⟨rfl, rfl, fun y hy => hy⟩
  · rintro v rest r s' ⟨hr, e1, sub⟩
    subst e1
    obtain ⟨k', c, e2, hc⟩ := hy v (sub v (by simp))
    subst e2
    have fin : ∀ y ∈ rest, y ∈ ys := fun y hy => sub y (by simp [hy])
    dsimp only
    by_cases hv : (b == c || (carriedByValue (.ref b) && carriedByValue (.ref c))) = true
    · exact wp_if_pos hv (wpAny_pure ⟨rfl, rfl, fin⟩)
    · refine wp_if_neg hv ?_
      refine wpAny_bind ((nestedKind P w).quiet hk ?_)
      simp only [Bool.not_true, Bool.false_eq_true, if_false]
      refine wpAny_bind ((nestedKind P w).quiet hc ?_)
      simp only [Bool.not_true, Bool.false_eq_true, if_false]
      refine wpAny_bind (notOfClass _ _ 8 hk.1 hk.2 A _ _ ?_)
      simp only [Bool.false_eq_true, if_false]
      refine wpAny_bind (notOfClass _ _ 8 hc.1 hc.2 A _ _ ?_)
      simp only [Bool.false_eq_true, if_false]
      exact wpAny_pure ⟨rfl, rfl, fin⟩
  · rintro ⟨r1, r2⟩ s' ⟨hr, e1, _⟩
    subst e1
    simp only at hr
    subst hr
    exact wpAny_pure h
end
abbrev nh (w : World) (k : NestedKey) : Int := NestedKey.hash w k
def entries (w : World) (L : List (Addr × NestedKey)) : List (Int × Value) := L.map fun p => (nh w p.2, Value.ref p.1)
def hashesOf (w : World) (L : List (Addr × NestedKey)) : List Int := L.map fun p => nh w p.2
/-- the set of the keys L at a -/
structure SN (w : World) (h : Heap) (a : Addr) (L : List (Addr × NestedKey)) (es : Array (Int × Value)) (ep : Nat) (t : SetTable) : Prop where
  ob : ∃ o, h.get? a = some o ∧ o.ExactSet ∧ o.data = .set es ep t
  ent : es.toList = entries w L
  tab : Tb t (hashesOf w L)
  one : (L.map (·.2)).Nodup
  key : ∀ p ∈ L, IsK h p.2 p.1
  bar : ∀ p ∈ L, bare p.2 = true
  plain : t.plain = true
  gap : L.length * 5 < t.mask * 3
  msk : t.mask = 7 ∨ t.mask = 31 ∨ t.mask = 127 ∨ t.mask = 511
section
variable {P : Program} {w : World} {A : Around} {E : Value → Shared → Prop} {s : Shared} {a : Addr} {L : List (Addr × NestedKey)} {es : Array (Int × Value)} {ep : Nat} {t : SetTable}
theorem SN.size {h : Heap} (U : SN w h a L es ep t) : es.size = L.length := by
  have := congrArg List.length U.ent
  simpa [entries] using this
theorem SN.fits {h : Heap} (U : SN w h a L es ep t) : t.fits es.size = true := by
  have h1 := U.tab.len
  have h2 := U.size
  have h3 := U.gap
  simp only [hashesOf, List.length_map, Array.length_toList] at h1
  unfold SetTable.fits SetTable.fill
  rw [U.tab.no]
  simp only [Bool.and_eq_true, beq_iff_eq, decide_eq_true_eq]
  exact ⟨by omega, by show t.place.size + 0 ≤ t.mask; omega⟩
theorem SN.get {h : Heap} (U : SN w h a L es ep t) {i : Nat} {p : Addr × NestedKey} (hp : L[i]? = some p) : es[i]? = some (nh w p.2, Value.ref p.1) := by
  rw [← Array.getElem?_toList, U.ent]
  simp [entries, hp]
theorem SN.solid {h : Heap} (U : SN w h a L es ep t) : ¬ t.gaveWay = true := by
  unfold SetTable.gaveWay
  rw [U.tab.msk.odd]
  decide
theorem nth_dummy (m : Nat) : ∀ (n : Nat) (p : SetTable.Probe), p.dummy = none → (nth m p n).dummy = none
  | 0, p, h => h
  | n + 1, p, h => nth_dummy m n (adv m p) (by unfold adv; split <;> exact h)
/-- what follows a candidate -/
def behindC (a : Addr) (x : Value) (h : Int) (ad : Bool) (f : Nat) (es : Array (Int × Value)) (t : SetTable) (j i : Nat) (next : SetTable.Probe) : Sem SetFound := do
  let some (_, y) := es[i]? | unsupported "internal:set-entry"
  let equal ← holding [y] (eqBool y x)
  let (es', _, t') ← setState a
  if ad && equal then return .there none
  let some same := t'.sameMemory t.moves t.mask | unsupported "set.changed-during-lookup:is-the-new-block-at-the-old-address"
  let still ← match (if same then t'.slot j else .empty) with
    | .live i' => match es'[i']? with
      | some (_, y') => do pure (if ← isSame y' y then some i' else none)
      | none => pure none
    | _ => pure none
  match still with
  | none => rule "set.search.anew"; setSearchFrom a x h ad f none
  | some i' => if equal then return .there (some i') else setSearchFrom a x h ad f (some next)
theorem search_step (a : Addr) (x : Value) (h : Int) (ad : Bool) (f : Nat) (st : Option SetTable.Probe) : setSearchFrom a x h ad (f + 1) st = (do
    let (es, _, t) ← setState a
    if t.gaveWay then unsupported "set:on-a-table-that-gave-way"
    let some met := t.probe (fun i => (es[i]?.map (·.1)).getD 0) h (st.getD (t.probeStart h)) | unsupported "internal:set-table-without-an-empty-slot"
    match met with
    | .empty j dummy =>
      match dummy with
      | none => return .free j false
      | some d =>
        if ad && t.slot d != .dummy then rule "set.search.the-dummy-was-taken"; return ← setSearchFrom a x h ad f none
        return .free d true
    | .candidate j i next =>
      if !t.led then
        if ← searchCouldBeSeen x ((es.filter (·.1 == h)).toList.map (·.2)) then unsupported "set:the-search-would-show-the-table"
      behindC a x h ad f es t j i next) := by rfl
/-- THE SEARCH, from the c-th step on -/
theorem seek (U : SN w s.heap a L es ep t) {x : Addr} {k : NestedKey} (hx : IsK s.heap k x) (hu : A.units + 8 < cLine) (ad : Bool) {K : Nat} {m b : Nat} (em : t.mask = m) (eb : SetTable.bits (nh w k) = b) (hKf : K < 10 * SetTable.turns m)
    (hK : way m (nh w k) K ∉ t.place.toList) (hKb : ∀ c, c < K → way m (nh w k) c ∈ t.place.toList) {Q : SetFound → Shared → Prop}
    (hin : k ∈ L.map (·.2) → ∀ r : Option Nat, (ad = false → r.isSome = true) → Q (.there r) s) (hout : k ∉ L.map (·.2) → Q (.free (way m (nh w k) K) false) s) :
    ∀ (f c : Nat) (st : Option SetTable.Probe), st.getD (t.probeStart (nh w k)) = nth m (runAt m (b % (m + 1)) b) c → c ≤ K → K - c < f →
      (∀ (i : Nat) p, L[i]? = some p → p.2 = k → ∃ c', c ≤ c' ∧ c' < K ∧ t.place.toList[i]? = some (way m (nh w k) c')) → wpAny (model P w) A (setSearchFrom a (.ref x) (nh w k) ad f st) Q E s
  | 0, c, st, _, _, hf, _ => absurd hf (Nat.not_lt_zero _)
  | f + 1, c, st, hst, hc, hf, hre => by
    obtain ⟨o, ho, hex, hd⟩ := U.ob
    have ew : ∀ n, (nth m (runAt m (b % (m + 1)) b) n).j = way m (nh w k) n := fun n => by unfold way; rw [eb]
    obtain ⟨p0, ep0⟩ : ∃ p0, p0 = nth m (runAt m (b % (m + 1)) b) c := ⟨_, rfl⟩
    have sh : ∀ q, nth m p0 q = nth m (runAt m (b % (m + 1)) b) (c + q) := fun q => by rw [ep0, nth_add]
    have sj : ∀ q, (nth m p0 q).j = way m (nh w k) (c + q) := fun q => by rw [sh, ew]
    have hnd : p0.dummy = none := by rw [ep0]; exact nth_dummy m c _ rfl
    have spec := go_spec t U.tab.up U.tab.no (fun i => (es[i]?.map (·.1)).getD 0) (nh w k) (10 * SetTable.turns t.mask) (K - c) p0 hnd (by rw [em]; omega)
      (fun q hq => by rw [em, sj]; exact hKb _ (by omega)) (by rw [em, sj, show c + (K - c) = K by omega]; exact hK)
    rw [em] at spec
    have hashAt : ∀ (i : Nat) p, L[i]? = some p → ((es[i]?.map (·.1)).getD 0) = nh w p.2 := fun i p hp => by rw [U.get hp]; rfl
    rw [search_step]
    refine wpAny_bind (wpAny_setState_of ho hd U.fits ?_)
    dsimp only
    refine wp_if_neg U.solid ?_
    try refine wpAny_bind (wpAny_pure ?_)
    have probe_eq : ∀ met, SetTable.probe.go t (fun i => (es[i]?.map (·.1)).getD 0) (nh w k) (10 * SetTable.turns m) p0 = some met → t.probe (fun i => (es[i]?.map (·.1)).getD 0) (nh w k) (st.getD (t.probeStart (nh w k))) = some met := fun met e => by
      rw [hst, ← ep0]
      unfold SetTable.probe
      rw [em]
      exact e
    rcases spec with ⟨q, i, hq, hi, hh, hno, hpr⟩ | ⟨hno, hpr⟩
    · rw [probe_eq _ hpr]
      dsimp only
      rw [sj] at hi
      have hil : i < L.length := by
        have h1 := (List.getElem?_eq_some_iff.mp hi).1
        rw [U.tab.len] at h1
        simpa [hashesOf] using h1
      obtain ⟨p, hp⟩ : ∃ p, L[i]? = some p := ⟨_, List.getElem?_eq_getElem hil⟩
      have hmem : p ∈ L := List.mem_of_getElem? hp
      have rest : wpAny (model P w) A (behindC a (.ref x) (nh w k) ad f es t (nth m p0 q).j i (nth m p0 (q + 1))) Q E s := by
        unfold behindC
        rw [U.get hp]
        dsimp only
        refine wpAny_bind (wpAny_holding ((nestedKind P w).eqBool hu (U.key p hmem) hx ?_))
        refine wpAny_bind (wpAny_setState_of ho hd U.fits ?_)
        dsimp only
        have hsl : t.slot (nth m p0 q).j = .live i := by rw [sj]; exact slot_live U.tab.up hi
        have after : wpAny (model P w) A (do
            let some same := t.sameMemory t.moves t.mask | unsupported "set.changed-during-lookup:is-the-new-block-at-the-old-address"
            let still ← match (if same then t.slot (nth m p0 q).j else .empty) with
              | .live i' => match es[i']? with
                | some (_, y') => do pure (if ← isSame y' (Value.ref p.1) then some i' else none)
                | none => pure none
              | _ => pure none
            match still with
            | none => rule "set.search.anew"; setSearchFrom a (.ref x) (nh w k) ad f none
            | some i' => if decide (p.2 = k) then return .there (some i') else setSearchFrom a (.ref x) (nh w k) ad f (some (nth m p0 (q + 1)))) Q E s := by
          rw [sameMem]
          dsimp only
          simp only [if_true, hsl, U.get hp]
          refine wpAny_bind (wpAny_isSame_ref_self (wpAny_bind (wpAny_pure ?_)))
          simp only [if_true]
          by_cases hkk : p.2 = k
          · refine wp_if_pos (by simp [hkk]) (wpAny_pure (hin (List.mem_map.mpr ⟨p, hmem, hkk⟩) _ fun _ => rfl))
          · refine wp_if_neg (by simp [hkk]) ?_
            refine seek U hx hu ad em eb hKf hK hKb hin hout f (c + (q + 1)) _ ?_ (by omega) (by omega) fun i0 q0 h0 hk0 => ?_
            · show nth m p0 (q + 1) = _
              rw [sh]
            · obtain ⟨c', a1, a2, a3⟩ := hre i0 q0 h0 hk0
              refine ⟨c', ?_, a2, a3⟩
              false_or_by_contra
              rename_i z
              by_cases y : c' = c + q
              · subst y
                have s0 := slot_live U.tab.up a3
                rw [← sj, hsl] at s0
                injection s0 with s0
                subst s0
                rw [hp] at h0
                cases h0
                exact hkk hk0
              · refine hno (c' - c) i0 (by omega) (by rw [sj, show c + (c' - c) = c' by omega]; exact a3) ?_
                rw [hashAt i0 q0 h0, hk0]
        by_cases had : (ad && decide (p.2 = k)) = true
        · refine wp_if_pos had ?_
          simp only [Bool.and_eq_true, decide_eq_true_eq] at had
          exact wpAny_pure (hin (List.mem_map.mpr ⟨p, hmem, had.2⟩) none fun z => by rw [had.1] at z; cases z)
        · refine wp_if_neg had ?_
          try refine wpAny_bind (wpAny_pure ?_)
          exact after
      by_cases hl : t.led = true
      · refine wp_if_neg (by simp [hl]) ?_
        try refine wpAny_bind (wpAny_pure ?_)
        exact rest
      · refine wp_if_pos (by simp [hl]) ?_
        refine wpAny_bind (unseen hx (fun y hy => ?_) ?_)
        · obtain ⟨e, he, ee⟩ := List.mem_map.mp hy
          have he2 : e ∈ es.toList := by
            have : e ∈ es ∧ e.1 = nh w k := by simpa using he
            simpa using this.1
          rw [U.ent] at he2
          obtain ⟨p2, hp2, e2⟩ := List.mem_map.mp he2
          exact ⟨p2.2, p2.1, by rw [← ee, ← e2], U.key p2 hp2⟩
        · refine wp_if_neg (by decide) ?_
          try refine wpAny_bind (wpAny_pure ?_)
          exact rest
    · rw [probe_eq _ hpr]
      dsimp only
      have ej : (nth m p0 (K - c)).j = way m (nh w k) K := by rw [sj, show c + (K - c) = K by omega]
      rw [ej]
      refine wpAny_pure (hout fun hm => ?_)
      obtain ⟨q0, h0, hk0⟩ := List.mem_map.mp hm
      obtain ⟨i0, hi0, e0⟩ := List.getElem_of_mem h0
      have h00 : L[i0]? = some q0 := by rw [List.getElem?_eq_getElem hi0, e0]
      obtain ⟨c', a1, a2, a3⟩ := hre i0 q0 h00 hk0
      refine hno (c' - c) i0 (by omega) (by rw [sj, show c + (c' - c) = c' by omega]; exact a3) ?_
      rw [hashAt i0 q0 h00, hk0]
theorem find (U : SN w s.heap a L es ep t) {x : Addr} {k : NestedKey} (hx : IsK s.heap k x) (hu : A.units + 8 < cLine) (ad : Bool) {Q : SetFound → Shared → Prop}
    (hin : k ∈ L.map (·.2) → ∀ r : Option Nat, (ad = false → r.isSome = true) → Q (.there r) s)
    (hout : ∀ K, k ∉ L.map (·.2) → way t.mask (nh w k) K ∉ t.place.toList → (∀ c, c < K → way t.mask (nh w k) c ∈ t.place.toList) → Q (.free (way t.mask (nh w k) K) false) s) :
    wpAny (model P w) A (setSearch a (.ref x) (nh w k) ad) Q E s := by
  have hg := U.gap
  obtain ⟨K, hKf, hK, hKb⟩ := U.tab.gap (by simp only [hashesOf, List.length_map]; omega) (nh w k)
  have hbig : 10 * SetTable.turns t.mask ≤ 6000 := by
    unfold SetTable.turns
    rcases U.msk with e | e | e | e <;> omega
  unfold setSearch
  refine seek U hx hu ad rfl rfl hKf hK hKb hin (fun hn => hout K hn hK hKb) 100000 0 none rfl (Nat.zero_le _) (by omega) fun i p hp hk => ?_
  have hi : (hashesOf w L)[i]? = some (nh w k) := by
    unfold hashesOf
    rw [List.getElem?_map, hp, ← hk]
    rfl
  obtain ⟨j, hj⟩ : ∃ j, t.place.toList[i]? = some j := ⟨_, List.getElem?_eq_getElem (by rw [U.tab.len]; exact (List.getElem?_eq_some_iff.mp hi).1)⟩
  obtain ⟨c, hc, e⟩ := U.tab.prior hK hi hj
  exact ⟨c, Nat.zero_le _, hc, by rw [hj, e]⟩
end
end NS

namespace NS
open PySem PySem.Spec PyProof.Rows L2
section
variable {P : Program} {w : World} {A : Around} {E : Value → Shared → Prop} {s : Shared} {a : Addr} {L : List (Addr × NestedKey)} {es : Array (Int × Value)} {ep : Nat} {t : SetTable}
theorem IsK.but {h h' : Heap} {k : NestedKey} {b : Addr} {o : Obj} (x : IsK h k b) (ho : h.get? a = some o) (hd : o.data = .set es ep t) (hs : Heap.SameBut a h h') : IsK h' k b :=
  ⟨NestedIs.at (fun c oc vs n e1 e2 => by
    have hne : c ≠ a := by
      rintro rfl
      rw [ho] at e1
      cases e1
      rw [hd] at e2
      cases e2
    exact (hs.2 c hne).trans e1) _ _ x.1, x.2⟩
theorem ordered (w : World) (L : List (Addr × NestedKey)) (es : Array (Int × Value)) (hr : es.toList = entries w L) : ∀ l : List Nat, (∀ i ∈ l, i < L.length) →
    l.filterMap (fun i => es[i]?) = entries w (l.filterMap fun i => L[i]?) ∧ hashesOf w (l.filterMap fun i => L[i]?) = l.map fun i => (es.map (·.1)).getD i 0
  | [], _ => ⟨rfl, rfl⟩
  | i :: l, h => by
    have hi := h i (by simp)
    obtain ⟨e1, e2⟩ := ordered w L es hr l fun j hj => h j (by simp [hj])
    have g1 : L[i]? = some L[i] := List.getElem?_eq_getElem hi
    have g2 : es[i]? = some (nh w L[i].2, Value.ref L[i].1) := by
      rw [← Array.getElem?_toList, hr]
      simp [entries, hi]
    have g3 : (es.map (·.1)).getD i 0 = nh w L[i].2 := by
      have : (es.map (·.1))[i]? = some (nh w L[i].2) := by rw [Array.getElem?_map, g2]; rfl
      simp [Array.getD_eq_getD_getElem?, this]
    constructor
    · rw [List.filterMap_cons_some g2, List.filterMap_cons_some g1, e1]
      rfl
    · rw [List.filterMap_cons_some g1, List.map_cons, g3, ← e2]
      rfl
theorem range_pick {α : Type} (L : List α) : ∀ n, n ≤ L.length → (List.range n).filterMap (fun i => L[i]?) = L.take n
  | 0, _ => by simp
  | n + 1, hn => by
    have hlt : n < L.length := hn
    rw [List.range_succ, List.filterMap_append, range_pick L n (by omega), List.take_add_one, List.getElem?_eq_getElem hlt]
    simp [List.filterMap, List.getElem?_eq_getElem hlt]
/-- the larger table -/
theorem grow {o : Obj} (ho : s.heap.get? a = some o) (hex : o.ExactSet) (hd : o.data = .set es ep t) (he : es.toList = entries w L) (T : Tb t (hashesOf w L)) (nd : (L.map (·.2)).Nodup) (hk : ∀ p ∈ L, IsK s.heap p.2 p.1) (hb : ∀ p ∈ L, bare p.2 = true) (pl : t.plain = true)
    (hle : L.length ≤ t.mask) {wanted m : Nat} (hw : SetTable.sizeAbove wanted - 1 = m) (M : Mk2 m) (hm : m = 7 ∨ m = 31 ∨ m = 127 ∨ m = 511) (hw2 : SetTable.sizeAbove wanted ≤ 512) (hn : L.length * 5 < m * 3) {Q : Unit → Shared → Prop}
    (hQ : ∀ h' L' es' ep' t', Heap.SameBut a s.heap h' → SN w h' a L' es' ep' t' → L'.Perm L → Q () { s with heap := h' }) : wpAny (model P w) A (setRelay a wanted) Q E s := by
  have hsl : es.size = L.length := by
    have := congrArg List.length he
    simpa [entries] using this
  have hfits : t.fits es.size = true := by
    have h1 := T.len
    simp only [hashesOf, List.length_map, Array.length_toList] at h1
    unfold SetTable.fits SetTable.fill
    rw [T.no]
    simp only [Bool.and_eq_true, beq_iff_eq, decide_eq_true_eq]
    exact ⟨by omega, by show t.place.size + 0 ≤ t.mask; omega⟩
  obtain ⟨t', order, e, hp, T', em, el, epl⟩ := relay2 t (hs := es.map (·.1)) (wanted := wanted) hw M (by rw [Array.size_map, hsl]; omega)
  rw [Array.size_map, hsl] at hp
  obtain ⟨e1, e2⟩ := ordered w L es he order.toList fun i hi => List.mem_range.mp (hp.mem_iff.mp hi)
  obtain ⟨L2, eL2⟩ : ∃ L2, L2 = order.toList.filterMap fun i => L[i]? := ⟨_, rfl⟩
  rw [← eL2] at e1 e2
  have perm : L2.Perm L := by
    have h1 : L2.Perm ((List.range L.length).filterMap fun i => L[i]?) := by rw [eL2]; exact hp.filterMap _
    rw [range_pick L L.length (Nat.le_refl _), List.take_length] at h1
    exact h1
  have e3 : (order.filterMap (es[·]?)).toList = entries w L2 := by
    first
      | (rw [Array.toList_filterMap]; exact e1)
      | simpa using e1
  have sz : (order.filterMap (es[·]?)).size = es.size := by
    have := congrArg List.length e3
    simp only [entries, List.length_map, Array.length_toList, perm.length_eq] at this
    omega
  rw [← e2] at T'
  rw [setRelay_eq]
  refine wpAny_bind (wpAny_setState_of ho hd hfits ?_)
  dsimp only
  refine wp_if_neg (by rw [sizeLine_eq]; omega) ?_
  try refine wpAny_bind (wpAny_pure ?_)
  rw [e]
  dsimp only
  refine wpAny_bind ?_
  refine wp_if_neg (by rw [sz]; simp) ?_
  try refine wpAny_bind (wpAny_pure ?_)
  refine wpAny_pure ?_
  dsimp only
  refine wpAny_storeSet_of ho hd ?_ (by rw [sz, hsl, sizeLine_eq]; rcases hm with z | z | z | z <;> omega)
  have sb : Heap.SameBut a s.heap (s.heap.update a (Obj.putSet (order.filterMap (es[·]?)) t')) := Heap.SameBut.update ..
  refine hQ _ L2 _ (ep + 1) t' sb ⟨⟨_, store_at ho hd, ⟨hex.1, hex.2.1, hex.2.2⟩, rfl⟩, e3, T', ?_, fun p hpm => (hk p (perm.mem_iff.mp hpm)).but ho hd sb, fun p hpm => hb p (perm.mem_iff.mp hpm), by rw [epl]; exact pl, ?_, by rw [em]; exact hm⟩ perm
  · exact (perm.map (·.2)).nodup_iff.mpr nd
  · rw [perm.length_eq, em]; exact hn
/-- ONE MORE -/
theorem plus (U : SN w s.heap a L es ep t) {x : Addr} {k : NestedKey} (hx : IsK s.heap k x) (hbk : bare k = true) (hu : A.units + 8 < cLine) (few : L.length + 1 ≤ 300) {Q : Bool → Shared → Prop}
    (hQ : ∀ b h' L' es' ep' t', Heap.SameBut a s.heap h' → SN w h' a L' es' ep' t' → (k ∈ L.map (·.2) → L' = L) → (k ∉ L.map (·.2) → L'.Perm ((x, k) :: L)) → Q b { s with heap := h' }) : wpAny (model P w) A (setAddHashed a (.ref x) (nh w k)) Q E s := by
  obtain ⟨o, ho, hex, hd⟩ := U.ob
  have hsl := U.size
  have hgap := U.gap
  unfold setAddHashed
  refine wpAny_holding ?_
  rw [show (100000 : Nat) = 99999 + 1 from rfl, setAddHashedIn_succ]
  refine wpAny_bind (wpAny_setState_of ho hd U.fits ?_)
  dsimp only
  refine wp_if_neg (by simp [byScan, Value.scannable]) ?_
  try refine wpAny_bind (wpAny_pure ?_)
  refine wpAny_bind (find U hx hu true (fun hm r _ => ?_) fun K hm hK hKb => ?_)
  · dsimp only
    exact wpAny_pure (hQ false s.heap L es ep t (Heap.SameBut.refl a s.heap) U (fun _ => rfl) fun z => absurd hm z)
  · dsimp only
    refine wpAny_bind (wpAny_setState_of ho hd U.fits ?_)
    dsimp only
    obtain ⟨j, ej⟩ : ∃ j, way t.mask (nh w k) K = j := ⟨_, rfl⟩
    obtain ⟨p, epp⟩ : ∃ p, SetTable.below t.place j = p := ⟨_, rfl⟩
    rw [ej] at hK
    obtain ⟨q1, q2, q3⟩ := U.tab.put ej epp hK hKb
    rw [ej]
    have q4 : (t.put j).2 = p := epp
    have q5 : (t.put j).1.mask = t.mask := rfl
    have q6 : (t.put j).1.plain = true := U.plain
    have q8 : (t.put j).1.mask = 7 ∨ (t.put j).1.mask = 31 ∨ (t.put j).1.mask = 127 ∨ (t.put j).1.mask = 511 := U.msk
    have q9 : (t.put j).1.dummies = #[] := q2.no
    generalize t.put j = pt at q2 q3 q4 q5 q6 q8 q9 ⊢
    obtain ⟨t1, p1⟩ := pt
    dsimp only at q2 q3 q4 q5 q6 q8 q9 ⊢
    subst q4
    first
      | (refine wpAny_bind ?_; refine wp_if_pos q6 ?_; refine byVal _ _ 8 hx.1 hbk hx.2 A _ _ ?_)
      | refine wp_if_pos q6 (wpAny_bind (byVal _ _ 8 hx.1 hbk hx.2 A _ _ ?_))
    simp only [if_true]
    obtain ⟨L1, eL1⟩ : ∃ L1, L1 = L.take p1 ++ (x, k) :: L.drop p1 := ⟨_, rfl⟩
    have perm : L1.Perm ((x, k) :: L) := by
      have h : (L.take p1 ++ (x, k) :: L.drop p1).Perm ((x, k) :: (L.take p1 ++ L.drop p1)) := List.perm_middle
      rw [List.take_append_drop] at h
      rw [eL1]; exact h
    have hlen : L1.length = L.length + 1 := perm.length_eq
    have hin : (SetTable.insertAt es p1 (nh w k, Value.ref x)).toList = entries w L1 := by
      rw [SetTable.toList_insertAt, U.ent, eL1]
      simp [entries, List.map_take, List.map_drop]
    have hhs : (hashesOf w L).take p1 ++ nh w k :: (hashesOf w L).drop p1 = hashesOf w L1 := by
      rw [eL1]
      simp [hashesOf, List.map_take, List.map_drop]
    rw [hhs] at q2
    have nd1 : (L1.map (·.2)).Nodup := (perm.map (·.2)).nodup_iff.mpr (List.nodup_cons.mpr ⟨hm, U.one⟩)
    have hes : (SetTable.insertAt es p1 (nh w k, Value.ref x)).size = L.length + 1 := by
      have := congrArg List.length hin
      simp only [entries, List.length_map, Array.length_toList] at this
      omega
    generalize SetTable.insertAt es p1 (nh w k, Value.ref x) = es1 at hin hes ⊢
    refine wpAny_bind (wpAny_storeSet_of ho hd ?_ (by rw [hes, sizeLine_eq]; omega))
    have sb : Heap.SameBut a s.heap (s.heap.update a (Obj.putSet es1 t1)) := Heap.SameBut.update ..
    have ho1 := store_at (es' := es1) (t' := t1) ho hd
    generalize s.heap.update a (Obj.putSet es1 t1) = h1 at sb ho1 ⊢
    have key1 : ∀ q ∈ L1, IsK h1 q.2 q.1 := fun q hq => by
      rcases List.mem_cons.mp (perm.mem_iff.mp hq) with e | hq
      · rw [e]; exact hx.but ho hd sb
      · exact (U.key q hq).but ho hd sb
    have bar1 : ∀ q ∈ L1, bare q.2 = true := fun q hq => by
      rcases List.mem_cons.mp (perm.mem_iff.mp hq) with e | hq
      · rw [e]; exact hbk
      · exact U.bar q hq
    simp only [hashesOf, List.length_map] at q3
    by_cases hf : t1.tooFull = true
    · first
        | (refine wpAny_bind ?_; refine wp_if_pos (by simp [hf]) ?_)
        | (refine wp_if_pos (by simp [hf]) ?_; refine wpAny_bind ?_)
      have hfull : (L.length + 1) * 5 ≥ t1.mask * 3 := by
        have h := hf
        unfold SetTable.tooFull at h
        rw [decide_eq_true_eq, q3] at h
        exact h
      rw [hsl]
      have go : ∀ m, SetTable.sizeAbove (SetTable.grown (L.length + 1)) - 1 = m → Mk2 m → (m = 7 ∨ m = 31 ∨ m = 127 ∨ m = 511) → SetTable.sizeAbove (SetTable.grown (L.length + 1)) ≤ 512 → (L.length + 1) * 5 < m * 3 →
          wpAny (model P w) A (setRelay a (SetTable.grown (L.length + 1))) (fun _ s' => wpAny (model P w) A (pure true) Q E s') E { s with heap := h1 } := fun m z1 z2 z3 z4 z5 => by
        refine grow (s := { s with heap := h1 }) ho1 ⟨hex.1, hex.2.1, hex.2.2⟩ rfl hin q2 nd1 key1 bar1 q6 (by rw [hlen, q5]; rcases U.msk with e | e | e | e <;> omega) z1 z2 z3 z4 (by rw [hlen]; exact z5) ?_
        intro h2 L2 es2 ep2 t2 sb2 U2 pm2
        exact wpAny_pure (hQ true h2 L2 es2 ep2 t2 (sb.trans sb2) U2 (fun z => absurd z hm) fun _ => pm2.trans perm)
      rcases U.msk with e | e | e | e
      · have : L.length = 4 := by rw [q5, e] at hfull; rw [e] at hgap; omega
        refine go 31 (by rw [this, size4_5]) mk31 (by simp) (by rw [this, size4_5]; decide) (by omega)
      · have : L.length = 18 := by rw [q5, e] at hfull; rw [e] at hgap; omega
        refine go 127 (by rw [this, size4_19]) mk127 (by simp) (by rw [this, size4_19]; decide) (by omega)
      · have : L.length = 76 := by rw [q5, e] at hfull; rw [e] at hgap; omega
        refine go 511 (by rw [this, size4_77]) mk511 (by simp) (by rw [this, size4_77]; decide) (by omega)
      · exfalso; rw [q5, e] at hfull; omega
    · first
        | refine wp_if_neg (by simp [hf]) ?_
        | (refine wpAny_bind ?_; refine wp_if_neg (by simp [hf]) ?_; refine wpAny_pure ?_)
      refine wpAny_pure (hQ true h1 L1 es1 (ep + 1) t1 sb ⟨⟨_, ho1, ⟨hex.1, hex.2.1, hex.2.2⟩, rfl⟩, hin, q2, nd1, key1, bar1, q6, ?_, q8⟩ (fun z => absurd z hm) fun _ => perm)
      have h := hf
      unfold SetTable.tooFull at h
      rw [decide_eq_true_eq, q3] at h
      rw [hlen]
      omega
end
end NS

namespace NS
open PySem PySem.Spec PyProof.Rows L2
/-! ### the set as an object of the abstract heap -/
mutual
def h0 : NestedKey → Int
  | .none => reduceHash 0xFCA86420
  | .num i => hashInt i
  | .text _ => 0
  | .tup ks => reduceHash (Builtin.Tuple.tupleHashOf (h0s ks))
def h0s : List NestedKey → List Int
  | [] => []
  | k :: ks => h0 k :: h0s ks
end
mutual
theorem h0_eq (w : World) : ∀ k : NestedKey, bare k = true → nh w k = h0 k
  | .none, _ => rfl
  | .num _, _ => rfl
  | .text _, h => by simp [bare] at h
  | .tup ks, h => by
    have := h0s_eq w ks (by simpa [bare] using h)
    unfold nh NestedKey.hash h0
    rw [this]
theorem h0s_eq (w : World) : ∀ ks : List NestedKey, bares ks = true → NestedKey.hashes w ks = h0s ks
  | [], _ => rfl
  | k :: ks, h => by
    simp only [bares, Bool.and_eq_true] at h
    have h1 := h0_eq w k h.1
    have h2 := h0s_eq w ks h.2
    unfold NestedKey.hashes h0s
    rw [h2, ← h1]
end
structure SX (h : Heap) (a : Addr) (L : List (Addr × NestedKey)) (es : Array (Int × Value)) (ep : Nat) (t : SetTable) : Prop where
  ob : ∃ o, h.get? a = some o ∧ o.ExactSet ∧ o.data = .set es ep t
  ent : es.toList = L.map fun p => (h0 p.2, Value.ref p.1)
  tab : Tb t (L.map fun p => h0 p.2)
  one : (L.map (·.2)).Nodup
  bar : ∀ p ∈ L, bare p.2 = true
  plain : t.plain = true
  gap : L.length * 5 < t.mask * 3
  msk : t.mask = 7 ∨ t.mask = 31 ∨ t.mask = 127 ∨ t.mask = 511
theorem h0_map (w : World) {L : List (Addr × NestedKey)} (h : ∀ p ∈ L, bare p.2 = true) : (L.map fun p => h0 p.2) = hashesOf w L ∧ (L.map fun p => (h0 p.2, Value.ref p.1)) = entries w L := by
  constructor
  · unfold hashesOf
    exact List.map_congr_left fun p hp => (h0_eq w _ (h p hp)).symm
  · unfold entries
    exact List.map_congr_left fun p hp => by rw [h0_eq w _ (h p hp)]
section
variable {P : Program} {w : World} {A : Around} {E : Value → Shared → Prop} {s : Shared} {a : Addr} {L : List (Addr × NestedKey)} {es : Array (Int × Value)} {ep : Nat} {t : SetTable}
theorem SX.sn {h : Heap} (w : World) (U : SX h a L es ep t) (hk : ∀ p ∈ L, IsK h p.2 p.1) : SN w h a L es ep t := by
  obtain ⟨e1, e2⟩ := h0_map w U.bar
  exact ⟨U.ob, by rw [← e2]; exact U.ent, by rw [← e1]; exact U.tab, U.one, hk, U.bar, U.plain, U.gap, U.msk⟩
theorem SN.sx {h : Heap} (U : SN w h a L es ep t) : SX h a L es ep t := by
  obtain ⟨e1, e2⟩ := h0_map w U.bar
  exact ⟨U.ob, by rw [e2]; exact U.ent, by rw [e1]; exact U.tab, U.one, U.bar, U.plain, U.gap, U.msk⟩
def setH (a : Addr) (L : List (Addr × NestedKey)) : HO := .ext fun h => ∃ es ep t, SX h a L es ep t
theorem setH_ok {H : Hp} {h : Heap} (U : SX h a L es ep t) : ObjOk P w H h a (setH a L) := by
  obtain ⟨o, ho, _⟩ := U.ob
  refine ⟨⟨es, ep, t, U⟩, ⟨o, ho⟩, fun h1 h2 p k => ?_⟩
  obtain ⟨es', ep', t', U'⟩ := p
  obtain ⟨o', ho', r⟩ := U'.ob
  exact ⟨es', ep', t', ⟨⟨o', k o' ho', r⟩, U'.ent, U'.tab, U'.one, U'.bar, U'.plain, U'.gap, U'.msk⟩⟩
theorem setH_get {X : Cx} {pins : List (Addr × Obj)} {σ : L2.St} {H : Hp} (I : Inv X pins σ H s) (ha : H a = some (setH a L)) : ∃ es ep t, SX s.heap a L es ep t := (I.hok a _ ha).1
theorem tb_new : Tb (.fresh 0 0 true) [] ∧ Tb (.fresh 0 0 false) [] := by
  have : ∀ b, Tb (.fresh 0 0 b) [] := fun b => ⟨List.Pairwise.nil, rfl, rfl, mk7, (fun x hx => by cases hx), (fun i h j h1 _ => by simp at h1)⟩
  exact ⟨this true, this false⟩
theorem sx_new (h : Heap) (b : Bool) : SX (h.push { cls := .type "set", dict := none, data := .set #[] 0 (.fresh 0 0 b) }) h.objs.size [] #[] 0 (.fresh 0 0 b) := by
  refine ⟨⟨_, Heap.get?_push_size _ rfl, ⟨rfl, rfl, rfl⟩, rfl⟩, rfl, ?_, List.nodup_nil, (fun p hp => by cases hp), rfl, (by show 0 * 5 < 7 * 3; decide), .inl rfl⟩
  cases b
  · exact tb_new.2
  · exact tb_new.1
/-! values that are keys -/
mutual
def KeyIs (K : PySem.W.Frag) (H : Hp) : NestedKey → V → Prop
  | .none, v => v = .non
  | .num i, v => v = .int i ∨ ∃ b : Bool, v = .bl b ∧ i = (if b = true then 1 else 0)
  | .text x, v => v = .str x
  | .tup ks, v => ∃ p xs, v = .ref p ∧ SqT K H p xs ∧ KeysAre K H ks xs
def KeysAre (K : PySem.W.Frag) (H : Hp) : List NestedKey → List V → Prop
  | [], xs => xs = []
  | k :: ks, xs => ∃ y ys, xs = y :: ys ∧ KeyIs K H k y ∧ KeysAre K H ks ys
end
section
variable {X : Cx} {pins : List (Addr × Obj)} {σ : L2.St} {H : Hp}
mutual
theorem KeyIs.is (I : Inv X pins σ H s) : ∀ (k : NestedKey) (v : V) (u : Value), KeyIs X.K H k v → RelV v u → NestedIs s.heap k u
  | .none, v, u, h, r => by
    simp only [KeyIs] at h
    subst h
    cases r
    exact .none
  | .num i, v, u, h, r => by
    simp only [KeyIs] at h
    rcases h with rfl | ⟨b, rfl, e⟩
    · obtain ⟨t, rfl⟩ := r
      exact .int i t
    · cases r
      exact .bool e
  | .text x, v, u, h, r => by
    simp only [KeyIs] at h
    subst h
    obtain ⟨t, rfl⟩ := r
    exact .text x t
  | .tup ks, v, u, h, r => by
    simp only [KeyIs] at h
    obtain ⟨p, xs, rfl, hq, hk⟩ := h
    cases r
    obtain ⟨its, rv, ⟨o, ho, hc, n, hd⟩, _⟩ := I.tuple hq
    exact .tup ho hc hd (by simpa using KeysAre.all I ks xs its hk rv)
theorem KeysAre.all (I : Inv X pins σ H s) : ∀ (ks : List NestedKey) (xs : List V) (us : List Value), KeysAre X.K H ks xs → Vals xs us → NestedAll s.heap ks us
  | [], xs, us, h, r => by
    simp only [KeysAre] at h
    subst h
    cases r
    exact .nil
  | k :: ks, xs, us, h, r => by
    simp only [KeysAre] at h
    obtain ⟨y, ys, rfl, h1, h2⟩ := h
    cases r with
    | cons ry rt => exact .cons (KeyIs.is I k y _ h1 ry) (KeysAre.all I ks ys _ h2 rt)
end
end
/-! set(), add, in -/
section
variable {X : Cx}
theorem cr_setN : CallR X (.type "set") (fun xs H Q => xs = [] ∧ ∀ p, H p = none → Q (.ref p) (upd H p (setH p []))) := by
  intro pins s σ H xs us Q I r h
  obtain ⟨rfl, q⟩ := h
  cases r
  refine setR_new fun _ => ?_
  exact ⟨.ref _, upd H s.heap.objs.size (setH s.heap.objs.size []), I.laid (t' := s.toks) (fun b u e => Heap.get?_push_of_some _ e) (Nat.le_refl _) (setH_ok (sx_new s.heap _)), rfl, q _ (I.hok.fresh (Nat.le_refl _))⟩
theorem ExT.typeIs {h : Heap} (U : SX h a L es ep t) : (∃ o, h.get? a = some o ∧ o.cls = .type "set") ∧ ∃ o, h.get? a = some o ∧ o.dict = none := by
  obtain ⟨o, ho, hex, _⟩ := U.ob
  exact ⟨⟨o, ho, hex.1⟩, ⟨o, ho, hex.2.1⟩⟩
theorem call_addN {X : Cx} {x : Addr} {k : NestedKey} {Q : Value → Shared → Prop} (U : SX s.heap a L es ep t) (hk : ∀ p ∈ L, IsK s.heap p.2 p.1) (hx : IsK s.heap k x) (hb : bare k = true) (hu : A.units + 32 < cLine) (few : L.length + 1 ≤ 300)
    (h : ∀ h' L' es' ep' t' tk, Heap.SameBut a s.heap h' → SX h' a L' es' ep' t' → (k ∈ L.map (·.2) → L' = L) → (k ∉ L.map (·.2) → L'.Perm ((x, k) :: L)) → Q .none { s with heap := h', toks := tk }) :
    wpAny (model P w) A (call (.builtin "set.add") [.ref a, .ref x]) Q E s := by
  have hT : s.TypeIs (.ref a) "set" := (ExT.typeIs U).1
  refine wpAny_call_entry F.slot_set_add hT F.entry_set_add ?_ (F.args_set_add_2 _ _)
  unfold Builtin.«set.add» Builtin.Frozenset.oneOther
  simp only [List.isEmpty_nil, bind_assoc]
  unfold Builtin.Frozenset.addrOf setAdd
  refine wpAny_bind (wpAny_pure ?_)
  try dsimp only
  refine wpAny_bind (wpAny_pure ?_)
  try dsimp only
  refine wpAny_bind ?_
  refine wpAny_holding ?_
  refine wpAny_bind ((nestedKind P w).pyHash ?hu1 hx ?_)
  case hu1 => exact (show A.units + 1 + 8 < cLine by omega)
  refine plus (s := { s with toks := s.toks + k.draws }) (U.sn w hk) hx hb ?hu2 few fun b h' L' es' ep' t' sb U' e1 e2 => ?_
  case hu2 => exact (show A.units + 1 + 8 < cLine by omega)
  show wpAny _ _ (ret Value.none) _ _ _
  exact wpAny_pure ⟨_, rfl, h h' L' es' ep' t' _ sb U'.sx e1 e2⟩
theorem setFind_N {x : Addr} {k : NestedKey} {Q : Option Nat → Shared → Prop} (U : SN w s.heap a L es ep t) (hx : IsK s.heap k x) (hu : A.units + 8 < cLine) (h : ∀ r : Option Nat, r.isSome = decide (k ∈ L.map (·.2)) → Q r s) : wpAny (model P w) A (setFind a (.ref x) (nh w k)) Q E s := by
  obtain ⟨o, ho, hex, hd⟩ := U.ob
  unfold setFind
  rw [show (100000 : Nat) = 99999 + 1 from rfl]
  unfold setFindIn
  refine wpAny_bind (wpAny_setState_of ho hd U.fits ?_)
  dsimp only
  refine wp_if_neg (by simp [byScan, Value.scannable]) ?_
  try refine wpAny_bind (wpAny_pure ?_)
  refine wpAny_bind (find U hx hu false (fun hm r hr => ?_) fun K hm _ _ => ?_)
  · exact wpAny_pure (h r (by rw [hr rfl]; simp [hm]))
  · exact wpAny_pure (h none (by simp [hm]))
theorem contains_N {x : Addr} {k : NestedKey} {Q : Bool → Shared → Prop} (U : SX s.heap a L es ep t) (hk : ∀ p ∈ L, IsK s.heap p.2 p.1) (hx : IsK s.heap k x) (hu : A.units + 32 < cLine) (h : ∀ tk, Q (decide (k ∈ L.map (·.2))) { s with toks := tk }) :
    wpAny (model P w) A (contains (.ref a) (.ref x)) Q E s := by
  have hT : s.TypeIs (.ref a) "set" := (ExT.typeIs U).1
  unfold contains
  try with_reducible refine wpAny_holding ?_
  refine wpAny_bind (wpAny_specialOf hT F.slot_set_contains.lookup ?_)
  show wpAny _ _ (if (some (Value.builtin "set.__contains__") == some Value.none) = true then _ else _) _ E s
  rw [if_neg (by rw [beq_builtin_none]; exact Bool.false_ne_true)]
  refine wpAny_bind (wpAny_callSpecialUnlessNone?_slot (name := Str.ofString "__contains__") hT F.slot_set_contains
    (wpAny_call_entry F.slot_set_contains hT entry_set_contains ?_ (F.args_set_contains_2 _ _)))
  unfold Builtin.«frozenset.__contains__» Builtin.Frozenset.oneOther
  simp only [List.isEmpty_nil, bind_assoc]
  unfold Builtin.Frozenset.addrOf Builtin.Frozenset.withSetAsKey setContains
  refine wpAny_bind (wpAny_pure ?_)
  try dsimp only
  refine wpAny_bind (wpAny_pure ?_)
  try dsimp only
  refine wpAny_bind (wpAny_tryCatch ?_)
  refine wpAny_holding ?_
  refine wpAny_bind ((nestedKind P w).pyHash ?hu1 hx ?_)
  case hu1 => exact (show A.units + 1 + 8 < cLine by omega)
  refine wpAny_bind (setFind_N (s := { s with toks := s.toks + k.draws }) (U.sn w hk) hx (show A.units + 1 + 8 < cLine by omega) fun r hr => ?_)
  refine wpAny_pure ?_
  show wpAny _ _ (ret (Value.bool r.isSome)) _ _ _
  rw [hr]
  exact wpAny_pure ⟨_, rfl, wpAny_truthy_bool (h _)⟩
/-- what the rules ask of the set and of a key -/
def HasK (X : Cx) (H : Hp) (a : Addr) (L : List (Addr × NestedKey)) (y : V) (k : NestedKey) : Prop := H a = some (setH a L) ∧ (∀ p ∈ L, KeyIs X.K H p.2 (.ref p.1) ∧ p.2.depth ≤ 8) ∧ KeyIs X.K H k y ∧ k.depth ≤ 8 ∧ bare k = true
theorem op_inN (X : Cx) (hr : X.A.units + 64 < cLine) : OpR X (compareOp .In) (fun x y H Q => ∃ a L b k, x = .ref b ∧ y = .ref a ∧ HasK X H a L (.ref b) k ∧ Q (.bl (decide (k ∈ L.map (·.2)))) H) := by
  intro pins s σ H x y v u Q I rx ry h
  obtain ⟨a, L, b, k, rfl, rfl, ⟨h1, h2, h3, h4, h5⟩, q⟩ := h
  cases rx
  cases ry
  obtain ⟨es, ep, t, U⟩ := setH_get I h1
  show wpAny _ _ (do return Value.bool (← contains (.ref a) (.ref b))) _ _ s
  refine wpAny_bind (contains_N U (fun p hp => ⟨KeyIs.is I _ _ _ (h2 p hp).1 rfl, (h2 p hp).2⟩) ⟨KeyIs.is I _ _ _ h3 rfl, h4⟩ (by omega) fun tk => ?_)
  exact wpAny_pure ⟨.bl _, H, I.tok _, rfl, q⟩
theorem op_ninN (X : Cx) (hr : X.A.units + 64 < cLine) : OpR X (compareOp .NotIn) (fun x y H Q => ∃ a L b k, x = .ref b ∧ y = .ref a ∧ HasK X H a L (.ref b) k ∧ Q (.bl (!decide (k ∈ L.map (·.2)))) H) := by
  intro pins s σ H x y v u Q I rx ry h
  obtain ⟨a, L, b, k, rfl, rfl, ⟨h1, h2, h3, h4, h5⟩, q⟩ := h
  cases rx
  cases ry
  obtain ⟨es, ep, t, U⟩ := setH_get I h1
  show wpAny _ _ (do return Value.bool (!(← contains (.ref a) (.ref b)))) _ _ s
  refine wpAny_bind (contains_N U (fun p hp => ⟨KeyIs.is I _ _ _ (h2 p hp).1 rfl, (h2 p hp).2⟩) ⟨KeyIs.is I _ _ _ h3 rfl, h4⟩ (by omega) fun tk => ?_)
  exact wpAny_pure ⟨.bl _, H, I.tok _, rfl, q⟩
def rAddN (X : Cx) : V → List V → Hp → VK → Prop := fun x xs H Q => ∃ a L b k, x = .ref a ∧ xs = [.ref b] ∧ HasK X H a L (.ref b) k ∧ L.length + 1 ≤ 300 ∧ ∀ L', (k ∈ L.map (·.2) → L' = L) → (k ∉ L.map (·.2) → L'.Perm ((b, k) :: L)) → Q .non (upd H a (setH a L'))
theorem mt_addN (X : Cx) (hr : X.A.units + 64 < cLine) : MtR X "set.add" (rAddN X) := by
  intro pins s σ H x xs v us Q I rx rxs h
  obtain ⟨a, L, b, k, rfl, rfl, ⟨h1, h2, h3, h4, h5⟩, few, q⟩ := h
  cases rx
  cases rxs with
  | cons ry rt =>
    cases rt
    cases ry
    obtain ⟨es, ep, t, U⟩ := setH_get I h1
    refine call_addN (X := X) U (fun p hp => ⟨KeyIs.is I _ _ _ (h2 p hp).1 rfl, (h2 p hp).2⟩) ⟨KeyIs.is I _ _ _ h3 rfl, h4⟩ h5 (by omega) few fun h' L' es' ep' t' tk sb U' e1 e2 => ?_
    have he : ∃ u, h'.get? a = some u := by
      obtain ⟨o, ho, _⟩ := U'.ob
      exact ⟨o, ho⟩
    exact ⟨.non, upd H a (setH a L'), I.write (e := a) (t' := tk) (by rw [h1]; trivial) (.inl rfl) (fun b u hb hu => (sb.2 b hb).trans hu) he (setH_ok U'), rfl, q L' e1 e2⟩
def tAddN (X : Cx) (to : TE) (t : TA) : TE := fun σ H Q => to σ H fun x H1 => (∃ a L, x = V.ref a ∧ H1 a = some (setH a L)) ∧ t σ H1 fun xs H2 => rAddN X x xs H2 Q
theorem pe_addN {X : Cx} {o e : Expr} {es : List Expr} {to : TE} {t : TA} {apos cpos : Pos} (hr : X.A.units + 64 < cLine) (ho : PE X o to) (ha : PA X (e :: es) t)
    (hbase : attributeBase o "add" X.env (eval o X.env) = eval o X.env := by rfl)
    (hfew : ((backTo cpos (starEach (e :: es) X.env)).all (fun x => !x.1) && (backToKw cpos (keywordEach [] X.env)).all (fun x => x.1.isSome)
      && decide ((e :: es).length + ([] : List Keyword).length + (if ([] : List Keyword).isEmpty then 0 else 1) < 30)) = true := by rfl)
    (hline : (apos.endLine == cpos.line) = true := by rfl) (hs : starEach (e :: es) X.env = (false, eval e X.env) :: starEach es X.env := by rfl) (hplain : (backTo cpos (starEach es X.env)).any (·.1) = false := by rfl) :
    PE X (.Call (.Attribute o "add" apos) (e :: es) [] cpos) (tAddN X to t) := by
  refine ⟨fun pins s σ H Q I h => ?_⟩
  refine wpAny_Call_method_late hbase hfew hline rfl (thn (ho.run pins s σ H _ I h) fun v s1 ⟨x, H1, I1, r1, ty, q1⟩ => ?_)
  obtain ⟨a, L, rfl, hka⟩ := ty
  obtain ⟨es', ep, t, U⟩ := setH_get I1 hka
  cases r1
  refine ⟨"set", "set.add", F.plainAttrs_set, F.slot_set_add, F.type_set_add, (ExT.typeIs U).1, fun b e => (by cases e; exact (ExT.typeIs U).2), ?_⟩
  have hA := ha.run cpos pins s1 σ H1 _ I1 q1
  rw [hs] at hA ⊢
  refine Calls.callWith_builtin (by show (false || (backTo cpos (starEach es X.env)).any (·.1)) = false; rw [hplain] <;> rfl) (Calls.evalArgs_plain ?_)
  exact thn hA fun us s2 ⟨vs, H2, I2, r2, q2⟩ => mt_addN X hr pins s2 σ H2 (.ref a) vs (.ref a) us Q I2 rfl r2 q2
end
end
end NS

namespace NS
open PySem PySem.Spec PyProof.Rows L2
/-! ### set(x): the new set, filled by whatever fills it -/
section
variable {P : Program} {w : World} {A : Around} {E : Value → Shared → Prop} {s : Shared}
abbrev newSet (w : World) : Obj := { cls := .type "set", dict := none, data := .set #[] 0 (.fresh 0 0 (!w.params.followText "set-order")) }
theorem set_from {x : Value} {Q : Value → Shared → Prop}
    (hf : ∀ A' : Around, A'.handled = A.handled → wpAny (model P w) A' (Builtin.Frozenset.updateFrom "set.__init__" s.heap.objs.size x) (fun _ s2 => Q (.ref s.heap.objs.size) s2) E { s with heap := s.heap.push (newSet w) }) :
    wpAny (model P w) A (call (.type "set") [x]) Q E s := by
  obtain ⟨c, tl, hmro⟩ := F.called_set.mro
  have hmade := F.called_set.made
  have hsub := F.called_set.sub
  refine wpAny_call (codeAny_of_tree ?_)
  show wpAny _ _ (callAny (.type "set") _) _ _ _
  refine wpAny_pure ⟨Code.quiet_builtin _ (by decide +kernel), codeAny_builtin F.entry_type_call ?_⟩
  rw [Around.under_plain (weight_type_call_type "set" [x] []) rfl]
  have h1 := F.called_set.notType
  have h2 := F.called_set.canCreate
  have hct := F.typeCall_set_1 x
  repeat (any_goals (first | assumption | wp_step))
  refine codeAny_mono (code_set_led1 x (E := E) (Q₁ := fun o s1 => o = .ref s.heap.objs.size ∧ s1 = { s with heap := s.heap.push (newSet w) }) ⟨rfl, rfl⟩) fun r s1 hr => ?_
  cases r with
  | error e => exact hr
  | ok fl =>
    cases fl with
    | ret o =>
      obtain ⟨rfl, rfl⟩ := hr
      have hS : (s.heap.push (newSet w)).get? s.heap.objs.size = some (newSet w) := Heap.get?_push_size _ rfl
      have hT : Shared.TypeIs { s with heap := s.heap.push (newSet w) } (.ref s.heap.objs.size) "set" := ⟨_, hS, rfl⟩
      have hli := F.called_set.init.lookup
      have hbi := F.called_set.init.bind (.ref s.heap.objs.size)
      repeat (any_goals (first | assumption | wp_step))
      refine codeAny_mono (codeAny_call_builtin (R := wants (fun r s2 => r = .none ∧ Q (.ref s.heap.objs.size) s2) E) F.called_set.init.plain F.entry_set_init (check_set_init_1 hT ?_)) fun r2 s2 hr2 => ?_
      · unfold Builtin.«set.__init__» noKeywords
        have hf := fun A' h => hf A' h
        generalize Builtin.Frozenset.updateFrom "set.__init__" = U at hf ⊢
        wp_walk
        refine thn (hf A.in1.in1 (by simp)) fun _ s2 q => ?_
        show wpAny _ _ (ret Value.none) _ _ _
        exact wpAny_pure ⟨rfl, q⟩
      · cases r2 with
        | error e => exact hr2
        | ok fl2 =>
          cases fl2 with
          | ret r =>
            obtain ⟨rfl, hq⟩ := hr2
            repeat (any_goals (first | assumption | wp_step))
          | _ => exact hr2.elim
    | _ => exact hr.elim
theorem set_fill {l : Addr} {items : Array Value} {ns : List Int} {Q : Value → Shared → Prop} (hh : A.handled = none) (hl : s.heap.IsList l items) (hi : IntsAre items.toList ns) (hb : ns.length + 1 < scanBound)
    (hq : ∀ (h' : Heap) (tk k : Nat), SetR w h' s.heap.objs.size (fun j => decide (j ∈ ns)) k → k ≤ ns.length → (∀ b o, s.heap.get? b = some o → h'.get? b = some o) → Q (.ref s.heap.objs.size) { s with heap := h', toks := tk }) :
    wpAny (model P w) A (call (.type "set") [.ref l]) Q E s := by
  have hz : items.size = ns.length := by
    have q := IntsAre.length hi
    rwa [Array.length_toList] at q
  refine set_from fun A' hA => ?_
  have hA0 : A'.handled = none := hA.trans hh
  have hS : (s.heap.push (newSet w)).get? s.heap.objs.size = some (newSet w) := Heap.get?_push_size _ rfl
  have hl1 : (s.heap.push (newSet w)).IsList l items := hl.push _
  have hlS : l < s.heap.objs.size := by
    obtain ⟨ol, hol, _⟩ := hl
    exact Heap.lt_size hol
  obtain ⟨ol, hol, hcl, nl, hdl⟩ := hl1
  obtain ⟨ocls, odict, odata, oslots⟩ := ol
  simp only at hcl hdl
  subst hcl; subst hdl
  have hl1 : (s.heap.push (newSet w)).IsList l items := ⟨_, hol, rfl, nl, rfl⟩
  have hsls := F.sub_list_set
  have hslf := F.sub_list_frozenset
  have hne : (Value.type "list" == Value.type "dict") = false := by decide
  unfold Builtin.Frozenset.updateFrom
  generalize hPI : pyIter = PI
  wp_walk
  subst hPI
  refine wpAny_pyIter_list hl1 ?_
  refine wpAny_bind (wpAny_runValue ?_)
  have h3 : A'.in1.handled = none := by simp [hA0]
  have ne1 : l ≠ (s.heap.push (newSet w)).objs.size := by
    rw [Heap.size_push]; exact Nat.ne_of_lt (Nat.lt_succ_of_lt hlS)
  have ne2 : s.heap.objs.size ∉ [(s.heap.push (newSet w)).objs.size, l] := by
    rw [Heap.size_push]
    simp only [List.mem_cons, List.not_mem_nil, or_false, not_or]
    exact ⟨Nat.ne_of_lt (Nat.lt_succ_self _), Nat.ne_of_gt hlS⟩
  refine set_update_ints ((Walks.list h3 _ l ne1 items).toS) s.heap.objs.size ne2 ns hz hb (fun i v hv => ?_) items.size 0 _ (Nat.sub_zero _) (Nat.zero_le _)
    ⟨⟨_, Heap.get?_push_size _ rfl, rfl, rfl⟩, hl1.push _⟩ ⟨0, Nat.le_refl 0, setR_new_at (Heap.get?_push_of_some _ hS)⟩ fun s' k hm hk hR => ?_
  · have hi2 : i < ns.length := by rw [← hz]; exact (Array.getElem?_eq_some_iff.mp hv).1
    obtain ⟨t, e⟩ := IntsAre.int_at hi i v (by rw [Array.getElem?_toList]; exact hv)
    refine ⟨ns[i], t, List.getElem?_eq_getElem hi2, ?_⟩
    rw [e, List.getD_eq_getElem?_getD, List.getElem?_eq_getElem hi2] <;> rfl
  · obtain ⟨h', g', d', tk', os'⟩ := s'
    have eg : g' = s.gens := hm.gens
    have ed : d' = s.drawn := hm.drawn
    have eo : os' = s.os := hm.os
    subst eg; subst ed; subst eo
    refine wpAny_pure (hq h' tk' k hR (by rw [← hz]; exact hk) fun b o e => ?_)
    have b0 : b < s.heap.objs.size := Heap.lt_size e
    refine hm.heap b o ?_ (Heap.get?_push_of_some _ (Heap.get?_push_of_some _ e))
    simp only [List.mem_cons, List.not_mem_nil, or_false, not_or]
    refine ⟨Nat.ne_of_lt b0, ?_⟩
    show b ≠ (s.heap.push (newSet w)).objs.size
    rw [Heap.size_push]
    exact Nat.ne_of_lt (Nat.lt_succ_of_lt b0)
end
end NS

/-! PL: values as trees, slots, what is owned. -/
namespace PL
open PySem PySem.Spec PyProof.Rows L2

inductive D where
  | non | bl (b : Bool) | int (i : Int) | str (x : Str) | adr (a : Addr) | ty (n : String)
  | tup (ds : List D) | lst (ds : List D) | obj (C : Str) (ns : List Str) (ds : List D) | dic (ks : List Key) (ds : List D)
  /-- a list that is read (the script, a list of the top) -/
  | seq (ds : List D)
  /-- some value, unknown -/
  | any
  /-- an instance at a known place -/
  | oba (a : Addr) (C : Str) (ns : List Str) (ds : List D)
inductive M where
  | d (x : D)
  | lst (ms : List M) | obj (C : Str) (ns : List Str) (ms : List M) | dic (ks : List Key) (ms : List M)
  /-- things at known places, of which the first is meant -/
  | box (a : Addr) (as : List Addr) (ms : List M)
  /-- a set of nested tuples -/
  | st (ks : List NestedKey)
instance : Inhabited D := ⟨.non⟩
instance : Inhabited M := ⟨.d .non⟩

mutual
/-- data as a key of a set -/
def D.nk : D → Option NestedKey
  | .non => some .none
  | .bl b => some (.num (if b = true then 1 else 0))
  | .int i => some (.num i)
  | .tup ds => (match D.nks ds with
    | some ks => some (.tup ks)
    | none => none)
  | _ => none
def D.nks : List D → Option (List NestedKey)
  | [] => some []
  | d :: ds => (match d.nk, D.nks ds with
    | some k, some ks => some (k :: ks)
    | _, _ => none)
end
section
variable (K : PySem.W.Frag) (G : Hp)
mutual
def Rp : D → V → Prop
  | .non, v => v = .non
  | .bl b, v => v = .bl b
  | .int i, v => v = .int i
  | .str x, v => v = .str x
  | .adr a, v => v = .ref a
  | .ty n, v => v = .ty n
  | .tup ds, v => ∃ p xs, v = .ref p ∧ SqT K G p xs ∧ RpL ds xs
  | .lst ds, v => ∃ p xs, v = .ref p ∧ G p = some (.lst xs) ∧ RpL ds xs
  | .seq ds, v => ∃ p xs, v = .ref p ∧ SqL K G p xs ∧ RpL ds xs
  | .obj C ns ds, v => ∃ p dx xs, v = .ref p ∧ G p = some (.ins (He.ga K C) dx (ns.zip xs)) ∧ ns.length = xs.length ∧ RpL ds xs
  | .dic ks ds, v => ∃ p xs, v = .ref p ∧ G p = some (.dK (ks.zip xs)) ∧ ks.length = xs.length ∧ RpL ds xs
  | .any, _ => True
  | .oba a C ns ds, v => ∃ dx xs, v = .ref a ∧ G a = some (.ins (He.ga K C) dx (ns.zip xs)) ∧ ns.length = xs.length ∧ RpL ds xs
def RpL : List D → List V → Prop
  | [], xs => xs = []
  | d :: ds, xs => ∃ y ys, xs = y :: ys ∧ Rp d y ∧ RpL ds ys
end
variable (H : Hp)
mutual
/-- an owned thing: its cells stand in H, at f -/
def RM : M → V → List Addr → Prop
  | .d x, v, f => Rp K G x v ∧ f = []
  | .lst ms, v, f => ∃ p xs q, v = .ref p ∧ H p = some (.lst xs) ∧ RML ms xs q ∧ f = p :: q
  | .obj C ns ms, v, f => ∃ p dx xs q, v = .ref p ∧ H p = some (.ins (He.ga K C) dx (ns.zip xs)) ∧ ns.length = xs.length ∧ RML ms xs q ∧ f = p :: q
  | .dic ks ms, v, f => ∃ p xs q, v = .ref p ∧ H p = some (.dK (ks.zip xs)) ∧ ks.length = xs.length ∧ RML ms xs q ∧ f = p :: q
  | .box a as ms, v, f => v = .ref a ∧ RML ms (as.map V.ref) f
  | .st ks, v, f => ∃ (p : Addr) (L : List (Addr × NestedKey)), v = .ref p ∧ H p = some (NS.setH p L) ∧ (L.map (·.2)).Perm ks ∧ (∀ q ∈ L, q.2.depth ≤ 8 ∧ ∃ d : D, d.nk = some q.2 ∧ Rp K G d (.ref q.1)) ∧ f = [p]
def RML : List M → List V → List Addr → Prop
  | [], xs, f => xs = [] ∧ f = []
  | m :: ms, xs, f => ∃ y ys f1 f2, xs = y :: ys ∧ RM m y f1 ∧ RML ms ys f2 ∧ f = f1 ++ f2
end
end
section
variable {K : PySem.W.Frag} {G G' H H' : Hp}
theorem sqt_mono {a : Addr} {xs : List V} (e : Same G G') (h : SqT K G a xs) : SqT K G' a xs := by
  rcases h with (h | ⟨o, h⟩) | h
  · exact .inl (.inl (e _ _ h))
  · exact .inl (.inr ⟨o, e _ _ h⟩)
  · exact .inr h
mutual
theorem Rp.mono (e : Same G G') : ∀ (d : D) (v : V), Rp K G d v → Rp K G' d v
  | .non, _, h => by simp only [Rp] at h ⊢; exact h
  | .bl _, _, h => by simp only [Rp] at h ⊢; exact h
  | .int _, _, h => by simp only [Rp] at h ⊢; exact h
  | .str _, _, h => by simp only [Rp] at h ⊢; exact h
  | .adr _, _, h => by simp only [Rp] at h ⊢; exact h
  | .ty _, _, h => by simp only [Rp] at h ⊢; exact h
  | .tup ds, _, h => by
    simp only [Rp] at h ⊢
    obtain ⟨p, xs, h1, h2, h3⟩ := h
    exact ⟨p, xs, h1, sqt_mono e h2, RpL.mono e ds xs h3⟩
  | .lst ds, _, h => by
    simp only [Rp] at h ⊢
    obtain ⟨p, xs, h1, h2, h3⟩ := h
    exact ⟨p, xs, h1, e _ _ h2, RpL.mono e ds xs h3⟩
  | .seq ds, _, h => by
    simp only [Rp] at h ⊢
    obtain ⟨p, xs, h1, h2, h3⟩ := h
    exact ⟨p, xs, h1, e.seq h2, RpL.mono e ds xs h3⟩
  | .obj C ns ds, _, h => by
    simp only [Rp] at h ⊢
    obtain ⟨p, dx, xs, h1, h2, h4, h3⟩ := h
    exact ⟨p, dx, xs, h1, e _ _ h2, h4, RpL.mono e ds xs h3⟩
  | .dic ks ds, _, h => by
    simp only [Rp] at h ⊢
    obtain ⟨p, xs, h1, h2, h4, h3⟩ := h
    exact ⟨p, xs, h1, e _ _ h2, h4, RpL.mono e ds xs h3⟩
  | .any, _, h => by simp only [Rp]
  | .oba a C ns ds, _, h => by
    simp only [Rp] at h ⊢
    obtain ⟨dx, xs, h1, h2, h4, h3⟩ := h
    exact ⟨dx, xs, h1, e _ _ h2, h4, RpL.mono e ds xs h3⟩
theorem RpL.mono (e : Same G G') : ∀ (ds : List D) (xs : List V), RpL K G ds xs → RpL K G' ds xs
  | [], _, h => by simp only [RpL] at h ⊢; exact h
  | d :: ds, _, h => by
    simp only [RpL] at h ⊢
    obtain ⟨y, ys, h1, h2, h3⟩ := h
    exact ⟨y, ys, h1, Rp.mono e d y h2, RpL.mono e ds ys h3⟩
end
mutual
theorem RM.frame (e : Same G G') : ∀ (m : M) (v : V) (f : List Addr), RM K G H m v f → (∀ a ∈ f, H' a = H a) → RM K G' H' m v f
  | .d x, v, f, h, _ => by
    simp only [RM] at h ⊢
    exact ⟨Rp.mono e _ _ h.1, h.2⟩
  | .lst ms, v, f, h, k => by
    simp only [RM] at h ⊢
    obtain ⟨p, xs, q, h1, h2, h3, h4⟩ := h
    subst h4
    exact ⟨p, xs, q, h1, by rw [k p (by simp)]; exact h2, RML.frame e ms xs q h3 (fun a ha => k a (by simp [ha])), rfl⟩
  | .obj C ns ms, v, f, h, k => by
    simp only [RM] at h ⊢
    obtain ⟨p, dx, xs, q, h1, h2, h5, h3, h4⟩ := h
    subst h4
    exact ⟨p, dx, xs, q, h1, by rw [k p (by simp)]; exact h2, h5, RML.frame e ms xs q h3 (fun a ha => k a (by simp [ha])), rfl⟩
  | .dic ks ms, v, f, h, k => by
    simp only [RM] at h ⊢
    obtain ⟨p, xs, q, h1, h2, h5, h3, h4⟩ := h
    subst h4
    exact ⟨p, xs, q, h1, by rw [k p (by simp)]; exact h2, h5, RML.frame e ms xs q h3 (fun a ha => k a (by simp [ha])), rfl⟩
  | .box a as ms, v, f, h, k => by
    simp only [RM] at h ⊢
    exact ⟨h.1, RML.frame e ms _ f h.2 k⟩
  | .st ks, v, f, h, k => by
    simp only [RM] at h ⊢
    obtain ⟨p, L, h1, h2, h3, h4, h5⟩ := h
    subst h5
    refine ⟨p, L, h1, by rw [k p (by simp)]; exact h2, h3, fun q hq => ?_, rfl⟩
    obtain ⟨e1, d, e2, e3⟩ := h4 q hq
    exact ⟨e1, d, e2, Rp.mono e _ _ e3⟩
theorem RML.frame (e : Same G G') : ∀ (ms : List M) (xs : List V) (f : List Addr), RML K G H ms xs f → (∀ a ∈ f, H' a = H a) → RML K G' H' ms xs f
  | [], _, _, h, _ => by simp only [RML] at h ⊢; exact h
  | m :: ms, _, _, h, k => by
    simp only [RML] at h ⊢
    obtain ⟨y, ys, f1, f2, h1, h2, h3, h4⟩ := h
    subst h4
    exact ⟨y, ys, f1, f2, h1, RM.frame e m y f1 h2 (fun a ha => k a (by simp [ha])), RML.frame e ms ys f2 h3 (fun a ha => k a (by simp [ha])), rfl⟩
end
mutual
theorem RM.there : ∀ (m : M) (v : V) (f : List Addr), RM K G H m v f → ∀ a ∈ f, H a ≠ none
  | .d x, v, f, h => by
    simp only [RM] at h
    obtain ⟨_, rfl⟩ := h
    simp
  | .lst ms, v, f, h => by
    simp only [RM] at h
    obtain ⟨p, xs, q, h1, h2, h3, h4⟩ := h
    subst h4
    intro a ha
    rcases List.mem_cons.mp ha with rfl | ha
    · rw [h2]; simp
    · exact RML.there ms xs q h3 a ha
  | .obj C ns ms, v, f, h => by
    simp only [RM] at h
    obtain ⟨p, dx, xs, q, h1, h2, h5, h3, h4⟩ := h
    subst h4
    intro a ha
    rcases List.mem_cons.mp ha with rfl | ha
    · rw [h2]; simp
    · exact RML.there ms xs q h3 a ha
  | .dic ks ms, v, f, h => by
    simp only [RM] at h
    obtain ⟨p, xs, q, h1, h2, h5, h3, h4⟩ := h
    subst h4
    intro a ha
    rcases List.mem_cons.mp ha with rfl | ha
    · rw [h2]; simp
    · exact RML.there ms xs q h3 a ha
  | .box a as ms, v, f, h => by
    simp only [RM] at h
    exact RML.there ms _ f h.2
  | .st ks, v, f, h => by
    simp only [RM] at h
    obtain ⟨p, L, h1, h2, h3, h4, h5⟩ := h
    subst h5
    intro a ha
    rw [List.mem_singleton.mp ha, h2]
    simp
theorem RML.there : ∀ (ms : List M) (xs : List V) (f : List Addr), RML K G H ms xs f → ∀ a ∈ f, H a ≠ none
  | [], _, _, h => by
    simp only [RML] at h
    obtain ⟨_, rfl⟩ := h
    simp
  | m :: ms, _, _, h => by
    simp only [RML] at h
    obtain ⟨y, ys, f1, f2, h1, h2, h3, h4⟩ := h
    subst h4
    intro a ha
    rcases List.mem_append.mp ha with ha | ha
    · exact RM.there m y f1 h2 a ha
    · exact RML.there ms ys f2 h3 a ha
end
end

/-! ### slots -/
inductive B where
  | no | d (x : D) | o (k : Option Nat) (m : M)
/-- the entry of a def: its heap, what persists, the cells that it may change, its arguments -/
structure Cg where
  H0 : Hp
  G0 : Hp
  PS : List Addr
  PP : Nat → List Addr
  VS : List V
structure Stp (ps : List Addr) (G H G' H' : Hp) : Prop where
  g : Same G G'
  gh : Same G' H'
  nw : ∀ a, H a ≠ none → G a = none → G' a = none
  kp : ∀ a o, H a = some o → a ∉ ps → H' a = some o
  dm : ∀ a, H a ≠ none → H' a ≠ none
section
variable (K : PySem.W.Frag) (c : Cg) (G H : Hp)
def RB : B → Option V → List Addr → Prop
  | .no, _, f => f = []
  | .d x, s, f => f = [] ∧ ∃ v, s = some v ∧ Rp K G x v
  | .o k m, s, f => ∃ v, s = some v ∧ RM K G H m v f ∧ (match k with | none => ∀ a ∈ f, c.H0 a = none | some j => c.VS[j]? = some v ∧ ∀ a ∈ f, a ∈ c.PP j ∨ c.H0 a = none)
def RE : List B → L2.St → List Addr → Prop
  | [], σ, f => σ = [] ∧ f = []
  | b :: bs, σ, f => ∃ s σ' f1 f2, σ = s :: σ' ∧ RB K c G H b s f1 ∧ RE bs σ' f2 ∧ f = f1 ++ f2
def RT : List (M × V) → List Addr → Prop
  | [], f => f = []
  | t :: T, f => ∃ f1 f2, RM K G H t.1 t.2 f1 ∧ (∀ a ∈ f1, c.H0 a = none) ∧ RT T f2 ∧ f = f1 ++ f2
structure Iv (σ : L2.St) (b : List B) (T : List (M × V)) : Prop where
  st : Stp c.PS c.G0 c.H0 G H
  fp : ∃ f1 f2, RE K c G H b σ f1 ∧ RT K c G H T f2 ∧ (f1 ++ f2).Nodup ∧ ∀ a ∈ f1 ++ f2, G a = none ∧ (a ∈ c.PS ∨ c.H0 a = none)
end
section
variable {K : PySem.W.Frag} {c : Cg} {G G' H H' : Hp} {σ : L2.St} {b : List B} {T T1 : List (M × V)} {p : Addr} {o : HO} {d : D} {v : V} {m : M}
theorem RB.frame (e : Same G G') : ∀ {b : B} {s : Option V} {f : List Addr}, RB K c G H b s f → (∀ a ∈ f, H' a = H a) → RB K c G' H' b s f
  | .no, _, _, h, _ => h
  | .d x, _, _, ⟨h1, v, h2, h3⟩, _ => ⟨h1, v, h2, Rp.mono e _ _ h3⟩
  | .o k m, _, _, ⟨v, h1, h2, h3⟩, q => ⟨v, h1, RM.frame e _ _ _ h2 q, h3⟩
theorem RE.frame (e : Same G G') : ∀ {b : List B} {σ : L2.St} {f : List Addr}, RE K c G H b σ f → (∀ a ∈ f, H' a = H a) → RE K c G' H' b σ f
  | [], _, _, h, _ => h
  | b :: bs, _, _, ⟨s, σ', f1, f2, h1, h2, h3, h4⟩, q => by
    subst h4
    exact ⟨s, σ', f1, f2, h1, h2.frame e (fun a ha => q a (by simp [ha])), h3.frame e (fun a ha => q a (by simp [ha])), rfl⟩
theorem RT.frame (e : Same G G') : ∀ {T : List (M × V)} {f : List Addr}, RT K c G H T f → (∀ a ∈ f, H' a = H a) → RT K c G' H' T f
  | [], _, h, _ => h
  | t :: T, _, ⟨f1, f2, h1, h2, h3, h4⟩, q => by
    subst h4
    exact ⟨f1, f2, RM.frame e _ _ _ h1 (fun a ha => q a (by simp [ha])), h2, h3.frame e (fun a ha => q a (by simp [ha])), rfl⟩
theorem RB.there : ∀ {b : B} {s : Option V} {f : List Addr}, RB K c G H b s f → ∀ a ∈ f, H a ≠ none
  | .no, _, _, h => by
    have h : _ = [] := h
    subst h; simp
  | .d x, _, _, ⟨h1, _⟩ => by subst h1; simp
  | .o k m, _, _, ⟨v, h1, h2, h3⟩ => RM.there _ _ _ h2
theorem RE.there : ∀ {b : List B} {σ : L2.St} {f : List Addr}, RE K c G H b σ f → ∀ a ∈ f, H a ≠ none
  | [], _, _, ⟨_, h⟩ => by subst h; simp
  | b :: bs, _, _, ⟨s, σ', f1, f2, h1, h2, h3, h4⟩ => by
    subst h4
    intro a ha
    rcases List.mem_append.mp ha with ha | ha
    · exact h2.there a ha
    · exact h3.there a ha
theorem RT.there : ∀ {T : List (M × V)} {f : List Addr}, RT K c G H T f → ∀ a ∈ f, H a ≠ none
  | [], _, h => by
    have h : _ = [] := h
    subst h; simp
  | t :: T, _, ⟨f1, f2, h1, h2, h3, h4⟩ => by
    subst h4
    intro a ha
    rcases List.mem_append.mp ha with ha | ha
    · exact RM.there _ _ _ h1 a ha
    · exact h3.there a ha
theorem RE.len : ∀ {b : List B} {σ : L2.St} {f : List Addr}, RE K c G H b σ f → σ.length = b.length
  | [], _, _, ⟨h, _⟩ => by subst h; rfl
  | b :: bs, _, _, ⟨s, σ', f1, f2, h1, h2, h3, h4⟩ => by subst h1; simp [h3.len]

theorem Stp.refl (h : Same G H) : Stp [] G H G H := ⟨fun _ _ h => h, h, fun _ _ h => h, fun _ _ h _ => h, fun _ h => h⟩
/-- a step behind a step -/
theorem Stp.trans {ps f : List Addr} {G0 H0 : Hp} (s1 : Stp ps G0 H0 G H) (s2 : Stp f G H G' H') (hf : ∀ a ∈ f, a ∈ ps ∨ H0 a = none) : Stp ps G0 H0 G' H' where
  g := s1.g.trans s2.g
  gh := s2.gh
  nw := fun a h1 h2 => s2.nw a (s1.dm a h1) (s1.nw a h1 h2)
  kp := fun a o h1 h2 => s2.kp a o (s1.kp a o h1 h2) (fun hm => by
    rcases hf a hm with h | h
    · exact h2 h
    · rw [h] at h1; cases h1)
  dm := fun a h => s2.dm a (s1.dm a h)

theorem Iv.pushD (I : Iv K c G H σ b T) (h : Rp K G d v) : Iv K c G H σ b ((.d d, v) :: T) := by
  obtain ⟨st, f1, f2, h1, h2, h3, h4⟩ := I
  exact ⟨st, f1, f2, h1, ⟨[], f2, by simp only [RM, and_true]; exact h, by simp, h2, rfl⟩, h3, h4⟩
theorem Iv.drop {t : M × V} (I : Iv K c G H σ b (t :: T)) : Iv K c G H σ b T := by
  obtain ⟨st, f1, f2, h1, ⟨g1, g2, h2, h5, h6, h7⟩, h3, h4⟩ := I
  subst h7
  refine ⟨st, f1, g2, h1, h6, ?_, fun a ha => h4 a ?_⟩
  · simp only [List.nodup_append, List.mem_append] at h3 ⊢
    refine ⟨h3.1, h3.2.1.2.1, fun a ha b hb => h3.2.2 a ha b (.inr hb)⟩
  · simp only [List.mem_append] at ha ⊢
    grind
theorem Iv.topD (I : Iv K c G H σ b ((.d d, v) :: T)) : Rp K G d v := by
  obtain ⟨st, f1, f2, h1, ⟨g1, g2, h2, h5, h6, h7⟩, h3, h4⟩ := I
  simp only [RM] at h2
  exact h2.1
theorem Iv.sl (I : Iv K c G H σ b T) : σ.length = b.length := by
  obtain ⟨st, f1, f2, h1, _⟩ := I
  exact h1.len
end
end PL

namespace PL
open PySem PySem.Spec PyProof.Rows L2
section
variable {K : PySem.W.Frag} {c : Cg} {G G' H H' : Hp} {σ : L2.St} {b : List B} {T T1 : List (M × V)} {p : Addr} {o : HO} {d : D} {v : V} {m : M}

theorem Iv.ext (I : Iv K c G H σ b T) (e : Same G G') (gh : Same G' H') (k : Same H H') (nw : ∀ a, H a ≠ none → G a = none → G' a = none) : Iv K c G' H' σ b T := by
  obtain ⟨st, f1, f2, h1, h2, h3, h4⟩ := I
  have kk : ∀ a, H a ≠ none → H' a = H a := fun a ha => by
    cases q : H a with
    | none => exact absurd q ha
    | some o => exact k a o q
  refine ⟨st.trans (f := []) ⟨e, gh, nw, fun a o h _ => k a o h, fun a h => by rw [kk a h]; exact h⟩ (by simp), f1, f2, h1.frame e (fun a ha => kk a (h1.there a ha)), h2.frame e (fun a ha => kk a (h2.there a ha)), h3, fun a ha => ⟨?_, (h4 a ha).2⟩⟩
  refine nw a ?_ (h4 a ha).1
  rcases List.mem_append.mp ha with ha | ha
  · exact h1.there a ha
  · exact h2.there a ha
theorem same_upd (h : H p = none) : Same H (upd H p o) := fun a u e => by
  rw [upd_ne (ne_of_none e h)]; exact e
theorem same_upd2 (h : Same G H) (hp : H p = none) : Same (upd G p o) (upd H p o) := fun a u e => by
  by_cases q : a = p
  · subst q; rw [upd_same] at e ⊢; exact e
  · rw [upd_ne q] at e ⊢; exact h a u e
theorem Iv.newD (I : Iv K c G H σ b T) (hp : H p = none) : Iv K c (upd G p o) (upd H p o) σ b T := by
  have gp : G p = none := I.st.gh.free hp
  refine I.ext (same_upd gp) (same_upd2 I.st.gh hp) (same_upd hp) fun a h1 h2 => ?_
  rw [upd_ne (fun q : a = p => h1 (by rw [q]; exact hp))]; exact h2
/-- new, forgotten -/
theorem Iv.junk (I : Iv K c G H σ b T) (hp : H p = none) : Iv K c G (upd H p o) σ b T :=
  I.ext (Same.refl _) (I.st.gh.trans (same_upd hp)) (same_upd hp) fun _ _ h => h

theorem RE.split : ∀ {b : List B} {σ : L2.St} {f : List Addr} {i : Nat} {bi : B}, RE K c G H b σ f → b[i]? = some bi → ∃ s fi fr, σ[i]? = some s ∧ RB K c G H bi s fi ∧ f.Perm (fi ++ fr) ∧
    ∀ G' H' nb ns fn, Same G G' → (∀ a ∈ fr, H' a = H a) → RB K c G' H' nb ns fn → ∃ f', RE K c G' H' (b.set i nb) (σ.set i ns) f' ∧ f'.Perm (fn ++ fr)
  | [], _, _, _, _, _, e => by simp at e
  | b :: bs, _, _, 0, bi, ⟨s, σ', f1, f2, h1, h2, h3, h4⟩, e => by
    have e : b = bi := by simpa using e
    subst e h1 h4
    refine ⟨s, f1, f2, rfl, h2, List.Perm.refl _, fun G' H' nb ns fn g k r => ⟨fn ++ f2, ⟨ns, σ', fn, f2, rfl, r, h3.frame g k, rfl⟩, List.Perm.refl _⟩⟩
  | b :: bs, _, _, i + 1, bi, ⟨s, σ', f1, f2, h1, h2, h3, h4⟩, e => by
    subst h1 h4
    obtain ⟨s', fi, fr, e1, e2, e3, e4⟩ := h3.split (i := i) (by simpa using e)
    refine ⟨s', fi, f1 ++ fr, by simpa using e1, e2, ?_, fun G' H' nb ns fn g k r => ?_⟩
    · exact (List.Perm.append_left f1 e3).trans (by
        rw [← List.append_assoc, ← List.append_assoc]
        exact List.Perm.append_right fr List.perm_append_comm)
    · obtain ⟨f', q1, q2⟩ := e4 G' H' nb ns fn g (fun a ha => k a (by simp [ha])) r
      refine ⟨f1 ++ f', ⟨s, σ'.set i ns, f1, f', rfl, h2.frame g (fun a ha => k a (by simp [ha])), q1, rfl⟩, ?_⟩
      exact (List.Perm.append_left f1 q2).trans (by
        rw [← List.append_assoc, ← List.append_assoc]
        exact List.Perm.append_right fr List.perm_append_comm)
theorem RT.app : ∀ {T1 T : List (M × V)} {f : List Addr}, RT K c G H (T1 ++ T) f ↔ ∃ f1 f2, RT K c G H T1 f1 ∧ RT K c G H T f2 ∧ f = f1 ++ f2
  | [], T, f => ⟨fun h => ⟨[], f, rfl, h, rfl⟩, fun ⟨f1, f2, h1, h2, h3⟩ => by
      have h1 : f1 = [] := h1
      subst h1 h3; exact h2⟩
  | t :: T1, T, f => by
    constructor
    · rintro ⟨f1, f2, h1, h2, h3, h4⟩
      obtain ⟨g1, g2, q1, q2, q3⟩ := RT.app.mp h3
      subst q3 h4
      exact ⟨f1 ++ g1, g2, ⟨f1, g1, h1, h2, q1, rfl⟩, q2, by simp⟩
    · rintro ⟨f1, f2, ⟨g1, g2, h1, h2, h3, h4⟩, h5, h6⟩
      subst h4 h6
      exact ⟨g1, g2 ++ f2, h1, h2, RT.app.mpr ⟨g2, f2, h3, h5, rfl⟩, by simp⟩
theorem RT.old : ∀ {T : List (M × V)} {f : List Addr}, RT K c G H T f → ∀ a ∈ f, c.H0 a = none
  | [], _, h => by
    have h : _ = [] := h
    subst h; simp
  | t :: T, _, ⟨f1, f2, h1, h2, h3, h4⟩ => by
    subst h4
    intro a ha
    rcases List.mem_append.mp ha with ha | ha
    · exact h2 a ha
    · exact h3.old a ha
theorem nodup3 {a b c d : List Addr} (h : (a ++ b ++ c).Nodup) (hd : d.Nodup) (h2 : ∀ x ∈ d, x ∉ c) : (d ++ c).Nodup := by
  simp only [List.nodup_append] at h ⊢
  exact ⟨hd, h.2.1, fun x hx y hy e => h2 x hx (e ▸ hy)⟩
/-- THE STEP at a slot, with some temporaries -/
theorem Iv.slot {i : Nat} {bi : B} (I : Iv K c G H σ b (T1 ++ T)) (hb : b[i]? = some bi) : ∃ s fi ft, σ[i]? = some s ∧ RB K c G H bi s fi ∧ RT K c G H T1 ft ∧ (fi ++ ft).Nodup ∧ (∀ a ∈ fi ++ ft, G a = none) ∧ (∀ a ∈ ft, c.H0 a = none) ∧
    ∀ G' H' nb ns fn T1' fm, Stp (fi ++ ft) G H G' H' → RB K c G' H' nb ns fn → RT K c G' H' T1' fm → (fn ++ fm).Nodup → (∀ a ∈ fn ++ fm, a ∈ fi ∨ a ∈ ft ∨ H a = none) → (∀ a ∈ fn ++ fm, G' a = none) →
      Iv K c G' H' (σ.set i ns) (b.set i nb) (T1' ++ T) := by
  obtain ⟨st, f1, f2, h1, h2, h3, h4⟩ := I
  obtain ⟨ft, f3, t1, t2, t3⟩ := RT.app.mp h2
  subst t3
  obtain ⟨s, fi, fr, e1, e2, e3, e4⟩ := h1.split hb
  have P : (f1 ++ (ft ++ f3)).Perm ((fi ++ ft) ++ (fr ++ f3)) := by
    refine (List.Perm.append_right _ e3).trans ?_
    simp only [List.append_assoc]
    refine List.Perm.append_left fi ?_
    rw [← List.append_assoc, ← List.append_assoc]
    exact List.Perm.append_right f3 List.perm_append_comm
  have N := P.nodup_iff.mp h3
  have M1 : ∀ a, a ∈ (fi ++ ft) ++ (fr ++ f3) → a ∈ f1 ++ (ft ++ f3) := fun a ha => P.mem_iff.mpr ha
  refine ⟨s, fi, ft, e1, e2, t1, (List.nodup_append.mp N).1, fun a ha => (h4 a (M1 a (by simp at ha ⊢; grind))).1, t1.old, fun G' H' nb ns fn T1' fm S rb rt nd old gn => ?_⟩
  have there : ∀ a ∈ fr ++ f3, H a ≠ none := fun a ha => by
    rcases List.mem_append.mp ha with ha | ha
    · exact h1.there a (e3.mem_iff.mpr (by simp [ha]))
    · exact t2.there a ha
  have out : ∀ a ∈ fr ++ f3, a ∉ fi ++ ft := fun a ha hm => (List.nodup_append.mp N).2.2 a hm a ha rfl
  have same : ∀ a ∈ fr ++ f3, H' a = H a := fun a ha => by
    cases q : H a with
    | none => exact absurd q (there a ha)
    | some o => exact S.kp a o q (out a ha)
  obtain ⟨f', q1, q2⟩ := e4 G' H' nb ns fn S.g (fun a ha => same a (by simp [ha])) rb
  have hin : ∀ a ∈ fi ++ ft, a ∈ c.PS ∨ c.H0 a = none := fun a ha => (h4 a (M1 a (by simp at ha ⊢; grind))).2
  have hnew : ∀ a ∈ fn ++ fm, a ∈ c.PS ∨ c.H0 a = none := fun a ha => by
    rcases old a ha with z | z | z
    · exact hin a (by simp [z])
    · exact hin a (by simp [z])
    · right
      cases q : c.H0 a with
      | none => rfl
      | some o => exact absurd z (st.dm a (by rw [q]; simp))
  have hout : ∀ a ∈ fn ++ fm, a ∉ fr ++ f3 := fun a ha hm => by
    rcases old a ha with z | z | z
    · exact out a hm (by simp [z])
    · exact out a hm (by simp [z])
    · exact there a hm z
  have P2 : (f' ++ (fm ++ f3)).Perm ((fn ++ fm) ++ (fr ++ f3)) := by
    refine (List.Perm.append_right _ q2).trans ?_
    simp only [List.append_assoc]
    refine List.Perm.append_left fn ?_
    rw [← List.append_assoc, ← List.append_assoc]
    exact List.Perm.append_right f3 List.perm_append_comm
  refine ⟨st.trans S hin, f', fm ++ f3, q1, RT.app.mpr ⟨fm, f3, rt, t2.frame S.g (fun a ha => same a (by simp [ha])), rfl⟩, ?_, fun a ha => ?_⟩
  · rw [P2.nodup_iff]
    exact List.nodup_append.mpr ⟨nd, (List.nodup_append.mp N).2.1, fun x hx y hy e => hout x hx (e ▸ hy)⟩
  · rcases List.mem_append.mp (P2.mem_iff.mp ha) with z | z
    · exact ⟨gn a z, hnew a z⟩
    · have h5 := h4 a (M1 a (by simp at z ⊢; grind))
      exact ⟨S.nw a (there a z) h5.1, h5.2⟩
/-- .. with temporaries alone -/
theorem Iv.tmp (I : Iv K c G H σ b (T1 ++ T)) : ∃ ft, RT K c G H T1 ft ∧ ft.Nodup ∧ (∀ a ∈ ft, G a = none) ∧ (∀ a ∈ ft, c.H0 a = none) ∧
    ∀ G' H' T1' fm, Stp ft G H G' H' → RT K c G' H' T1' fm → fm.Nodup → (∀ a ∈ fm, a ∈ ft ∨ H a = none) → (∀ a ∈ fm, G' a = none) → Iv K c G' H' σ b (T1' ++ T) := by
  obtain ⟨st, f1, f2, h1, h2, h3, h4⟩ := I
  obtain ⟨ft, f3, t1, t2, t3⟩ := RT.app.mp h2
  subst t3
  have P : (f1 ++ (ft ++ f3)).Perm (ft ++ (f1 ++ f3)) := by
    rw [← List.append_assoc, ← List.append_assoc]
    exact List.Perm.append_right f3 List.perm_append_comm
  have N := P.nodup_iff.mp h3
  have M1 : ∀ a, a ∈ ft ++ (f1 ++ f3) → a ∈ f1 ++ (ft ++ f3) := fun a ha => P.mem_iff.mpr ha
  refine ⟨ft, t1, (List.nodup_append.mp N).1, fun a ha => (h4 a (M1 a (by simp [ha]))).1, t1.old, fun G' H' T1' fm S rt nd old gn => ?_⟩
  have there : ∀ a ∈ f1 ++ f3, H a ≠ none := fun a ha => by
    rcases List.mem_append.mp ha with ha | ha
    · exact h1.there a ha
    · exact t2.there a ha
  have out : ∀ a ∈ f1 ++ f3, a ∉ ft := fun a ha hm => (List.nodup_append.mp N).2.2 a hm a ha rfl
  have same : ∀ a ∈ f1 ++ f3, H' a = H a := fun a ha => by
    cases q : H a with
    | none => exact absurd q (there a ha)
    | some o => exact S.kp a o q (out a ha)
  have hin : ∀ a ∈ ft, a ∈ c.PS ∨ c.H0 a = none := fun a ha => (h4 a (M1 a (by simp [ha]))).2
  have P2 : (f1 ++ (fm ++ f3)).Perm (fm ++ (f1 ++ f3)) := by
    rw [← List.append_assoc, ← List.append_assoc]
    exact List.Perm.append_right f3 List.perm_append_comm
  refine ⟨st.trans S hin, f1, fm ++ f3, h1.frame S.g (fun a ha => same a (by simp [ha])), RT.app.mpr ⟨fm, f3, rt, t2.frame S.g (fun a ha => same a (by simp [ha])), rfl⟩, ?_, fun a ha => ?_⟩
  · rw [P2.nodup_iff]
    refine List.nodup_append.mpr ⟨nd, (List.nodup_append.mp N).2.1, fun x hx y hy e => ?_⟩
    subst e
    rcases old x hx with z | z
    · exact out x hy z
    · exact there x hy z
  · rcases List.mem_append.mp (P2.mem_iff.mp ha) with z | z
    · refine ⟨gn a z, ?_⟩
      rcases old a z with z | z
      · exact hin a z
      · right
        cases q : c.H0 a with
        | none => rfl
        | some o => exact absurd z (st.dm a (by rw [q]; simp))
    · have h5 := h4 a (M1 a (by simp at z ⊢; grind))
      exact ⟨S.nw a (there a z) h5.1, h5.2⟩
theorem RT.perm : ∀ {T T' : List (M × V)}, T.Perm T' → ∀ {f : List Addr}, RT K c G H T f → ∃ f', RT K c G H T' f' ∧ f.Perm f' := by
  intro T T' P
  induction P with
  | nil => intro f h; exact ⟨f, h, List.Perm.refl _⟩
  | cons t P ih =>
    rintro f ⟨f1, f2, h1, h2, h3, h4⟩
    obtain ⟨f', q1, q2⟩ := ih h3
    subst h4
    exact ⟨f1 ++ f', ⟨f1, f', h1, h2, q1, rfl⟩, List.Perm.append_left f1 q2⟩
  | swap t u l =>
    rintro f ⟨f1, f2, h1, h2, ⟨f3, f4, h5, h6, h7, h8⟩, h4⟩
    subst h8 h4
    refine ⟨f3 ++ (f1 ++ f4), ⟨f3, f1 ++ f4, h5, h6, ⟨f1, f4, h1, h2, h7, rfl⟩, rfl⟩, ?_⟩
    rw [← List.append_assoc, ← List.append_assoc]
    exact List.Perm.append_right f4 List.perm_append_comm
  | trans P1 P2 ih1 ih2 =>
    intro f h
    obtain ⟨f', q1, q2⟩ := ih1 h
    obtain ⟨f'', q3, q4⟩ := ih2 q1
    exact ⟨f'', q3, q2.trans q4⟩
theorem Iv.perm {T' : List (M × V)} (I : Iv K c G H σ b T) (P : T.Perm T') : Iv K c G H σ b T' := by
  obtain ⟨st, f1, f2, h1, h2, h3, h4⟩ := I
  obtain ⟨f', q1, q2⟩ := h2.perm P
  have Q : (f1 ++ f2).Perm (f1 ++ f') := List.Perm.append_left f1 q2
  exact ⟨st, f1, f', h1, q1, Q.nodup_iff.mp h3, fun a ha => h4 a (Q.mem_iff.mpr ha)⟩
/-- the temporaries of a list of arguments -/
def zT (ms : List M) (vs : List V) : List (M × V) := ms.zip vs
theorem RT.list : ∀ {ms : List M} {vs : List V} {f : List Addr}, ms.length = vs.length → RT K c G H (zT ms vs) f → RML K G H ms vs f ∧ ∀ a ∈ f, c.H0 a = none
  | [], [], f, _, h => by
    have h : f = [] := h
    subst h
    simp [RML]
  | m :: ms, v :: vs, f, e, ⟨f1, f2, h1, h2, h3, h4⟩ => by
    have q := RT.list (ms := ms) (vs := vs) (by simpa using e) h3
    subst h4
    refine ⟨by simp only [RML]; exact ⟨v, vs, f1, f2, rfl, h1, q.1, rfl⟩, fun a ha => ?_⟩
    rcases List.mem_append.mp ha with z | z
    · exact h2 a z
    · exact q.2 a z
  | [], _ :: _, _, e, _ => by simp at e
  | _ :: _, [], _, e, _ => by simp at e
theorem RML.len : ∀ {ms : List M} {vs : List V} {f : List Addr}, RML K G H ms vs f → ms.length = vs.length
  | [], vs, f, h => by simp only [RML] at h; simp [h.1]
  | m :: ms, vs, f, h => by
    simp only [RML] at h
    obtain ⟨y, ys, f1, f2, h1, h2, h3, h4⟩ := h
    subst h1
    simp [RML.len h3]
theorem RpL.len : ∀ {ds : List D} {vs : List V}, RpL K G ds vs → ds.length = vs.length
  | [], vs, h => by simp only [RpL] at h; simp [h]
  | d :: ds, vs, h => by
    simp only [RpL] at h
    obtain ⟨y, ys, h1, h2, h3⟩ := h
    subst h1
    simp [RpL.len h3]

/-! ### freezing -/
mutual
def M.toD : M → D
  | .d x => x
  | .lst ms => .lst (M.toDs ms)
  | .obj C ns ms => .obj C ns (M.toDs ms)
  | .dic ks ms => .dic ks (M.toDs ms)
  | .box a _ _ => .adr a
  | .st _ => .any
def M.toDs : List M → List D
  | [] => []
  | m :: ms => m.toD :: M.toDs ms
end
mutual
/-- what is owned stands as data in every heap that holds its cells -/
theorem RM.data : ∀ (m : M) (v : V) (f : List Addr), RM K G H m v f → Same G G' → (∀ a ∈ f, G' a = H a) → Rp K G' m.toD v
  | .d x, v, f, h, e, _ => by
    simp only [RM] at h
    simp only [M.toD]
    exact Rp.mono e _ _ h.1
  | .lst ms, v, f, h, e, k => by
    simp only [RM] at h
    obtain ⟨p, xs, q, h1, h2, h3, h4⟩ := h
    subst h4
    simp only [M.toD, Rp]
    exact ⟨p, xs, h1, (k p (by simp)).trans h2, RML.data ms xs q h3 e (fun a ha => k a (by simp [ha]))⟩
  | .obj C ns ms, v, f, h, e, k => by
    simp only [RM] at h
    obtain ⟨p, dx, xs, q, h1, h2, h5, h3, h4⟩ := h
    subst h4
    simp only [M.toD, Rp]
    exact ⟨p, dx, xs, h1, (k p (by simp)).trans h2, h5, RML.data ms xs q h3 e (fun a ha => k a (by simp [ha]))⟩
  | .dic ks ms, v, f, h, e, k => by
    simp only [RM] at h
    obtain ⟨p, xs, q, h1, h2, h5, h3, h4⟩ := h
    subst h4
    simp only [M.toD, Rp]
    exact ⟨p, xs, h1, (k p (by simp)).trans h2, h5, RML.data ms xs q h3 e (fun a ha => k a (by simp [ha]))⟩
  | .box a as ms, v, f, h, e, k => by
    simp only [RM] at h
    simp only [M.toD, Rp]
    exact h.1
  | .st ks, v, f, h, e, k => by simp only [M.toD, Rp]
theorem RML.data : ∀ (ms : List M) (xs : List V) (f : List Addr), RML K G H ms xs f → Same G G' → (∀ a ∈ f, G' a = H a) → RpL K G' (M.toDs ms) xs
  | [], _, _, h, _, _ => by
    simp only [RML] at h
    simp only [M.toDs, RpL]
    exact h.1
  | m :: ms, _, _, h, e, k => by
    simp only [RML] at h
    obtain ⟨y, ys, f1, f2, h1, h2, h3, h4⟩ := h
    subst h4
    simp only [M.toDs, RpL]
    exact ⟨y, ys, h1, RM.data m y f1 h2 e (fun a ha => k a (by simp [ha])), RML.data ms ys f2 h3 e (fun a ha => k a (by simp [ha]))⟩
end
/-- as data in the very heap -/
theorem RM.now (h : RM K G H m v f) (e : Same G H) : Rp K H m.toD v := RM.data m v f h e fun _ _ => rfl
def gain (G H : Hp) (f : List Addr) : Hp := fun a => if a ∈ f then H a else G a
theorem gain_in {f : List Addr} {a : Addr} (h : a ∈ f) : gain G H f a = H a := by simp [gain, h]
theorem gain_out {f : List Addr} {a : Addr} (h : a ∉ f) : gain G H f a = G a := by simp [gain, h]
theorem gain_same {f : List Addr} (e : Same G H) : Same G (gain G H f) := fun a o h => by
  by_cases q : a ∈ f
  · rw [gain_in q]; exact e a o h
  · rw [gain_out q]; exact h
theorem gain_heap {f : List Addr} (e : Same G H) : Same (gain G H f) H := fun a o h => by
  by_cases q : a ∈ f
  · rw [gain_in q] at h; exact h
  · rw [gain_out q] at h; exact e a o h
/-- a temporary becomes data -/
theorem Iv.freeze (I : Iv K c G H σ b ((m, v) :: T)) : ∃ G', Iv K c G' H σ b ((.d m.toD, v) :: T) := by
  obtain ⟨st, f1, f2, h1, ⟨g1, g2, h2, h5, h6, h7⟩, h3, h4⟩ := I
  subst h7
  simp only at h2
  have P : (f1 ++ (g1 ++ g2)).Perm (g1 ++ (f1 ++ g2)) := by
    rw [← List.append_assoc, ← List.append_assoc]
    exact List.Perm.append_right g2 List.perm_append_comm
  have N := P.nodup_iff.mp h3
  have out : ∀ a ∈ f1 ++ g2, a ∉ g1 := fun a ha hm => (List.nodup_append.mp N).2.2 a hm a ha rfl
  have gs : Same G (gain G H g1) := gain_same st.gh
  refine ⟨gain G H g1, ⟨st.g.trans gs, gain_heap st.gh, fun a q1 q2 => ?_, st.kp, st.dm⟩, f1, g2, h1.frame gs fun _ _ => rfl, ⟨[], g2, ?_, by simp, h6.frame gs fun _ _ => rfl, rfl⟩, (List.nodup_append.mp N).2.1, fun a ha => ?_⟩
  · rw [gain_out (fun hm => q1 (h5 a hm))]
    exact st.nw a q1 q2
  · simp only [RM]
    exact ⟨RM.data _ _ _ h2 gs fun a ha => gain_in ha, trivial⟩
  · have h8 := h4 a (P.mem_iff.mpr (by simp at ha ⊢; grind))
    rw [gain_out (out a ha)]
    exact h8
end
end PL

namespace PL
open PySem PySem.Spec PyProof.Rows L2

abbrev Ev := List B → Option (M × List B)
abbrev Tv := List B → Option (Bool × List B)
abbrev Av := List B → Option (List M × List B)
inductive R where
  | nx | bk | ct | rt (m : M)
abbrev Sv := List B → Option (R × List B)
/-- what is known of argument values: the temporaries' in order; at io places the slot's own -/
def AV (σ : L2.St) : List (Option Nat) → List V → List V → Prop
  | [], us, vs => us = [] ∧ vs = []
  | none :: s, us, vs => ∃ u us' vs', us = u :: us' ∧ vs = u :: vs' ∧ AV σ s us' vs'
  | some j :: s, us, vs => ∃ v vs', vs = v :: vs' ∧ σ[j]? = some (some v) ∧ AV σ s us vs'
section
variable (K : PySem.W.Frag)
def teO (f : Ev) : TE := fun σ H Q => ∃ c G b T m b', f b = some (m, b') ∧ Iv K c G H σ b T ∧ ∀ v G' H', Iv K c G' H' σ b' ((m, v) :: T) → Q v H'
def ttO (f : Tv) : TT := fun σ H Q => ∃ c G b T r b', f b = some (r, b') ∧ Iv K c G H σ b T ∧ ∀ G' H', Iv K c G' H' σ b' T → Q r H'
def taO (src : List (Option Nat)) (f : Av) : TA := fun σ H Q => ∃ c G b T ms b', f b = some (ms, b') ∧ Iv K c G H σ b T ∧ ∀ us vs G' H', ms.length = us.length → AV σ src us vs → Iv K c G' H' σ b' (zT ms us ++ T) → Q vs H'
def endO (c : Cg) (T : List (M × V)) (b' : List B) (D : Ends) : R → Prop
  | .nx => ∀ σ' G' H', Iv K c G' H' σ' b' T → D.nx σ' H'
  | .bk => ∀ σ' G' H', Iv K c G' H' σ' b' T → D.bk σ' H'
  | .ct => ∀ σ' G' H', Iv K c G' H' σ' b' T → D.ct σ' H'
  | .rt m => ∀ v σ' G' H', Iv K c G' H' σ' b' ((m, v) :: T) → D.rt v H'
def tsO (g : Sv) : TS := fun D σ H => ∃ c G b T r b', g b = some (r, b') ∧ Iv K c G H σ b T ∧ endO K c T b' D r
end
abbrev EM (X : Cx) (e : Expr) (f : Ev) : Prop := PE X e (teO X.K f)
abbrev TM (X : Cx) (e : Expr) (f : Tv) : Prop := PT X e (ttO X.K f)
abbrev WM (X : Cx) (e : Expr) (f : Tv) : Prop := PW X e (ttO X.K f)
abbrev AM (X : Cx) (es : List Expr) (src : List (Option Nat)) (f : Av) : Prop := PA X es (taO X.K src f)
abbrev SM (X : Cx) (st : Stmt) (g : Sv) : Prop := PS X st (tsO X.K g)
abbrev SMs (X : Cx) (st : List Stmt) (g : Sv) : Prop := PSs X st (tsO X.K g)

section
variable {X : Cx} {e e1 e2 : Expr}
theorem _root_.L2.PE.wk {t t' : TE} (h : PE X e t) (hi : ∀ σ H Q, t' σ H Q → t σ H Q) : PE X e t' := ⟨fun pins s σ H Q I q => h.run pins s σ H Q I (hi σ H Q q)⟩
theorem _root_.L2.PT.wk {t t' : TT} (h : PT X e t) (hi : ∀ σ H Q, t' σ H Q → t σ H Q) : PT X e t' := ⟨fun pins s σ H Q I q => h.run pins s σ H Q I (hi σ H Q q)⟩
theorem _root_.L2.PW.wk {t t' : TT} (h : PW X e t) (hi : ∀ σ H Q, t' σ H Q → t σ H Q) : PW X e t' := ⟨fun wh pins s σ H Q I q => h.run wh pins s σ H Q I (hi σ H Q q)⟩
theorem _root_.L2.PA.wk {es : List Expr} {t t' : TA} (h : PA X es t) (hi : ∀ σ H Q, t' σ H Q → t σ H Q) : PA X es t' := ⟨fun pos pins s σ H Q I q => h.run pos pins s σ H Q I (hi σ H Q q)⟩
theorem _root_.L2.PS.wk {st : Stmt} {t t' : TS} (h : PS X st t) (hi : ∀ D σ H, t' D σ H → t D σ H) : PS X st t' := ⟨fun pins s σ H D I q => h.run pins s σ H D I (hi D σ H q)⟩
theorem _root_.L2.PSs.wk {st : List Stmt} {t t' : TS} (h : PSs X st t) (hi : ∀ D σ H, t' D σ H → t D σ H) : PSs X st t' := ⟨fun pins s σ H D I q => h.run pins s σ H D I (hi D σ H q)⟩
end
section
variable {K : PySem.W.Frag} {c : Cg} {G G' H H' : Hp} {σ : L2.St} {b : List B} {T T1 : List (M × V)} {p : Addr} {o : HO} {d : D} {v : V} {m : M} {i : Nat}
theorem RE.getD : ∀ {b : List B} {σ : L2.St} {f : List Addr} {i : Nat} {d : D}, RE K c G H b σ f → b[i]? = some (.d d) → ∃ v, σ[i]? = some (some v) ∧ Rp K G d v
  | [], _, _, _, _, _, e => by simp at e
  | b :: bs, _, _, 0, d, ⟨s, σ', f1, f2, h1, h2, h3, h4⟩, e => by
    have e : b = .d d := by simpa using e
    subst e h1
    obtain ⟨_, v, q1, q2⟩ := h2
    exact ⟨v, by simp [q1], q2⟩
  | b :: bs, _, _, i + 1, d, ⟨s, σ', f1, f2, h1, h2, h3, h4⟩, e => by
    subst h1
    obtain ⟨v, q1, q2⟩ := RE.getD h3 (i := i) (by simpa using e)
    exact ⟨v, by simpa using q1, q2⟩
theorem Iv.getD (I : Iv K c G H σ b T) (h : b[i]? = some (.d d)) : ∃ v, σ[i]? = some (some v) ∧ Rp K G d v := by
  obtain ⟨st, f1, f2, h1, _⟩ := I
  exact h1.getD h
theorem set_self {α : Type} : ∀ {l : List α} {i : Nat} {x : α}, l[i]? = some x → l.set i x = l
  | [], _, _, h => by simp at h
  | a :: l, 0, x, h => by simp at h; simp [h]
  | a :: l, i + 1, x, h => by simp at h; simp [set_self h]
/-- what is owned at a slot -/
theorem Iv.getO {k : Option Nat} (I : Iv K c G H σ b T) (h : b[i]? = some (.o k m)) : ∃ v f, σ[i]? = some (some v) ∧ RM K G H m v f := by
  obtain ⟨s, fi, ft, e1, ⟨v, q1, q2, q3⟩, _⟩ := Iv.slot (T1 := []) I h
  exact ⟨v, fi, by rw [e1, q1], q2⟩
/-- a slot's fresh content becomes a temporary -/
theorem Iv.take (I : Iv K c G H σ b T) (h : b[i]? = some (.o none m)) : ∃ v, σ[i]? = some (some v) ∧ Iv K c G H σ (b.set i .no) ((m, v) :: T) := by
  obtain ⟨s, fi, ft, e1, ⟨v, q1, q2, q3⟩, t1, nd, gn, old, go⟩ := Iv.slot (T1 := []) I h
  have t1 : ft = [] := t1
  subst t1 q1
  refine ⟨v, e1, ?_⟩
  have := go G H .no (some v) [] [(m, v)] fi ⟨Same.refl _, I.st.gh, fun _ _ h => h, fun _ _ h _ => h, fun _ h => h⟩ rfl ⟨fi, [], q2, q3, rfl, by simp⟩ (by simpa using nd) (fun a ha => by simp at ha; simp [ha]) (fun a ha => gn a (by simpa using ha))
  rw [set_self e1] at this
  exact this
/-- .. and is put into a slot -/
def M.toB : M → B
  | .d x => .d x
  | m => .o none m
theorem Iv.put (I : Iv K c G H σ b ((m, v) :: T)) (hi : i < b.length) : Iv K c G H (σ.set i (some v)) (b.set i m.toB) T := by
  obtain ⟨s, fi, ft, e1, e2, t1, nd, gn, old, go⟩ := Iv.slot (T1 := [(m, v)]) I (List.getElem?_eq_getElem hi)
  obtain ⟨f1, f2, q1, q2, q3, q4⟩ := t1
  have q3 : f2 = [] := q3
  subst q3
  simp only [List.append_nil] at q4
  subst q4
  have N := List.nodup_append.mp nd
  refine go G H m.toB (some v) ft [] [] ⟨Same.refl _, I.st.gh, fun _ _ h => h, fun _ _ h _ => h, fun _ h => h⟩ ?_ rfl (by simpa using N.2.1) (fun a ha => by simp at ha; simp [ha]) (fun a ha => gn a (by simp at ha; simp [ha]))
  simp only at q1
  cases m with
  | d x =>
    simp only [RM] at q1
    exact ⟨q1.2, v, rfl, q1.1⟩
  | _ => exact ⟨v, rfl, q1, q2⟩
/-- a slot's fresh content becomes data where it stands -/
theorem Iv.frz (I : Iv K c G H σ b T) (h : b[i]? = some (.o none m)) : ∃ G', Iv K c G' H σ (b.set i (.d m.toD)) T := by
  obtain ⟨v, e, I1⟩ := I.take h
  obtain ⟨G', I2⟩ := I1.freeze
  have hi : i < b.length := by
    rw [List.getElem?_eq_some_iff] at h
    exact h.1
  have I3 := I2.put (i := i) (by simpa using hi)
  rw [set_self e, List.set_set] at I3
  exact ⟨G', I3⟩
end

/-! ### names, constants -/
def fVar (i : Nat) : Ev := fun b => match b[i]? with
  | some (.d x) => some (.d x, b)
  | _ => none
/-- an owned fresh thing leaves its name -/
def fMov (i : Nat) : Ev := fun b => match b[i]? with
  | some (.o none m) => some (m, b.set i .no)
  | _ => none
/-- an owned fresh thing becomes data and is read -/
def fFrz (i : Nat) : Ev := fun b => match b[i]? with
  | some (.o none m) => some (.d m.toD, b.set i (.d m.toD))
  | some (.d x) => some (.d x, b)
  | _ => none
def fC (m : D) : Ev := fun b => some (.d m, b)
/-- as data -/
def fD (f : Ev) : Ev := fun b => match f b with
  | some (m, b') => some (.d m.toD, b')
  | none => none
section
variable {X : Cx} {e e1 e2 : Expr} {pos : Pos} {f f1 f2 : Ev} {x : Str}
theorem e_var (i : Nat) (hN : X.N[i]? = some x := by rfl) (hv : Vis X.env.scope x := by first | exact Or.inl rfl | exact Or.inr (Or.inl rfl) | exact Or.inr (Or.inr rfl)) (hd : (x == ("__debug__" : Str)) = false := by decide)
    (hcd : (x == ("__classdict__" : Str)) = false := by decide) : EM X (.Name x pos) (fVar i) := (pv i hN hv hd hcd).wk fun σ H Q => by
  rintro ⟨c, G, b, T, m, b', hf, I, q⟩
  unfold fVar at hf
  split at hf
  · rename_i x e
    simp only [Option.some.injEq, Prod.mk.injEq] at hf
    obtain ⟨rfl, rfl⟩ := hf
    obtain ⟨v, h1, h2⟩ := I.getD e
    exact ⟨v, h1, q v G H (I.pushD h2)⟩
  · cases hf
theorem e_mov (i : Nat) (hN : X.N[i]? = some x := by rfl) (hv : Vis X.env.scope x := by first | exact Or.inl rfl | exact Or.inr (Or.inl rfl) | exact Or.inr (Or.inr rfl)) (hd : (x == ("__debug__" : Str)) = false := by decide)
    (hcd : (x == ("__classdict__" : Str)) = false := by decide) : EM X (.Name x pos) (fMov i) := (pv i hN hv hd hcd).wk fun σ H Q => by
  rintro ⟨c, G, b, T, m, b', hf, I, q⟩
  unfold fMov at hf
  split at hf
  · rename_i x e
    simp only [Option.some.injEq, Prod.mk.injEq] at hf
    obtain ⟨rfl, rfl⟩ := hf
    obtain ⟨v, h1, h2⟩ := I.take e
    exact ⟨v, h1, q v G H h2⟩
  · cases hf
theorem e_frz (i : Nat) (hN : X.N[i]? = some x := by rfl) (hv : Vis X.env.scope x := by first | exact Or.inl rfl | exact Or.inr (Or.inl rfl) | exact Or.inr (Or.inr rfl)) (hd : (x == ("__debug__" : Str)) = false := by decide)
    (hcd : (x == ("__classdict__" : Str)) = false := by decide) : EM X (.Name x pos) (fFrz i) := (pv i hN hv hd hcd).wk fun σ H Q => by
  rintro ⟨c, G, b, T, m, b', hf, I, q⟩
  unfold fFrz at hf
  split at hf
  · rename_i x e
    simp only [Option.some.injEq, Prod.mk.injEq] at hf
    obtain ⟨rfl, rfl⟩ := hf
    obtain ⟨G', I2⟩ := I.frz e
    have hi : i < b.length := (List.getElem?_eq_some_iff.mp e).1
    obtain ⟨v, h1, h2⟩ := I2.getD (i := i) (d := x.toD) (by simp [hi])
    exact ⟨v, h1, q v G' H (I2.pushD h2)⟩
  · rename_i x e
    simp only [Option.some.injEq, Prod.mk.injEq] at hf
    obtain ⟨rfl, rfl⟩ := hf
    obtain ⟨v, h1, h2⟩ := I.getD e
    exact ⟨v, h1, q v G H (I.pushD h2)⟩
  · cases hf
/-- a constant value -/
theorem e_const {v : V} {d : D} (h : PE X e (tC v)) (hr : ∀ G, Rp X.K G d v) : EM X e (fC d) := h.wk fun σ H Q => by
  rintro ⟨c, G, b, T, m, b', hf, I, q⟩
  simp only [fC, Option.some.injEq, Prod.mk.injEq] at hf
  obtain ⟨rfl, rfl⟩ := hf
  exact q v G H (I.pushD (hr G))
theorem e_int {i j} : EM X (.Constant (.int i) j pos) (fC (.int i)) := e_const pe_int fun _ => by simp [Rp]
theorem e_str {i j} : EM X (.Constant (.str i) j pos) (fC (.str i)) := e_const pe_str fun _ => by simp [Rp]
theorem e_bl {i j} : EM X (.Constant (.bool i) j pos) (fC (.bl i)) := e_const pe_bl fun _ => by simp [Rp]
theorem e_non {j} : EM X (.Constant .none j pos) (fC .non) := e_const pe_non fun _ => by simp [Rp]
theorem e_glob {v : V} {d : D} {u : Value} (hm : X.mg x = some u) (r : RelV v u) (hr : ∀ G, Rp X.K G d v) (hg : Gl X x := by rfl) (hd : (x == ("__debug__" : Str)) = false := by decide) : EM X (.Name x pos) (fC d) := e_const (pe_glob hg hm r hd) hr
theorem e_d (h : EM X e f) : EM X e (fD f) := h.wk fun σ H Q => by
  rintro ⟨c, G, b, T, m, b', hf, I, q⟩
  unfold fD at hf
  split at hf
  · rename_i m1 b1 e1
    simp only [Option.some.injEq, Prod.mk.injEq] at hf
    obtain ⟨rfl, rfl⟩ := hf
    refine ⟨c, G, b, T, m1, b1, e1, I, fun v G' H' I' => ?_⟩
    obtain ⟨G2, I2⟩ := I'.freeze
    exact q v G2 H' I2
  · cases hf

/-! ### operators -/
def fOp (g : M → M → Option M) (f1 f2 : Ev) : Ev := fun b => match f1 b with
  | some (m1, b1) => (match f2 b1 with
    | some (m2, b2) => (match g m1 m2 with
      | some m => some (m, b2)
      | none => none)
    | none => none)
  | none => none
/-- an operation on two temporaries -/
def OpS (K : PySem.W.Frag) (r : R2) (g : M → M → Option M) : Prop := ∀ c G H σ b T x y m1 m2 m Q, g m1 m2 = some m → Iv K c G H σ b ((m2, y) :: (m1, x) :: T) → (∀ v G' H', Iv K c G' H' σ b ((m, v) :: T) → Q v H') → r x y H Q
theorem e_tOp {r : R2} {g : M → M → Option M} (hs : OpS X.K r g) (h : PE X e (tOp r (teO X.K f1) (teO X.K f2))) : EM X e (fOp g f1 f2) := h.wk fun σ H Q => by
  rintro ⟨c, G, b, T, m, b', hf, I, q⟩
  unfold fOp at hf
  split at hf
  · rename_i m1 b1 e1
    split at hf
    · rename_i m2 b2 e2
      split at hf
      · rename_i m3 e3
        simp only [Option.some.injEq, Prod.mk.injEq] at hf
        obtain ⟨rfl, rfl⟩ := hf
        refine ⟨c, G, b, T, m1, b1, e1, I, fun x G1 H1 I1 => ⟨c, G1, b1, _, m2, b2, e2, I1, fun y G2 H2 I2 => ?_⟩⟩
        exact hs c G2 H2 σ b2 T x y m1 m2 m3 Q e3 I2 q
      · cases hf
    · cases hf
  · cases hf
theorem e_op {op : Operator} {r : R2} {g : M → M → Option M} (ho : OpR X (binaryOp op) r) (hs : OpS X.K r g) (h1 : EM X e1 f1) (h2 : EM X e2 f2) : EM X (.BinOp e1 op e2 pos) (fOp g f1 f2) := e_tOp hs (pe_op ho h1 h2)
theorem e_cmp {op : CmpOp} {r : R2} {g : M → M → Option M} (ho : OpR X (compareOp op) r) (hs : OpS X.K r g) (h1 : EM X e1 f1) (h2 : EM X e2 f2) (hm : behindInMarks op e2 = false) : EM X (.Compare e1 [op] [e2] pos) (fOp g f1 f2) := e_tOp hs (pe_cmpR ho h1 h2 hm)
/-- a bool as a test -/
def fT (f : Ev) : Tv := fun b => match f b with
  | some (.d (.bl k), b') => some (k, b')
  | _ => none
theorem t_tTest {t : TE} (h : PT X e (tTest t)) (hi : ∀ σ H Q, teO X.K f σ H Q → t σ H Q) : TM X e (fT f) := h.wk fun σ H Q => by
  rintro ⟨c, G, b, T, r, b', hf, I, q⟩
  unfold fT at hf
  split at hf
  · rename_i k b1 e1
    simp only [Option.some.injEq, Prod.mk.injEq] at hf
    obtain ⟨rfl, rfl⟩ := hf
    refine hi _ _ _ ⟨c, G, b, T, _, _, e1, I, fun v G' H' I' => ?_⟩
    have r := I'.topD
    simp only [Rp] at r
    exact ⟨k, r, q G' H' I'.drop⟩
  · cases hf
theorem teO_op {K : PySem.W.Frag} {r : R2} {g : M → M → Option M} (hs : OpS K r g) : ∀ σ H Q, teO K (fOp g f1 f2) σ H Q → tOp r (teO K f1) (teO K f2) σ H Q := fun σ H Q => by
  rintro ⟨c, G, b, T, m, b', hf, I, q⟩
  unfold fOp at hf
  split at hf
  · rename_i m1 b1 e1
    split at hf
    · rename_i m2 b2 e2
      split at hf
      · rename_i m3 e3
        simp only [Option.some.injEq, Prod.mk.injEq] at hf
        obtain ⟨rfl, rfl⟩ := hf
        refine ⟨c, G, b, T, m1, b1, e1, I, fun x G1 H1 I1 => ⟨c, G1, b1, _, m2, b2, e2, I1, fun y G2 H2 I2 => ?_⟩⟩
        exact hs c G2 H2 σ b2 T x y m1 m2 m3 Q e3 I2 q
      · cases hf
    · cases hf
  · cases hf
theorem t_cmp {op : CmpOp} {r : R2} {g : M → M → Option M} (ho : OpR X (compareOp op) r) (hs : OpS X.K r g) (h1 : EM X e1 f1) (h2 : EM X e2 f2) (hm : behindInMarks op e2 = false) : TM X (.Compare e1 [op] [e2] pos) (fT (fOp g f1 f2)) :=
  t_tTest (pt_cmpR ho h1 h2 hm) (teO_op hs)
end
/-! two data in, data out, nothing changed -/
def g2 (g : D → D → Option D) : M → M → Option M
  | .d x, .d y => (g x y).map M.d
  | _, _ => none
section
variable {K : PySem.W.Frag}
/-- the values are known by the data -/
theorem OpS.pure {r : R2} {g : D → D → Option D} (h : ∀ (c : Cg) (G H : Hp) (x y : V) (d1 d2 d : D) (Q : VK), g d1 d2 = some d → Same G H → Rp K G d1 x → Rp K G d2 y → (∀ v, Rp K G d v → Q v H) → r x y H Q) : OpS K r (g2 g) := by
  intro c G H σ b T x y m1 m2 m Q hg I q
  unfold g2 at hg
  split at hg
  · rename_i d1 d2
    cases e : g d1 d2 with
    | none => rw [e] at hg; cases hg
    | some d =>
      rw [e] at hg
      simp only [Option.map_some, Option.some.injEq] at hg
      subst hg
      exact h c G H x y d1 d2 d Q e I.st.gh I.drop.topD I.topD fun v hv => q v G H (I.drop.drop.pushD hv)
  · cases hg
end
def gInt (C : Int → Int → Bool) (h : Int → Int → D) : D → D → Option D
  | .int i, .int j => if C i j then some (h i j) else none
  | _, _ => none
def gInt0 (h : Int → Int → D) : D → D → Option D
  | .int i, .int j => some (h i j)
  | _, _ => none
section
variable {K : PySem.W.Frag}
theorem os_int {C : Int → Int → Prop} {C' : Int → Int → Bool} {h : Int → Int → D} {h' : Int → Int → V} (hc : ∀ i j, C' i j = true → C i j) (hr : ∀ G i j, Rp K G (h i j) (h' i j)) : OpS K (rI C h') (g2 (gInt C' h)) := OpS.pure fun c G H x y d1 d2 d Q hg _ r1 r2 q => by
  unfold gInt at hg
  split at hg
  · rename_i i j
    split at hg
    · rename_i z
      cases hg
      simp only [Rp] at r1 r2
      exact ⟨i, j, r1, r2, hc i j z, q _ (hr G i j)⟩
    · cases hg
  · cases hg
theorem os_int0 {h : Int → Int → D} {h' : Int → Int → V} (hr : ∀ G i j, Rp K G (h i j) (h' i j)) : OpS K (rI0 h') (g2 (gInt0 h)) := OpS.pure fun c G H x y d1 d2 d Q hg _ r1 r2 q => by
  unfold gInt0 at hg
  split at hg
  · rename_i i j
    cases hg
    simp only [Rp] at r1 r2
    exact ⟨i, j, r1, r2, q _ (hr G i j)⟩
  · cases hg
end
end PL

namespace PL
open PySem PySem.Spec PyProof.Rows L2
theorem le_line {n : Nat} (h : n ≤ 1000000) : n ≤ sizeLine := by rw [sizeLine_eq]; omega
theorem lt_line {n : Nat} (h : n ≤ 1000000) : n < sizeLine := by rw [sizeLine_eq]; omega
section
variable {K : PySem.W.Frag} {c : Cg} {G G' H H' : Hp} {σ : L2.St} {b : List B} {T T1 : List (M × V)} {p : Addr} {o : HO} {d : D} {v : V} {m : M} {i : Nat}
theorem RpL.app : ∀ {as bs : List D} {xs ys : List V}, RpL K G as xs → RpL K G bs ys → RpL K G (as ++ bs) (xs ++ ys)
  | [], bs, xs, ys, h, q => by simp only [RpL] at h; subst h; exact q
  | a :: as, bs, _, ys, h, q => by
    simp only [RpL] at h
    obtain ⟨y, ys', h1, h2, h3⟩ := h
    subst h1
    show RpL K G (a :: (as ++ bs)) (y :: (ys' ++ ys))
    simp only [RpL]
    exact ⟨y, ys' ++ ys, rfl, h2, h3.app q⟩
theorem RpL.get : ∀ {ds : List D} {xs : List V} {i : Nat} {d : D}, RpL K G ds xs → ds[i]? = some d → ∃ v, xs[i]? = some v ∧ Rp K G d v
  | [], _, _, _, _, e => by simp at e
  | d :: ds, _, 0, _, h, e => by
    simp only [RpL] at h
    obtain ⟨y, ys, h1, h2, h3⟩ := h
    subst h1
    simp at e
    subst e
    exact ⟨y, rfl, h2⟩
  | d :: ds, _, i + 1, _, h, e => by
    simp only [RpL] at h
    obtain ⟨y, ys, h1, h2, h3⟩ := h
    subst h1
    simpa using RpL.get (i := i) h3 (by simpa using e)
theorem RpL.take : ∀ {ds : List D} {xs : List V} (n : Nat), RpL K G ds xs → RpL K G (ds.take n) (xs.take n)
  | [], xs, n, h => by simp only [RpL] at h; subst h; simp [RpL]
  | d :: ds, xs, 0, h => by simp [RpL]
  | d :: ds, _, n + 1, h => by
    simp only [RpL] at h
    obtain ⟨y, ys, h1, h2, h3⟩ := h
    subst h1
    simp only [List.take_succ_cons, RpL]
    exact ⟨y, _, rfl, h2, h3.take n⟩
theorem RpL.drop : ∀ {ds : List D} {xs : List V} (n : Nat), RpL K G ds xs → RpL K G (ds.drop n) (xs.drop n)
  | [], xs, n, h => by simp only [RpL] at h; subst h; simp [RpL]
  | d :: ds, xs, 0, h => by simpa using h
  | d :: ds, _, n + 1, h => by
    simp only [RpL] at h
    obtain ⟨y, ys, h1, h2, h3⟩ := h
    subst h1
    simpa using h3.drop n
theorem RpL.rml : ∀ {ds : List D} {xs : List V}, RpL K G ds xs → RML K G H (ds.map .d) xs []
  | [], xs, h => by simp only [RpL] at h; subst h; simp [RML]
  | d :: ds, _, h => by
    simp only [RpL] at h
    obtain ⟨y, ys, h1, h2, h3⟩ := h
    subst h1
    simp only [List.map_cons, RML]
    exact ⟨y, ys, [], [], rfl, by simp only [RM]; exact ⟨h2, trivial⟩, h3.rml, rfl⟩
theorem Iv.newO {m : M} {f : List Addr} (I : Iv K c G H σ b T) (hp : H p = none) (h : RM K G (upd H p o) m (.ref p) [p]) : Iv K c G (upd H p o) σ b ((m, .ref p) :: T) := by
  obtain ⟨ft, t1, nd, gn, old, go⟩ := Iv.tmp (T1 := []) I
  have gp : G p = none := I.st.gh.free hp
  have h0 : c.H0 p = none := by
    cases q : c.H0 p with
    | none => rfl
    | some o => exact absurd hp (I.st.dm p (by rw [q]; simp))
  refine go G (upd H p o) [(m, .ref p)] [p] ⟨Same.refl _, I.st.gh.trans (same_upd hp), fun _ _ h => h, fun a o h _ => same_upd hp a o h, fun a h => ?_⟩ ⟨[p], [], h, by simp [h0], rfl, rfl⟩ (by simp) (by simp [hp]) (by simp [gp])
  by_cases q : a = p
  · subst q; rw [upd_same]; simp
  · rw [upd_ne q]; exact h
theorem Iv.newL {ds : List D} {xs : List V} (I : Iv K c G H σ b T) (hp : H p = none) (h : RpL K G ds xs) : Iv K c G (upd H p (.lst xs)) σ b ((.lst (ds.map .d), .ref p) :: T) := by
  refine I.newO (f := []) hp ?_
  simp only [RM]
  exact ⟨p, xs, [], rfl, upd_same, h.rml, rfl⟩
theorem Iv.newT {ds : List D} {xs : List V} (I : Iv K c G H σ b T) (hp : H p = none) (h : RpL K G ds xs) : Iv K c (upd G p (.tup xs)) (upd H p (.tup xs)) σ b ((.d (.tup ds), .ref p) :: T) := by
  refine (I.newD hp).pushD ?_
  simp only [Rp]
  exact ⟨p, xs, rfl, SqT.of upd_same, RpL.mono (same_upd (I.st.gh.free hp)) _ _ h⟩
end
/-! ### data to PyData -/
mutual
def D.py : D → Option PyData
  | .non => some .none
  | .bl b => some (.bool b)
  | .int i => some (.int i)
  | .str x => some (.str x)
  | .tup ds => (D.pys ds).map .tuple
  | .lst ds => (D.pys ds).map .list
  | .seq ds => (D.pys ds).map .list
  | .adr _ | .ty _ | .obj .. | .dic .. | .any | .oba .. => none
def D.pys : List D → Option (List PyData)
  | [] => some []
  | d :: ds => match d.py with
    | some p => (match D.pys ds with
      | some ps => some (p :: ps)
      | none => none)
    | none => none
end
section
variable {K : PySem.W.Frag} {G : Hp}
mutual
theorem Rp.dp : ∀ (d : D) (v : V) (p : PyData), Rp K G d v → d.py = some p → Dp K G v p
  | .non, v, p, h, e => by
    simp only [Rp] at h; simp only [D.py, Option.some.injEq] at e
    subst h e; exact .non
  | .bl b, v, p, h, e => by
    simp only [Rp] at h; simp only [D.py, Option.some.injEq] at e
    subst h e; exact .bl b
  | .int b, v, p, h, e => by
    simp only [Rp] at h; simp only [D.py, Option.some.injEq] at e
    subst h e; exact .int b
  | .str b, v, p, h, e => by
    simp only [Rp] at h; simp only [D.py, Option.some.injEq] at e
    subst h e; exact .str b
  | .tup ds, v, p, h, e => by
    simp only [Rp] at h
    simp only [D.py, Option.map_eq_some_iff] at e
    obtain ⟨q, xs, h1, h2, h3⟩ := h
    obtain ⟨ps, e1, e2⟩ := e
    subst h1 e2
    exact .tup h2 (RpL.dp ds xs ps h3 e1)
  | .lst ds, v, p, h, e => by
    simp only [Rp] at h
    simp only [D.py, Option.map_eq_some_iff] at e
    obtain ⟨q, xs, h1, h2, h3⟩ := h
    obtain ⟨ps, e1, e2⟩ := e
    subst h1 e2
    exact .lst (SqL.of h2) (RpL.dp ds xs ps h3 e1)
  | .seq ds, v, p, h, e => by
    simp only [Rp] at h
    simp only [D.py, Option.map_eq_some_iff] at e
    obtain ⟨q, xs, h1, h2, h3⟩ := h
    obtain ⟨ps, e1, e2⟩ := e
    subst h1 e2
    exact .lst h2 (RpL.dp ds xs ps h3 e1)
  | .adr _, _, _, _, e => by simp [D.py] at e
  | .ty _, _, _, _, e => by simp [D.py] at e
  | .obj .., _, _, _, e => by simp [D.py] at e
  | .any, _, _, _, e => by simp [D.py] at e
  | .oba .., _, _, _, e => by simp [D.py] at e
  | .dic .., _, _, _, e => by simp [D.py] at e
theorem RpL.dp : ∀ (ds : List D) (xs : List V) (ps : List PyData), RpL K G ds xs → D.pys ds = some ps → DpAll K G xs ps
  | [], xs, ps, h, e => by
    simp only [RpL] at h; simp only [D.pys, Option.some.injEq] at e
    subst h e; exact .nil
  | d :: ds, xs, ps, h, e => by
    simp only [RpL] at h
    obtain ⟨y, ys, h1, h2, h3⟩ := h
    subst h1
    unfold D.pys at e
    split at e
    · rename_i p e1
      split at e
      · rename_i qs e2
        cases e
        exact .cons (Rp.dp d y p h2 e1) (RpL.dp ds ys qs h3 e2)
      · cases e
    · cases e
end
end
/-- a scalar answer of two things that are read -/
def PuS (K : PySem.W.Frag) (r : R2) (g : D → D → Option D) : Prop := ∀ (H : Hp) (x y : V) (d1 d2 d : D) (Q : VK), g d1 d2 = some d → Rp K H d1 x → Rp K H d2 y → (∀ v, (∀ G, Rp K G d v) → Q v H) → r x y H Q
section
variable {K : PySem.W.Frag}
theorem PuS.os {r : R2} {g : D → D → Option D} (h : PuS K r g) : OpS K r (g2 g) := OpS.pure fun c G H x y d1 d2 d Q hg e r1 r2 q => h H x y d1 d2 d Q hg (Rp.mono e _ _ r1) (Rp.mono e _ _ r2) fun v hv => q v (hv G)
def gCmp (h : PyData → PyData → Bool) : D → D → Option D := fun x y => match x.py, y.py with
  | some p, some q => if SeqAt.shaped p && SeqAt.shaped q then some (.bl (h p q)) else none
  | _, _ => none
def gEq : D → D → Option D := gCmp PyData.eqv
def gNe : D → D → Option D := gCmp fun p q => !PyData.eqv p q
theorem rp_bl {G : Hp} {k : Bool} : Rp K G (.bl k) (.bl k) := by simp [Rp]
theorem rp_int {G : Hp} {k : Int} : Rp K G (.int k) (.int k) := by simp [Rp]
theorem rp_str {G : Hp} {k : Str} : Rp K G (.str k) (.str k) := by simp [Rp]
theorem pu_eq : PuS K (rEqD K) gEq := fun H x y d1 d2 d Q hg r1 r2 q => by
  unfold gEq gCmp at hg
  split at hg
  · rename_i p q' e1 e2
    split at hg
    · rename_i hs
      cases hg
      rw [Bool.and_eq_true] at hs
      exact ⟨p, q', Rp.dp _ _ _ r1 e1, Rp.dp _ _ _ r2 e2, hs.1, hs.2, q _ fun _ => rp_bl⟩
    · cases hg
  · cases hg
theorem pu_ne : PuS K (rNeD K) gNe := fun H x y d1 d2 d Q hg r1 r2 q => by
  unfold gNe gCmp at hg
  split at hg
  · rename_i p q' e1 e2
    split at hg
    · rename_i hs
      cases hg
      rw [Bool.and_eq_true] at hs
      exact ⟨p, q', Rp.dp _ _ _ r1 e1, Rp.dp _ _ _ r2 e2, hs.1, hs.2, q _ fun _ => rp_bl⟩
    · cases hg
  · cases hg
def gC (h : Int → Int → Bool) : D → D → Option D
  | .int i, .int j => some (.bl (h i j))
  | _, _ => none
theorem pu_c {h : Int → Int → Bool} : PuS K (rI0 fun i j => .bl (h i j)) (gC h) := fun H x y d1 d2 d Q hg r1 r2 q => by
  unfold gC at hg
  split at hg
  · cases hg
    simp only [Rp] at r1 r2
    exact ⟨_, _, r1, r2, q _ fun _ => rp_bl⟩
  · cases hg
/-- is None -/
def gIsN (k : Bool) : D → D → Option D
  | .non, .non => some (.bl k)
  | .any, .non => none
  | _, .non => some (.bl (!k))
  | _, _ => none
theorem rp_non {d : D} {v : V} {G : Hp} (hd : d ≠ .any) (h : Rp K G d v) : decide (v = .non) = (match d with | .non => true | _ => false) := by
  cases d <;> simp only [Rp] at h <;> first
    | exact absurd rfl hd
    | (subst h; rfl)
    | (obtain ⟨_, _, h, _⟩ := h; subst h; rfl)
    | (obtain ⟨_, _, _, h, _⟩ := h; subst h; rfl)
    | (obtain ⟨_, _, h, _⟩ := h; subst h; rfl)
theorem pu_isN : PuS K (fun x y H Q => y = .non ∧ Q (.bl (decide (x = .non))) H) (gIsN true) := fun H x y d1 d2 d Q hg r1 r2 q => by
  cases d2 <;> cases d1 <;> simp only [gIsN, Option.some.injEq, reduceCtorEq] at hg <;> (
    have z := rp_non (by simp) r1
    simp only [Rp] at r2
    refine ⟨r2, ?_⟩
    rw [z]
    subst hg
    exact q _ fun _ => rp_bl)
theorem pu_notN : PuS K (fun x y H Q => y = .non ∧ Q (.bl (!decide (x = .non))) H) (gIsN false) := fun H x y d1 d2 d Q hg r1 r2 q => by
  cases d2 <;> cases d1 <;> simp only [gIsN, Option.some.injEq, reduceCtorEq] at hg <;> (
    have z := rp_non (by simp) r1
    simp only [Rp] at r2
    refine ⟨r2, ?_⟩
    rw [z]
    subst hg
    exact q _ fun _ => rp_bl)
/-- x in a list or tuple of flat things -/
def D.flat : D → Option V
  | .non => some .non
  | .bl b => some (.bl b)
  | .int i => some (.int i)
  | .str x => some (.str x)
  | _ => none
def D.flats : List D → Option (List V)
  | [] => some []
  | d :: ds => match d.flat, D.flats ds with
    | some v, some vs => some (v :: vs)
    | _, _ => none
def D.items : D → Option (List D)
  | .tup ds => some ds
  | .lst ds => some ds
  | .seq ds => some ds
  | _ => none
theorem Rp.flat {H : Hp} {d : D} {v x : V} (h : Rp K H d x) (e : d.flat = some v) : x = v ∧ flatV v = true := by
  cases d <;> simp only [D.flat, Option.some.injEq] at e <;> first
    | (cases e; done)
    | (subst e; simp only [Rp] at h; exact ⟨h, rfl⟩)
theorem RpL.flat {H : Hp} : ∀ {ds : List D} {vs xs : List V}, RpL K H ds xs → D.flats ds = some vs → xs = vs ∧ vs.all flatV = true
  | [], vs, xs, h, e => by simp only [RpL] at h; simp only [D.flats, Option.some.injEq] at e; subst h e; exact ⟨rfl, rfl⟩
  | d :: ds, vs, xs, h, e => by
    simp only [RpL] at h
    obtain ⟨y, ys, h1, h2, h3⟩ := h
    subst h1
    unfold D.flats at e
    split at e
    · rename_i v vs' e1 e2
      cases e
      obtain ⟨q1, q2⟩ := h2.flat e1
      obtain ⟨q3, q4⟩ := h3.flat e2
      subst q1 q3
      exact ⟨rfl, by simp [q2, q4]⟩
    · cases e
theorem Rp.items {H : Hp} {d : D} {ds : List D} {x : V} (h : Rp K H d x) (e : d.items = some ds) : ∃ p xs, x = .ref p ∧ (SqL K H p xs ∨ SqT K H p xs) ∧ RpL K H ds xs := by
  cases d <;> simp only [D.items, Option.some.injEq] at e <;> first
    | (cases e; done)
    | (subst e; simp only [Rp] at h; obtain ⟨p, xs, h1, h2, h3⟩ := h; exact ⟨p, xs, h1, .inr h2, h3⟩)
    | (subst e; simp only [Rp] at h; obtain ⟨p, xs, h1, h2, h3⟩ := h; exact ⟨p, xs, h1, .inl (SqL.of h2), h3⟩)
    | (subst e; simp only [Rp] at h; obtain ⟨p, xs, h1, h2, h3⟩ := h; exact ⟨p, xs, h1, .inl h2, h3⟩)
def gIn (neg : Bool) : D → D → Option D := fun x y => match x.flat, y.items with
  | some v, some ds => (match D.flats ds with
    | some vs => some (.bl (if neg then !inV v vs else inV v vs))
    | none => none)
  | _, _ => none
theorem pu_in {neg : Bool} : PuS K (rIn K neg) (gIn neg) := fun H x y d1 d2 d Q hg r1 r2 q => by
  unfold gIn at hg
  split at hg
  · rename_i v ds e1 e2
    split at hg
    · rename_i vs e3
      cases hg
      obtain ⟨p, xs, h1, h2, h3⟩ := r2.items e2
      obtain ⟨q1, q2⟩ := r1.flat e1
      obtain ⟨q3, q4⟩ := h3.flat e3
      subst h1 q1 q3
      exact ⟨p, xs, rfl, h2, q2, q4, q _ fun _ => rp_bl⟩
    · cases hg
  · cases hg
/-- a sign in a text -/
def gInS (neg : Bool) : D → D → Option D
  | .str i, .str j => some (.bl (if neg then !(!(Builtin.Str.occurrences j i 0 j.length 1).isEmpty) else !(Builtin.Str.occurrences j i 0 j.length 1).isEmpty))
  | _, _ => none
theorem pu_inS : PuS K (fun x y H Q => ∃ i j, x = .str i ∧ y = .str j ∧ Q (.bl (!(Builtin.Str.occurrences j i 0 j.length 1).isEmpty)) H) (gInS false) := fun H x y d1 d2 d Q hg r1 r2 q => by
  unfold gInS at hg
  split at hg
  · cases hg
    simp only [Rp] at r1 r2
    exact ⟨_, _, r1, r2, q _ fun _ => rp_bl⟩
  · cases hg

/-! ### + -/
def gAdd : D → D → Option M
  | .int i, .int j => some (.d (.int (i + j)))
  | .str i, .str j => if i.length + j.length ≤ 1000000 then some (.d (.str (i ++ j))) else none
  | .lst xs, .lst ys => if xs.length + ys.length ≤ 1000000 then some (.lst ((xs ++ ys).map .d)) else none
  | .tup xs, .tup ys => if xs.length + ys.length ≤ 1000000 then some (.d (.tup (xs ++ ys))) else none
  | _, _ => none
def g2m (g : D → D → Option M) : M → M → Option M
  | .d x, .d y => g x y
  | _, _ => none
def rAdd (K : PySem.W.Frag) : R2 := fun x y H Q => rI0 (fun i j => .int (i + j)) x y H Q ∨ (∃ i j, x = .str i ∧ y = .str j ∧ i.length + j.length ≤ sizeLine ∧ Q (.str (i ++ j)) H) ∨ rCat x y H Q ∨ rCatA K x y H Q
theorem op_addU {X : Cx} : OpR X (binaryOp .Add) (rAdd X.K) := op_add.or (op_add_str.or (op_cat.or op_catA))
theorem os_add : OpS K (rAdd K) (g2m gAdd) := by
  intro c G H σ b T x y m1 m2 m Q hg I q
  unfold g2m at hg
  split at hg
  · rename_i d1 d2
    have r2 := I.topD
    have r1 := I.drop.topD
    have I0 := I.drop.drop
    unfold gAdd at hg
    split at hg
    · cases hg
      simp only [Rp] at r1 r2
      exact .inl ⟨_, _, r1, r2, q _ G H (I0.pushD rp_int)⟩
    · split at hg
      · rename_i hz
        cases hg
        simp only [Rp] at r1 r2
        exact .inr (.inl ⟨_, _, r1, r2, le_line hz, q _ G H (I0.pushD rp_str)⟩)
      · cases hg
    · split at hg
      · rename_i xs ys hz
        cases hg
        simp only [Rp] at r1 r2
        obtain ⟨p1, v1, h1, h2, h3⟩ := r1
        obtain ⟨p2, v2, h4, h5, h6⟩ := r2
        refine .inr (.inr (.inl ⟨p1, p2, v1, v2, h1, h4, I0.st.gh _ _ h2, I0.st.gh _ _ h5, ?_, fun p hp => q _ G _ (I0.newL hp (h3.app h6))⟩))
        rw [← h3.len, ← h6.len]
        exact le_line hz
      · cases hg
    · split at hg
      · rename_i xs ys hz
        cases hg
        simp only [Rp] at r1 r2
        obtain ⟨p1, v1, h1, h2, h3⟩ := r1
        obtain ⟨p2, v2, h4, h5, h6⟩ := r2
        refine .inr (.inr (.inr ⟨p1, p2, v1, v2, h1, h4, sqt_mono I0.st.gh h2, sqt_mono I0.st.gh h5, ?_, ?_⟩))
        · rw [← h3.len, ← h6.len]
          exact le_line hz
        · refine ⟨fun e => ?_, fun e1 e2 => ?_, fun e1 e2 p hp => ?_⟩
          · subst e
            have e0 : xs = [] := by have := h3.len; simpa using this
            subst e0
            exact q _ G H (I0.pushD (by simp only [Rp]; exact ⟨p2, v2, rfl, h5, h6⟩))
          · subst e2
            have e0 : ys = [] := by have := h6.len; simpa using this
            subst e0
            exact q _ G H (I0.pushD (by simp only [Rp, List.append_nil]; exact ⟨p1, v1, rfl, h2, h3⟩))
          · exact q _ _ _ (I0.newT hp (h3.app h6))
      · cases hg
    · cases hg
  · cases hg
end
end PL

namespace PL
open PySem PySem.Spec PyProof.Rows L2
theorem perm_l {a b c : List Addr} : (a ++ (b ++ c)).Perm (b ++ (a ++ c)) := by
  rw [← List.append_assoc, ← List.append_assoc]
  exact List.Perm.append_right c List.perm_append_comm
/-! ### places: a slot's thing, or a thing at a known address; fields from there -/
def M.isD : M → Bool
  | .d _ => true
  | _ => false
abbrev Pth := List (Str × List Str)
def fldI (n : Str) : List Str → Option Nat
  | [] => none
  | k :: ks => if n = k then some 0 else (match fldI n ks with
    | some i => some (i + 1)
    | none => none)
theorem fldI_some {n : Str} : ∀ {ns : List Str} {i : Nat} {xs : List V}, fldI n ns = some i → ns.length = xs.length → (ns.zip xs).lookup n = xs[i]?
  | [], _, _, h, _ => by simp [fldI] at h
  | k :: ks, i, [], h, l => by simp at l
  | k :: ks, i, x :: xs, h, l => by
    unfold fldI at h
    split at h
    · rename_i e
      cases h
      subst e
      simp [List.lookup]
    · rename_i e
      split at h
      · rename_i j ej
        cases h
        have hb : (n == k) = false := by simpa using e
        simp only [List.zip_cons_cons, List.lookup, hb, List.getElem?_cons_succ]
        exact fldI_some ej (by simpa using l)
      · cases h
theorem fldI_none {n : Str} : ∀ {ns : List Str} {xs : List V}, fldI n ns = none → (ns.zip xs).lookup n = none
  | [], _, _ => by simp
  | k :: ks, [], _ => by simp
  | k :: ks, x :: xs, h => by
    unfold fldI at h
    split at h
    · cases h
    · rename_i e
      split at h
      · cases h
      · rename_i ej
        have hb : (n == k) = false := by simpa using e
        simp only [List.zip_cons_cons, List.lookup, hb]
        exact fldI_none ej
theorem fldI_put {n : Str} {v : V} : ∀ {ns : List Str} {i : Nat} {xs : List V}, fldI n ns = some i → ns.length = xs.length → putF n v (ns.zip xs) = ns.zip (xs.set i v)
  | [], _, _, h, _ => by simp [fldI] at h
  | k :: ks, i, [], h, l => by simp at l
  | k :: ks, i, x :: xs, h, l => by
    unfold fldI at h
    split at h
    · rename_i e
      cases h
      subst e
      simp [putF]
    · rename_i e
      split at h
      · rename_i j ej
        cases h
        have e2 : ¬ k = n := fun z => e z.symm
        simp only [List.zip_cons_cons, putF, if_neg e2, List.set_cons_succ]
        rw [fldI_put ej (by simpa using l)]
      · cases h
theorem fldI_add {n : Str} {v : V} : ∀ {ns : List Str} {xs : List V}, fldI n ns = none → ns.length = xs.length → putF n v (ns.zip xs) = (ns ++ [n]).zip (xs ++ [v])
  | [], [], _, _ => by simp [putF]
  | [], _ :: _, _, l => by simp at l
  | k :: ks, [], h, l => by simp at l
  | k :: ks, x :: xs, h, l => by
    unfold fldI at h
    split at h
    · cases h
    · rename_i e
      split at h
      · cases h
      · rename_i ej
        have e2 : ¬ k = n := fun z => e z.symm
        simp only [List.zip_cons_cons, putF, if_neg e2, List.cons_append]
        rw [fldI_add ej (by simpa using l)]
def M.fld : M → Str × List Str → Option M
  | .obj C ns ms, q => if q.2.contains C = true then (match fldI q.1 ns with
    | some i => ms[i]?
    | none => none) else none
  | .d (.obj C ns ds), q => if q.2.contains C = true then (match fldI q.1 ns with
    | some i => (match ds[i]? with
      | some x => some (.d x)
      | none => none)
    | none => none) else none
  | .d (.oba a C ns ds), q => if q.2.contains C = true then (match fldI q.1 ns with
    | some i => (match ds[i]? with
      | some x => some (.d x)
      | none => none)
    | none => none) else none
  | _, _ => none
def M.sub (m : M) : Pth → Option M
  | [] => some m
  | q :: π => match m.sub π with
    | some p => p.fld q
    | none => none
/-- a field set, or added -/
def M.setF : M → Str × List Str → M → Option M
  | .obj C ns ms, q, m2 => if q.2.contains C = true then (match fldI q.1 ns with
    | some i => some (.obj C ns (ms.set i m2))
    | none => some (.obj C (ns ++ [q.1]) (ms ++ [m2]))) else none
  | _, _, _ => none
/-- the thing at a path exchanged for another one at the same place -/
def M.put (m : M) : Pth → M → Option M
  | [], m2 => some m2
  | q :: π, m2 => match m.sub π with
    | some p => (match p.setF q m2 with
      | some p2 => m.put π p2
      | none => none)
    | none => none
def M.cell : M → Option Addr → Option M
  | .box r as ms, ao => ms[as.idxOf (ao.getD r)]?
  | .d _, _ => none
  | m, none => some m
  | _, some _ => none
def M.setCell : M → Option Addr → M → M
  | .box r as ms, ao, m2 => .box r as (ms.set (as.idxOf (ao.getD r)) m2)
  | _, _, m2 => m2
def boxAt (a : Addr) : List B → Nat → Option Nat
  | [], _ => none
  | .o _ (.box _ as _) :: bs, i => if as.contains a = true then some i else boxAt a bs (i + 1)
  | _ :: bs, i => boxAt a bs (i + 1)
/-- the slot that owns what the name at j means -/
def ownS (b : List B) (j : Nat) : Option (Nat × Option Addr) := match b[j]? with
  | some (.o _ _) => some (j, none)
  | some (.d (.adr a)) => (match boxAt a b 0 with
    | some i => some (i, some a)
    | none => none)
  | _ => none
def getP (b : List B) (j : Nat) (π : Pth) : Option M := match ownS b j with
  | some (i, ao) => (match b[i]? with
    | some (.o _ m) => (match m.cell ao with
      | some c => c.sub π
      | none => none)
    | _ => none)
  | none => (match b[j]? with
    | some (.d d) => (M.d d).sub π
    | _ => none)
def setP (b : List B) (j : Nat) (π : Pth) (m2 : M) : Option (List B) := match ownS b j with
  | some (i, ao) => (match b[i]? with
    | some (.o k m) => (match m.cell ao with
      | some c => (match c.put π m2 with
        | some c2 => some (b.set i (.o k (m.setCell ao c2)))
        | none => none)
      | none => none)
    | _ => none)
  | none => none
def PathV (K : PySem.W.Frag) (H : Hp) (v : V) : Pth → V → Prop
  | [], v1 => v = v1
  | q :: π, v1 => ∃ a C dx fs, PathV K H v π (.ref a) ∧ H a = some (.ins (He.ga K C) dx fs) ∧ q.2.contains C = true ∧ fs.lookup q.1 = some v1
section
variable {K : PySem.W.Frag} {c : Cg} {G G' H H' : Hp} {σ : L2.St} {b : List B} {T T1 : List (M × V)} {p : Addr} {o : HO} {d : D} {v : V} {m m1 : M} {i j : Nat} {π : Pth}
theorem RML.split : ∀ {ms : List M} {xs : List V} {f : List Addr} {i : Nat} {m : M}, RML K G H ms xs f → ms[i]? = some m → ∃ v fi fr, xs[i]? = some v ∧ RM K G H m v fi ∧ f.Perm (fi ++ fr) ∧
    ∀ G' H' m2 v2 f2, Same G G' → (∀ a ∈ fr, H' a = H a) → RM K G' H' m2 v2 f2 → ∃ f', RML K G' H' (ms.set i m2) (xs.set i v2) f' ∧ f'.Perm (f2 ++ fr)
  | [], _, _, _, _, _, e => by simp at e
  | m0 :: ms, _, _, 0, m, h, e => by
    simp only [RML] at h
    obtain ⟨z, zs, f1, f2, rfl, h2, h3, rfl⟩ := h
    simp at e
    subst e
    refine ⟨z, f1, f2, rfl, h2, List.Perm.refl _, fun G' H' m2 v2 g2 sg k r => ⟨g2 ++ f2, ?_, List.Perm.refl _⟩⟩
    simp only [List.set_cons_zero, RML]
    exact ⟨v2, zs, g2, f2, rfl, r, RML.frame sg _ _ _ h3 k, rfl⟩
  | m0 :: ms, _, _, i + 1, m, h, e => by
    simp only [RML] at h
    obtain ⟨z, zs, f1, f2, rfl, h2, h3, rfl⟩ := h
    obtain ⟨v, fi, fr, q1, q2, q3, q4⟩ := RML.split h3 (i := i) (by simpa using e)
    refine ⟨v, fi, f1 ++ fr, by simpa using q1, q2, (List.Perm.append_left f1 q3).trans perm_l, fun G' H' m2 v2 g2 sg k r => ?_⟩
    obtain ⟨f', w1, w2⟩ := q4 G' H' m2 v2 g2 sg (fun a ha => k a (by simp [ha])) r
    refine ⟨f1 ++ f', ?_, (List.Perm.append_left f1 w2).trans perm_l⟩
    simp only [List.set_cons_succ, RML]
    exact ⟨z, _, f1, f', rfl, RM.frame sg _ _ _ h2 (fun a ha => k a (by simp [ha])), w1, rfl⟩
theorem RpL.get? : ∀ {ds : List D} {xs : List V} {i : Nat} {d : D}, RpL K G ds xs → ds[i]? = some d → ∃ v, xs[i]? = some v ∧ Rp K G d v := fun h e => RpL.get h e
theorem RM.setSelf (h : xs[i]? = some v) : (xs : List V).set i v = xs := set_self h
/-- reading -/
theorem RM.read : ∀ {π : Pth} {v : V} {f : List Addr} {m1 : M}, RM K G H m v f → Same G H → m.sub π = some m1 → ∃ v1 f1, PathV K H v π v1 ∧ RM K G H m1 v1 f1
  | [], v, f, m1, h, _, e => by
    simp only [M.sub, Option.some.injEq] at e
    subst e
    exact ⟨v, f, rfl, h⟩
  | q :: π, v, f, m1, h, s, e => by
    unfold M.sub at e
    split at e
    · rename_i p0 ep
      obtain ⟨v0, f0, w1, w2⟩ := RM.read h s ep
      unfold M.fld at e
      split at e
      · rename_i C ns ms
        split at e
        · rename_i hC
          split at e
          · rename_i i hi
            simp only [RM] at w2
            obtain ⟨p, dx, xs, g, rfl, h2, h3, h4, rfl⟩ := w2
            obtain ⟨v1, fi, fr, q1, q2, _⟩ := RML.split h4 e
            exact ⟨v1, fi, ⟨p, C, dx, _, w1, h2, hC, (fldI_some hi h3).trans q1⟩, q2⟩
          · cases e
        · cases e
      · rename_i C ns ds
        split at e
        · rename_i hC
          split at e
          · rename_i i hi
            split at e
            · rename_i d ed
              cases e
              simp only [RM, Rp] at w2
              obtain ⟨⟨p, dx, xs, rfl, h2, h3, h4⟩, rfl⟩ := w2
              obtain ⟨v1, q1, q2⟩ := RpL.get h4 ed
              exact ⟨v1, [], ⟨p, C, dx, _, w1, s _ _ h2, hC, (fldI_some hi h3).trans q1⟩, by simp only [RM, and_true]; exact q2⟩
            · cases e
          · cases e
        · cases e
      · rename_i aa C ns ds
        split at e
        · rename_i hC
          split at e
          · rename_i i hi
            split at e
            · rename_i d ed
              cases e
              simp only [RM, Rp] at w2
              obtain ⟨⟨dx, xs, rfl, h2, h3, h4⟩, rfl⟩ := w2
              obtain ⟨v1, q1, q2⟩ := RpL.get h4 ed
              exact ⟨v1, [], ⟨aa, C, dx, _, w1, s _ _ h2, hC, (fldI_some hi h3).trans q1⟩, by simp only [RM, and_true]; exact q2⟩
            · cases e
          · cases e
        · cases e
      · cases e
    · cases e
theorem M.fld_own {p : M} {q : Str × List Str} (h : p.fld q = some m1) (hd : m1.isD = false) : ∃ C ns ms i, p = .obj C ns ms ∧ q.2.contains C = true ∧ fldI q.1 ns = some i ∧ ms[i]? = some m1 := by
  unfold M.fld at h
  split at h
  · rename_i C ns ms
    split at h
    · rename_i hC
      split at h
      · rename_i i hi
        exact ⟨C, ns, ms, i, rfl, hC, hi, h⟩
      · cases h
    · cases h
  · split at h
    · split at h
      · split at h
        · cases h
          simp [M.isD] at hd
        · cases h
      · cases h
    · cases h
  · split at h
    · split at h
      · split at h
        · cases h
          simp [M.isD] at hd
        · cases h
      · cases h
    · cases h
  · cases h
/-- an owned thing within an owned one: it may change -/
theorem RM.focus : ∀ {π : Pth} {v : V} {f : List Addr} {m1 : M}, RM K G H m v f → m.sub π = some m1 → m1.isD = false → ∃ v1 f1 fr, PathV K H v π v1 ∧ RM K G H m1 v1 f1 ∧ f.Perm (f1 ++ fr) ∧
    ∀ G' H' m2 m' f2, Same G G' → (∀ a ∈ fr, H' a = H a) → RM K G' H' m2 v1 f2 → m.put π m2 = some m' → ∃ f', RM K G' H' m' v f' ∧ f'.Perm (f2 ++ fr)
  | [], v, f, m1, h, e, _ => by
    simp only [M.sub, Option.some.injEq] at e
    subst e
    refine ⟨v, f, [], rfl, h, by simp, fun G' H' m2 m' f2 sg k r e => ?_⟩
    simp only [M.put, Option.some.injEq] at e
    subst e
    exact ⟨f2, r, by simp⟩
  | q :: π, v, f, m1, h, e, hd => by
    unfold M.sub at e
    split at e
    · rename_i p0 ep
      obtain ⟨C, ns, ms, i, rfl, hC, hi, hm⟩ := M.fld_own e hd
      obtain ⟨v0, f0, fr0, w1, w2, w3, w4⟩ := RM.focus h ep rfl
      simp only [RM] at w2
      obtain ⟨p, dx, xs, g, rfl, h2, h3, h4, rfl⟩ := w2
      obtain ⟨v1, fi, fr, q1, q2, q3, q4⟩ := RML.split h4 hm
      have P : f.Perm (fi ++ (p :: (fr ++ fr0))) := by
        refine w3.trans ?_
        have : (p :: g ++ fr0).Perm (p :: (fi ++ fr) ++ fr0) := List.Perm.append_right fr0 (List.Perm.cons p q3)
        refine this.trans ?_
        have e1 : p :: (fi ++ fr) ++ fr0 = p :: (fi ++ (fr ++ fr0)) := by simp
        rw [e1]
        exact List.perm_middle.symm
      refine ⟨v1, fi, p :: (fr ++ fr0), ⟨p, C, dx, _, w1, h2, hC, (fldI_some hi h3).trans q1⟩, q2, P, fun G' H' m2 m' f2 sg k r e => ?_⟩
      unfold M.put at e
      rw [ep] at e
      simp only [M.setF, hC, hi, if_true] at e
      obtain ⟨f', r1, r2⟩ := q4 G' H' m2 v1 f2 sg (fun a ha => k a (by simp [ha])) r
      rw [set_self q1] at r1
      obtain ⟨f'', r3, r4⟩ := w4 G' H' (.obj C ns (ms.set i m2)) m' (p :: f') sg (fun a ha => k a (by simp [ha])) (by simp only [RM]; exact ⟨p, dx, xs, f', rfl, by rw [k p (by simp)]; exact h2, h3, r1, rfl⟩) e
      refine ⟨f'', r3, r4.trans ?_⟩
      have : (p :: f' ++ fr0).Perm (p :: (f2 ++ fr) ++ fr0) := List.Perm.append_right fr0 (List.Perm.cons p r2)
      refine this.trans ?_
      have e1 : p :: (f2 ++ fr) ++ fr0 = p :: (f2 ++ (fr ++ fr0)) := by simp
      rw [e1]
      exact List.perm_middle.symm
    · cases e
theorem idxOf_get {a : Addr} : ∀ {as : List Addr}, as.idxOf a < as.length → as[as.idxOf a]? = some a
  | [], h => by simp at h
  | x :: as, h => by
    by_cases e : x = a
    · subst e; simp
    · have hb : (x == a) = false := by simpa using e
      simp only [List.idxOf_cons, hb, cond_false, List.length_cons] at h ⊢
      simpa using idxOf_get (as := as) (by omega)
/-- a cell of a box (or the thing itself): it may change -/
theorem RM.cellAt {ao : Option Addr} {f : List Addr} {c0 : M} (h : RM K G H m v f) (e : m.cell ao = some c0) : ∃ v0 f0 fr, (ao = none → v0 = v) ∧ (∀ a, ao = some a → v0 = .ref a) ∧ RM K G H c0 v0 f0 ∧ f.Perm (f0 ++ fr) ∧
    ∀ G' H' c1 f1, Same G G' → (∀ a ∈ fr, H' a = H a) → RM K G' H' c1 v0 f1 → ∃ f', RM K G' H' (m.setCell ao c1) v f' ∧ f'.Perm (f1 ++ fr) := by
  cases m with
  | d x => simp [M.cell] at e
  | box r as ms =>
    simp only [M.cell] at e
    simp only [RM] at h
    obtain ⟨rfl, h⟩ := h
    obtain ⟨v0, fi, fr, q1, q2, q3, q4⟩ := RML.split h e
    have hl : as.idxOf (ao.getD r) < as.length := by
      have := (List.getElem?_eq_some_iff.mp q1).1
      simpa using this
    have hv : v0 = .ref (ao.getD r) := by
      have e2 := idxOf_get hl
      rw [List.getElem?_map, e2] at q1
      simpa using q1.symm
    refine ⟨v0, fi, fr, fun z => by rw [hv, z]; rfl, fun a z => by rw [hv, z]; rfl, q2, q3, fun G' H' c1 f1 sg k r1 => ?_⟩
    obtain ⟨f', w1, w2⟩ := q4 G' H' c1 v0 f1 sg k r1
    rw [set_self q1] at w1
    exact ⟨f', by simp only [M.setCell, RM]; exact ⟨by first | trivial | rfl, w1⟩, w2⟩
  | lst ms =>
    cases ao with
    | some a => simp [M.cell] at e
    | none =>
      simp only [M.cell, Option.some.injEq] at e
      subst e
      exact ⟨v, f, [], fun _ => rfl, (fun a z => by cases z), h, by simp, fun G' H' c1 f1 sg k r1 => ⟨f1, r1, by simp⟩⟩
  | obj C ns ms =>
    cases ao with
    | some a => simp [M.cell] at e
    | none =>
      simp only [M.cell, Option.some.injEq] at e
      subst e
      exact ⟨v, f, [], fun _ => rfl, (fun a z => by cases z), h, by simp, fun G' H' c1 f1 sg k r1 => ⟨f1, r1, by simp⟩⟩
  | dic ks ms =>
    cases ao with
    | some a => simp [M.cell] at e
    | none =>
      simp only [M.cell, Option.some.injEq] at e
      subst e
      exact ⟨v, f, [], fun _ => rfl, (fun a z => by cases z), h, by simp, fun G' H' c1 f1 sg k r1 => ⟨f1, r1, by simp⟩⟩
  | st ks =>
    cases ao with
    | some a => simp [M.cell] at e
    | none =>
      simp only [M.cell, Option.some.injEq] at e
      subst e
      exact ⟨v, f, [], fun _ => rfl, (fun a z => by cases z), h, by simp, fun G' H' c1 f1 sg k r1 => ⟨f1, r1, by simp⟩⟩
theorem boxAt_ok {a : Addr} : ∀ {b : List B} {n i : Nat}, boxAt a b n = some i → n ≤ i ∧ ∃ k r as ms, b[i - n]? = some (.o k (.box r as ms)) ∧ as.contains a = true
  | [], _, _, h => by simp [boxAt] at h
  | x :: bs, n, i, h => by
    have rec_ : boxAt a bs (n + 1) = some i → n ≤ i ∧ ∃ k r as ms, (x :: bs)[i - n]? = some (.o k (.box r as ms)) ∧ as.contains a = true := fun h => by
      obtain ⟨h1, k, r, as, ms, h2, h3⟩ := boxAt_ok h
      refine ⟨by omega, k, r, as, ms, ?_, h3⟩
      have : i - n = (i - (n + 1)) + 1 := by omega
      rw [this]
      simpa using h2
    unfold boxAt at h
    split at h
    · cases h
    · rename_i e
      obtain ⟨rfl, rfl⟩ := List.cons.inj e
      split at h
      · rename_i hc
        cases h
        exact ⟨Nat.le_refl _, _, _, _, _, by rw [Nat.sub_self]; rfl, hc⟩
      · exact rec_ h
    · rename_i e
      obtain ⟨rfl, rfl⟩ := List.cons.inj e
      exact rec_ h
theorem gh_frame {f f' : List Addr} (S : Stp f G H G' H') (h : ∀ a ∈ f, a ∈ f') : Stp f' G H G' H' := ⟨S.g, S.gh, S.nw, fun a o h1 h2 => S.kp a o h1 fun z => h2 (h a z), S.dm⟩
/-- THE STEP at a place -/
theorem Iv.place (I : Iv K c G H σ b (T1 ++ T)) (hg : getP b j π = some m1) (hd : m1.isD = false) : ∃ v0 v1 fi ft, σ[j]? = some (some v0) ∧ PathV K H v0 π v1 ∧ RM K G H m1 v1 fi ∧ RT K c G H T1 ft ∧ (fi ++ ft).Nodup ∧ (∀ a ∈ fi ++ ft, G a = none) ∧ (∀ a ∈ ft, c.H0 a = none) ∧
    ∀ G' H' m2 f2 T1' fm b', Stp (fi ++ ft) G H G' H' → RM K G' H' m2 v1 f2 → RT K c G' H' T1' fm → (f2 ++ fm).Nodup → (∀ a ∈ f2 ++ fm, a ∈ fi ∨ a ∈ ft ∨ H a = none) → (∀ a ∈ f2 ++ fm, G' a = none) → setP b j π m2 = some b' →
      Iv K c G' H' σ b' (T1' ++ T) := by
  unfold getP at hg
  split at hg
  · rename_i i ao eo
    split at hg
    · rename_i k m eb
      split at hg
      · rename_i c0 ec
        obtain ⟨s, fs, ft, e1, e2, t1, nd, gn, old, go⟩ := Iv.slot (T1 := T1) I eb
        obtain ⟨v, rfl, q2, q3⟩ := e2
        obtain ⟨v0, f0, fr0, a1, a2, a3, a4, a5⟩ := RM.cellAt q2 ec
        obtain ⟨v1, f1, fr1, b1, b2, b3, b4⟩ := RM.focus a3 hg hd
        have hs : σ[j]? = some (some v0) := by
          unfold ownS at eo
          split at eo
          · cases eo
            rw [a1 rfl]; exact e1
          · rename_i a ea
            split at eo
            · cases eo
              obtain ⟨v', w1, w2⟩ := I.getD ea
              simp only [Rp] at w2
              rw [a2 a rfl, ← w2]; exact w1
            · cases eo
          · cases eo
        have P : fs.Perm (f1 ++ (fr1 ++ fr0)) := a4.trans (by
          rw [← List.append_assoc]
          exact List.Perm.append_right fr0 b3)
        have P2 : (fs ++ ft).Perm ((f1 ++ ft) ++ (fr1 ++ fr0)) := (List.Perm.append_right ft P).trans (by
          simp only [List.append_assoc]
          refine List.Perm.append_left f1 ?_
          exact perm_l.trans (perm_l.trans (by
            rw [← List.append_assoc]
            exact List.Perm.trans List.perm_append_comm (by simp)) ))
        have N := P2.nodup_iff.mp nd
        have N1 := List.nodup_append.mp N
        refine ⟨v0, v1, f1, ft, hs, b1, b2, t1, N1.1, fun a ha => gn a (P2.mem_iff.mpr (List.mem_append_left _ ha)), old, fun G' H' m2 f2 T1' fm b' S r rt nd2 from_ g0 es => ?_⟩
        unfold setP at es
        rw [eo] at es
        simp only [eb, ec] at es
        split at es
        · rename_i c2 ep
          cases es
          have there : ∀ a ∈ fr1 ++ fr0, H a ≠ none := fun a ha => RM.there _ _ _ q2 a (P.mem_iff.mpr (List.mem_append_right _ ha))
          have same : ∀ a ∈ fr1 ++ fr0, H' a = H a := fun a ha => by
            cases q : H a with
            | none => exact absurd q (there a ha)
            | some o => exact S.kp a o q (fun hm => N1.2.2 a hm a ha rfl)
          obtain ⟨f', r1, r2⟩ := b4 G' H' m2 c2 f2 S.g (fun a ha => same a (by simp [ha])) r ep
          obtain ⟨f'', r3, r4⟩ := a5 G' H' c2 f' S.g (fun a ha => same a (by simp [ha])) r1
          have P3 : f''.Perm (f2 ++ (fr1 ++ fr0)) := r4.trans (by
            rw [← List.append_assoc]
            exact List.Perm.append_right fr0 r2)
          have gout : ∀ a ∈ fr1 ++ fr0, G' a = none := fun a ha => S.nw a (there a ha) (gn a (P2.mem_iff.mpr (List.mem_append_right _ ha)))
          have inn : ∀ a ∈ f'', a ∈ f2 ∨ a ∈ fr1 ++ fr0 := fun a ha => List.mem_append.mp (P3.mem_iff.mp ha)
          have := go G' H' (.o k (m.setCell ao c2)) (some v) f'' T1' fm (gh_frame S fun a ha => P2.mem_iff.mpr (List.mem_append_left _ ha)) ⟨v, rfl, r3, ?_⟩ rt ?_ ?_ ?_
          · rw [set_self e1] at this
            exact this
          · have hn : ∀ a ∈ f2, a ∈ fs ∨ c.H0 a = none := fun a ha => by
              rcases from_ a (List.mem_append_left _ ha) with z | z | z
              · exact .inl (P.mem_iff.mpr (List.mem_append_left _ z))
              · exact .inr (old a z)
              · refine .inr ?_
                cases q : c.H0 a with
                | none => rfl
                | some o => exact absurd z (I.st.dm a (by rw [q]; simp))
            have all : ∀ a ∈ f'', a ∈ fs ∨ c.H0 a = none := fun a ha => by
              rcases inn a ha with z | z
              · exact hn a z
              · exact .inl (P.mem_iff.mpr (List.mem_append_right _ z))
            cases k with
            | none =>
              intro a ha
              rcases all a ha with z | z
              · exact q3 a z
              · exact z
            | some jj =>
              refine ⟨q3.1, fun a ha => ?_⟩
              rcases all a ha with z | z
              · exact q3.2 a z
              · exact .inr z
          · have P4 : (f'' ++ fm).Perm ((f2 ++ fm) ++ (fr1 ++ fr0)) := (List.Perm.append_right fm P3).trans (by
              simp only [List.append_assoc]
              refine List.Perm.append_left f2 ?_
              exact perm_l.trans (perm_l.trans (by
                rw [← List.append_assoc]
                exact List.Perm.trans List.perm_append_comm (by simp))))
            refine P4.nodup_iff.mpr (List.nodup_append.mpr ⟨nd2, N1.2.1, fun x hx y hy e => ?_⟩)
            subst e
            rcases from_ x hx with z | z | z
            · exact N1.2.2 x (List.mem_append_left _ z) x hy rfl
            · exact N1.2.2 x (List.mem_append_right _ z) x hy rfl
            · exact there x hy z
          · intro a ha
            rcases List.mem_append.mp ha with z | z
            · rcases inn a z with z | z
              · rcases from_ a (List.mem_append_left _ z) with w | w | w
                · exact .inl (P.mem_iff.mpr (List.mem_append_left _ w))
                · exact .inr (.inl w)
                · exact .inr (.inr w)
              · exact .inl (P.mem_iff.mpr (List.mem_append_right _ z))
            · rcases from_ a (List.mem_append_right _ z) with w | w | w
              · exact .inl (P.mem_iff.mpr (List.mem_append_left _ w))
              · exact .inr (.inl w)
              · exact .inr (.inr w)
          · intro a ha
            rcases List.mem_append.mp ha with z | z
            · rcases inn a z with z | z
              · exact g0 a (List.mem_append_left _ z)
              · exact gout a z
            · exact g0 a (List.mem_append_right _ z)
        · cases es
      · cases hg
    · cases hg
  · split at hg
    · rename_i d ed
      exfalso
      cases π with
      | nil =>
        simp only [M.sub, Option.some.injEq] at hg
        subst hg
        simp [M.isD] at hd
      | cons q π =>
        unfold M.sub at hg
        split at hg
        · rename_i p0 ep
          obtain ⟨C, ns, ms, i, rfl, _⟩ := M.fld_own hg hd
          have : ∀ {π : Pth} {p0 : M}, (M.d d).sub π = some p0 → p0.isD = true := by
            intro π
            induction π with
            | nil =>
              intro p0 e
              simp only [M.sub, Option.some.injEq] at e
              subst e
              rfl
            | cons q π ih =>
              intro p0 e
              unfold M.sub at e
              split at e
              · rename_i p1 e1
                have := ih e1
                cases hz : p0.isD with
                | true => rfl
                | false =>
                  obtain ⟨C, ns, ms, i, rfl, _⟩ := M.fld_own e hz
                  simp [M.isD] at this
              · cases e
          have := this ep
          simp [M.isD] at this
        · cases hg
    · cases hg
/-- reading at a place -/
theorem Iv.readP (I : Iv K c G H σ b T) (hg : getP b j π = some m1) : ∃ v0 v1 f1, σ[j]? = some (some v0) ∧ PathV K H v0 π v1 ∧ RM K G H m1 v1 f1 := by
  unfold getP at hg
  split at hg
  · rename_i i ao eo
    split at hg
    · rename_i k m eb
      split at hg
      · rename_i c0 ec
        obtain ⟨v, f, e1, q2⟩ := I.getO eb
        obtain ⟨v0, f0, fr0, a1, a2, a3, _⟩ := RM.cellAt q2 ec
        obtain ⟨v1, f1, w1, w2⟩ := RM.read a3 I.st.gh hg
        refine ⟨v0, v1, f1, ?_, w1, w2⟩
        unfold ownS at eo
        split at eo
        · cases eo
          rw [a1 rfl]; exact e1
        · rename_i a ea
          split at eo
          · cases eo
            obtain ⟨v', w1, w2⟩ := I.getD ea
            simp only [Rp] at w2
            rw [a2 a rfl, ← w2]; exact w1
          · cases eo
        · cases eo
      · cases hg
    · cases hg
  · split at hg
    · rename_i d ed
      obtain ⟨v0, w1, w2⟩ := I.getD ed
      have w2' : RM K G H (.d d) v0 [] := by simp only [RM, and_true]; exact w2
      obtain ⟨v1, f1, z1, z2⟩ := RM.read w2' I.st.gh hg
      exact ⟨v0, v1, f1, w1, z1, z2⟩
    · cases hg
theorem ownS_cases {ao : Option Addr} (h : ownS b j = some (i, ao)) : (ao = none ∧ i = j ∧ ∃ k m, b[j]? = some (.o k m)) ∨ (∃ a, ao = some a ∧ b[j]? = some (.d (.adr a))) := by
  unfold ownS at h
  split at h
  · rename_i e
    cases h
    exact .inl ⟨rfl, rfl, _, _, e⟩
  · rename_i a e
    split at h
    · cases h
      exact .inr ⟨a, rfl, e⟩
    · cases h
  · cases h
/-- what is handed on -/
def M.argOf : M → Option Addr → Option M
  | m, none => some m
  | m, some a => m.cell (some a)
def M.hole (k : Option Nat) (m : M) : Option Addr → B
  | none => .no
  | some a => .o k (m.setCell (some a) (.d .any))
theorem rm_any {v : V} : RM K G H (.d .any) v [] := by simp [RM, Rp]
end
end PL

namespace PL
open PySem PySem.Spec PyProof.Rows L2
section
variable (K : PySem.W.Frag) (G H : Hp)
def RMs : List M → List V → List (List Addr) → Prop
  | [], vs, fs => vs = [] ∧ fs = []
  | m :: ms, vs, fs => ∃ v vs' f fs', vs = v :: vs' ∧ fs = f :: fs' ∧ RM K G H m v f ∧ RMs ms vs' fs'
/-- the owned arguments behind a call: o at v, its cells those of before or new -/
def IOK (H0 : Hp) : List M → List V → List (List Addr) → List M → List Addr → Prop
  | [], _, _, os, fo => os = [] ∧ fo = []
  | m :: ms, vs, fs, os, fo => ∃ v vs' f fs', vs = v :: vs' ∧ fs = f :: fs' ∧
      if m.isD = true then IOK H0 ms vs' fs' os fo
      else ∃ o os' f1 f2, os = o :: os' ∧ RM K G H o v f1 ∧ (∀ a ∈ f1, a ∈ f ∨ H0 a = none) ∧ IOK H0 ms vs' fs' os' f2 ∧ fo = f1 ++ f2
end
/-- what a def does with its arguments: a result and the owned arguments behind it -/
abbrev Fn := List M → Option (M × List M)
def spD (K : PySem.W.Frag) (F : Fn) : Sp := fun vs H Q _ => ∃ (G : Hp) (ms : List M) (fs : List (List Addr)) (r : M) (os : List M), F ms = some (r, os) ∧ Same G H ∧ RMs K G H ms vs fs ∧ fs.flatten.Nodup ∧ (∀ a ∈ fs.flatten, G a = none) ∧
  ∀ v G' H' fr fo, Stp fs.flatten G H G' H' → RM K G' H' r v fr → IOK K G' H' H ms vs fs os fo → (fr ++ fo).Nodup → (∀ a ∈ fr ++ fo, G' a = none) → (∀ a ∈ fr, H a = none) → Q v H'
def startE : List M → Nat → List B
  | [], _ => []
  | m :: ms, j => (if m.isD = true then .d m.toD else .o (some j) m) :: startE ms (j + 1)
def finals : List M → Nat → List B → Option (List M)
  | [], _, _ => some []
  | m :: ms, j, b :: bs => if m.isD = true then finals ms (j + 1) bs else (match b with
      | .o (some j') o => if j' = j then (match finals ms (j + 1) bs with
          | some os => some (o :: os)
          | none => none) else none
      | _ => none)
  | _ :: _, _, [] => none
def fin (ms : List M) (b : List B) (r : M) : Option (M × List M) := match finals ms 0 b with
  | some os => some (r, os)
  | none => none
/-- a def of np parameters and nl other names, by its body -/
def fnF (np nl : Nat) (g : Sv) : Fn := fun ms => if ms.length = np then (match g (startE ms 0 ++ List.replicate nl .no) with
    | some (.nx, b) => fin ms b (.d .non)
    | some (.rt m, b) => fin ms b m
    | _ => none) else none
abbrev Ks := List (Nat × Option Nat × Option Addr)
def fill : List (Option Nat) → List M → List B → Option (List M × Ks × List B)
  | [], [], b => some ([], [], b)
  | none :: s, m :: ms, b => (match fill s ms b with
      | some (full, ks, b') => some (m :: full, ks, b')
      | none => none)
  | some j :: s, ms, b => (match ownS b j with
      | some (i, ao) => (match b[i]? with
        | some (.o k m) => (match m.argOf ao with
          | some c0 => if c0.isD = true then none else (match fill s ms (b.set i (M.hole k m ao)) with
            | some (full, ks, b') => some (c0 :: full, (i, k, ao) :: ks, b')
            | none => none)
          | none => none)
        | _ => none)
      | none => none)
  | _, _, _ => none
def putb : List (Option Nat) → Ks → List M → List M → List B → Option (List B)
  | [], _, _, _, b => some b
  | none :: s, ks, m :: full, os, b => if m.isD = true then putb s ks full os b else (match os with
      | _ :: os' => putb s ks full os' b
      | [] => none)
  | some _ :: s, (i, k, none) :: ks, _ :: full, o :: os, b => (match putb s ks full os b with
      | some b' => some (b'.set i (.o k o))
      | none => none)
  | some _ :: s, (i, k, some a) :: ks, _ :: full, o :: os, b => (match putb s ks full os b with
      | some b' => (match b'[i]? with
        | some (.o k' m') => if k' = k ∧ (m'.cell (some a)).isSome = true then some (b'.set i (.o k (m'.setCell (some a) o))) else none
        | _ => none)
      | none => none)
  | _, _, _, _, _ => none
section
variable {K : PySem.W.Frag} {c : Cg} {G G' H H' : Hp} {σ : L2.St} {b : List B} {T T1 : List (M × V)} {p : Addr} {o : HO} {d : D} {v : V} {m : M} {i : Nat}
theorem isD_d {m : M} (h : m.isD = true) : m = .d m.toD := by
  cases m <;> simp [M.isD] at h
  rfl
theorem RE.repl : ∀ n, RE K c G H (List.replicate n .no) (List.replicate n none) []
  | 0 => ⟨rfl, rfl⟩
  | n + 1 => ⟨none, List.replicate n none, [], [], rfl, rfl, RE.repl n, rfl⟩
theorem RE.start {n : Nat} : ∀ {ms : List M} {vs : List V} {fs : List (List Addr)} {j : Nat}, RMs K G H ms vs fs → (∀ i, i < vs.length → c.VS[j + i]? = vs[i]?) → (∀ i, i < fs.length → c.PP (j + i) = fs.getD i []) →
    RE K c G H (startE ms j ++ List.replicate n .no) (vs.map some ++ List.replicate n none) fs.flatten
  | [], vs, fs, j, ⟨h1, h2⟩, _, _ => by
    subst h1 h2
    exact RE.repl n
  | m :: ms, _, _, j, ⟨v, vs', f, fs', h1, h2, h3, h4⟩, hv, hf => by
    subst h1 h2
    have ih := RE.start (n := n) (ms := ms) (j := j + 1) h4 (fun i hi => by have := hv (i + 1) (by simpa using hi); simpa [Nat.add_assoc, Nat.add_comm, Nat.add_left_comm] using this) (fun i hi => by have := hf (i + 1) (by simpa using hi); simpa [Nat.add_assoc, Nat.add_comm, Nat.add_left_comm] using this)
    refine ⟨some v, _, f, fs'.flatten, rfl, ?_, ih, by simp⟩
    by_cases q : m.isD = true
    · rw [if_pos q]
      have e := isD_d q
      rw [e] at h3
      simp only [RM] at h3
      exact ⟨h3.2, v, rfl, h3.1⟩
    · rw [if_neg q]
      refine ⟨v, rfl, h3, ?_, fun a ha => .inl ?_⟩
      · have := hv 0 (by simp)
        simpa using this
      · have := hf 0 (by simp)
        simp at this
        rw [this]; exact ha
theorem RE.fin : ∀ {ms : List M} {vs : List V} {fs : List (List Addr)} {j : Nat} {b : List B} {σ : L2.St} {f : List Addr} {os : List M}, RE K c G H b σ f → finals ms j b = some os → ms.length = vs.length → ms.length = fs.length → (∀ i, i < vs.length → c.VS[j + i]? = vs[i]?) → (∀ i, i < fs.length → c.PP (j + i) = fs.getD i []) →
    ∃ fo fr, IOK K G H c.H0 ms vs fs os fo ∧ f.Perm (fo ++ fr)
  | [], vs, fs, j, b, σ, f, os, _, e, _, _, _, _ => by
    simp only [finals, Option.some.injEq] at e
    subst e
    exact ⟨[], f, ⟨rfl, rfl⟩, List.Perm.refl _⟩
  | m :: ms, v :: vs, f0 :: fs, j, [], σ, f, os, _, e, _, _, _, _ => by simp [finals] at e
  | m :: ms, v :: vs, f0 :: fs, j, b :: bs, σ, f, os, ⟨s, σ', f1, f2, h1, h2, h3, h4⟩, e, l1, l2, hv, hf => by
    subst h1 h4
    have hv' : ∀ i, i < vs.length → c.VS[j + 1 + i]? = vs[i]? := fun i hi => by have := hv (i + 1) (by simpa using hi); simpa [Nat.add_assoc, Nat.add_comm, Nat.add_left_comm] using this
    have hf' : ∀ i, i < fs.length → c.PP (j + 1 + i) = fs.getD i [] := fun i hi => by have := hf (i + 1) (by simpa using hi); simpa [Nat.add_assoc, Nat.add_comm, Nat.add_left_comm] using this
    unfold finals at e
    split at e
    · rename_i q
      obtain ⟨fo, fr, i1, i2⟩ := RE.fin h3 e (by simpa using l1) (by simpa using l2) hv' hf'
      refine ⟨fo, f1 ++ fr, ⟨v, vs, f0, fs, rfl, rfl, by rw [if_pos q]; exact i1⟩, ?_⟩
      refine (List.Perm.append_left f1 i2).trans ?_
      rw [← List.append_assoc, ← List.append_assoc]
      exact List.Perm.append_right fr List.perm_append_comm
    · rename_i q
      split at e
      · rename_i j' o
        split at e
        · rename_i hj
          subst hj
          split at e
          · rename_i os' e2
            cases e
            obtain ⟨fo, fr, i1, i2⟩ := RE.fin h3 e2 (by simpa using l1) (by simpa using l2) hv' hf'
            obtain ⟨v', q1, q2, q3, q4⟩ := h2
            have hv0 := hv 0 (by simp)
            simp only [Nat.add_zero, List.getElem?_cons_zero] at hv0
            rw [q3] at hv0
            have hv0 := Option.some.inj hv0
            subst hv0
            have hf0 := hf 0 (by simp)
            simp at hf0
            refine ⟨f1 ++ fo, fr, ⟨v', vs, f0, fs, rfl, rfl, by rw [if_neg q]; exact ⟨o, os', f1, fo, rfl, q2, fun a ha => by rw [← hf0]; exact q4 a ha, i1, rfl⟩⟩, ?_⟩
            refine (List.Perm.append_left f1 i2).trans ?_
            rw [← List.append_assoc]
          · cases e
        · cases e
      · cases e
  | _ :: _, [], _, _, _, _, _, _, _, _, l, _, _, _ => by simp at l
  | _ :: _, _ :: _, [], _, _, _, _, _, _, _, _, l, _, _ => by simp at l
theorem RMs.len : ∀ {ms : List M} {vs : List V} {fs : List (List Addr)}, RMs K G H ms vs fs → ms.length = vs.length ∧ ms.length = fs.length
  | [], _, _, ⟨h1, h2⟩ => by subst h1 h2; simp
  | m :: ms, _, _, ⟨v, vs', f, fs', h1, h2, h3, h4⟩ => by
    subst h1 h2
    have := RMs.len h4
    simp [this.1, ← this.2]
theorem IOK.sub {H0 : Hp} : ∀ {ms : List M} {vs : List V} {fs : List (List Addr)} {os : List M} {fo : List Addr}, IOK K G H H0 ms vs fs os fo → ∀ a ∈ fo, a ∈ fs.flatten ∨ H0 a = none
  | [], _, _, _, _, ⟨_, h⟩ => by subst h; simp
  | m :: ms, _, _, _, _, ⟨v, vs', f, fs', h1, h2, h3⟩ => by
    subst h2
    split at h3
    · intro a ha
      rcases IOK.sub h3 a ha with z | z
      · left; simp at z ⊢; grind
      · exact .inr z
    · obtain ⟨o, os', f1, f2, q1, q2, q3, q4, q5⟩ := h3
      subst q5
      intro a ha
      rcases List.mem_append.mp ha with ha | ha
      · rcases q3 a ha with z | z
        · left; simp [z]
        · exact .inr z
      · rcases IOK.sub q4 a ha with z | z
        · left; simp at z ⊢; grind
        · exact .inr z
end
/-- a def's promise, by its body's denotation -/
theorem fn_ok {P : Program} {w : World} {K : PySem.W.Frag} {mg : Str → Option Value} {base : Heap} {x qual : Str} {params : Arguments} {body : List Stmt} {scope : Scope} {dvs : List V} {kws : List (Str × V)} {f : Addr} {fd : FuncData} {CX : CXT} {N ps : List Str} {k : Nat} {g : Sv}
    (F : FunD K x qual params body scope dvs kws f fd) (S : FnScope N ps scope)
    (hbody : ∀ (cdv : Value) (A : Around) (outer : List Env) (s : Shared) (H : Hp) (E : XK), Room k (A.deeper (envOfC qual scope s.heap.objs.size f cdv)) → SMs (cxOf CX P w K mg base N qual scope f cdv A outer s H E) body g) :
    FnOk P w K mg base CX (k + 1) f fd ps (spD K (fnF ps.length (N.length - ps.length) g)) := by
  refine F.ok S (fun vs H Q E h => ?_) (fun cdv A outer s H vs Q E hr h => ⟨tsO K g, hbody cdv A outer s H E hr, ?_⟩)
  · obtain ⟨G, ms, fs, r, os, e, _, h2, _⟩ := h
    unfold fnF at e
    split at e
    · rename_i q
      rw [← (RMs.len h2).1]; exact q
    · cases e
  · obtain ⟨G, ms, fs, r, os, e, h1, h2, h3, h4, h5⟩ := h
    unfold fnF at e
    split at e
    · rename_i q
      have ll := RMs.len h2
      have hst : L2.start N vs = vs.map some ++ List.replicate (N.length - ps.length) none := by
        unfold L2.start
        rw [← ll.1, q]
      rw [hst]
      let c : Cg := ⟨H, G, fs.flatten, fun j => fs.getD j [], vs⟩
      have hv : ∀ i, i < vs.length → c.VS[0 + i]? = vs[i]? := fun i _ => by simp [c]
      have hf : ∀ i, i < fs.length → c.PP (0 + i) = fs.getD i [] := fun i _ => by simp [c]
      have I : Iv K c G H (vs.map some ++ List.replicate (N.length - ps.length) none) (startE ms 0 ++ List.replicate (N.length - ps.length) .no) [] := by
        refine ⟨⟨Same.refl _, h1, fun _ _ h => h, fun _ _ h _ => h, fun _ h => h⟩, fs.flatten, [], RE.start (c := c) h2 hv hf, rfl, by simpa using h3, fun a ha => ?_⟩
        simp only [List.append_nil] at ha
        exact ⟨h4 a ha, .inl ha⟩
      have done : ∀ (b' : List B) (m : M) σ' G' H' T v, finals ms 0 b' = some os → Iv K c G' H' σ' b' T → (T = [(m, v)] ∨ (T = [] ∧ m = .d .non ∧ v = .non)) → (r = m) → (∀ v G' H' fr fo, Stp fs.flatten G H G' H' → RM K G' H' r v fr → IOK K G' H' H ms vs fs os fo → (fr ++ fo).Nodup → (∀ a ∈ fr ++ fo, G' a = none) → (∀ a ∈ fr, H a = none) → Q v H') → Q v H' := by
        intro b' m σ' G' H' T v ef I' hT er post
        obtain ⟨st, f1, f2, r1, r2, nd, hg⟩ := I'
        obtain ⟨fo, fx, k1, k2⟩ := RE.fin r1 ef ll.1 ll.2 hv hf
        have P : (f1 ++ f2).Perm ((f2 ++ fo) ++ fx) := by
          refine (List.Perm.append_right f2 k2).trans ?_
          refine List.perm_append_comm.trans ?_
          rw [List.append_assoc]
        have N2 := P.nodup_iff.mp nd
        have N3 := (List.nodup_append.mp N2).1
        have hin : ∀ a ∈ f2 ++ fo, G' a = none := fun a ha => (hg a (P.mem_iff.mpr (List.mem_append_left _ ha))).1
        subst er
        rcases hT with rfl | ⟨rfl, rfl, rfl⟩
        · obtain ⟨g1, g2, q1, q2, q3, q4⟩ := r2
          have q3 : g2 = [] := q3
          subst q3
          simp only [List.append_nil] at q4
          subst q4
          exact post v G' H' f2 fo st q1 k1 N3 hin q2
        · have r2 : f2 = [] := r2
          subst r2
          exact post .non G' H' [] fo st (by simp [RM, Rp]) k1 N3 hin (by simp)
      split at e
      · rename_i b eg
        unfold fin at e
        split at e
        · rename_i os' ef
          cases e
          exact ⟨c, G, _, [], .nx, b, eg, I, fun σ' G' H' I' => done b (.d .non) σ' G' H' [] .non ef I' (.inr ⟨rfl, rfl, rfl⟩) rfl h5⟩
        · cases e
      · rename_i m b eg
        unfold fin at e
        split at e
        · rename_i os' ef
          cases e
          exact ⟨c, G, _, [], .rt r, b, eg, I, fun v σ' G' H' I' => done b r σ' G' H' [(r, v)] v ef I' (.inl rfl) rfl h5⟩
        · cases e
      · cases e
    · cases e
end PL

namespace PL
open PySem PySem.Spec PyProof.Rows L2
theorem fn_ok0 {P : Program} {w : World} {K : PySem.W.Frag} {mg : Str → Option Value} {base : Heap} {x qual : Str} {params : Arguments} {body : List Stmt} {scope : Scope} {dvs : List V} {kws : List (Str × V)} {f : Addr} {fd : FuncData} {N ps : List Str} {k : Nat} {g : Sv}
    (F : FunD K x qual params body scope dvs kws f fd) (S : FnScope N ps scope)
    (hbody : ∀ (cdv : Value) (A : Around) (outer : List Env) (s : Shared) (H : Hp) (E : XK), Room k (A.deeper (envOfC qual scope s.heap.objs.size f cdv)) → SMs (cxOf CX0 P w K mg base N qual scope f cdv A outer s H E).nox body g) :
    FnOk P w K mg base CX0 (k + 1) f fd ps (spD K (fnF ps.length (N.length - ps.length) g)) :=
  fn_ok F S fun cdv A outer s H E hr => (hbody cdv A outer s H E hr).nox
section
variable {K : PySem.W.Frag} {c : Cg} {G G' H H' : Hp} {σ : L2.St} {b : List B} {T T1 : List (M × V)} {p : Addr} {o : HO} {d : D} {v : V} {m : M} {i : Nat}
theorem take_args : ∀ {src : List (Option Nat)} {ms : List M} {us vs : List V} {b : List B} {full : List M} {ks : Ks} {b2 : List B} {f1 ft : List Addr}, fill src ms b = some (full, ks, b2) → RE K c G H b σ f1 → RML K G H ms us ft → AV σ src us vs → (∀ a ∈ ft, c.H0 a = none) →
    ∃ fs fh, RMs K G H full vs fs ∧ RE K c G H b2 σ fh ∧ (f1 ++ ft).Perm (fs.flatten ++ fh) ∧
      ∀ G' H' os fo b3, Same G G' → (∀ a ∈ fh, H' a = H a) → (∀ a, H a = none → c.H0 a = none) → IOK K G' H' H full vs fs os fo → putb src ks full os b2 = some b3 → ∃ f3 f4, RE K c G' H' b3 σ f3 ∧ (fo ++ fh).Perm (f3 ++ f4)
  | [], [], us, vs, b, full, ks, b2, f1, ft, e, re, ha, av, _ => by
    simp only [fill, Option.some.injEq, Prod.mk.injEq] at e
    obtain ⟨rfl, rfl, rfl⟩ := e
    simp only [RML] at ha
    obtain ⟨rfl, rfl⟩ := ha
    obtain ⟨_, rfl⟩ := av
    refine ⟨[], f1, ⟨rfl, rfl⟩, re, by simp, fun G' H' os fo b3 sg k _ ⟨_, h2⟩ e => ?_⟩
    subst h2
    simp only [putb, Option.some.injEq] at e
    subst e
    exact ⟨f1, [], re.frame sg k, by simp⟩
  | [], m :: ms, _, _, _, _, _, _, _, _, e, _, _, _, _ => by simp [fill] at e
  | none :: s, [], _, _, _, _, _, _, _, _, e, _, _, _, _ => by simp [fill] at e
  | none :: s, m :: ms, us, vs, b, full, ks, b2, f1, ft, e, re, ha, av, old => by
    unfold fill at e
    split at e
    · rename_i full' ks' b' e1
      cases e
      simp only [RML] at ha
      obtain ⟨y, ys, g1, g2, rfl, h2, h3, rfl⟩ := ha
      obtain ⟨u, us', vs', h4, rfl, av'⟩ := av
      obtain ⟨rfl, rfl⟩ := List.cons.inj h4
      obtain ⟨fs, fh, i1, i2, i3, i4⟩ := take_args e1 re h3 av' (fun a ha => old a (by simp [ha]))
      refine ⟨g1 :: fs, fh, ⟨y, vs', g1, fs, rfl, rfl, h2, i1⟩, i2, ?_, fun G' H' os fo b3 sg k hn ho e => ?_⟩
      · simp only [List.flatten_cons, List.append_assoc]
        exact perm_l.trans (List.Perm.append_left g1 i3)
      · obtain ⟨v, vs2, f, fs2, q1, q2, q3⟩ := ho
        obtain ⟨rfl, rfl⟩ := List.cons.inj q1
        obtain ⟨rfl, rfl⟩ := List.cons.inj q2
        unfold putb at e
        by_cases z : m.isD = true
        · rw [if_pos z] at q3 e
          exact i4 G' H' os fo b3 sg k hn q3 e
        · rw [if_neg z] at q3 e
          obtain ⟨o, os', fo1, fo2, rfl, q4, q5, q6, rfl⟩ := q3
          obtain ⟨f3, f4, j1, j2⟩ := i4 G' H' os' fo2 b3 sg k hn q6 e
          refine ⟨f3, fo1 ++ f4, j1, ?_⟩
          rw [List.append_assoc]
          exact (List.Perm.append_left fo1 j2).trans perm_l
    · cases e
  | some j :: s, ms, us, vs, b, full, ks, b2, f1, ft, e, re, ha, av, old => by
    unfold fill at e
    split at e
    · rename_i i ao eo
      split at e
      · rename_i k m ei
        split at e
        · rename_i c0 ec
          split at e
          · cases e
          · rename_i nd
            split at e
            · rename_i full' ks' b' e1
              cases e
              obtain ⟨v, vs', rfl, sj, av'⟩ := av
              obtain ⟨s0, fi, fr, r1, r2, r3, r4⟩ := re.split ei
              obtain ⟨v0, rfl, t2, t3⟩ := r2
              rcases ownS_cases eo with ⟨rfl, rfl, _⟩ | ⟨a, rfl, ej⟩
              · simp only [M.argOf, Option.some.injEq] at ec
                subst ec
                rw [sj] at r1
                have r1 := Option.some.inj (Option.some.inj r1)
                subst r1
                obtain ⟨f', u1, u2⟩ := r4 G H .no (some v) [] (Same.refl _) (fun _ _ => rfl) rfl
                rw [set_self sj] at u1
                obtain ⟨fs, fh, i1, i2, i3, i4⟩ := take_args e1 u1 ha av' old
                refine ⟨fi :: fs, fh, ⟨v, vs', fi, fs, rfl, rfl, t2, i1⟩, i2, ?_, fun G' H' os fo b3 sg k' hn ho e => ?_⟩
                · simp only [List.flatten_cons, List.append_assoc]
                  refine (List.Perm.append_right ft r3).trans ?_
                  rw [List.append_assoc]
                  refine List.Perm.append_left fi ?_
                  exact (List.Perm.append_right ft (by simpa using u2.symm)).trans i3
                · obtain ⟨v2, vs2, f, fs2, q1, q2, q3⟩ := ho
                  obtain ⟨rfl, rfl⟩ := List.cons.inj q1
                  obtain ⟨rfl, rfl⟩ := List.cons.inj q2
                  rw [if_neg nd] at q3
                  obtain ⟨o, os', fo1, fo2, rfl, q4, q5, q6, rfl⟩ := q3
                  unfold putb at e
                  split at e
                  · rename_i b' e2
                    cases e
                    obtain ⟨f3, f4, j1, j2⟩ := i4 G' H' os' fo2 b' sg k' hn q6 e2
                    have hl : i < b'.length := by
                      rw [← j1.len]
                      exact (List.getElem?_eq_some_iff.mp sj).1
                    obtain ⟨s1, fj, fr', w1, w2, w3, w4⟩ := j1.split (List.getElem?_eq_getElem hl)
                    obtain ⟨f5, x1, x2⟩ := w4 G' H' (.o k o) (some v) fo1 (Same.refl _) (fun _ _ => rfl) (by
                      refine ⟨v, rfl, q4, ?_⟩
                      cases k with
                      | none =>
                        intro a ha
                        rcases q5 a ha with z | z
                        · exact t3 a z
                        · exact hn a z
                      | some jj =>
                        refine ⟨t3.1, fun a ha => ?_⟩
                        rcases q5 a ha with z | z
                        · exact t3.2 a z
                        · exact .inr (hn a z))
                    rw [set_self sj] at x1
                    refine ⟨f5, fj ++ f4, x1, ?_⟩
                    rw [List.perm_iff_count]
                    intro x
                    have z1 := j2.count_eq x
                    have z2 := w3.count_eq x
                    have z3 := x2.count_eq x
                    simp only [List.count_append] at z1 z2 z3 ⊢
                    omega
                  · cases e
              · simp only [M.argOf] at ec
                obtain ⟨vj, y1, y2⟩ := re.getD ej
                simp only [Rp] at y2
                subst y2
                rw [sj] at y1
                have y1 := Option.some.inj (Option.some.inj y1)
                subst y1
                obtain ⟨vc, f0, fr0, _, hv, a3, a4, a5⟩ := RM.cellAt t2 ec
                have hv := hv a rfl
                subst hv
                obtain ⟨fh0, h1, h2⟩ := a5 G H (.d .any) [] (Same.refl _) (fun _ _ => rfl) rm_any
                obtain ⟨f', u1, u2⟩ := r4 G H (.o k (m.setCell (some a) (.d .any))) (some v0) fh0 (Same.refl _) (fun _ _ => rfl) (by
                  refine ⟨v0, rfl, h1, ?_⟩
                  have sub : ∀ x ∈ fh0, x ∈ fi := fun x hx => a4.mem_iff.mpr (List.mem_append_right _ (by simpa using h2.mem_iff.mp hx))
                  cases k with
                  | none => exact fun x hx => t3 x (sub x hx)
                  | some jj => exact ⟨t3.1, fun x hx => t3.2 x (sub x hx)⟩)
                rw [set_self r1] at u1
                obtain ⟨fs, fh, i1, i2, i3, i4⟩ := take_args e1 u1 ha av' old
                refine ⟨f0 :: fs, fh, ⟨.ref a, vs', f0, fs, rfl, rfl, a3, i1⟩, i2, ?_, fun G' H' os fo b3 sg k' hn ho e => ?_⟩
                · rw [List.perm_iff_count]
                  intro x
                  have z1 := r3.count_eq x
                  have z2 := a4.count_eq x
                  have z3 := h2.count_eq x
                  have z4 := u2.count_eq x
                  have z5 := i3.count_eq x
                  simp only [List.count_append, List.flatten_cons, List.count_nil] at z1 z2 z3 z4 z5 ⊢
                  omega
                · obtain ⟨v2, vs2, f, fs2, q1, q2, q3⟩ := ho
                  obtain ⟨rfl, rfl⟩ := List.cons.inj q1
                  obtain ⟨rfl, rfl⟩ := List.cons.inj q2
                  rw [if_neg nd] at q3
                  obtain ⟨o, os', fo1, fo2, rfl, q4, q5, q6, rfl⟩ := q3
                  unfold putb at e
                  split at e
                  · rename_i b' e2
                    split at e
                    · rename_i k9 m' e9
                      split at e
                      · rename_i hk
                        obtain ⟨rfl, hc9⟩ := hk
                        cases e
                        obtain ⟨f3, f4, j1, j2⟩ := i4 G' H' os' fo2 b' sg k' hn q6 e2
                        obtain ⟨s1, fj, fr', w1, w2, w3, w4⟩ := j1.split e9
                        obtain ⟨v9, rfl, w6, w7⟩ := w2
                        obtain ⟨c9, ec9⟩ := Option.isSome_iff_exists.mp hc9
                        obtain ⟨vc, f9, fr9, _, hv9, b3, b4, b5⟩ := RM.cellAt w6 ec9
                        have hv9 := hv9 a rfl
                        subst hv9
                        obtain ⟨fn, n1, n2⟩ := b5 G' H' o fo1 (Same.refl _) (fun _ _ => rfl) q4
                        have sub0 : ∀ x ∈ f0, x ∈ fi := fun x hx => a4.mem_iff.mpr (List.mem_append_left _ hx)
                        have sub9 : ∀ x ∈ fr9, x ∈ fj := fun x hx => b4.mem_iff.mpr (List.mem_append_right _ hx)
                        obtain ⟨f5, x1, x2⟩ := w4 G' H' (.o k9 (m'.setCell (some a) o)) (some v9) fn (Same.refl _) (fun _ _ => rfl) (by
                          refine ⟨v9, rfl, n1, ?_⟩
                          cases k9 with
                          | none =>
                            intro x hx
                            rcases List.mem_append.mp (n2.mem_iff.mp hx) with z | z
                            · rcases q5 x z with z | z
                              · exact t3 x (sub0 x z)
                              · exact hn x z
                            · exact w7 x (sub9 x z)
                          | some jj =>
                            refine ⟨t3.1 ▸ w7.1, fun x hx => ?_⟩
                            rcases List.mem_append.mp (n2.mem_iff.mp hx) with z | z
                            · rcases q5 x z with z | z
                              · exact t3.2 x (sub0 x z)
                              · exact .inr (hn x z)
                            · exact w7.2 x (sub9 x z))
                        rw [set_self w1] at x1
                        refine ⟨f5, f9 ++ f4, x1, ?_⟩
                        rw [List.perm_iff_count]
                        intro x
                        have z1 := j2.count_eq x
                        have z2 := w3.count_eq x
                        have z3 := x2.count_eq x
                        have z4 := b4.count_eq x
                        have z5 := n2.count_eq x
                        simp only [List.count_append] at z1 z2 z3 z4 z5 ⊢
                        omega
                      · cases e
                    · cases e
                  · cases e
            · cases e
        · cases e
      · cases e
    · cases e
/-- a call: the promise's demand from the state at the call -/
theorem RMs.app : ∀ {ms ns : List M} {vs us : List V} {fs gs : List (List Addr)}, RMs K G H ms vs fs → RMs K G H ns us gs → RMs K G H (ms ++ ns) (vs ++ us) (fs ++ gs)
  | [], _, _, _, _, _, ⟨h1, h2⟩, q => by subst h1 h2; exact q
  | m :: ms, _, _, _, _, _, ⟨v, vs', f, fs', h1, h2, h3, h4⟩, q => by
    subst h1 h2
    exact ⟨v, _, f, _, rfl, rfl, h3, h4.app q⟩
theorem RpL.rms : ∀ {ds : List D} {xs : List V}, RpL K G ds xs → ∃ gs, RMs K G H (ds.map .d) xs gs ∧ gs.flatten = []
  | [], xs, h => by simp only [RpL] at h; subst h; exact ⟨[], ⟨rfl, rfl⟩, rfl⟩
  | d :: ds, _, h => by
    simp only [RpL] at h
    obtain ⟨y, ys, h1, h2, h3⟩ := h
    subst h1
    obtain ⟨gs, q1, q2⟩ := RpL.rms h3
    exact ⟨[] :: gs, ⟨y, ys, [], gs, rfl, rfl, by simp only [RM]; exact ⟨h2, trivial⟩, q1⟩, by simp [q2]⟩
theorem IOK.app {H0 : Hp} {ds : List D} : ∀ {ms : List M} {vs us : List V} {fs gs : List (List Addr)} {os : List M} {fo : List Addr}, ms.length = vs.length → ms.length = fs.length → IOK K G H H0 (ms ++ ds.map .d) (vs ++ us) (fs ++ gs) os fo → IOK K G H H0 ms vs fs os fo
  | [], [], _, [], _, _, _, _, _, h => by
    have : ∀ {ds : List D} {us gs os fo}, IOK K G H H0 (ds.map .d) us gs os fo → os = [] ∧ fo = [] := by
      intro ds
      induction ds with
      | nil => exact fun h => h
      | cons d ds ih =>
        rintro us gs os fo ⟨_, _, _, _, _, _, h⟩
        rw [if_pos (show (M.d d).isD = true from rfl)] at h
        exact ih h
    exact this h
  | m :: ms, v :: vs, _, f :: fs, _, _, _, l1, l2, ⟨v', vs', f', fs', h1, h2, h3⟩ => by
    obtain ⟨rfl, rfl⟩ := List.cons.inj h1
    obtain ⟨rfl, rfl⟩ := List.cons.inj h2
    refine ⟨v, vs, f, fs, rfl, rfl, ?_⟩
    split at h3
    · rename_i q
      rw [if_pos q]
      exact IOK.app (by simpa using l1) (by simpa using l2) h3
    · rename_i q
      rw [if_neg q]
      obtain ⟨o, os', f1, f2, q1, q2, q3, q4, q5⟩ := h3
      exact ⟨o, os', f1, f2, q1, q2, q3, IOK.app (by simpa using l1) (by simpa using l2) q4, q5⟩
  | [], _ :: _, _, _, _, _, _, l, _, _ => by simp at l
  | _ :: _, [], _, _, _, _, _, l, _, _ => by simp at l
  | [], [], _, _ :: _, _, _, _, _, l, _ => by simp at l
  | _ :: _, _ :: _, _, [], _, _, _, _, l, _ => by simp at l
theorem Iv.call {F : Fn} {src : List (Option Nat)} {ms : List M} {us vs : List V} {dds : List D} {dvs : List V} {full : List M} {ks : Ks} {b2 b3 : List B} {r : M} {os : List M} {Q : VK} {E : XK}
    (I : Iv K c G H σ b (zT ms us ++ T)) (hl : ms.length = us.length) (av : AV σ src us vs) (hd : RpL K G dds dvs) (e1 : fill src ms b = some (full, ks, b2)) (e2 : F (full ++ dds.map .d) = some (r, os)) (e3 : putb src ks full os b2 = some b3)
    (q : ∀ v G' H', Iv K c G' H' σ b3 ((r, v) :: T) → Q v H') : spD K F (vs ++ dvs) H Q E := by
  obtain ⟨st, f1, f2, h1, h2, nd, hg⟩ := I
  obtain ⟨ft, fT, t1, t2, rfl⟩ := RT.app.mp h2
  obtain ⟨ha, old⟩ := RT.list hl t1
  obtain ⟨fs, fh, i1, i2, i3, i4⟩ := take_args e1 h1 ha av old
  obtain ⟨gs, d1, d2⟩ := hd.rms (H := H)
  have ll := i1.len
  have P : (f1 ++ (ft ++ fT)).Perm (fs.flatten ++ (fh ++ fT)) := by
    rw [← List.append_assoc, ← List.append_assoc]
    exact List.Perm.append_right fT i3
  have N := P.nodup_iff.mp nd
  have N1 := List.nodup_append.mp N
  have hg' : ∀ a ∈ fs.flatten ++ (fh ++ fT), G a = none ∧ (a ∈ c.PS ∨ c.H0 a = none) := fun a ha => hg a (P.mem_iff.mpr ha)
  have ef : (fs ++ gs).flatten = fs.flatten := by simp [d2]
  refine ⟨G, full ++ dds.map .d, fs ++ gs, r, os, e2, st.gh, i1.app d1, by rw [ef]; exact N1.1, by rw [ef]; exact fun a ha => (hg' a (by simp [ha])).1, fun v G' H' fr fo S rr io nd2 gn fresh => ?_⟩
  rw [ef] at S
  have io := IOK.app ll.1 ll.2 io
  have hn : ∀ a, H a = none → c.H0 a = none := fun a z => by
    cases q : c.H0 a with
    | none => rfl
    | some o => exact absurd z (st.dm a (by rw [q]; simp))
  have there : ∀ a ∈ fh ++ fT, H a ≠ none := fun a ha => by
    rcases List.mem_append.mp ha with ha | ha
    · exact i2.there a ha
    · exact t2.there a ha
  have out : ∀ a ∈ fh ++ fT, a ∉ fs.flatten := fun a ha hm => N1.2.2 a hm a ha rfl
  have same : ∀ a ∈ fh ++ fT, H' a = H a := fun a ha => by
    cases q : H a with
    | none => exact absurd q (there a ha)
    | some o => exact S.kp a o q (out a ha)
  obtain ⟨f3, f4, j1, j2⟩ := i4 G' H' os fo b3 S.g (fun a ha => same a (by simp [ha])) hn io e3
  have fosub := io.sub
  refine q v G' H' ⟨st.trans S fun a ha => (hg' a (List.mem_append_left _ ha)).2, f3, fr ++ fT, j1, ⟨fr, fT, rr, fun a ha => hn a (fresh a ha), t2.frame S.g (fun a ha => same a (by simp [ha])), rfl⟩, ?_, ?_⟩
  · have N2 : ((fr ++ fo) ++ (fh ++ fT)).Nodup := by
      refine List.nodup_append.mpr ⟨nd2, N1.2.1, fun x hx y hy e => ?_⟩
      subst e
      rcases List.mem_append.mp hx with z | z
      · exact there x hy (fresh x z)
      · rcases fosub x z with z | z
        · exact out x hy z
        · exact there x hy z
    have P2 : ((fr ++ fo) ++ (fh ++ fT)).Perm ((f3 ++ (fr ++ fT)) ++ f4) := by
      have a1 : ((fr ++ fo) ++ (fh ++ fT)).Perm (fr ++ ((fo ++ fh) ++ fT)) := by simp
      refine a1.trans ((List.Perm.append_left fr (List.Perm.append_right fT j2)).trans ?_)
      simp only [List.append_assoc]
      refine perm_l.trans (List.Perm.append_left f3 (List.Perm.append_left fr List.perm_append_comm))
    exact (List.nodup_append.mp (P2.nodup_iff.mp N2)).1
  · intro a ha
    have key : a ∈ fo ∨ a ∈ fh ∨ a ∈ fr ∨ a ∈ fT := by
      rcases List.mem_append.mp ha with z | z
      · have := j2.mem_iff.mpr (List.mem_append_left f4 z)
        rcases List.mem_append.mp this with z | z
        · exact .inl z
        · exact .inr (.inl z)
      · rcases List.mem_append.mp z with z | z
        · exact .inr (.inr (.inl z))
        · exact .inr (.inr (.inr z))
    have old2 : ∀ a ∈ fh ++ fT, G' a = none ∧ (a ∈ c.PS ∨ c.H0 a = none) := fun a ha =>
      ⟨S.nw a (there a ha) (hg' a (List.mem_append_right _ ha)).1, (hg' a (List.mem_append_right _ ha)).2⟩
    rcases key with z | z | z | z
    · refine ⟨gn a (by simp [z]), ?_⟩
      rcases fosub a z with z | z
      · exact (hg' a (List.mem_append_left _ z)).2
      · exact .inr (hn a z)
    · exact old2 a (by simp [z])
    · exact ⟨gn a (by simp [z]), .inr (hn a (fresh a z))⟩
    · exact old2 a (by simp [z])
end
end PL

namespace PL
open PySem PySem.Spec PyProof.Rows L2
/-! ### argument lists, displays -/
def fNil : Av := fun b => some ([], b)
def fCons (f : Ev) (fs : Av) : Av := fun b => match f b with
  | some (m, b1) => (match fs b1 with
    | some (ms, b2) => some (m :: ms, b2)
    | none => none)
  | none => none
def fOf (g : List M → Option M) (fs : Av) : Ev := fun b => match fs b with
  | some (ms, b1) => (match g ms with
    | some m => some (m, b1)
    | none => none)
  | none => none
def M.datas : List M → Option (List D)
  | [] => some []
  | .d x :: ms => (match M.datas ms with
    | some ds => some (x :: ds)
    | none => none)
  | _ :: _ => none
def gTup (ms : List M) : Option M := if ms.length ≤ 1000000 then (match M.datas ms with
  | some ds => some (.d (.tup ds))
  | none => none) else none
def gLst (ms : List M) : Option M := if ms.length ≤ 1000000 then some (.lst ms) else none
section
variable {K : PySem.W.Frag} {c : Cg} {G G' H H' : Hp} {σ : L2.St} {b : List B} {T T1 : List (M × V)} {p : Addr} {o : HO} {d : D} {v : V} {m : M} {i : Nat}
theorem Iv.dropZ : ∀ {ms : List M} {us : List V}, Iv K c G H σ b (zT ms us ++ T) → Iv K c G H σ b T
  | [], _, I => I
  | _ :: _, [], I => I
  | m :: ms, u :: us, I => Iv.dropZ (ms := ms) (us := us) (Iv.drop (t := (m, u)) I)
theorem Iv.datas : ∀ {ms : List M} {us : List V} {ds : List D}, Iv K c G H σ b (zT ms us ++ T) → ms.length = us.length → M.datas ms = some ds → RpL K G ds us
  | [], [], ds, I, _, e => by
    simp only [M.datas, Option.some.injEq] at e
    subst e
    simp [RpL]
  | .d x :: ms, u :: us, ds, I, hl, e => by
    unfold M.datas at e
    split at e
    · rename_i ds' e1
      cases e
      have I' : Iv K c G H σ b ((.d x, u) :: (zT ms us ++ T)) := I
      simp only [RpL]
      exact ⟨u, us, rfl, I'.topD, Iv.datas (ms := ms) (us := us) I'.drop (by simpa using hl) e1⟩
    · cases e
  | .lst _ :: _, _, _, _, _, e => by simp [M.datas] at e
  | .obj .. :: _, _, _, _, _, e => by simp [M.datas] at e
  | .box .. :: _, _, _, _, _, e => by simp [M.datas] at e
  | .st .. :: _, _, _, _, _, e => by simp [M.datas] at e
  | .dic .. :: _, _, _, _, _, e => by simp [M.datas] at e
  | [], _ :: _, _, _, l, _ => by simp at l
  | .d _ :: _, [], _, _, l, _ => by simp at l
theorem AV.pure {src : List (Option Nat)} : ∀ {us vs : List V}, src.all (·.isNone) = true → AV σ src us vs → us = vs := by
  induction src with
  | nil => rintro us vs _ ⟨h1, h2⟩; rw [h1, h2]
  | cons s src ih =>
    intro us vs h av
    cases s with
    | some j => simp at h
    | none =>
      obtain ⟨u, us', vs', h1, h2, h3⟩ := av
      rw [h1, h2, ih (by simpa using h) h3]
/-- temporaries become the items of a new list -/
theorem Iv.newLst {ms : List M} {us : List V} (I : Iv K c G H σ b (zT ms us ++ T)) (hl : ms.length = us.length) (hp : H p = none) : Iv K c G (upd H p (.lst us)) σ b ((.lst ms, .ref p) :: T) := by
  obtain ⟨ft, t1, nd, gn, old, go⟩ := Iv.tmp (T1 := zT ms us) I
  obtain ⟨ha, _⟩ := RT.list hl t1
  have there := t1.there
  have np : p ∉ ft := fun hm => there p hm hp
  have gp : G p = none := I.st.gh.free hp
  have h0 : c.H0 p = none := by
    cases q : c.H0 p with
    | none => rfl
    | some o => exact absurd hp (I.st.dm p (by rw [q]; simp))
  refine go G (upd H p (.lst us)) [(.lst ms, .ref p)] (p :: ft) ⟨Same.refl _, I.st.gh.trans (same_upd hp), fun _ _ h => h, fun a o h _ => same_upd hp a o h, fun a h => ?_⟩ ⟨p :: ft, [], ?_, ?_, rfl, by simp⟩ (by simp [np, nd]) ?_ ?_
  · by_cases q : a = p
    · subst q; rw [upd_same]; simp
    · rw [upd_ne q]; exact h
  · simp only [RM]
    exact ⟨p, us, ft, rfl, upd_same, RML.frame (Same.refl _) _ _ _ ha fun a ha => upd_ne (fun q : a = p => np (q ▸ ha)), rfl⟩
  · intro a ha
    rcases List.mem_cons.mp ha with rfl | ha
    · exact h0
    · exact old a ha
  · intro a ha
    rcases List.mem_cons.mp ha with rfl | ha
    · exact .inr hp
    · exact .inl ha
  · intro a ha
    rcases List.mem_cons.mp ha with rfl | ha
    · exact gp
    · exact gn a ha
end
section
variable {X : Cx} {e e1 e2 e3 : Expr} {es : List Expr} {pos : Pos} {f f1 f2 f3 : Ev} {fs : Av} {src : List (Option Nat)} {x : Str} {t t1 t2 : Tv}
theorem a_nil : AM X [] [] fNil := pa_nil.wk fun σ H Q => by
  rintro ⟨c, G, b, T, ms, b', hf, I, q⟩
  simp only [fNil, Option.some.injEq, Prod.mk.injEq] at hf
  obtain ⟨rfl, rfl⟩ := hf
  exact q [] [] G H rfl ⟨rfl, rfl⟩ I
theorem a_cons (h : EM X e f) (hr : AM X es src fs) (hs : starEach (e :: es) X.env = (false, eval e X.env) :: starEach es X.env := by rfl) : AM X (e :: es) (none :: src) (fCons f fs) := (pa_cons h hr hs).wk fun σ H Q => by
  rintro ⟨c, G, b, T, ms, b', hf, I, q⟩
  unfold fCons at hf
  split at hf
  · rename_i m b1 e1
    split at hf
    · rename_i ms' b2 e2
      cases hf
      refine ⟨c, G, b, T, m, b1, e1, I, fun v G1 H1 I1 => ⟨c, G1, b1, _, ms', b', e2, I1, fun us vs G2 H2 hl av I2 => ?_⟩⟩
      refine q (v :: us) (v :: vs) G2 H2 (by simp [hl]) ⟨v, us, vs, rfl, rfl, av⟩ (I2.perm ?_)
      exact List.perm_middle
    · cases hf
  · cases hf
/-- a name whose owned thing is handed on, to come back -/
def fIo (j : Nat) (fs : Av) : Av := fun b => match b[j]? with
  | some (.o _ _) => fs b
  | some (.d (.adr _)) => fs b
  | _ => none
theorem a_io (j : Nat) (hr : AM X es src fs) (hs : starEach (.Name x pos :: es) X.env = (false, eval (.Name x pos) X.env) :: starEach es X.env := by rfl) (hN : X.N[j]? = some x := by rfl) (hv : Vis X.env.scope x := by first | exact Or.inl rfl | exact Or.inr (Or.inl rfl) | exact Or.inr (Or.inr rfl)) (hd : (x == ("__debug__" : Str)) = false := by decide)
    (hcd : (x == ("__classdict__" : Str)) = false := by decide) : AM X (.Name x pos :: es) (some j :: src) (fIo j fs) := (pa_cons (pv j hN hv hd hcd) hr hs).wk fun σ H Q => by
  rintro ⟨c, G, b, T, ms, b', hf, I, q⟩
  unfold fIo at hf
  split at hf
  · rename_i k m e1
    obtain ⟨v, f, h1, _⟩ := I.getO e1
    refine ⟨v, h1, c, G, b, T, ms, b', hf, I, fun us vs G2 H2 hl av I2 => ?_⟩
    exact q us (v :: vs) G2 H2 hl ⟨v, vs, rfl, h1, av⟩ I2
  · rename_i a e1
    obtain ⟨v, h1, _⟩ := I.getD e1
    refine ⟨v, h1, c, G, b, T, ms, b', hf, I, fun us vs G2 H2 hl av I2 => ?_⟩
    exact q us (v :: vs) G2 H2 hl ⟨v, vs, rfl, h1, av⟩ I2
  · cases hf
theorem e_tup {n : Nat} (h : AM X es src fs) (hs : src.all (·.isNone) = true := by rfl) : EM X (.Tuple es n pos) (fOf PL.gTup fs) := (pe_tup h).wk fun σ H Q => by
  rintro ⟨c, G, b, T, m, b', hf, I, q⟩
  unfold fOf at hf
  split at hf
  · rename_i ms b1 e1
    split at hf
    · rename_i m1 e2
      cases hf
      refine ⟨c, G, b, T, ms, b', e1, I, fun us vs G1 H1 hl av I1 => ?_⟩
      have e := av.pure hs
      subst e
      unfold PL.gTup at e2
      split at e2
      · rename_i hz
        split at e2
        · rename_i ds e3
          cases e2
          refine ⟨by rw [← hl]; exact le_line hz, fun p hp => q _ _ _ (I1.dropZ.newT hp (I1.datas hl e3))⟩
        · cases e2
      · cases e2
    · cases hf
  · cases hf
theorem e_lst (h : AM X es src fs) (hs : src.all (·.isNone) = true := by rfl) : EM X (.List es pos) (fOf gLst fs) := (pe_lst h).wk fun σ H Q => by
  rintro ⟨c, G, b, T, m, b', hf, I, q⟩
  unfold fOf at hf
  split at hf
  · rename_i ms b1 e1
    split at hf
    · rename_i m1 e2
      cases hf
      refine ⟨c, G, b, T, ms, b', e1, I, fun us vs G1 H1 hl av I1 => ?_⟩
      have e := av.pure hs
      subst e
      unfold gLst at e2
      split at e2
      · rename_i hz
        cases e2
        exact ⟨by rw [← hl]; exact le_line hz, fun p hp => q _ _ _ (I1.newLst hl hp)⟩
      · cases e2
    · cases hf
  · cases hf
/-! ### calls -/
def fCall (F : Fn) (dds : List D) (src : List (Option Nat)) (fs : Av) : Ev := fun b => match fs b with
  | some (ms, b1) => (match fill src ms b1 with
    | some (full, ks, b2) => (match F (full ++ dds.map .d) with
      | some (r, os) => (match putb src ks full os b2 with
        | some b3 => some (r, b3)
        | none => none)
      | none => none)
    | none => none)
  | none => none
theorem call_in {F : Fn} {dds : List D} {dvs : List V} {E : XK} {K : PySem.W.Frag} (hd : ∀ G, RpL K G dds dvs) : ∀ σ H Q, teO K (fCall F dds src fs) σ H Q → tCall (spD K F) dvs E (taO K src fs) σ H Q := fun σ H Q => by
  rintro ⟨c, G, b, T, m, b', hf, I, q⟩
  unfold fCall at hf
  split at hf
  · rename_i ms b1 e1
    split at hf
    · rename_i full ks b2 e2
      split at hf
      · rename_i r os e3
        split at hf
        · rename_i b3 e4
          cases hf
          exact ⟨c, G, b, T, ms, b1, e1, I, fun us vs G1 H1 hl av I1 => I1.call hl av (hd G1) e2 e3 e4 q⟩
        · cases hf
      · cases hf
    · cases hf
  · cases hf
/-- what stands of a def of the module -/
structure DefOk (P : Program) (w : World) (K : PySem.W.Frag) (mg : Str → Option Value) (base : Heap) (k : Nat) (x : Str) (np : Nat) (dvs : List V) (F : Fn) : Prop where
  ex : ∃ f fd ps ds, mg x = some (.ref f) ∧ PySem.W.keepIn K (.ref f) = true ∧ Binds K fd ps ds ∧ Vals dvs ds ∧ FnOk P w K mg base CX0 k f fd ps (spD K F)
theorem e_call {k : Nat} {np : Nat} {F : Fn} {dds : List D} {dvs : List V} {p : Pos} (h : DefOk X.prog X.w X.K X.mg X.base k x np dvs F) (hr : Room k X.A) (hd : ∀ G, RpL X.K G dds dvs) (ha : AM X (e :: es) src fs) (hg : Gl X x := by rfl)
    (hdb : (x == ("__debug__" : Str)) = false := by decide) (he : starEach (e :: es) X.env = (false, eval e X.env) :: starEach es X.env := by rfl) (hpl : (backTo pos (starEach es X.env)).any (·.1) = false := by rfl) :
    EM X (.Call (.Name x p) (e :: es) [] pos) (fCall F dds src fs) := by
  obtain ⟨f, fd, ps, ds, h1, h2, h3, h4, h5⟩ := h.ex
  exact (pe_call h5 hr hg h1 h2 h3 h4 pass0 ha hdb he hpl).wk (call_in hd)
theorem e_call0 {k : Nat} {np : Nat} {F : Fn} {dds : List D} {dvs : List V} {p : Pos} (h : DefOk X.prog X.w X.K X.mg X.base k x np dvs F) (hr : Room k X.A) (hd : ∀ G, RpL X.K G dds dvs) (hg : Gl X x := by rfl)
    (hdb : (x == ("__debug__" : Str)) = false := by decide) : EM X (.Call (.Name x p) [] [] pos) (fCall F dds [] fNil) := by
  obtain ⟨f, fd, ps, ds, h1, h2, h3, h4, h5⟩ := h.ex
  refine (pe_call0 (E := E0) h5 hr hg h1 h2 h3 h4 pass0 hdb).wk fun σ H Q h => ?_
  obtain ⟨c, G, b, T, ms, b1, e1, I, q⟩ := call_in (E := E0) hd σ H Q h
  simp only [fNil, Option.some.injEq, Prod.mk.injEq] at e1
  obtain ⟨rfl, rfl⟩ := e1
  exact q [] [] G H rfl ⟨rfl, rfl⟩ I
/-- built-ins by values: one data in, an answer -/
def CaS (K : PySem.W.Frag) (r : List V → Hp → VK → Prop) (g : List M → Option M) : Prop := ∀ c G H σ b T ms us m Q, g ms = some m → ms.length = us.length → Iv K c G H σ b (zT ms us ++ T) → (∀ v G' H', Iv K c G' H' σ b ((m, v) :: T) → Q v H') → r us H Q
theorem cb_in {K : PySem.W.Frag} {r : List V → Hp → VK → Prop} {g : List M → Option M} (hs : CaS K r g) (hn : src.all (·.isNone) = true) : ∀ σ H Q, teO K (fOf g fs) σ H Q → tCB r (taO K src fs) σ H Q := fun σ H Q => by
  rintro ⟨c, G, b, T, m, b', hf, I, q⟩
  unfold fOf at hf
  split at hf
  · rename_i ms b1 e1
    split at hf
    · rename_i m1 e2
      cases hf
      refine ⟨c, G, b, T, ms, b', e1, I, fun us vs G1 H1 hl av I1 => ?_⟩
      have e := av.pure hn
      subst e
      exact hs c G1 H1 σ b' T ms us _ Q e2 hl I1 q
    · cases hf
  · cases hf

/-! ### tests -/
def tNotT (t : Tv) : Tv := fun b => match t b with
  | some (k, b') => some (!k, b')
  | none => none
def tAndT (t1 t2 : Tv) : Tv := fun b => match t1 b with
  | some (true, b') => t2 b'
  | some (false, b') => some (false, b')
  | none => none
def tOrT (t1 t2 : Tv) : Tv := fun b => match t1 b with
  | some (true, b') => some (true, b')
  | some (false, b') => t2 b'
  | none => none
theorem t_not (h : TM X e t) : TM X (.UnaryOp .Not e pos) (tNotT t) := (pt_not h).wk fun σ H Q => by
  rintro ⟨c, G, b, T, r, b', hf, I, q⟩
  unfold tNotT at hf
  split at hf
  · rename_i k b1 e1
    cases hf
    exact ⟨c, G, b, T, k, b', e1, I, fun G' H' I' => q G' H' I'⟩
  · cases hf
theorem w_one {op} (h : TM X e t) (ho : op = .And ∨ op = .Or) : WM X (.BoolOp op [e] pos) t := by
  rcases ho with rfl | rfl
  · exact pw_and1 h
  · exact pw_or1 h
theorem w_and (h1 : TM X e1 t1) (h2 : WM X (.BoolOp .And (e2 :: es) pos) t2) : WM X (.BoolOp .And (e1 :: e2 :: es) pos) (tAndT t1 t2) := (pw_and h1 h2).wk fun σ H Q => by
  rintro ⟨c, G, b, T, r, b', hf, I, q⟩
  unfold tAndT at hf
  split at hf
  · rename_i b1 e1
    refine ⟨c, G, b, T, true, b1, e1, I, fun G' H' I' => ?_⟩
    refine iteT ?_
    exact ⟨c, G', b1, T, r, b', hf, I', q⟩
  · rename_i b1 e1
    cases hf
    refine ⟨c, G, b, T, false, b', e1, I, fun G' H' I' => ?_⟩
    refine iteF ?_
    exact q G' H' I'
  · cases hf
theorem w_or (h1 : TM X e1 t1) (h2 : WM X (.BoolOp .Or (e2 :: es) pos) t2) : WM X (.BoolOp .Or (e1 :: e2 :: es) pos) (tOrT t1 t2) := (pw_or h1 h2).wk fun σ H Q => by
  rintro ⟨c, G, b, T, r, b', hf, I, q⟩
  unfold tOrT at hf
  split at hf
  · rename_i b1 e1
    cases hf
    refine ⟨c, G, b, T, true, b', e1, I, fun G' H' I' => ?_⟩
    refine iteT ?_
    exact q G' H' I'
  · rename_i b1 e1
    refine ⟨c, G, b, T, false, b1, e1, I, fun G' H' I' => ?_⟩
    refine iteF ?_
    exact ⟨c, G', b1, T, r, b', hf, I', q⟩
  · cases hf
theorem t_w (h : WM X e t) : TM X e t := h.pt
/-- an expression that gives True or False -/
theorem t_v (h : EM X e f) (he : ∀ whole, isTrue e X.env whole = (do let v ← whole; standAt e.pos; holding [v] (truthy v)) := by intro _; rfl) : TM X e (fT f) := (pt_val h he).wk fun σ H Q => by
  rintro ⟨c, G, b, T, r, b', hf, I, q⟩
  unfold fT at hf
  split at hf
  · rename_i k b1 e1
    cases hf
    refine ⟨c, G, b, T, _, b', e1, I, fun v G' H' I' => ?_⟩
    have z := I'.topD
    simp only [Rp] at z
    exact ⟨_, z, q G' H' I'.drop⟩
  · cases hf
def fNot (f : Ev) : Ev := fun b => match f b with
  | some (.d (.bl k), b') => some (.d (.bl (!k)), b')
  | _ => none
theorem e_not (h : EM X e f) : EM X (.UnaryOp .Not e pos) (fNot f) := (pe_not h).wk fun σ H Q => by
  rintro ⟨c, G, b, T, m, b', hf, I, q⟩
  unfold fNot at hf
  split at hf
  · rename_i k b1 e1
    cases hf
    refine ⟨c, G, b, T, _, b', e1, I, fun v G' H' I' => ?_⟩
    have z := I'.topD
    simp only [Rp] at z
    exact ⟨k, z, q _ G' H' (I'.drop.pushD rp_bl)⟩
  · cases hf
def fAnd (f1 f2 : Ev) : Ev := fun b => match f1 b with
  | some (.d (.bl true), b') => f2 b'
  | some (.d (.bl false), b') => some (.d (.bl false), b')
  | _ => none
def fOr (f1 f2 : Ev) : Ev := fun b => match f1 b with
  | some (.d (.bl true), b') => some (.d (.bl true), b')
  | some (.d (.bl false), b') => f2 b'
  | _ => none
theorem e_one {op} (h : EM X e f) : EM X (.BoolOp op [e] pos) f := pe_one h
theorem e_and (h1 : EM X e1 f1) (h2 : EM X (.BoolOp .And (e2 :: es) pos) f2) : EM X (.BoolOp .And (e1 :: e2 :: es) pos) (fAnd f1 f2) := (pe_and h1 h2).wk fun σ H Q => by
  rintro ⟨c, G, b, T, m, b', hf, I, q⟩
  unfold fAnd at hf
  split at hf
  · rename_i b1 e1
    refine ⟨c, G, b, T, _, b1, e1, I, fun v G' H' I' => ?_⟩
    have z := I'.topD
    simp only [Rp] at z
    refine ⟨true, z, ?_⟩
    refine iteT ?_
    exact ⟨c, G', b1, T, m, b', hf, I'.drop, q⟩
  · rename_i b1 e1
    cases hf
    refine ⟨c, G, b, T, _, b', e1, I, fun v G' H' I' => ?_⟩
    have z := I'.topD
    simp only [Rp] at z
    refine ⟨false, z, ?_⟩
    refine iteF ?_
    exact q _ G' H' (I'.drop.pushD rp_bl)
  · cases hf
theorem e_or (h1 : EM X e1 f1) (h2 : EM X (.BoolOp .Or (e2 :: es) pos) f2) : EM X (.BoolOp .Or (e1 :: e2 :: es) pos) (fOr f1 f2) := (pe_or h1 h2).wk fun σ H Q => by
  rintro ⟨c, G, b, T, m, b', hf, I, q⟩
  unfold fOr at hf
  split at hf
  · rename_i b1 e1
    cases hf
    refine ⟨c, G, b, T, _, b', e1, I, fun v G' H' I' => ?_⟩
    have z := I'.topD
    simp only [Rp] at z
    refine ⟨true, z, ?_⟩
    refine iteT ?_
    exact q _ G' H' (I'.drop.pushD rp_bl)
  · rename_i b1 e1
    refine ⟨c, G, b, T, _, b1, e1, I, fun v G' H' I' => ?_⟩
    have z := I'.topD
    simp only [Rp] at z
    refine ⟨false, z, ?_⟩
    refine iteF ?_
    exact ⟨c, G', b1, T, m, b', hf, I'.drop, q⟩
  · cases hf
def fIf (t : Tv) (f1 f2 : Ev) : Ev := fun b => match t b with
  | some (true, b') => f1 b'
  | some (false, b') => f2 b'
  | none => none
theorem e_if (h : TM X e t) (h1 : EM X e1 f1) (h2 : EM X e2 f2) : EM X (.IfExp e e1 e2 pos) (fIf t f1 f2) := (pe_ifExp h h1 h2).wk fun σ H Q => by
  rintro ⟨c, G, b, T, m, b', hf, I, q⟩
  unfold fIf at hf
  split at hf
  · rename_i b1 e1
    refine ⟨c, G, b, T, true, b1, e1, I, fun G' H' I' => ?_⟩
    refine iteT ?_
    exact ⟨c, G', b1, T, m, b', hf, I', q⟩
  · rename_i b1 e1
    refine ⟨c, G, b, T, false, b1, e1, I, fun G' H' I' => ?_⟩
    refine iteF ?_
    exact ⟨c, G', b1, T, m, b', hf, I', q⟩
  · cases hf
/-- a op1 b op2 c of ints -/
def fChain (h1 h2 : Int → Int → Bool) (f1 f2 f3 : Ev) : Ev := fun b => match f1 b with
  | some (.d (.int i), b1) => (match f2 b1 with
    | some (.d (.int j), b2) => if h1 i j = true then (match f3 b2 with
        | some (.d (.int k), b3) => some (.d (.bl (h2 j k)), b3)
        | _ => none) else some (.d (.bl false), b2)
    | _ => none)
  | _ => none
theorem chain_in {K : PySem.W.Frag} {h1 h2 : Int → Int → Bool} : ∀ σ H Q, teO K (fChain h1 h2 f1 f2 f3) σ H Q → tChain (rI0 fun i j => .bl (h1 i j)) (rI0 fun i j => .bl (h2 i j)) (teO K f1) (teO K f2) (teO K f3) σ H Q := fun σ H Q => by
  rintro ⟨c, G, b, T, m, b', hf, I, q⟩
  unfold fChain at hf
  split at hf
  · rename_i i b1 e1
    split at hf
    · rename_i j b2 e2
      refine ⟨c, G, b, T, _, b1, e1, I, fun x G1 H1 I1 => ⟨c, G1, b1, _, _, b2, e2, I1, fun y G2 H2 I2 => ?_⟩⟩
      have r2 := I2.topD
      have r1 := I2.drop.topD
      simp only [Rp] at r1 r2
      refine ⟨i, j, r1, r2, h1 i j, rfl, ?_⟩
      split at hf
      · rename_i hk
        rw [if_pos hk]
        split at hf
        · rename_i k b3 e3
          cases hf
          refine ⟨c, G2, b2, _, _, b', e3, I2.drop.drop, fun z G3 H3 I3 => ?_⟩
          have r3 := I3.topD
          simp only [Rp] at r3
          exact ⟨j, k, r2, r3, q _ G3 H3 (I3.drop.pushD rp_bl)⟩
        · cases hf
      · rename_i hk
        cases hf
        rw [if_neg hk]
        exact q _ G2 H2 (I2.drop.drop.pushD rp_bl)
    · cases hf
  · cases hf
theorem e_chain {op1 op2 : CmpOp} {h1 h2 : Int → Int → Bool} (ho : OpR X (compareOp op1) (rI0 fun i j => .bl (h1 i j))) (ho' : OpR X (compareOp op2) (rI0 fun i j => .bl (h2 i j))) (a : EM X e1 f1) (b : EM X e2 f2) (c : EM X e3 f3)
    (hm : lastMarks [op1, op2] [e2, e3] = false := by with_unfolding_all rfl) : EM X (.Compare e1 [op1, op2] [e2, e3] pos) (fChain h1 h2 f1 f2 f3) := (pe_chain ho ho' a b c hm).wk chain_in
theorem t_chain {op1 op2 : CmpOp} {h1 h2 : Int → Int → Bool} (ho : OpR X (compareOp op1) (rI0 fun i j => .bl (h1 i j))) (ho' : OpR X (compareOp op2) (rI0 fun i j => .bl (h2 i j))) (a : EM X e1 f1) (b : EM X e2 f2) (c : EM X e3 f3)
    (hm : lastMarks [op1, op2] [e2, e3] = false := by with_unfolding_all rfl) : TM X (.Compare e1 [op1, op2] [e2, e3] pos) (fT (fChain h1 h2 f1 f2 f3)) := t_tTest (pt_chain ho ho' a b c hm) chain_in
end
end PL

namespace PL
open PySem PySem.Spec PyProof.Rows L2
/-! ### statements -/
def sSet (i : Nat) (f : Ev) : Sv := fun b => match f b with
  | some (m, b1) => if i < b1.length then some (.nx, b1.set i m.toB) else none
  | none => none
def sDrop (f : Ev) : Sv := fun b => match f b with
  | some (_, b1) => some (.nx, b1)
  | none => none
def sRet (f : Ev) : Sv := fun b => match f b with
  | some (m, b1) => some (.rt m, b1)
  | none => none
def sRetN : Sv := fun b => some (.rt (.d .non), b)
def sPass : Sv := fun b => some (.nx, b)
def sIf (t : Tv) (g1 g2 : Sv) : Sv := fun b => match t b with
  | some (true, b1) => g1 b1
  | some (false, b1) => g2 b1
  | none => none
def sSeq (g1 g2 : Sv) : Sv := fun b => match g1 b with
  | some (.nx, b1) => g2 b1
  | r => r
def sNever : Sv := fun _ => none
section
variable {K : PySem.W.Frag} {c : Cg} {G G' H H' : Hp} {σ : L2.St} {b : List B} {T T1 : List (M × V)} {p : Addr} {o : HO} {d : D} {v : V} {m : M} {i : Nat}
theorem Iv.dropN : ∀ {s : List (M × V)}, Iv K c G H σ b (s ++ T) → Iv K c G H σ b T
  | [], I => I
  | t :: s, I => Iv.dropN (s := s) (Iv.drop (t := t) I)
end
section
variable {X : Cx} {e e1 e2 e3 : Expr} {es : List Expr} {st : Stmt} {sts : List Stmt} {pos : Pos} {f f1 f2 f3 : Ev} {fs : Av} {src : List (Option Nat)} {x : Str} {t t1 t2 : Tv} {g g1 g2 : Sv}
theorem s_set (i : Nat) (nd : X.N.Nodup) {pos' : Pos} (h : EM X e f) (hi : X.N[i]? = some x := by rfl) (hx : Loc X.env.scope x := by first | exact Or.inl rfl | exact Or.inr rfl) (hs : swapsWith e (some (.Name x pos')) pos.line X.env = pure false := by rfl) (hf : X.fn x = true ∨ X.env.scope.names.lookup x = some .local := by first | exact .inl rfl | exact .inr rfl | assumption) :
    SM X (.Assign [.Name x pos'] e pos) (sSet i f) := (ps_set (i := i) nd hi hx h hs hf).wk fun D σ H => by
  rintro ⟨c, G, b, T, r, b', hf, I, q⟩
  unfold sSet at hf
  split at hf
  · rename_i m b1 e1
    split at hf
    · rename_i hl
      cases hf
      exact ⟨c, G, b, T, m, b1, e1, I, fun v G' H' I' => q _ G' H' (I'.put hl)⟩
    · cases hf
  · cases hf
theorem s_expr (h : EM X e f) (hs : swapsWith e none pos.line X.env = pure false := by rfl) : SM X (.Expr e pos) (sDrop f) := (ps_expr h hs).wk fun D σ H => by
  rintro ⟨c, G, b, T, r, b', hf, I, q⟩
  unfold sDrop at hf
  split at hf
  · rename_i m b1 e1
    cases hf
    exact ⟨c, G, b, T, m, b', e1, I, fun v G' H' I' => q _ G' H' I'.drop⟩
  · cases hf
theorem s_ret (h : EM X e f) : SM X (.Return (some e) pos) (sRet f) := (ps_ret h).wk fun D σ H => by
  rintro ⟨c, G, b, T, r, b', hf, I, q⟩
  unfold sRet at hf
  split at hf
  · rename_i m b1 e1
    cases hf
    exact ⟨c, G, b, T, m, b', e1, I, fun v G' H' I' => q v σ G' H' I'⟩
  · cases hf
theorem s_retN : SM X (.Return none pos) sRetN := ps_retN.wk fun D σ H => by
  rintro ⟨c, G, b, T, r, b', hf, I, q⟩
  simp only [sRetN, Option.some.injEq, Prod.mk.injEq] at hf
  obtain ⟨rfl, rfl⟩ := hf
  exact q .non σ G H (I.pushD (by simp [Rp]))
theorem s_pass : SM X (.Pass pos) sPass := ps_pass.wk fun D σ H => by
  rintro ⟨c, G, b, T, r, b', hf, I, q⟩
  simp only [sPass, Option.some.injEq, Prod.mk.injEq] at hf
  obtain ⟨rfl, rfl⟩ := hf
  exact q σ G H I
theorem s_if (h : TM X e t) (h1 : SMs X sts g1) {sts2 : List Stmt} (h2 : SMs X sts2 g2) : SM X (.If e sts sts2 pos) (sIf t g1 g2) := (ps_if h h1 h2).wk fun D σ H => by
  rintro ⟨c, G, b, T, r, b', hf, I, q⟩
  unfold sIf at hf
  split at hf
  · rename_i b1 e1
    refine ⟨c, G, b, T, true, b1, e1, I, fun G' H' I' => ?_⟩
    refine iteT ?_
    exact ⟨c, G', b1, T, r, b', hf, I', q⟩
  · rename_i b1 e1
    refine ⟨c, G, b, T, false, b1, e1, I, fun G' H' I' => ?_⟩
    refine iteF ?_
    exact ⟨c, G', b1, T, r, b', hf, I', q⟩
  · cases hf
theorem s_never : SM X st sNever := ps_never.wk fun D σ H => by
  rintro ⟨c, G, b, T, r, b', hf, I, q⟩
  cases hf
theorem ss_never : SMs X sts sNever := pss_never.wk fun D σ H => by
  rintro ⟨c, G, b, T, r, b', hf, I, q⟩
  cases hf
theorem ss_nil : SMs X [] sPass := pss_nil.wk fun D σ H => by
  rintro ⟨c, G, b, T, r, b', hf, I, q⟩
  simp only [sPass, Option.some.injEq, Prod.mk.injEq] at hf
  obtain ⟨rfl, rfl⟩ := hf
  exact q σ G H I
theorem ss_one (h : SM X st g) : SMs X [st] g := pss_one h
theorem ss_cons (h1 : SM X st g1) (h2 : SMs X sts g2) : SMs X (st :: sts) (sSeq g1 g2) := (pss_cons h1 h2).wk fun D σ H => by
  rintro ⟨c, G, b, T, r, b', hf, I, q⟩
  unfold sSeq at hf
  split at hf
  · rename_i b1 e1
    refine ⟨c, G, b, T, .nx, b1, e1, I, fun σ' G' H' I' => ⟨c, G', b1, T, r, b', hf, I', ?_⟩⟩
    cases r <;> exact q
  · refine ⟨c, G, b, T, r, b', hf, I, ?_⟩
    cases r with
    | nx => rename_i h; exact (h _ hf).elim
    | _ => exact q

/-! ### targets -/
abbrev Gv := D → List B → Option (List B)
def KpS (ix : List Nat) (σ σ' : L2.St) : Prop := σ'.length = σ.length ∧ ∀ j, j ∉ ix → σ'[j]? = σ[j]?
def tgO (K : PySem.W.Frag) (ix : List Nat) (g : Gv) : TG := fun v σ H Q => ∃ c G b T d b', g d b = some b' ∧ Iv K c G H σ b ((.d d, v) :: T) ∧ ∀ σ' G' H', KpS ix σ σ' → Iv K c G' H' σ' b' T → Q σ' H'
abbrev GM (X : Cx) (e : Expr) (ix : List Nat) (g : Gv) : Prop := PG X e (tgO X.K ix g)
theorem _root_.L2.PG.wk {X : Cx} {tg : Expr} {t t' : TG} (h : PG X tg t) (hi : ∀ v σ H Q, t' v σ H Q → t v σ H Q) : PG X tg t' := ⟨fun pins s σ H v u Q I r q => h.run pins s σ H v u Q I r (hi v σ H Q q)⟩
def gNm (i : Nat) : Gv := fun d b => if i < b.length then some (b.set i (.d d)) else none
theorem g_name (i : Nat) (nd : X.N.Nodup) (hi : X.N[i]? = some x := by rfl) (hx : Loc X.env.scope x := by first | exact Or.inl rfl | exact Or.inr rfl) (hf : X.fn x = true ∨ X.env.scope.names.lookup x = some .local := by first | exact .inl rfl | exact .inr rfl | assumption) :
    GM X (.Name x pos) [i] (gNm i) := (pg_name (i := i) nd hi hx hf).wk fun v σ H Q => by
  rintro ⟨c, G, b, T, d, b', hf, I, q⟩
  unfold gNm at hf
  split at hf
  · rename_i hl
    cases hf
    refine q _ G H ⟨by simp, fun j hj => ?_⟩ (I.put hl)
    rw [List.getElem?_set_ne (by simp at hj; omega)]
  · cases hf
/-- several names at once -/
abbrev Gvs := List D → List B → Option (List B)
def tgsO (K : PySem.W.Frag) (ix : List Nat) (g : Gvs) : TGs := fun vs σ H Q => ∃ c G b T ds b', g ds b = some b' ∧ ds.length = vs.length ∧ Iv K c G H σ b (zT (ds.map .d) vs ++ T) ∧ ∀ σ' G' H', KpS ix σ σ' → Iv K c G' H' σ' b' T → Q σ' H'
abbrev GMs (X : Cx) (es : List Expr) (ix : List Nat) (g : Gvs) : Prop := PGs X es (tgsO X.K ix g)
def gsNil : Gvs := fun ds b => match ds with
  | [] => some b
  | _ => none
theorem _root_.L2.PGs.wk {X : Cx} {tg : List Expr} {t t' : TGs} (h : PGs X tg t) (hi : ∀ v σ H Q, t' v σ H Q → t v σ H Q) : PGs X tg t' := ⟨fun pins s σ H v u Q I r q => h.run pins s σ H v u Q I r (hi v σ H Q q)⟩
theorem gs_nil : GMs X [] [] gsNil := pgs_nil.wk fun vs σ H Q => by
  rintro ⟨c, G, b, T, ds, b', hf, hl, I, q⟩
  unfold gsNil at hf
  split at hf
  · cases hf
    have e : vs = [] := by cases vs <;> simp at hl ⊢
    subst e
    exact ⟨rfl, q σ G H ⟨rfl, fun _ _ => rfl⟩ I⟩
  · cases hf
def gCons (g : Gv) (gs : Gvs) : Gvs := fun ds b => match ds with
  | d :: ds => (match g d b with
    | some b1 => gs ds b1
    | none => none)
  | [] => none
theorem gs_cons {ix ix2 : List Nat} {g : Gv} {gs : Gvs} (h1 : GM X e ix g) (h2 : GMs X es ix2 gs) (hs : (assignEach (e :: es) X.env).map (·.2) = assign e X.env :: (assignEach es X.env).map (·.2) := by rfl) : GMs X (e :: es) (ix ++ ix2) (PL.gCons g gs) := (pgs_cons h1 h2 hs).wk fun vs σ H Q => by
  rintro ⟨c, G, b, T, ds, b', hf, hl, I, q⟩
  unfold PL.gCons at hf
  split at hf
  · rename_i d ds
    cases vs with
    | nil => simp at hl
    | cons v vs =>
      split at hf
      · rename_i b1 e1
        refine ⟨v, vs, rfl, c, G, b, zT (ds.map .d) vs ++ T, d, b1, e1, I, fun σ1 G1 H1 k1 I1 => ⟨c, G1, b1, T, ds, b', hf, by simpa using hl, I1, fun σ2 G2 H2 k2 I2 => q σ2 G2 H2 ⟨k2.1.trans k1.1, fun j hj => ?_⟩ I2⟩⟩
        rw [k2.2 j (by simp at hj; exact hj.2), k1.2 j (by simp at hj; exact hj.1)]
      · cases hf
  · cases hf
def gTu (n : Nat) (gs : Gvs) : Gv := fun d b => match d with
  | .tup ds => if ds.length = n then gs ds b else none
  | _ => none
theorem g_tup {n k : Nat} {ix : List Nat} {gs : Gvs} (hc : X.calm = true) (h : GMs X es ix gs) (hn : (assignEach es X.env).length = n := by rfl) (hst : (assignEach es X.env).findIdx? (·.1) = none := by rfl) : GM X (.Tuple es k pos) ix (gTu n gs) := (pg_tup hc h hn hst).wk fun v σ H Q => by
  rintro ⟨c, G, b, T, d, b', hf, I, q⟩
  unfold gTu at hf
  split at hf
  · rename_i ds
    split at hf
    · rename_i hl
      have r := I.topD
      simp only [Rp] at r
      obtain ⟨p, xs, rfl, h2, h3⟩ := r
      refine ⟨p, xs, rfl, sqt_mono I.st.gh h2, by rw [← h3.len]; exact hl, c, G, b, T, ds, b', hf, h3.len, ?_, q⟩
      have push : ∀ {ds : List D} {xs : List V}, RpL X.K G ds xs → Iv X.K c G H σ b T → Iv X.K c G H σ b (zT (ds.map .d) xs ++ T) := by
        intro ds
        induction ds with
        | nil => intro xs h I; simp only [RpL] at h; subst h; exact I
        | cons d ds ih =>
          intro xs h I
          simp only [RpL] at h
          obtain ⟨y, ys, rfl, h2, h3⟩ := h
          exact (ih h3 I).pushD h2
      exact push h3 I.drop
    · cases hf
  · cases hf
/-- target = data -/
def sAsg (f : Ev) (g : Gv) : Sv := fun b => match f b with
  | some (.d d, b1) => (match g d b1 with
    | some b2 => some (.nx, b2)
    | none => none)
  | _ => none
theorem s_asg {tg : Expr} {ix : List Nat} {g : Gv} (h : EM X e f) (hg : GM X tg ix g) (hs : swapsWithSole [tg] e pos.line X.env = pure false := by rfl) (hw : swappedStores [tg] e X.env = pure none := by rfl)
    (h1 : (assignEach [tg] X.env).map (·.2) = [assign tg X.env] := by rfl) : SM X (.Assign [tg] e pos) (sAsg f g) := (ps_asg h hg hs hw h1).wk fun D σ H => by
  rintro ⟨c, G, b, T, r, b', hf, I, q⟩
  unfold sAsg at hf
  split at hf
  · rename_i d b1 e1
    split at hf
    · rename_i b2 e2
      cases hf
      exact ⟨c, G, b, T, _, b1, e1, I, fun v G1 H1 I1 => ⟨c, G1, b1, T, d, b', e2, I1, fun σ' G' H' _ I' => q σ' G' H' I'⟩⟩
    · cases hf
  · cases hf
/-- a, b = x, y -/
def sPar (i j : Nat) (fs : Av) : Sv := fun b => match fs b with
  | some ([m1, m2], b1) => if i < b1.length ∧ j < b1.length then some (.nx, (b1.set i m1.toB).set j m2.toB) else none
  | _ => none
theorem s_par (i j : Nat) {y : Str} {a e2 : Expr} {px py pt : Pos} {kt k2 pt2} (hc : X.calm = true) (hN : X.N.Nodup) (ha : AM X [a, e2] src fs) (hsrc : src.all (·.isNone) = true := by rfl) (hi : X.N[i]? = some x := by rfl) (hj : X.N[j]? = some y := by rfl) (hij : i ≠ j := by decide)
    (hx : X.env.scope.names.lookup x = some .local := by rfl) (hy : X.env.scope.names.lookup y = some .local := by rfl)
    (hw : swappedStores [.Tuple [.Name x px, .Name y py] kt pt] (.Tuple [a, e2] k2 pt2) X.env = pure (some [x, y]) := by rfl)
    (hs : swapsWithSole [.Tuple [.Name x px, .Name y py] kt pt] (.Tuple [a, e2] k2 pt2) pos.line X.env = pure false := by rfl) :
    SM X (.Assign [.Tuple [.Name x px, .Name y py] kt pt] (.Tuple [a, e2] k2 pt2) pos) (sPar i j fs) := (ps_par (i := i) (j := j) hc hN hi hj hij hx hy ha hw hs).wk fun D σ H => by
  rintro ⟨c, G, b, T, r, b', hf, I, q⟩
  unfold sPar at hf
  split at hf
  · rename_i m1 m2 b1 e1
    split at hf
    · rename_i hl
      cases hf
      refine ⟨c, G, b, T, _, b1, e1, I, fun us vs G1 H1 hl2 av I1 => ?_⟩
      have e := av.pure hsrc
      subst e
      obtain ⟨u1, u2, rfl⟩ : ∃ u1 u2, us = [u1, u2] := by
        cases us with
        | nil => simp at hl2
        | cons u1 us =>
          cases us with
          | nil => simp at hl2
          | cons u2 us =>
            cases us with
            | nil => exact ⟨u1, u2, rfl⟩
            | cons _ _ => simp at hl2
      refine ⟨u1, u2, rfl, ?_⟩
      have I2 : Iv X.K c G1 H1 σ b1 ((m1, u1) :: (m2, u2) :: T) := I1
      exact q _ G1 H1 ((I2.put hl.1).put (by simpa using hl.2))
    · cases hf
  · cases hf

/-! ### what is walked -/
def ItOk (K : PySem.W.Frag) (J : It) (s : List (M × V)) (ds : List D) : Prop := ∀ c G H σ b T i, Iv K c G H σ b (s ++ T) →
  (i < ds.length → J.go i H ∧ ∀ x H', J.yld i H x H' → ∃ d G', ds[i]? = some d ∧ Iv K c G' H' σ b ((.d d, x) :: (s ++ T))) ∧ (ds.length ≤ i → J.stop i H)
abbrev Lv := List B → Option (List D × List B)
def tiO (K : PySem.W.Frag) (f : Lv) : TI := fun σ H R => ∃ c G b T ds b', f b = some (ds, b') ∧ Iv K c G H σ b T ∧ ∀ J s G' H', Iv K c G' H' σ b' (s ++ T) → ItOk K J s ds → R J H'
abbrev IM (X : Cx) (tg e : Expr) (f : Lv) : Prop := PI X tg e (tiO X.K f)
theorem _root_.L2.PI.wk {X : Cx} {tg e : Expr} {t t' : TI} (h : PI X tg e t) (hi : ∀ σ H R, t' σ H R → t σ H R) : PI X tg e t' := ⟨fun pins s σ H R I q => h.run pins s σ H R I (hi σ H R q)⟩
def lLst (f : Ev) : Lv := fun b => match f b with
  | some (.d (.lst ds), b1) => some (ds, b1)
  | some (.d (.seq ds), b1) => some (ds, b1)
  | _ => none
def lTup (f : Ev) : Lv := fun b => match f b with
  | some (.d (.tup ds), b1) => some (ds, b1)
  | _ => none
theorem item_of {K : PySem.W.Frag} {G : Hp} {ds : List D} {xs : List V} {i : Nat} {x : V} (r : RpL K G ds xs) (hx : xs[i]? = some x) : ∃ d, ds[i]? = some d ∧ Rp K G d x := by
  have hi : i < ds.length := by rw [r.len]; exact (List.getElem?_eq_some_iff.mp hx).1
  obtain ⟨v, h1, h2⟩ := r.get (List.getElem?_eq_getElem hi)
  rw [hx] at h1
  cases h1
  exact ⟨_, List.getElem?_eq_getElem hi, h2⟩
theorem itok_list {K : PySem.W.Frag} {d : D} {ds : List D} {p : Addr} (hd : d = .lst ds ∨ d = .seq ds) : ItOk K (Itl K p) [(.d d, .ref p)] ds := by
  intro c G H σ b T i I
  have r : Rp K G d (.ref p) := Iv.topD (T := T) I
  obtain ⟨xs, h2, h3⟩ : ∃ xs, SqL K G p xs ∧ RpL K G ds xs := by
    rcases hd with rfl | rfl <;> simp only [Rp] at r
    · obtain ⟨p', xs, h1, h2, h3⟩ := r
      cases h1
      exact ⟨xs, SqL.of h2, h3⟩
    · obtain ⟨p', xs, h1, h2, h3⟩ := r
      cases h1
      exact ⟨xs, h2, h3⟩
  have h2' := I.st.gh.seq h2
  refine ⟨fun hi => ?_, fun hi => ⟨xs, h2', by rw [← h3.len]; exact hi⟩⟩
  have hi' : i < xs.length := by rw [← h3.len]; exact hi
  refine ⟨⟨xs, xs[i], h2', List.getElem?_eq_getElem hi'⟩, fun x H' y => ?_⟩
  obtain ⟨rfl, y⟩ := y
  obtain ⟨d', q1, q2⟩ := item_of h3 (y xs h2')
  exact ⟨d', G, q1, I.pushD q2⟩
theorem itok_tup {K : PySem.W.Frag} {ds : List D} {p : Addr} : ItOk K (Itt K p) [(.d (.tup ds), .ref p)] ds := by
  intro c G H σ b T i I
  have r : Rp K G (.tup ds) (.ref p) := Iv.topD (T := T) I
  simp only [Rp] at r
  obtain ⟨p', xs, h1, h2, h3⟩ := r
  cases h1
  have h2' := sqt_mono I.st.gh h2
  refine ⟨fun hi => ?_, fun hi => ⟨xs, h2', by rw [← h3.len]; exact hi⟩⟩
  have hi' : i < xs.length := by rw [← h3.len]; exact hi
  refine ⟨⟨xs, xs[i], h2', List.getElem?_eq_getElem hi'⟩, fun x H' y => ?_⟩
  obtain ⟨rfl, y⟩ := y
  obtain ⟨d', q1, q2⟩ := item_of h3 (y xs h2')
  exact ⟨d', G, q1, I.pushD q2⟩
theorem i_list {tg : Expr} (h : EM X e f) : IM X tg e (lLst f) := (pi_list h).wk fun σ H R => by
  rintro ⟨c, G, b, T, ds, b', hf, I, q⟩
  unfold lLst at hf
  split at hf
  · cases hf
    rename_i e1
    refine ⟨c, G, b, T, _, _, e1, I, fun v G1 H1 I1 => ?_⟩
    have r := I1.topD
    simp only [Rp] at r
    obtain ⟨p, xs, rfl, h2, h3⟩ := r
    exact ⟨p, rfl, ⟨xs, I1.st.gh.seq (SqL.of h2)⟩, q _ [_] G1 H1 I1 (itok_list (.inl rfl))⟩
  · cases hf
    rename_i e1
    refine ⟨c, G, b, T, _, _, e1, I, fun v G1 H1 I1 => ?_⟩
    have r := I1.topD
    simp only [Rp] at r
    obtain ⟨p, xs, rfl, h2, h3⟩ := r
    exact ⟨p, rfl, ⟨xs, I1.st.gh.seq h2⟩, q _ [_] G1 H1 I1 (itok_list (.inr rfl))⟩
  · cases hf
theorem i_tup {tg : Expr} (h : EM X e f) : IM X tg e (lTup f) := (pi_tup h).wk fun σ H R => by
  rintro ⟨c, G, b, T, ds, b', hf, I, q⟩
  unfold lTup at hf
  split at hf
  · cases hf
    rename_i e1
    refine ⟨c, G, b, T, _, _, e1, I, fun v G1 H1 I1 => ?_⟩
    have r := I1.topD
    simp only [Rp] at r
    obtain ⟨p, xs, rfl, h2, h3⟩ := r
    exact ⟨p, rfl, ⟨xs, sqt_mono I1.st.gh h2⟩, q _ [_] G1 H1 I1 itok_tup⟩
  · cases hf
def rngD (lo : Int) (n : Nat) : List D := (List.range n).map fun (k : Nat) => D.int (lo + (k : Int))
theorem itok_rng {K : PySem.W.Frag} {lo : Int} {n : Nat} : ItOk K (Itr lo n) [] (rngD lo n) := by
  intro c G H σ b T i I
  refine ⟨fun hi => ?_, fun hi => by simpa [rngD, Itr] using hi⟩
  have hi' : i < n := by simpa [rngD] using hi
  refine ⟨hi', fun x H' y => ?_⟩
  obtain ⟨rfl, rfl⟩ := y
  refine ⟨.int (lo + (i : Int)), G, by simp [rngD, hi'], I.pushD rp_int⟩
/-- range(n) -/
def lRng (fs : Av) : Lv := fun b => match fs b with
  | some ([.d (.int n)], b1) => if -1000000 ≤ n ∧ n ≤ 1000000 then some (rngD 0 n.toNat, b1) else none
  | _ => none
def lRng2 (fs : Av) : Lv := fun b => match fs b with
  | some ([.d (.int m), .d (.int n)], b1) => if (-1000000 ≤ m ∧ m ≤ 1000000) ∧ -1000000 ≤ n ∧ n ≤ 1000000 then some (rngD m (n - m).toNat, b1) else none
  | _ => none
theorem len1 {α : Type} {us : List α} (h : 1 = us.length) : ∃ u, us = [u] := by
  cases us with
  | nil => simp at h
  | cons u us =>
    cases us with
    | nil => exact ⟨u, rfl⟩
    | cons _ _ => simp at h
theorem len2 {α : Type} {us : List α} (h : 2 = us.length) : ∃ u v, us = [u, v] := by
  cases us with
  | nil => simp at h
  | cons u us =>
    obtain ⟨v, rfl⟩ := len1 (us := us) (by simp at h; omega)
    exact ⟨u, v, rfl⟩
theorem i_rng1 {tg a : Expr} {p : Pos} (hm : X.mg "range" = none) (ha : AM X [a] src fs) (hsrc : src.all (·.isNone) = true := by rfl) (hg : Gl X "range" := by rfl) (hs : starEach [a] X.env = [(false, eval a X.env)] := by rfl) : IM X tg (.Call (.Name "range" p) [a] [] pos) (lRng fs) := (pi_range1 hg hm ha hs).wk fun σ H R => by
  rintro ⟨c, G, b, T, ds, b', hf, I, q⟩
  unfold lRng at hf
  split at hf
  · rename_i n b1 e1
    split at hf
    · rename_i hz
      cases hf
      refine ⟨c, G, b, T, _, b', e1, I, fun us vs G1 H1 hl av I1 => ?_⟩
      have e := av.pure hsrc
      subst e
      obtain ⟨u, rfl⟩ := len1 hl
      have r := Iv.topD (T := T) I1
      simp only [Rp] at r
      subst r
      exact ⟨n, rfl, by omega, by omega, q _ [] G1 H1 (Iv.drop I1) itok_rng⟩
    · cases hf
  · cases hf
theorem i_rng2 {tg a a2 : Expr} {p : Pos} (hm : X.mg "range" = none) (ha : AM X [a, a2] src fs) (hsrc : src.all (·.isNone) = true := by rfl) (hg : Gl X "range" := by rfl) (hs : starEach [a, a2] X.env = [(false, eval a X.env), (false, eval a2 X.env)] := by rfl) (hs2 : starEach [a2] X.env = [(false, eval a2 X.env)] := by rfl) : IM X tg (.Call (.Name "range" p) [a, a2] [] pos) (lRng2 fs) := (pi_range2 hg hm ha hs hs2).wk fun σ H R => by
  rintro ⟨c, G, b, T, ds, b', hf, I, q⟩
  unfold lRng2 at hf
  split at hf
  · rename_i m n b1 e1
    split at hf
    · rename_i hz
      cases hf
      refine ⟨c, G, b, T, _, b', e1, I, fun us vs G1 H1 hl av I1 => ?_⟩
      have e := av.pure hsrc
      subst e
      obtain ⟨u, v, rfl⟩ := len2 hl
      have r := Iv.topD (T := (.d (.int n), v) :: T) I1
      have r2 := Iv.topD (T := T) (Iv.drop I1)
      simp only [Rp] at r r2
      subst r r2
      exact ⟨m, n, rfl, by omega, q _ [] G1 H1 (Iv.drop (Iv.drop I1)) itok_rng⟩
    · cases hf
  · cases hf

/-! ### for, while -/
def forL (g : Gv) (body : Sv) : List D → Sv
  | [], b => some (.nx, b)
  | d :: ds, b => match g d b with
    | some b1 => (match body b1 with
      | some (.nx, b2) => forL g body ds b2
      | some (.ct, b2) => forL g body ds b2
      | some (.bk, b2) => some (.nx, b2)
      | some (.rt m, b2) => some (.rt m, b2)
      | none => none)
    | none => none
def sFor (l : Lv) (g : Gv) (body : Sv) : Sv := fun b => match l b with
  | some (ds, b1) => forL g body ds b1
  | none => none
theorem s_for {tg iter : Expr} {ix : List Nat} {l : Lv} {g : Gv} {g1 : Sv} (hp : PassesOwn (model X.prog X.w) X.A X.env X.xe) (hc : X.calm = true) (hi : IM X tg iter l) (hg : GM X tg ix g) (hb : SMs X sts g1) (hs : ∀ x, foldedSetIterable iter X.env x = pure x := by intro _; rfl) : SM X (.For tg iter sts [] pos) (sFor l g g1) := (ps_for hp hc hi hg hb hs).wk fun D σ H => by
  rintro ⟨c, G, b, T, r, b', hf, I, q⟩
  unfold sFor at hf
  split at hf
  · rename_i ds b1 e1
    refine ⟨c, G, b, T, ds, b1, e1, I, fun J s G1 H1 I1 ok => ?_⟩
    refine ⟨fun i m σ H => m = ds.length - i ∧ i ≤ ds.length ∧ ∃ G b2, Iv X.K c G H σ b2 (s ++ T) ∧ forL g g1 (ds.drop i) b2 = some (r, b'), ⟨ds.length, by simp, Nat.zero_le _, G1, b1, I1, by simpa using hf⟩, ?_⟩
    rintro i m σ H ⟨rfl, hi, G2, b2, I2, hl⟩
    obtain ⟨o1, o2⟩ := ok c G2 H σ b2 T i I2
    by_cases hlt : i < ds.length
    · obtain ⟨go, yl⟩ := o1 hlt
      refine .inr ⟨go, fun σ' H' => ∃ G b2, Iv X.K c G H' σ' b2 (s ++ T) ∧ forL g g1 (ds.drop (i + 1)) b2 = some (r, b'), fun σ' H' ⟨G3, b3, I3, h3⟩ => ⟨ds.length - (i + 1), by omega, rfl, hlt, G3, b3, I3, h3⟩, fun x H' y => ?_⟩
      obtain ⟨d, G3, hd, I3⟩ := yl x H' y
      rw [List.drop_eq_getElem_cons hlt] at hl
      have e : ds[i] = d := by rw [List.getElem?_eq_getElem hlt] at hd; exact Option.some.inj hd
      rw [e] at hl
      unfold forL at hl
      split at hl
      · rename_i b3 e3
        refine ⟨c, G3, b2, s ++ T, d, b3, e3, I3, fun σ4 G4 H4 _ I4 => ?_⟩
        split at hl
        · rename_i b4 e4
          exact ⟨c, G4, b3, s ++ T, .nx, b4, e4, I4, fun σ5 G5 H5 I5 => ⟨G5, b4, I5, hl⟩⟩
        · rename_i b4 e4
          exact ⟨c, G4, b3, s ++ T, .ct, b4, e4, I4, fun σ5 G5 H5 I5 => ⟨G5, b4, I5, hl⟩⟩
        · rename_i b4 e4
          cases hl
          exact ⟨c, G4, b3, s ++ T, .bk, b', e4, I4, fun σ5 G5 H5 I5 => q σ5 G5 H5 I5.dropN⟩
        · rename_i m b4 e4
          cases hl
          refine ⟨c, G4, b3, s ++ T, .rt m, b', e4, I4, fun v σ5 G5 H5 I5 => q v σ5 G5 H5 ?_⟩
          have P : ((m, v) :: (s ++ T)).Perm (s ++ (m, v) :: T) := List.perm_middle.symm
          exact (I5.perm P).dropN
        · cases hl
      · cases hl
    · have e : i = ds.length := by omega
      subst e
      simp only [List.drop_length, forL, Option.some.injEq, Prod.mk.injEq] at hl
      obtain ⟨rfl, rfl⟩ := hl
      exact .inl ⟨o2 (Nat.le_refl _), q σ G2 H I2.dropN⟩
  · cases hf
def whileN : Nat → Tv → Sv → Sv
  | 0, _, _, _ => none
  | n + 1, t, body, b => match t b with
    | some (false, b1) => some (.nx, b1)
    | some (true, b1) => (match body b1 with
      | some (.nx, b2) => whileN n t body b2
      | some (.ct, b2) => whileN n t body b2
      | some (.bk, b2) => some (.nx, b2)
      | some (.rt m, b2) => some (.rt m, b2)
      | none => none)
    | none => none
theorem s_while (n : Nat) {g1 : Sv} (hp : PassesOwn (model X.prog X.w) X.A X.env X.xe) (hc : TM X e t) (hb : SMs X sts g1) : SM X (.While e sts [] pos) (whileN n t g1) := (ps_while hp hc hb).wk fun D σ H => by
  rintro ⟨c, G, b, T, r, b', hf, I, q⟩
  refine ⟨fun m σ H => ∃ G b2, Iv X.K c G H σ b2 T ∧ whileN m t g1 b2 = some (r, b'), ⟨n, G, b, I, hf⟩, ?_⟩
  rintro m σ H ⟨G2, b2, I2, hl⟩
  cases m with
  | zero => simp [whileN] at hl
  | succ m =>
    unfold whileN at hl
    split at hl
    · rename_i b3 e3
      cases hl
      refine ⟨c, G2, b2, T, false, b', e3, I2, fun G3 H3 I3 => ?_⟩
      refine iteF ?_
      exact q σ G3 H3 I3
    · rename_i b3 e3
      refine ⟨c, G2, b2, T, true, b3, e3, I2, fun G3 H3 I3 => ?_⟩
      refine iteT ?_
      refine ⟨fun σ' H' => ∃ G b2, Iv X.K c G H' σ' b2 T ∧ whileN m t g1 b2 = some (r, b'), fun σ' H' ⟨G4, b4, I4, h4⟩ => ⟨m, Nat.lt_succ_self _, G4, b4, I4, h4⟩, ?_⟩
      split at hl
      · rename_i b4 e4
        exact ⟨c, G3, b3, T, .nx, b4, e4, I3, fun σ5 G5 H5 I5 => ⟨G5, b4, I5, hl⟩⟩
      · rename_i b4 e4
        exact ⟨c, G3, b3, T, .ct, b4, e4, I3, fun σ5 G5 H5 I5 => ⟨G5, b4, I5, hl⟩⟩
      · rename_i b4 e4
        cases hl
        exact ⟨c, G3, b3, T, .bk, b', e4, I3, fun σ5 G5 H5 I5 => q σ5 G5 H5 I5⟩
      · rename_i m' b4 e4
        cases hl
        exact ⟨c, G3, b3, T, .rt m', b', e4, I3, fun v σ5 G5 H5 I5 => q v σ5 G5 H5 I5⟩
      · cases hl
    · cases hl
end
end PL

namespace PL
open PySem PySem.Spec PyProof.Rows L2
/-! ### list comprehensions -/
def wipeB (b : List B) : List Nat → List B
  | [] => b
  | v :: vs => (wipeB b vs).set v .no
theorem wipeB_len (b : List B) : ∀ vs, (wipeB b vs).length = b.length
  | [] => rfl
  | v :: vs => by unfold wipeB; rw [List.length_set, wipeB_len b vs]
theorem wipeB_at (b : List B) : ∀ (vs : List Nat) (j : Nat), j ∈ vs → j < b.length → (wipeB b vs)[j]? = some .no
  | v :: vs, j, h, hl => by
    unfold wipeB
    by_cases q : j = v
    · subst q
      rw [List.getElem?_set_self (by rw [wipeB_len]; exact hl)]
    · rw [List.getElem?_set_ne (Ne.symm q)]
      exact wipeB_at b vs j (by simp at h; grind) hl
theorem wipe_at (σ : L2.St) : ∀ (vs : List Nat) (j : Nat), (wipe σ vs)[j]? = if j ∈ vs ∧ j < σ.length then some none else σ[j]?
  | [], j => by simp [wipe]
  | v :: vs, j => by
    unfold wipe
    by_cases q : j = v
    · subst q
      by_cases hl : j < σ.length
      · rw [List.getElem?_set_self (by rw [wipe_length]; exact hl), if_pos ⟨by simp, hl⟩]
      · rw [List.getElem?_eq_none (by rw [List.length_set, wipe_length]; omega), if_neg (fun z => hl z.2), List.getElem?_eq_none (by omega)]
    · rw [List.getElem?_set_ne (Ne.symm q), wipe_at σ vs j]
      simp [q]
theorem wipe_ext {σ σ2 : L2.St} {vs : List Nat} (hl : σ2.length = σ.length) (h : ∀ j, j ∉ vs → σ2[j]? = σ[j]?) : wipe σ2 vs = wipe σ vs := by
  apply List.ext_getElem?
  intro j
  rw [wipe_at, wipe_at, hl]
  by_cases q : j ∈ vs
  · by_cases z : j < σ.length
    · rw [if_pos ⟨q, z⟩, if_pos ⟨q, z⟩]
    · rw [if_neg (fun y => z y.2), if_neg (fun y => z y.2), List.getElem?_eq_none (by omega), List.getElem?_eq_none (by omega)]
  · rw [if_neg (fun y => q y.1), if_neg (fun y => q y.1), h j q]
section
variable {K : PySem.W.Frag} {c : Cg} {G G' H H' : Hp} {σ : L2.St} {b : List B} {T T1 : List (M × V)} {p : Addr} {o : HO} {d : D} {v : V} {m : M} {i : Nat}
/-- a slot is forgotten -/
theorem Iv.forget (I : Iv K c G H σ b T) (i : Nat) (s : Option V) : Iv K c G H (σ.set i s) (b.set i .no) T := by
  by_cases hi : i < b.length
  · obtain ⟨s', fi, ft, e1, e2, t1, nd, gn, old, go⟩ := Iv.slot (T1 := []) I (List.getElem?_eq_getElem hi)
    exact go G H .no s [] [] [] ⟨Same.refl _, I.st.gh, fun _ _ h => h, fun _ _ h _ => h, fun _ h => h⟩ rfl rfl (by simp) (by simp) (by simp)
  · have hl := I.sl
    rw [List.set_eq_of_length_le (l := σ) (by rw [hl]; omega), List.set_eq_of_length_le (l := b) (by omega)]
    exact I
theorem Iv.wipe (I : Iv K c G H σ b T) : ∀ vs, Iv K c G H (wipe σ vs) (wipeB b vs) T
  | [] => I
  | v :: vs => (Iv.wipe I vs).forget v none
theorem Iv.unwipe : ∀ {vs : List Nat}, (∀ j ∈ vs, j < b.length → b[j]? = some .no) → Iv K c G H (L2.wipe σ vs) b T → Iv K c G H σ b T
  | [], _, I => I
  | v :: vs, h, I => by
    have hl := I.sl
    rw [wipe_length] at hl
    by_cases hv : v < b.length
    · have hw : v < (L2.wipe σ vs).length := by rw [wipe_length, hl]; exact hv
      obtain ⟨s, e1⟩ : ∃ s, (L2.wipe σ vs)[v]? = some s := ⟨_, List.getElem?_eq_getElem hw⟩
      have I2 := I.forget v s
      rw [set_self (h v (by simp) hv)] at I2
      have e2 : (L2.wipe σ (v :: vs)).set v s = L2.wipe σ vs := by
        show ((L2.wipe σ vs).set v none).set v _ = _
        rw [List.set_set, set_self e1]
      rw [e2] at I2
      exact Iv.unwipe (fun j hj => h j (by simp [hj])) I2
    · have e2 : L2.wipe σ (v :: vs) = L2.wipe σ vs := by
        show (L2.wipe σ vs).set v none = _
        rw [List.set_eq_of_length_le (by rw [wipe_length, hl]; omega)]
      rw [e2] at I
      exact Iv.unwipe (fun j hj => h j (by simp [hj])) I
theorem RML.app : ∀ {ms : List M} {xs : List V} {q f : List Addr} {y : V}, RML K G H ms xs q → RM K G H m y f → RML K G H (ms ++ [m]) (xs ++ [y]) (q ++ f)
  | [], xs, q, f, y, h, r => by
    simp only [RML] at h
    obtain ⟨rfl, rfl⟩ := h
    simp only [List.nil_append, RML]
    exact ⟨y, [], f, [], rfl, r, ⟨rfl, rfl⟩, by simp⟩
  | m' :: ms, _, _, f, y, h, r => by
    simp only [RML] at h
    obtain ⟨z, zs, f1, f2, rfl, h2, h3, rfl⟩ := h
    show RML K G H (m' :: (ms ++ [m])) (z :: (zs ++ [y])) _
    simp only [RML]
    exact ⟨z, zs ++ [y], f1, f2 ++ f, rfl, h2, h3.app r, by simp⟩
theorem dm_upd (h : H p ≠ none) : ∀ a, H a ≠ none → upd H p o a ≠ none := fun a ha => by
  by_cases q : a = p
  · subst q; rw [upd_same]; simp
  · rw [upd_ne q]; exact ha
theorem gh_upd (e : Same G H) (h : G p = none) : Same G (upd H p o) := fun a u q => by
  rw [upd_ne (ne_of_none q h)]; exact e a u q
theorem Iv.appT {acc : List M} {y : V} (I : Iv K c G H σ b ((m, y) :: (.lst acc, .ref p) :: T)) : ∃ xs, H p = some (.lst xs) ∧ xs.length = acc.length ∧ Iv K c G (upd H p (.lst (xs ++ [y]))) σ b ((.lst (acc ++ [m]), .ref p) :: T) := by
  obtain ⟨ft, t1, nd, gn, old, go⟩ := Iv.tmp (T1 := [(m, y), (.lst acc, .ref p)]) I
  obtain ⟨f1, f2, h1, h2, ⟨f3, f4, h3, h4, h5, rfl⟩, rfl⟩ := t1
  have h5 : f4 = [] := h5
  subst h5
  simp only [RM] at h3
  obtain ⟨p', xs, q, e1, e2, e3, rfl⟩ := h3
  cases e1
  simp only [List.append_nil] at *
  have N := List.nodup_append.mp nd
  have np1 : p ∉ f1 := fun hm => N.2.2 p hm p (by simp) rfl
  have np2 : p ∉ q := (List.nodup_cons.mp N.2.1).1
  have hp : H p ≠ none := by rw [e2]; simp
  refine ⟨xs, e2, e3.len.symm, go G (upd H p (.lst (xs ++ [y]))) [(.lst (acc ++ [m]), .ref p)] (p :: (q ++ f1)) ⟨Same.refl _, gh_upd I.st.gh (gn p (by simp)), fun _ _ h => h, fun a o h1 h2 => ?_, dm_upd hp⟩ ⟨p :: (q ++ f1), [], ?_, ?_, rfl, by simp⟩ ?_ ?_ ?_⟩
  · rw [upd_ne (fun z : a = p => h2 (by simp [z]))]; exact h1
  · simp only [RM]
    refine ⟨p, xs ++ [y], q ++ f1, rfl, upd_same, ?_, rfl⟩
    exact RML.app (RML.frame (Same.refl _) _ _ _ e3 fun a ha => upd_ne (fun z : a = p => np2 (z ▸ ha))) (RM.frame (Same.refl _) _ _ _ h1 fun a ha => upd_ne (fun z : a = p => np1 (z ▸ ha)))
  · intro a ha
    simp at ha
    exact old a (by simp; grind)
  · have P : (p :: (q ++ f1)).Perm (f1 ++ (p :: q)) := (List.perm_append_comm (l₁ := p :: q) (l₂ := f1))
    exact P.nodup_iff.mpr nd
  · intro a ha
    left
    simp at ha ⊢
    grind
  · intro a ha
    simp at ha
    exact gn a (by simp; grind)
end
def lcL (vs : List Nat) (g : Gv) (t : Tv) (elt : Ev) : List D → List B → Option (List M × List B)
  | [], b => some ([], b)
  | d :: ds, b => match g d b with
    | some b1 => (match t b1 with
      | some (true, b2) => (match elt b2 with
        | some (m, b3) => (match lcL vs g t elt ds (wipeB b3 vs) with
          | some (ms, b4) => some (m :: ms, b4)
          | none => none)
        | none => none)
      | some (false, b2) => lcL vs g t elt ds (wipeB b2 vs)
      | none => none)
    | none => none
def fLc (vs : List Nat) (l : Lv) (g : Gv) (t : Tv) (elt : Ev) : Ev := fun b => match l b with
  | some (ds, b1) => if ds.length ≤ 1000000 then (match lcL vs g t elt ds (wipeB b1 vs) with
    | some (ms, b2) => some (.lst ms, b2)
    | none => none) else none
  | none => none
def tTrue : Tv := fun b => some (true, b)
theorem lcL_no {vs : List Nat} {g : Gv} {t : Tv} {elt : Ev} : ∀ {ds : List D} {b : List B} {ms : List M} {b' : List B}, lcL vs g t elt ds b = some (ms, b') → (∀ j ∈ vs, j < b.length → b[j]? = some .no) → ∀ j ∈ vs, j < b'.length → b'[j]? = some .no
  | [], b, ms, b', h, k => by
    simp only [lcL, Option.some.injEq, Prod.mk.injEq] at h
    obtain ⟨rfl, rfl⟩ := h
    exact k
  | d :: ds, b, ms, b', h, k => by
    unfold lcL at h
    split at h
    · split at h
      · split at h
        · split at h
          · rename_i e
            cases h
            exact lcL_no e fun j hj hl => wipeB_at _ _ _ hj (by rw [wipeB_len] at hl; exact hl)
          · cases h
        · cases h
      · exact lcL_no h fun j hj hl => wipeB_at _ _ _ hj (by rw [wipeB_len] at hl; exact hl)
      · cases h
    · cases h
theorem lc_in {K : PySem.W.Frag} {ix vs : List Nat} {l : Lv} {g : Gv} {t : Tv} {f : Ev} (hix : ix.all (fun i => vs.contains i) = true) : ∀ σ H Q, teO K (fLc vs l g t f) σ H Q → tLc (tiO K l) (tgO K ix g) (ttO K t) (teO K f) vs σ H Q := fun σ H Q => by
  rintro ⟨c, G, b, T, m, b', hf, I, q⟩
  unfold fLc at hf
  split at hf
  · rename_i ds b1 e1
    split at hf
    · rename_i hz
      split at hf
      · rename_i ms b2 e2
        cases hf
        refine ⟨c, G, b, T, ds, b1, e1, I, fun J s G1 H1 I1 ok D hD => ?_⟩
        have I2 : Iv K c G1 (upd H1 D (.lst [])) σ b1 ((.lst [], .ref D) :: (s ++ T)) := Iv.newL (ds := []) I1 hD (by simp [RpL])
        refine ⟨fun i m H => m = ds.length - i ∧ i ≤ ds.length ∧ ∃ G b3 acc ms', Iv K c G H (L2.wipe σ vs) b3 ((.lst acc, .ref D) :: (s ++ T)) ∧ acc.length ≤ i ∧ lcL vs g t f (ds.drop i) b3 = some (ms', b') ∧ acc ++ ms' = ms ∧ (∀ j ∈ vs, j < b3.length → b3[j]? = some .no),
          ⟨ds.length, by simp, Nat.zero_le _, G1, wipeB b1 vs, [], ms, I2.wipe vs, by simp, by simpa using e2, rfl, fun j hj hl => wipeB_at _ _ _ hj (by rw [wipeB_len] at hl; exact hl)⟩, ?_⟩
        rintro i m H ⟨rfl, hi, G3, b3, acc, ms', I3, ha, hl, hm, hno⟩
        have P : ∀ (acc : List M), ((M.lst acc, V.ref D) :: (s ++ T)).Perm (s ++ (.lst acc, .ref D) :: T) := fun acc => List.perm_middle.symm
        obtain ⟨o1, o2⟩ := ok c G3 H _ b3 ((.lst acc, .ref D) :: T) i (I3.perm (P acc))
        by_cases hlt : i < ds.length
        · obtain ⟨go, yl⟩ := o1 hlt
          refine .inr ⟨go, fun H' => ∃ G b3 acc ms', Iv K c G H' (L2.wipe σ vs) b3 ((.lst acc, .ref D) :: (s ++ T)) ∧ acc.length ≤ i + 1 ∧ lcL vs g t f (ds.drop (i + 1)) b3 = some (ms', b') ∧ acc ++ ms' = ms ∧ (∀ j ∈ vs, j < b3.length → b3[j]? = some .no),
            fun H' ⟨G3, b3, acc, ms', x1, x2, x3, x4, x5⟩ => ⟨ds.length - (i + 1), by omega, rfl, hlt, G3, b3, acc, ms', x1, x2, x3, x4, x5⟩, fun x H' y => ?_⟩
          obtain ⟨d, G4, hd, I4⟩ := yl x H' y
          rw [List.drop_eq_getElem_cons hlt] at hl
          have e : ds[i] = d := by rw [List.getElem?_eq_getElem hlt] at hd; exact Option.some.inj hd
          rw [e] at hl
          unfold lcL at hl
          split at hl
          · rename_i b4 e4
            refine ⟨c, G4, b3, s ++ (.lst acc, .ref D) :: T, d, b4, e4, I4, fun σ5 G5 H5 k5 I5 => ?_⟩
            have hw : L2.wipe σ5 vs = L2.wipe σ vs := by
              have h2 : L2.wipe σ5 vs = L2.wipe (L2.wipe σ vs) vs := wipe_ext k5.1 fun j hj => k5.2 j fun z => hj (by
                have := List.all_eq_true.mp hix j z
                simpa using this)
              rw [h2]
              exact wipe_ext (wipe_length _ _) fun j hj => by rw [wipe_at, if_neg (fun z => hj z.1)]
            refine ⟨hw, ?_⟩
            split at hl
            · rename_i b5 e5
              refine ⟨c, G5, b4, _, true, b5, e5, I5, fun G6 H6 I6 => ?_⟩
              refine iteT ?_
              split at hl
              · rename_i m b6 e6
                split at hl
                · rename_i ms'' b7 e7
                  cases hl
                  refine ⟨c, G6, b5, _, m, b6, e6, I6, fun v G7 H7 I7 => ?_⟩
                  have Q1 : ((m, v) :: (s ++ (M.lst acc, V.ref D) :: T)).Perm ((m, v) :: (.lst acc, .ref D) :: (s ++ T)) := List.Perm.cons _ List.perm_middle
                  obtain ⟨xs, w1, w2, I8⟩ := (I7.perm Q1).appT
                  refine ⟨xs, w1, by rw [w2]; exact lt_line (by omega), G7, wipeB b6 vs, acc ++ [m], ms'', ?_, by simp; omega, e7, by rw [← hm]; simp, fun j hj hl => wipeB_at _ _ _ hj (by rw [wipeB_len] at hl; exact hl)⟩
                  rw [← hw]
                  exact I8.wipe vs
                · cases hl
              · cases hl
            · rename_i b5 e5
              refine ⟨c, G5, b4, _, false, b5, e5, I5, fun G6 H6 I6 => ?_⟩
              refine iteF ?_
              refine ⟨G6, wipeB b5 vs, acc, ms', ?_, by omega, hl, hm, fun j hj hl => wipeB_at _ _ _ hj (by rw [wipeB_len] at hl; exact hl)⟩
              rw [← hw]
              exact (I6.perm (P acc).symm).wipe vs
            · cases hl
          · cases hl
        · have e : i = ds.length := by omega
          subst e
          simp only [List.drop_length, lcL, Option.some.injEq, Prod.mk.injEq] at hl
          obtain ⟨rfl, rfl⟩ := hl
          refine .inl ⟨o2 (Nat.le_refl _), q _ G3 H ?_⟩
          simp only [List.append_nil] at hm
          subst hm
          exact Iv.unwipe hno ((I3.perm (P acc)).dropN)
      · cases hf
    · cases hf
  · cases hf
end PL

namespace PL
open PySem PySem.Spec PyProof.Rows L2
section
variable {X : Cx} {e e1 e2 e3 : Expr} {es : List Expr} {st : Stmt} {sts : List Stmt} {pos : Pos} {f f1 f2 f3 : Ev} {fs : Av} {src : List (Option Nat)} {x : Str} {t t1 t2 : Tv} {k1 k2 : Sv}
theorem ts_nil : PTs X [] (ttO X.K tTrue) := ⟨fun pins s σ H Q I q => by
  obtain ⟨c, G, b, T, r, b', hf, I', q⟩ := q
  simp only [tTrue, Option.some.injEq, Prod.mk.injEq] at hf
  obtain ⟨rfl, rfl⟩ := hf
  exact pts_nil.run pins s σ H Q I (q G H I')⟩
theorem ts_one (h : TM X e t) : PTs X [e] (ttO X.K t) := pts_one h
theorem e_lc {elt tg iter : Expr} {ifs : List Expr} {scope : Scope} {own : List (Str × Nat)} {ix : List Nat} {l : Lv} {g : Gv} (hc : X.calm = true) (hN : X.N.Nodup) (hi : IM X tg iter l) (ok : BlkOk X.N X.env.scope scope own) (hix : ix.all (fun i => (own.map (·.2)).contains i) = true)
    (hg : ∀ (s : Shared) (H : Hp) (C : Addr) (cl : List (Str × Addr)) (fp : List Addr), GM (X.blk s H scope (compEnvC scope cl C X.env) fp) tg ix g) (ht : ∀ (s : Shared) (H : Hp) (C : Addr) (cl : List (Str × Addr)) (fp : List Addr), PTs (X.blk s H scope (compEnvC scope cl C X.env) fp) ifs (ttO X.K t))
    (he : ∀ (s : Shared) (H : Hp) (C : Addr) (cl : List (Str × Addr)) (fp : List Addr), EM (X.blk s H scope (compEnvC scope cl C X.env) fp) elt f) (hs : ∀ x, foldedSetIterable iter X.env x = pure x := by intro _; rfl) :
    EM X (.ListComp elt [⟨tg, iter, ifs, 0⟩] scope pos) (fLc (own.map (·.2)) l g t f) := (pe_lc hc hN hi ok hg ht he hs).wk (lc_in hix)
theorem s_setLc (i : Nat) {y : Str} {py : Pos} {elt tg iter : Expr} {ifs : List Expr} {scope : Scope} {own : List (Str × Nat)} {ix : List Nat} {l : Lv} {g : Gv} (hc : X.calm = true) (hN : X.N.Nodup) (hi : IM X tg iter l) (ok : BlkOk X.N X.env.scope scope own) (hix : ix.all (fun i => (own.map (·.2)).contains i) = true)
    (hg : ∀ (s : Shared) (H : Hp) (C : Addr) (cl : List (Str × Addr)) (fp : List Addr), GM (X.blk s H scope (compEnvC scope cl C X.env) fp) tg ix g) (ht : ∀ (s : Shared) (H : Hp) (C : Addr) (cl : List (Str × Addr)) (fp : List Addr), PTs (X.blk s H scope (compEnvC scope cl C X.env) fp) ifs (ttO X.K t))
    (he : ∀ (s : Shared) (H : Hp) (C : Addr) (cl : List (Str × Addr)) (fp : List Addr), EM (X.blk s H scope (compEnvC scope cl C X.env) fp) elt f) (hsw : swapsWith (.ListComp elt [⟨tg, iter, ifs, 0⟩] scope pos) (some (.Name y py)) pos.line X.env = pure true) (hy : X.N[i]? = some y := by rfl) (hyl : X.env.scope.names.lookup y = some .local := by rfl)
    {spos : Pos} (hl : spos.line = pos.line := by rfl) (hs : ∀ x, foldedSetIterable iter X.env x = pure x := by intro _; rfl) :
    SM X (.Assign [.Name y py] (.ListComp elt [⟨tg, iter, ifs, 0⟩] scope pos) spos) (sSet i (fLc (own.map (·.2)) l g t f)) := (ps_setLc (i := i) hc hN hy hyl (by rw [hl]; exact hsw) hi ok hg ht he hs).wk fun D σ H => by
  rintro ⟨c, G, b, T, r, b', hf, I, q⟩
  unfold sSet at hf
  split at hf
  · rename_i m b1 e1
    split at hf
    · rename_i hl
      cases hf
      exact lc_in hix σ H _ ⟨c, G, b, T, m, b1, e1, I, fun v G' H' I' => q _ G' H' (I'.put hl)⟩
    · cases hf
  · cases hf

/-! ### items -/
theorem ixN_len {n : Nat} {i : Int} {j : Nat} (h : ixN n i = some j) : j < n := (ixN_seq h).2.1
theorem atI_rel {K : PySem.W.Frag} {G : Hp} {ds : List D} {xs : List V} {i : Int} {d : D} (r : RpL K G ds xs) (h : atI ds i = some d) : ∃ v, atI xs i = some v ∧ Rp K G d v := by
  unfold atI at h ⊢
  rw [← r.len]
  cases e : ixN ds.length i with
  | none => rw [e] at h; cases h
  | some j =>
    rw [e] at h
    exact r.get h
def gIx : D → D → Option D
  | .tup ds, .int i => atI ds i
  | .lst ds, .int i => atI ds i
  | .seq ds, .int i => atI ds i
  | .str z, .int i => if z.length ≤ 1000000 then (match atI z.cps.toList i with
    | some c => some (.str ⟨#[c]⟩)
    | none => none) else none
  | _, _ => none
theorem os_ix {K : PySem.W.Frag} : OpS K (rIx K) (g2 gIx) := OpS.pure fun c G H x y d1 d2 d Q hg e r1 r2 q => by
  unfold gIx at hg
  split at hg
  · simp only [Rp] at r1 r2
    obtain ⟨p, xs, h1, h2, h3⟩ := r1
    obtain ⟨v, q1, q2⟩ := atI_rel h3 hg
    exact .inr (.inl ⟨p, xs, _, v, h1, r2, sqt_mono e h2, q1, q v q2⟩)
  · simp only [Rp] at r1 r2
    obtain ⟨p, xs, h1, h2, h3⟩ := r1
    obtain ⟨v, q1, q2⟩ := atI_rel h3 hg
    exact .inl ⟨p, xs, _, v, h1, r2, e.seq (SqL.of h2), q1, q v q2⟩
  · simp only [Rp] at r1 r2
    obtain ⟨p, xs, h1, h2, h3⟩ := r1
    obtain ⟨v, q1, q2⟩ := atI_rel h3 hg
    exact .inl ⟨p, xs, _, v, h1, r2, e.seq h2, q1, q v q2⟩
  · split at hg
    · rename_i hz
      split at hg
      · rename_i c hc
        cases hg
        simp only [Rp] at r1 r2
        exact .inr (.inr ⟨_, _, _, r1, r2, le_line hz, hc, q _ rp_str⟩)
      · cases hg
    · cases hg
  · cases hg
theorem e_ix (h1 : EM X e1 f1) (h2 : EM X e2 f2) (hs : PlainIx e2 := by intro _ _; rfl) : EM X (.Subscript e1 e2 pos) (fOp (g2 gIx) f1 f2) := e_tOp os_ix (pe_ix ix_seq h1 h2 hs)
end
section
variable {K : PySem.W.Frag} {c : Cg} {G G' H H' : Hp} {σ : L2.St} {b : List B} {T T1 : List (M × V)} {p : Addr} {o : HO} {d : D} {v : V} {m : M} {i j : Nat}
theorem RML.getD : ∀ {ms : List M} {xs : List V} {q : List Addr} {i : Nat} {x : D}, RML K G H ms xs q → ms[i]? = some (.d x) → ∃ v, xs[i]? = some v ∧ Rp K G x v
  | [], _, _, _, _, _, e => by simp at e
  | m :: ms, _, _, 0, x, h, e => by
    simp only [RML] at h
    obtain ⟨z, zs, f1, f2, rfl, h2, h3, rfl⟩ := h
    simp at e
    subst e
    simp only [RM] at h2
    exact ⟨z, rfl, h2.1⟩
  | m :: ms, _, _, i + 1, x, h, e => by
    simp only [RML] at h
    obtain ⟨z, zs, f1, f2, rfl, h2, h3, rfl⟩ := h
    simpa using RML.getD h3 (i := i) (by simpa using e)
theorem RML.set : ∀ {ms : List M} {xs : List V} {q f : List Addr} {i : Nat} {y : V}, RML K G H ms xs q → RM K G H m y f → (q ++ f).Nodup → ∃ q', RML K G H (ms.set i m) (xs.set i y) q' ∧ (∀ a ∈ q', a ∈ q ++ f) ∧ q'.Nodup
  | [], xs, q, f, i, y, h, r, nd => by
    simp only [RML] at h
    obtain ⟨rfl, rfl⟩ := h
    exact ⟨[], by simp [RML], by simp, by simp⟩
  | m' :: ms, _, _, f, 0, y, h, r, nd => by
    simp only [RML] at h
    obtain ⟨z, zs, f1, f2, rfl, h2, h3, rfl⟩ := h
    refine ⟨f ++ f2, by simp only [List.set_cons_zero, RML]; exact ⟨y, zs, f, f2, rfl, r, h3, rfl⟩, fun a ha => by simp at ha ⊢; grind, ?_⟩
    have P : (f1 ++ f2 ++ f).Perm (f1 ++ (f ++ f2)) := by
      rw [List.append_assoc]
      exact List.Perm.append_left f1 List.perm_append_comm
    exact (List.nodup_append.mp (P.nodup_iff.mp nd)).2.1
  | m' :: ms, _, _, f, i + 1, y, h, r, nd => by
    simp only [RML] at h
    obtain ⟨z, zs, f1, f2, rfl, h2, h3, rfl⟩ := h
    rw [List.append_assoc] at nd
    have N := List.nodup_append.mp nd
    obtain ⟨q', h4, h5, h6⟩ := RML.set (i := i) h3 r N.2.1
    refine ⟨f1 ++ q', by simp only [List.set_cons_succ, RML]; exact ⟨z, zs.set i y, f1, q', rfl, h2, h4, rfl⟩, fun a ha => ?_, List.nodup_append.mpr ⟨N.1, h6, fun x hx y hy => N.2.2 x hx y (h5 y hy)⟩⟩
    rcases List.mem_append.mp ha with z | z
    · simp [z]
    · have := h5 a z
      simp at this ⊢
      grind
/-- an owned list at a slot is changed -/
theorem Iv.mutL {k : Option Nat} {ms : List M} (I : Iv K c G H σ b (T1 ++ T)) (hb : b[j]? = some (.o k (.lst ms))) : ∃ p xs, σ[j]? = some (some (.ref p)) ∧ H p = some (.lst xs) ∧ xs.length = ms.length ∧ (∀ (i : Nat) (x : D), ms[i]? = some (M.d x) → ∃ v, xs[i]? = some v ∧ Rp K G x v) ∧
    ∀ ms' xs', (∀ H2 q ft, RML K G H2 ms xs q → RT K c G H2 T1 ft → (q ++ ft).Nodup → ∃ q', RML K G H2 ms' xs' q' ∧ (∀ a ∈ q', a ∈ q ++ ft) ∧ q'.Nodup) → Iv K c G (upd H p (.lst xs')) σ (b.set j (.o k (.lst ms'))) T := by
  obtain ⟨s, fi, ft, e1, e2, t1, nd, gn, old, go⟩ := Iv.slot (T1 := T1) I hb
  obtain ⟨v, rfl, q2, q3⟩ := e2
  simp only [RM] at q2
  obtain ⟨p, xs, q, rfl, h2, h3, rfl⟩ := q2
  refine ⟨p, xs, e1, h2, h3.len.symm, fun i x hx => h3.getD hx, fun ms' xs' hk => ?_⟩
  have hp : H p ≠ none := by rw [h2]; simp
  have N := List.nodup_append.mp nd
  have np1 : p ∉ q := (List.nodup_cons.mp N.1).1
  have np2 : p ∉ ft := fun hm => N.2.2 p (by simp) p hm rfl
  have nd2 : (q ++ ft).Nodup := (List.nodup_cons.mp nd).2
  obtain ⟨q', w1, w2, w3⟩ := hk (upd H p (.lst xs')) q ft (RML.frame (Same.refl _) _ _ _ h3 fun a ha => upd_ne (fun z : a = p => np1 (z ▸ ha))) (t1.frame (Same.refl _) fun a ha => upd_ne (fun z : a = p => np2 (z ▸ ha))) nd2
  have hin : ∀ a ∈ p :: q', a ∈ p :: q ∨ a ∈ ft := fun a ha => by
    rcases List.mem_cons.mp ha with rfl | ha
    · exact .inl (by simp)
    · rcases List.mem_append.mp (w2 a ha) with z | z
      · exact .inl (by simp [z])
      · exact .inr z
  have npq : p ∉ q' := fun hm => by
    rcases List.mem_append.mp (w2 p hm) with z | z
    · exact np1 z
    · exact np2 z
  have := go G (upd H p (.lst xs')) (.o k (.lst ms')) (some (.ref p)) (p :: q') [] [] ⟨Same.refl _, gh_upd I.st.gh (gn p (by simp)), fun _ _ h => h, fun a o h1 h2 => by
      rw [upd_ne (fun z : a = p => h2 (by simp [z]))]; exact h1, dm_upd hp⟩ ?_ rfl (by simp [npq, w3]) (fun a ha => by
      rcases hin a (by simpa using ha) with z | z
      · exact .inl z
      · exact .inr (.inl z)) (fun a ha => by
      rcases hin a (by simpa using ha) with z | z
      · exact gn a (by simp at z ⊢; grind)
      · exact gn a (by simp [z]))
  · rw [set_self e1] at this
    exact this
  · refine ⟨.ref p, rfl, by simp only [RM]; exact ⟨p, xs', q', rfl, upd_same, w1, rfl⟩, ?_⟩
    cases k with
    | none =>
      intro a ha
      rcases hin a ha with z | z
      · exact q3 a z
      · exact old a z
    | some jj =>
      refine ⟨q3.1, fun a ha => ?_⟩
      rcases hin a ha with z | z
      · exact q3.2 a z
      · exact .inr (old a z)
end
section
variable {X : Cx} {e e1 e2 e3 : Expr} {es : List Expr} {st : Stmt} {sts : List Stmt} {pos : Pos} {f f1 f2 f3 : Ev} {fs : Av} {src : List (Option Nat)} {x : Str} {t t1 t2 : Tv} {k1 k2 : Sv}
/-- name[i], the name's list owned -/
def isO (b : List B) (j : Nat) : Bool := match b[j]? with
  | some (.o _ _) => true
  | _ => false
def fIxO (j : Nat) (f : Ev) : Ev := fun b => if isO b j = true then (match f b with
  | some (.d (.int i), b1) => (match b1[j]? with
    | some (.o _ (.lst ms)) => (match atI ms i with
      | some (.d x) => some (.d x, b1)
      | _ => none)
    | _ => none)
  | _ => none) else none
theorem isO_v {K : PySem.W.Frag} {c : Cg} {G H : Hp} {σ : L2.St} {b : List B} {T : List (M × V)} {j : Nat} (I : Iv K c G H σ b T) (h : isO b j = true) : ∃ v, σ[j]? = some (some v) := by
  unfold isO at h
  split at h
  · rename_i k m e
    obtain ⟨v, f, q, _⟩ := I.getO e
    exact ⟨v, q⟩
  · cases h
theorem e_ixO (j : Nat) {px : Pos} (h : EM X e f) (hs : PlainIx e := by intro _ _; rfl) (hN : X.N[j]? = some x := by rfl) (hv : Vis X.env.scope x := by first | exact Or.inl rfl | exact Or.inr (Or.inl rfl) | exact Or.inr (Or.inr rfl)) (hd : (x == ("__debug__" : Str)) = false := by decide)
    (hcd : (x == ("__classdict__" : Str)) = false := by decide) : EM X (.Subscript (.Name x px) e pos) (fIxO j f) := (pe_ix ix_list (pv j hN hv hd hcd) h hs).wk fun σ H Q => by
  rintro ⟨c, G, b, T, m, b', hf, I, q⟩
  unfold fIxO at hf
  split at hf
  · rename_i ho
    obtain ⟨v0, hv0⟩ := isO_v I ho
    split at hf
    · rename_i i b1 e1
      split at hf
      · rename_i k ms e2
        split at hf
        · rename_i x e3
          cases hf
          refine ⟨v0, hv0, c, G, b, T, _, b', e1, I, fun y G1 H1 I1 => ?_⟩
          have r := I1.topD
          simp only [Rp] at r
          obtain ⟨p, xs, h1, h2, h3, h4, _⟩ := Iv.mutL (T1 := []) I1.drop e2
          rw [hv0] at h1
          cases h1
          unfold atI at e3
          cases e4 : ixN ms.length i with
          | none => rw [e4] at e3; cases e3
          | some jj =>
            rw [e4] at e3
            obtain ⟨u, q1, q2⟩ := h4 jj x e3
            exact ⟨p, xs, i, u, rfl, r, SqL.of h2, by unfold atI; rw [h3, e4]; exact q1, q u G1 H1 (I1.drop.pushD q2)⟩
        · cases hf
      · cases hf
    · cases hf
  · cases hf
/-- name[i] = e, the name's list owned -/
def sIxO (j : Nat) (f fi : Ev) : Sv := fun b => match f b with
  | some (m, b1) => if isO b1 j = true then (match fi b1 with
    | some (.d (.int i), b2) => (match b2[j]? with
      | some (.o k (.lst ms)) => (match ixN ms.length i with
        | some jj => some (.nx, b2.set j (.o k (.lst (ms.set jj m))))
        | none => none)
      | _ => none)
    | _ => none) else none
  | none => none
theorem s_ixO (j : Nat) {px pq : Pos} (h : EM X e1 f1) (hi : EM X e f) (hN : X.N[j]? = some x := by rfl) (hv : Vis X.env.scope x := by first | exact Or.inl rfl | exact Or.inr (Or.inl rfl) | exact Or.inr (Or.inr rfl)) (hd : (x == ("__debug__" : Str)) = false := by decide)
    (hcd : (x == ("__classdict__" : Str)) = false := by decide)
    (ha : ∀ v, assign (.Subscript (.Name x px) e pq) X.env v = (do
      let ov ← holding [v] (eval (.Name x px) X.env)
      let iv ← holding [v, ov] (eval e X.env)
      standAt pq
      holding [v, ov, iv] (setItem ov iv v)
      release [v, ov, iv] []) := by intro _; rfl)
    (hs : swapsWithSole [.Subscript (.Name x px) e pq] e1 pos.line X.env = pure false := by rfl) (hw : swappedStores [.Subscript (.Name x px) e pq] e1 X.env = pure none := by rfl)
    (h1 : (assignEach [.Subscript (.Name x px) e pq] X.env).map (·.2) = [assign (.Subscript (.Name x px) e pq) X.env] := by rfl) :
    SM X (.Assign [.Subscript (.Name x px) e pq] e1 pos) (sIxO j f1 f) := (ps_asg h (pg_sub (pv j hN hv hd hcd) hi set_list ha) hs hw h1).wk fun D σ H => by
  rintro ⟨c, G, b, T, r, b', hf, I, q⟩
  unfold sIxO at hf
  split at hf
  · rename_i m b1 e1
    split at hf
    · rename_i ho
      split at hf
      · rename_i i b2 e2
        split at hf
        · rename_i k ms e3
          split at hf
          · rename_i jj e4
            cases hf
            refine ⟨c, G, b, T, m, b1, e1, I, fun v G1 H1 I1 => ?_⟩
            obtain ⟨v0, hv0⟩ := isO_v I1 ho
            refine ⟨v0, hv0, c, G1, b1, _, _, b2, e2, I1, fun y G2 H2 I2 => ?_⟩
            have r := I2.topD
            simp only [Rp] at r
            obtain ⟨p, xs, h1, h2, h3, h4, h5⟩ := Iv.mutL (T1 := [(m, v)]) I2.drop e3
            rw [hv0] at h1
            cases h1
            refine ⟨p, xs, i, jj, rfl, r, h2, by rw [h3]; exact e4, q σ G2 _ (h5 (ms.set jj m) (xs.set jj v) fun H3 q ft a1 a2 a3 => ?_)⟩
            obtain ⟨f1, f2, w1, w2, w3, rfl⟩ := a2
            have w3 : f2 = [] := w3
            subst w3
            simp only [List.append_nil] at a3 ⊢
            exact RML.set a1 w1 a3
          · cases hf
        · cases hf
      · cases hf
    · cases hf
  · cases hf
/-- name.append(e) -/
def sApp (j : Nat) (f : Ev) : Sv := fun b => if isO b j = true then (match b[j]? with
  | some (.o _ (.lst _)) => (match f b with
    | some (m, b1) => (match b1[j]? with
      | some (.o k (.lst ms)) => if ms.length < 1000000 then some (.nx, b1.set j (.o k (.lst (ms ++ [m])))) else none
      | _ => none)
    | none => none)
  | _ => none) else none
theorem s_app (j : Nat) {px p2 p3 : Pos} (h : EM X e f) (hN : X.N[j]? = some x := by rfl) (hv : Vis X.env.scope x := by first | exact Or.inl rfl | exact Or.inr (Or.inl rfl) | exact Or.inr (Or.inr rfl)) (hd : (x == ("__debug__" : Str)) = false := by decide)
    (hcd : (x == ("__classdict__" : Str)) = false := by decide)
    (hbase : attributeBase (.Name x px) "append" X.env (eval (.Name x px) X.env) = eval (.Name x px) X.env := by rfl)
    (hfew : ((backTo p3 (starEach (e :: []) X.env)).all (fun x => !x.1) && (backToKw p3 (keywordEach [] X.env)).all (fun x => x.1.isSome)
      && decide ((e :: []).length + ([] : List Keyword).length + (if ([] : List Keyword).isEmpty then 0 else 1) < 30)) = true := by rfl)
    (hline : (p2.endLine == p3.line) = true := by rfl) (hs : starEach (e :: []) X.env = (false, eval e X.env) :: starEach [] X.env := by rfl) (hplain : (backTo p3 (starEach [] X.env)).any (·.1) = false := by rfl)
    (hsw : swapsWith (.Call (.Attribute (.Name x px) "append" p2) [e] [] p3) none pos.line X.env = pure false := by rfl) :
    SM X (.Expr (.Call (.Attribute (.Name x px) "append" p2) [e] [] p3) pos) (sApp j f) := (ps_expr (pe_bm PySem.F.plainAttrs_list PySem.F.slot_list_append PySem.F.type_list_append mt_append (pv j hN hv hd hcd) (pa_cons h pa_nil hs) hbase hfew hline hs hplain) hsw).wk fun D σ H => by
  rintro ⟨c, G, b, T, r, b', hf, I, q⟩
  unfold sApp at hf
  split at hf
  · split at hf
    · rename_i ho k0 ms0 e0
      split at hf
      · rename_i m b1 e1
        split at hf
        · rename_i k ms e2
          split at hf
          · rename_i hz
            cases hf
            obtain ⟨p0, xs0, h01, h02, _⟩ := Iv.mutL (T1 := []) I e0
            refine ⟨_, h01, .inl ⟨rfl, xs0, SqL.of h02⟩, c, G, b, T, m, b1, e1, I, fun v G1 H1 I1 => ?_⟩
            obtain ⟨p, xs, h1, h2, h3, h4, h5⟩ := Iv.mutL (T1 := [(m, v)]) I1 e2
            rw [h01] at h1
            cases h1
            refine ⟨_, xs, v, rfl, rfl, h2, by rw [h3]; exact lt_line (by omega), q σ G1 _ (h5 (ms ++ [m]) (xs ++ [v]) fun H3 q ft a1 a2 a3 => ?_)⟩
            obtain ⟨f1, f2, w1, w2, w3, rfl⟩ := a2
            have w3 : f2 = [] := w3
            subst w3
            simp only [List.append_nil] at a3 ⊢
            exact ⟨q ++ f1, RML.app a1 w1, fun a ha => ha, a3⟩
          · cases hf
        · cases hf
      · cases hf
    · cases hf
  · cases hf
end
end PL

namespace PL
open PySem PySem.Spec PyProof.Rows L2
/-! ### - * // % ** -/
def gSub : D → D → Option D := gInt0 fun i j => .int (i - j)
def gMod : D → D → Option D := gInt (fun _ j => decide (0 < j)) fun i j => .int (i % j)
def gDiv : D → D → Option D := gInt (fun _ j => decide (0 < j ∧ j.natAbs < 2 ^ 8000)) fun i j => .int (i / j)
def gPow : D → D → Option D := gInt (fun i j => decide (0 ≤ j ∧ j ≤ 64 ∧ i.natAbs < 2 ^ 20000)) fun i j => .int (i ^ j.toNat)
def CPowW (i j : Int) : Prop := 0 ≤ j ∧ (Builtin.Int.intBits i : Int) * j ≤ 2 ^ 27
theorem op_powW {X : Cx} : OpR X (binaryOp .Pow) (rI CPowW fun i j => .int (i ^ j.toNat)) := opI fun _ _ _ _ _ _ _ hc q => pow_int hc.1 hc.2 q
theorem os_sub {K : PySem.W.Frag} : OpS K (rI0 fun i j => .int (i - j)) (g2 gSub) := os_int0 fun _ _ _ => rp_int
theorem os_mod {K : PySem.W.Frag} : OpS K (rI (fun _ j => 0 < j) fun i j => .int (i % j)) (g2 gMod) := os_int (fun _ _ h => of_decide_eq_true h) fun _ _ _ => rp_int
theorem os_div {K : PySem.W.Frag} : OpS K (rI CDivW fun i j => .int (i / j)) (g2 gDiv) := os_int (fun i j h => wide_div (of_decide_eq_true h).1 (of_decide_eq_true h).2 (by decide) (by decide)) fun _ _ _ => rp_int
theorem os_pow {K : PySem.W.Frag} : OpS K (rI CPowW fun i j => .int (i ^ j.toNat)) (g2 gPow) := os_int (fun i j h => by
  have h := of_decide_eq_true h
  refine ⟨h.1, ?_⟩
  have hb : Builtin.Int.intBits i ≤ 20000 := by
    unfold Builtin.Int.intBits
    split
    · omega
    · have := PySem.Flt.log2_lt_of (by decide : 0 < 20000) h.2.2
      omega
  have : (Builtin.Int.intBits i : Int) * j ≤ 20000 * 64 := Int.mul_le_mul (by omega) h.2.1 h.1 (by omega)
  omega) fun _ _ _ => rp_int
def gMul : D → D → Option M
  | .int i, .int j => if i.natAbs < 2 ^ 60 ∨ j.natAbs < 2 ^ 60 then some (.d (.int (i * j))) else none
  | .lst xs, .int k => if -1000000 ≤ k ∧ k ≤ 1000000 ∧ xs.length * k.toNat ≤ 1000000 then some (.lst ((List.replicate k.toNat xs).flatten.map .d)) else none
  | _, _ => none
def rMul : R2 := fun x y H Q => rI CMul (fun i j => .int (i * j)) x y H Q ∨ rRep x y H Q
theorem op_mulU {X : Cx} : OpR X (binaryOp .Mult) rMul := op_mul.or op_rep
theorem RpL.rep {K : PySem.W.Frag} {G : Hp} {ds : List D} {xs : List V} (h : RpL K G ds xs) : ∀ n, RpL K G (List.replicate n ds).flatten (List.replicate n xs).flatten
  | 0 => by simp [RpL]
  | n + 1 => by
    simp only [List.replicate_succ, List.flatten_cons]
    exact h.app (h.rep n)
theorem os_mul {K : PySem.W.Frag} : OpS K rMul (g2m gMul) := by
  intro c G H σ b T x y m1 m2 m Q hg I q
  unfold g2m at hg
  split at hg
  · rename_i d1 d2
    have r2 := I.topD
    have r1 := I.drop.topD
    have I0 := I.drop.drop
    unfold gMul at hg
    split at hg
    · split at hg
      · rename_i hz
        cases hg
        simp only [Rp] at r1 r2
        refine .inl ⟨_, _, r1, r2, ?_, q _ G H (I0.pushD rp_int)⟩
        unfold CMul
        omega
      · cases hg
    · split at hg
      · rename_i hz
        cases hg
        simp only [Rp] at r1 r2
        obtain ⟨p1, v1, h1, h2, h3⟩ := r1
        refine .inr ⟨p1, _, v1, h1, r2, I0.st.gh _ _ h2, by omega, by omega, ?_, fun p hp => q _ G _ (I0.newL hp (h3.rep _))⟩
        rw [← h3.len]
        exact le_line hz.2.2
      · cases hg
    · cases hg
  · cases hg
section
variable {X : Cx} {e e1 e2 e3 : Expr} {es : List Expr} {pos : Pos} {f f1 f2 f3 : Ev} {fs : Av} {src : List (Option Nat)} {x : Str}
theorem e_add (h1 : EM X e1 f1) (h2 : EM X e2 f2) : EM X (.BinOp e1 .Add e2 pos) (fOp (g2m gAdd) f1 f2) := e_op op_addU os_add h1 h2
theorem e_sub (h1 : EM X e1 f1) (h2 : EM X e2 f2) : EM X (.BinOp e1 .Sub e2 pos) (fOp (g2 gSub) f1 f2) := e_op op_sub os_sub h1 h2
theorem e_mul (h1 : EM X e1 f1) (h2 : EM X e2 f2) : EM X (.BinOp e1 .Mult e2 pos) (fOp (g2m gMul) f1 f2) := e_op op_mulU os_mul h1 h2
theorem e_div (h1 : EM X e1 f1) (h2 : EM X e2 f2) : EM X (.BinOp e1 .FloorDiv e2 pos) (fOp (g2 gDiv) f1 f2) := e_op op_fdivW os_div h1 h2
theorem e_mod (h1 : EM X e1 f1) (h2 : EM X e2 f2) : EM X (.BinOp e1 .Mod e2 pos) (fOp (g2 gMod) f1 f2) := e_op op_mod os_mod h1 h2
theorem e_pow (h1 : EM X e1 f1) (h2 : EM X e2 f2) : EM X (.BinOp e1 .Pow e2 pos) (fOp (g2 gPow) f1 f2) := e_op op_powW os_pow h1 h2
def gNeg : M → Option M
  | .d (.int i) => some (.d (.int (-i)))
  | _ => none
def fUn (g : M → Option M) (f : Ev) : Ev := fun b => match f b with
  | some (m, b1) => (match g m with
    | some m' => some (m', b1)
    | none => none)
  | none => none
theorem e_neg (h : EM X e f) : EM X (.UnaryOp .USub e pos) (fUn gNeg f) := (pe_un un_neg h).wk fun σ H Q => by
  rintro ⟨c, G, b, T, m, b', hf, I, q⟩
  unfold fUn at hf
  split at hf
  · rename_i m1 b1 e1
    unfold gNeg at hf
    split at hf
    · rename_i hg
      split at hg
      · cases hg
        cases hf
        refine ⟨c, G, b, T, _, _, e1, I, fun v G' H' I' => ?_⟩
        have r := I'.topD
        simp only [Rp] at r
        exact ⟨_, r, q _ G' H' (I'.drop.pushD rp_int)⟩
      · cases hg
    · cases hf
  · cases hf
/-! ### comparisons -/
def gLt : D → D → Option D := gC fun i j => decide (i < j)
def gLe : D → D → Option D := gC fun i j => decide (i ≤ j)
def gGt : D → D → Option D := gC fun i j => decide (j < i)
def gGe : D → D → Option D := gC fun i j => decide (j ≤ i)
theorem e_lt (h1 : EM X e1 f1) (h2 : EM X e2 f2) : EM X (.Compare e1 [.Lt] [e2] pos) (fOp (g2 gLt) f1 f2) := e_cmp op_lt pu_c.os h1 h2 (nomark _)
theorem e_le (h1 : EM X e1 f1) (h2 : EM X e2 f2) : EM X (.Compare e1 [.LtE] [e2] pos) (fOp (g2 gLe) f1 f2) := e_cmp op_le pu_c.os h1 h2 (nomark _)
theorem e_gt (h1 : EM X e1 f1) (h2 : EM X e2 f2) : EM X (.Compare e1 [.Gt] [e2] pos) (fOp (g2 gGt) f1 f2) := e_cmp op_gt pu_c.os h1 h2 (nomark _)
theorem e_ge (h1 : EM X e1 f1) (h2 : EM X e2 f2) : EM X (.Compare e1 [.GtE] [e2] pos) (fOp (g2 gGe) f1 f2) := e_cmp op_ge pu_c.os h1 h2 (nomark _)
theorem e_eq {k : Nat} (hr : Room k X.A) (h1 : EM X e1 f1) (h2 : EM X e2 f2) : EM X (.Compare e1 [.Eq] [e2] pos) (fOp (g2 gEq) f1 f2) := e_cmp (op_eqD hr.units) pu_eq.os h1 h2 (nomark _)
theorem e_ne {k : Nat} (hr : Room k X.A) (h1 : EM X e1 f1) (h2 : EM X e2 f2) : EM X (.Compare e1 [.NotEq] [e2] pos) (fOp (g2 gNe) f1 f2) := e_cmp (op_neD hr.units) pu_ne.os h1 h2 (nomark _)
theorem e_isN (h1 : EM X e1 f1) (h2 : EM X e2 f2) : EM X (.Compare e1 [.Is] [e2] pos) (fOp (g2 (gIsN true)) f1 f2) := e_cmp op_isN pu_isN.os h1 h2 (nomark _)
theorem e_notN (h1 : EM X e1 f1) (h2 : EM X e2 f2) : EM X (.Compare e1 [.IsNot] [e2] pos) (fOp (g2 (gIsN false)) f1 f2) := e_cmp op_notN pu_notN.os h1 h2 (nomark _)
theorem e_in (h1 : EM X e1 f1) (h2 : EM X e2 f2) (hm : behindInMarks .In e2 = false := by rfl) : EM X (.Compare e1 [.In] [e2] pos) (fOp (g2 (gIn false)) f1 f2) := e_cmp op_in_seq pu_in.os h1 h2 hm
theorem e_nin (h1 : EM X e1 f1) (h2 : EM X e2 f2) (hm : behindInMarks .NotIn e2 = false := by rfl) : EM X (.Compare e1 [.NotIn] [e2] pos) (fOp (g2 (gIn true)) f1 f2) := e_cmp op_notIn_seq pu_in.os h1 h2 hm
theorem e_inS (h1 : EM X e1 f1) (h2 : EM X e2 f2) (hm : behindInMarks .In e2 = false := by rfl) : EM X (.Compare e1 [.In] [e2] pos) (fOp (g2 (gInS false)) f1 f2) := e_cmp op_in_str pu_inS.os h1 h2 hm
theorem t_lt (h1 : EM X e1 f1) (h2 : EM X e2 f2) : TM X (.Compare e1 [.Lt] [e2] pos) (fT (fOp (g2 gLt) f1 f2)) := t_cmp op_lt pu_c.os h1 h2 (nomark _)
theorem t_le (h1 : EM X e1 f1) (h2 : EM X e2 f2) : TM X (.Compare e1 [.LtE] [e2] pos) (fT (fOp (g2 gLe) f1 f2)) := t_cmp op_le pu_c.os h1 h2 (nomark _)
theorem t_gt (h1 : EM X e1 f1) (h2 : EM X e2 f2) : TM X (.Compare e1 [.Gt] [e2] pos) (fT (fOp (g2 gGt) f1 f2)) := t_cmp op_gt pu_c.os h1 h2 (nomark _)
theorem t_ge (h1 : EM X e1 f1) (h2 : EM X e2 f2) : TM X (.Compare e1 [.GtE] [e2] pos) (fT (fOp (g2 gGe) f1 f2)) := t_cmp op_ge pu_c.os h1 h2 (nomark _)
theorem t_eq {k : Nat} (hr : Room k X.A) (h1 : EM X e1 f1) (h2 : EM X e2 f2) : TM X (.Compare e1 [.Eq] [e2] pos) (fT (fOp (g2 gEq) f1 f2)) := t_cmp (op_eqD hr.units) pu_eq.os h1 h2 (nomark _)
theorem t_ne {k : Nat} (hr : Room k X.A) (h1 : EM X e1 f1) (h2 : EM X e2 f2) : TM X (.Compare e1 [.NotEq] [e2] pos) (fT (fOp (g2 gNe) f1 f2)) := t_cmp (op_neD hr.units) pu_ne.os h1 h2 (nomark _)
theorem t_isN (h1 : EM X e1 f1) (h2 : EM X e2 f2) : TM X (.Compare e1 [.Is] [e2] pos) (fT (fOp (g2 (gIsN true)) f1 f2)) := t_cmp op_isN pu_isN.os h1 h2 (nomark _)
theorem t_notN (h1 : EM X e1 f1) (h2 : EM X e2 f2) : TM X (.Compare e1 [.IsNot] [e2] pos) (fT (fOp (g2 (gIsN false)) f1 f2)) := t_cmp op_notN pu_notN.os h1 h2 (nomark _)
theorem t_in (h1 : EM X e1 f1) (h2 : EM X e2 f2) (hm : behindInMarks .In e2 = false := by rfl) : TM X (.Compare e1 [.In] [e2] pos) (fT (fOp (g2 (gIn false)) f1 f2)) := t_cmp op_in_seq pu_in.os h1 h2 hm
theorem t_nin (h1 : EM X e1 f1) (h2 : EM X e2 f2) (hm : behindInMarks .NotIn e2 = false := by rfl) : TM X (.Compare e1 [.NotIn] [e2] pos) (fT (fOp (g2 (gIn true)) f1 f2)) := t_cmp op_notIn_seq pu_in.os h1 h2 hm
/-- name cmp e, the name's thing owned -/
def fOpO (g : D → D → Option D) (j : Nat) (f : Ev) : Ev := fun b => if isO b j = true then (match f b with
  | some (.d y, b1) => (match b1[j]? with
    | some (.o _ m) => (match g m.toD y with
      | some d => some (.d d, b1)
      | none => none)
    | _ => none)
  | _ => none) else none
theorem opO_in {K : PySem.W.Frag} {r : R2} {g : D → D → Option D} {j : Nat} (hs : PuS K r g) : ∀ σ H Q, teO K (fOpO g j f) σ H Q → tOp r (tVar j) (teO K f) σ H Q := fun σ H Q => by
  rintro ⟨c, G, b, T, m, b', hf, I, q⟩
  unfold fOpO at hf
  split at hf
  · rename_i ho
    obtain ⟨v0, hv0⟩ := isO_v I ho
    split at hf
    · rename_i y b1 e1
      split at hf
      · rename_i k m e2
        split at hf
        · rename_i d e3
          cases hf
          refine ⟨v0, hv0, c, G, b, T, _, b', e1, I, fun v G1 H1 I1 => ?_⟩
          obtain ⟨u, ff, h1, h2⟩ := I1.drop.getO e2
          rw [hv0] at h1
          cases h1
          exact hs H1 v0 v m.toD y d Q e3 (h2.now I1.st.gh) (Rp.mono I1.st.gh _ _ I1.topD) fun v hv => q v G1 H1 (I1.drop.pushD (hv G1))
        · cases hf
      · cases hf
    · cases hf
  · cases hf
theorem e_neO {k : Nat} (j : Nat) {px : Pos} (hr : Room k X.A) (h : EM X e f) (hN : X.N[j]? = some x := by rfl) (hv : Vis X.env.scope x := by first | exact Or.inl rfl | exact Or.inr (Or.inl rfl) | exact Or.inr (Or.inr rfl)) (hd : (x == ("__debug__" : Str)) = false := by decide)
    (hcd : (x == ("__classdict__" : Str)) = false := by decide) : EM X (.Compare (.Name x px) [.NotEq] [e] pos) (fOpO gNe j f) := (pe_cmpR (op_neD hr.units) (pv j hN hv hd hcd) h (nomark _)).wk (opO_in pu_ne)
theorem e_eqO {k : Nat} (j : Nat) {px : Pos} (hr : Room k X.A) (h : EM X e f) (hN : X.N[j]? = some x := by rfl) (hv : Vis X.env.scope x := by first | exact Or.inl rfl | exact Or.inr (Or.inl rfl) | exact Or.inr (Or.inr rfl)) (hd : (x == ("__debug__" : Str)) = false := by decide)
    (hcd : (x == ("__classdict__" : Str)) = false := by decide) : EM X (.Compare (.Name x px) [.Eq] [e] pos) (fOpO gEq j f) := (pe_cmpR (op_eqD hr.units) (pv j hN hv hd hcd) h (nomark _)).wk (opO_in pu_eq)
theorem t_neO {k : Nat} (j : Nat) {px : Pos} (hr : Room k X.A) (h : EM X e f) (hN : X.N[j]? = some x := by rfl) (hv : Vis X.env.scope x := by first | exact Or.inl rfl | exact Or.inr (Or.inl rfl) | exact Or.inr (Or.inr rfl)) (hd : (x == ("__debug__" : Str)) = false := by decide)
    (hcd : (x == ("__classdict__" : Str)) = false := by decide) : TM X (.Compare (.Name x px) [.NotEq] [e] pos) (fT (fOpO gNe j f)) := t_tTest (pt_cmpR (op_neD hr.units) (pv j hN hv hd hcd) h (nomark _)) (opO_in pu_ne)
theorem t_eqO {k : Nat} (j : Nat) {px : Pos} (hr : Room k X.A) (h : EM X e f) (hN : X.N[j]? = some x := by rfl) (hv : Vis X.env.scope x := by first | exact Or.inl rfl | exact Or.inr (Or.inl rfl) | exact Or.inr (Or.inr rfl)) (hd : (x == ("__debug__" : Str)) = false := by decide)
    (hcd : (x == ("__classdict__" : Str)) = false := by decide) : TM X (.Compare (.Name x px) [.Eq] [e] pos) (fT (fOpO gEq j f)) := t_tTest (pt_cmpR (op_eqD hr.units) (pv j hN hv hd hcd) h (nomark _)) (opO_in pu_eq)
end
/-! ### built-ins -/
/-- one data in, a scalar out -/
def g1 (g : D → Option D) : List M → Option M
  | [.d x] => (match g x with
    | some d => some (.d d)
    | none => none)
  | _ => none
def g1m (g : D → Option M) : List M → Option M
  | [.d x] => g x
  | _ => none
def g22 (g : D → D → Option D) : List M → Option M
  | [.d x, .d y] => (match g x y with
    | some d => some (.d d)
    | none => none)
  | _ => none
section
variable {K : PySem.W.Frag}
theorem cs1 {r : List V → Hp → VK → Prop} {g : D → Option D} (h : ∀ (H : Hp) (x : V) (d1 d : D) (Q : VK), g d1 = some d → Rp K H d1 x → (∀ v, (∀ G, Rp K G d v) → Q v H) → r [x] H Q) : CaS K r (g1 g) := by
  intro c G H σ b T ms us m Q hg hl I q
  unfold g1 at hg
  split at hg
  · rename_i x
    split at hg
    · rename_i d e
      cases hg
      obtain ⟨u, rfl⟩ := len1 hl
      have I' : Iv K c G H σ b ((.d x, u) :: T) := I
      exact h H u x d Q e (Rp.mono I.st.gh _ _ I'.topD) fun v hv => q v G H (I'.drop.pushD (hv G))
    · cases hg
  · cases hg
theorem cs22 {r : List V → Hp → VK → Prop} {g : D → D → Option D} (h : ∀ (H : Hp) (x y : V) (d1 d2 d : D) (Q : VK), g d1 d2 = some d → Rp K H d1 x → Rp K H d2 y → (∀ v, (∀ G, Rp K G d v) → Q v H) → r [x, y] H Q) : CaS K r (g22 g) := by
  intro c G H σ b T ms us m Q hg hl I q
  unfold g22 at hg
  split at hg
  · rename_i x y
    split at hg
    · rename_i d e
      cases hg
      obtain ⟨u, v, rfl⟩ := len2 hl
      have I' : Iv K c G H σ b ((.d x, u) :: (.d y, v) :: T) := I
      exact h H u v x y d Q e (Rp.mono I.st.gh _ _ I'.topD) (Rp.mono I.st.gh _ _ I'.drop.topD) fun v hv => q v G H (I'.drop.drop.pushD (hv G))
    · cases hg
  · cases hg
def gLen : D → Option D
  | .tup ds => some (.int ds.length)
  | .lst ds => some (.int ds.length)
  | .seq ds => some (.int ds.length)
  | .str z => if z.length ≤ 1000000 then some (.int z.length) else none
  | _ => none
theorem cs_len : CaS K (fun xs H Q => ∃ x n, xs = [x] ∧ LenV K x H n ∧ Q (.int n) H) (g1 gLen) := cs1 fun H x d1 d Q hg r q => by
  unfold gLen at hg
  split at hg
  · cases hg
    simp only [Rp] at r
    obtain ⟨p, xs, rfl, h2, h3⟩ := r
    exact ⟨_, _, rfl, .inr ⟨xs, h2, by rw [h3.len]⟩, q _ fun _ => rp_int⟩
  · cases hg
    simp only [Rp] at r
    obtain ⟨p, xs, rfl, h2, h3⟩ := r
    exact ⟨_, _, rfl, .inl ⟨xs, SqL.of h2, by rw [h3.len]⟩, q _ fun _ => rp_int⟩
  · cases hg
    simp only [Rp] at r
    obtain ⟨p, xs, rfl, h2, h3⟩ := r
    exact ⟨_, _, rfl, .inl ⟨xs, h2, by rw [h3.len]⟩, q _ fun _ => rp_int⟩
  · split at hg
    · rename_i hz
      cases hg
      simp only [Rp] at r
      subst r
      exact ⟨_, _, rfl, ⟨le_line hz, rfl⟩, q _ fun _ => rp_int⟩
    · cases hg
  · cases hg
def gToInt : D → Option D
  | .int i => some (.int i)
  | .bl k => some (.int (if k then 1 else 0))
  | _ => none
theorem cs_int : CaS K (fun xs H Q => (∃ i, xs = [.int i] ∧ Q (.int i) H) ∨ ∃ k, xs = [.bl k] ∧ Q (.int (if k then 1 else 0)) H) (g1 gToInt) := cs1 fun H x d1 d Q hg r q => by
  unfold gToInt at hg
  split at hg
  · cases hg
    simp only [Rp] at r
    subst r
    exact .inl ⟨_, rfl, q _ fun _ => rp_int⟩
  · cases hg
    simp only [Rp] at r
    subst r
    exact .inr ⟨_, rfl, q _ fun _ => rp_int⟩
  · cases hg
def gAbs : D → Option D
  | .int i => some (.int (if i < 0 then -i else i))
  | _ => none
theorem cs_abs : CaS K (fun xs H Q => ∃ i, xs = [.int i] ∧ Q (.int (if i < 0 then -i else i)) H) (g1 gAbs) := cs1 fun H x d1 d Q hg r q => by
  unfold gAbs at hg
  split at hg
  · cases hg
    simp only [Rp] at r
    subst r
    exact ⟨_, rfl, q _ fun _ => rp_int⟩
  · cases hg
def gMax : D → D → Option D
  | .int i, .int j => some (.int (if j > i then j else i))
  | _, _ => none
def gMin : D → D → Option D
  | .int i, .int j => some (.int (if j < i then j else i))
  | _, _ => none
theorem cs_max : CaS K (fun xs H Q => ∃ i j, xs = [.int i, .int j] ∧ Q (.int (if j > i then j else i)) H) (g22 gMax) := cs22 fun H x y d1 d2 d Q hg r1 r2 q => by
  unfold gMax at hg
  split at hg
  · cases hg
    simp only [Rp] at r1 r2
    subst r1 r2
    exact ⟨_, _, rfl, q _ fun _ => rp_int⟩
  · cases hg
theorem cs_min : CaS K (fun xs H Q => ∃ i j, xs = [.int i, .int j] ∧ Q (.int (if j < i then j else i)) H) (g22 gMin) := cs22 fun H x y d1 d2 d Q hg r1 r2 q => by
  unfold gMin at hg
  split at hg
  · cases hg
    simp only [Rp] at r1 r2
    subst r1 r2
    exact ⟨_, _, rfl, q _ fun _ => rp_int⟩
  · cases hg
/-- tuple(x), list(x) -/
def gTupOf : D → Option M
  | .tup ds => some (.d (.tup ds))
  | .lst ds => some (.d (.tup ds))
  | _ => none
theorem cs_tup : CaS K (fun xs H Q => ∃ p ys, xs = [.ref p] ∧ ((SqL K H p ys ∧ ∀ l, H l = none → Q (.ref l) (upd H l (.tup ys))) ∨ (SqT K H p ys ∧ Q (.ref p) H))) (g1m gTupOf) := by
  intro c G H σ b T ms us m Q hg hl I q
  unfold g1m at hg
  split at hg
  · rename_i x
    obtain ⟨u, rfl⟩ := len1 hl
    have I' : Iv K c G H σ b ((.d x, u) :: T) := I
    have r := I'.topD
    unfold gTupOf at hg
    split at hg
    · cases hg
      have r0 := r
      simp only [Rp] at r
      obtain ⟨p, xs, rfl, h2, h3⟩ := r
      exact ⟨p, xs, rfl, .inr ⟨sqt_mono I.st.gh h2, q _ G H (I'.drop.pushD r0)⟩⟩
    · cases hg
      simp only [Rp] at r
      obtain ⟨p, xs, rfl, h2, h3⟩ := r
      exact ⟨p, xs, rfl, .inl ⟨I.st.gh.seq (SqL.of h2), fun l hl => q _ _ _ (I'.drop.newT hl h3)⟩⟩
    · cases hg
  · cases hg
def gLstOf : D → Option M
  | .tup ds => some (.lst (ds.map .d))
  | .lst ds => some (.lst (ds.map .d))
  | _ => none
theorem cs_lst : CaS K (fun xs H Q => ∃ p ys, xs = [.ref p] ∧ (SqL K H p ys ∨ SqT K H p ys) ∧ ∀ l, H l = none → Q (.ref l) (upd H l (.lst ys))) (g1m gLstOf) := by
  intro c G H σ b T ms us m Q hg hl I q
  unfold g1m at hg
  split at hg
  · rename_i x
    obtain ⟨u, rfl⟩ := len1 hl
    have I' : Iv K c G H σ b ((.d x, u) :: T) := I
    have r := I'.topD
    unfold gLstOf at hg
    split at hg
    · cases hg
      simp only [Rp] at r
      obtain ⟨p, xs, rfl, h2, h3⟩ := r
      exact ⟨p, xs, rfl, .inr (sqt_mono I.st.gh h2), fun l hl => q _ _ _ (I'.drop.newL hl h3)⟩
    · cases hg
      simp only [Rp] at r
      obtain ⟨p, xs, rfl, h2, h3⟩ := r
      exact ⟨p, xs, rfl, .inl (I.st.gh.seq (SqL.of h2)), fun l hl => q _ _ _ (I'.drop.newL hl h3)⟩
    · cases hg
  · cases hg
/-- all(..), sum(..) of a list -/
def D.bls : List D → Option (List Bool)
  | [] => some []
  | .bl k :: ds => (match D.bls ds with
    | some ks => some (k :: ks)
    | none => none)
  | _ :: _ => none
def D.ints : List D → Option (List Int)
  | [] => some []
  | .int k :: ds => (match D.ints ds with
    | some ks => some (k :: ks)
    | none => none)
  | _ :: _ => none
def D.strs : List D → Option (List Str)
  | [] => some []
  | .str k :: ds => (match D.strs ds with
    | some ks => some (k :: ks)
    | none => none)
  | _ :: _ => none
theorem RpL.bls {H : Hp} : ∀ {ds : List D} {ks : List Bool} {xs : List V}, RpL K H ds xs → D.bls ds = some ks → xs = ks.map V.bl
  | [], ks, xs, h, e => by simp only [RpL] at h; simp only [D.bls, Option.some.injEq] at e; subst h e; rfl
  | d :: ds, ks, xs, h, e => by
    simp only [RpL] at h
    obtain ⟨y, ys, rfl, h2, h3⟩ := h
    cases d <;> simp only [D.bls] at e <;> first
      | (cases e; done)
      | (split at e
         · rename_i ks' e1
           cases e
           simp only [Rp] at h2
           rw [h2, h3.bls e1]; rfl
         · cases e)
theorem RpL.ints {H : Hp} : ∀ {ds : List D} {ks : List Int} {xs : List V}, RpL K H ds xs → D.ints ds = some ks → xs = ks.map V.int
  | [], ks, xs, h, e => by simp only [RpL] at h; simp only [D.ints, Option.some.injEq] at e; subst h e; rfl
  | d :: ds, ks, xs, h, e => by
    simp only [RpL] at h
    obtain ⟨y, ys, rfl, h2, h3⟩ := h
    cases d <;> simp only [D.ints] at e <;> first
      | (cases e; done)
      | (split at e
         · rename_i ks' e1
           cases e
           simp only [Rp] at h2
           rw [h2, h3.ints e1]; rfl
         · cases e)
theorem RpL.strs {H : Hp} : ∀ {ds : List D} {ks : List Str} {xs : List V}, RpL K H ds xs → D.strs ds = some ks → xs = ks.map V.str
  | [], ks, xs, h, e => by simp only [RpL] at h; simp only [D.strs, Option.some.injEq] at e; subst h e; rfl
  | d :: ds, ks, xs, h, e => by
    simp only [RpL] at h
    obtain ⟨y, ys, rfl, h2, h3⟩ := h
    cases d <;> simp only [D.strs] at e <;> first
      | (cases e; done)
      | (split at e
         · rename_i ks' e1
           cases e
           simp only [Rp] at h2
           rw [h2, h3.strs e1]; rfl
         · cases e)
def gAll : D → Option D
  | .lst ds => (match D.bls ds with
    | some ks => some (.bl (ks.all id))
    | none => none)
  | _ => none
def gSum : D → Option D
  | .lst ds => (match D.ints ds with
    | some ks => some (.int ks.sum)
    | none => none)
  | _ => none
theorem cs_all : CaS K (rAll K) (g1 gAll) := cs1 fun H x d1 d Q hg r q => by
  unfold gAll at hg
  split at hg
  · split at hg
    · rename_i ks e
      cases hg
      simp only [Rp] at r
      obtain ⟨p, xs, rfl, h2, h3⟩ := r
      exact ⟨p, ks, rfl, by rw [← h3.bls e]; exact SqL.of h2, q _ fun _ => rp_bl⟩
    · cases hg
  · cases hg
theorem cs_sum : CaS K (rSum K) (g1 gSum) := cs1 fun H x d1 d Q hg r q => by
  unfold gSum at hg
  split at hg
  · split at hg
    · rename_i ks e
      cases hg
      simp only [Rp] at r
      obtain ⟨p, xs, rfl, h2, h3⟩ := r
      exact ⟨p, ks, rfl, by rw [← h3.ints e]; exact SqL.of h2, q _ fun _ => rp_int⟩
    · cases hg
  · cases hg
/-- isinstance -/
def tyN : D → Option String
  | .non => some "NoneType"
  | .bl _ => some "bool"
  | .int _ => some "int"
  | .str _ => some "str"
  | .tup _ => some "tuple"
  | .lst _ => some "list"
  | .dic .. => some "dict"
  | _ => none
def isiB (a n : String) : Option Bool := if (["NoneType", "bool", "int", "str", "tuple", "list", "dict"] : List String).contains a && (["bool", "int", "str", "tuple", "list", "dict"] : List String).contains n then some (a == n || (a == "bool" && n == "int")) else none
theorem isi_all : (["NoneType", "bool", "int", "str", "tuple", "list", "dict"] : List String).all (fun a => (["bool", "int", "str", "tuple", "list", "dict"] : List String).all fun n => kitB a n == some (a == n || (a == "bool" && n == "int"))) = true := by decide +kernel
theorem isi_kit {a n : String} {k : Bool} (h : isiB a n = some k) : kitB a n = some k := by
  unfold isiB at h
  split at h
  · rename_i hc
    cases h
    rw [Bool.and_eq_true] at hc
    have h1 := List.all_eq_true.mp isi_all a (by simpa using hc.1)
    have h2 := List.all_eq_true.mp h1 n (by simpa using hc.2)
    exact eq_of_beq h2
  · cases h
def gIsi : D → D → Option D
  | d, .ty n => (match tyN d with
    | some a => (match isiB a n with
      | some k => some (.bl k)
      | none => none)
    | none => none)
  | _, _ => none
theorem ty_of {H : Hp} {d : D} {x : V} {a : String} (r : Rp K H d x) (h : tyN d = some a) : TyX K H x (.type a) := by
  cases d <;> simp only [tyN, Option.some.injEq] at h <;> first
    | (cases h; done)
    | (subst h; simp only [Rp] at r; subst r; exact .base (by constructor))
    | (subst h; simp only [Rp] at r; obtain ⟨p, xs, rfl, h2, h3⟩ := r; first
        | exact .base (.lst h2)
        | (rcases h2 with (h2 | ⟨o, h2⟩) | ⟨o, its, n, h2, h4, _⟩
           · exact .base (.tup h2)
           · exact .fTuple h2
           · exact .kTuple h2 h4)
        | exact .base (.dK h2))
theorem cs_isi : CaS K (rIsi K) (g22 gIsi) := cs22 fun H x y d1 d2 d Q hg r1 r2 q => by
  unfold gIsi at hg
  split at hg
  · split at hg
    · rename_i a e1
      split at hg
      · rename_i n k e2
        cases hg
        simp only [Rp] at r2
        subst r2
        exact ⟨x, _, _, _, k, rfl, .ty _, ty_of r1 e1, kit_ty (isi_kit e2), q _ fun _ => rp_bl⟩
      · cases hg
    · cases hg
  · cases hg
end
section
variable {X : Cx} {e e1 e2 e3 : Expr} {es : List Expr} {pos p : Pos} {f f1 f2 f3 : Ev} {fs : Av} {src : List (Option Nat)} {x : Str}
theorem e_cb {r : List V → Hp → VK → Prop} {g : List M → Option M} {id : String} (hc : CallR X (.builtin id) r) (hs : CaS X.K r g) (hm : X.mg x = none) (hv : bootBuiltins x = some (.builtin id)) (ha : AM X (e :: es) src fs) (hsrc : src.all (·.isNone) = true := by rfl) (hg : Gl X x := by rfl) (hn : x ≠ "__name__" := by decide) (hdb : (x == ("__debug__" : Str)) = false := by decide)
    (he : starEach (e :: es) X.env = (false, eval e X.env) :: starEach es X.env := by rfl) (hpl : (backTo pos (starEach es X.env)).any (·.1) = false := by rfl) : EM X (.Call (.Name x p) (e :: es) [] pos) (fOf g fs) := (pe_callB hc hg hm hv ha hn hdb he hpl).wk (cb_in hs hsrc)
theorem e_ct {r : List V → Hp → VK → Prop} {g : List M → Option M} {id : String} (hc : CallR X (.type id) r) (hs : CaS X.K r g) (hm : X.mg x = none) (hv : bootBuiltins x = some (.type id)) (ha : AM X (e :: es) src fs) (hsrc : src.all (·.isNone) = true := by rfl) (hg : Gl X x := by rfl) (hn : x ≠ "__name__" := by decide) (hdb : (x == ("__debug__" : Str)) = false := by decide)
    (he : starEach (e :: es) X.env = (false, eval e X.env) :: starEach es X.env := by rfl) (hpl : (backTo pos (starEach es X.env)).any (·.1) = false := by rfl) : EM X (.Call (.Name x p) (e :: es) [] pos) (fOf g fs) := (pe_callTy hc hg hm hv ha hn hdb he hpl).wk (cb_in hs hsrc)
theorem boot_abs' : bootBuiltins "abs" = some (.builtin "abs") := by decide +kernel
theorem boot_all' : bootBuiltins "all" = some (.builtin "all") := by decide +kernel
theorem e_len (hm : X.mg "len" = none) (ha : AM X [e] src fs) (hsrc : src.all (·.isNone) = true := by rfl) (hg : Gl X "len" := by rfl) (he : starEach [e] X.env = (false, eval e X.env) :: starEach [] X.env := by rfl) (hpl : (backTo pos (starEach [] X.env)).any (·.1) = false := by rfl) : EM X (.Call (.Name "len" p) [e] [] pos) (fOf (PL.g1 gLen) fs) := e_cb call_len cs_len hm boot_len ha hsrc hg (by decide) (by decide) he hpl
theorem e_toInt (hm : X.mg "int" = none) (ha : AM X [e] src fs) (hsrc : src.all (·.isNone) = true := by rfl) (hg : Gl X "int" := by rfl) (he : starEach [e] X.env = (false, eval e X.env) :: starEach [] X.env := by rfl) (hpl : (backTo pos (starEach [] X.env)).any (·.1) = false := by rfl) : EM X (.Call (.Name "int" p) [e] [] pos) (fOf (PL.g1 gToInt) fs) := e_ct call_int1 cs_int hm PyProof.Rows.boot_int ha hsrc hg (by decide) (by decide) he hpl
theorem e_abs (hm : X.mg "abs" = none) (ha : AM X [e] src fs) (hsrc : src.all (·.isNone) = true := by rfl) (hg : Gl X "abs" := by rfl) (he : starEach [e] X.env = (false, eval e X.env) :: starEach [] X.env := by rfl) (hpl : (backTo pos (starEach [] X.env)).any (·.1) = false := by rfl) : EM X (.Call (.Name "abs" p) [e] [] pos) (fOf (PL.g1 gAbs) fs) := e_cb call_abs cs_abs hm boot_abs' ha hsrc hg (by decide) (by decide) he hpl
theorem e_max (hc : X.calm = true) (hm : X.mg "max" = none) (ha : AM X [e, e2] src fs) (hsrc : src.all (·.isNone) = true := by rfl) (hg : Gl X "max" := by rfl) (he : starEach [e, e2] X.env = (false, eval e X.env) :: starEach [e2] X.env := by rfl) (hpl : (backTo pos (starEach [e2] X.env)).any (·.1) = false := by rfl) : EM X (.Call (.Name "max" p) [e, e2] [] pos) (fOf (g22 gMax) fs) := e_cb (call_max2 hc) cs_max hm PyProof.Rows.boot_max ha hsrc hg (by decide) (by decide) he hpl
theorem e_min (hc : X.calm = true) (hm : X.mg "min" = none) (ha : AM X [e, e2] src fs) (hsrc : src.all (·.isNone) = true := by rfl) (hg : Gl X "min" := by rfl) (he : starEach [e, e2] X.env = (false, eval e X.env) :: starEach [e2] X.env := by rfl) (hpl : (backTo pos (starEach [e2] X.env)).any (·.1) = false := by rfl) : EM X (.Call (.Name "min" p) [e, e2] [] pos) (fOf (g22 gMin) fs) := e_cb (call_min2 hc) cs_min hm PyProof.Rows.boot_min ha hsrc hg (by decide) (by decide) he hpl
theorem e_tupOf (hm : X.mg "tuple" = none) (ha : AM X [e] src fs) (hsrc : src.all (·.isNone) = true := by rfl) (hg : Gl X "tuple" := by rfl) (he : starEach [e] X.env = (false, eval e X.env) :: starEach [] X.env := by rfl) (hpl : (backTo pos (starEach [] X.env)).any (·.1) = false := by rfl) : EM X (.Call (.Name "tuple" p) [e] [] pos) (fOf (g1m gTupOf) fs) := e_ct call_tuple_of cs_tup hm PyProof.Rows.boot_tuple ha hsrc hg (by decide) (by decide) he hpl
theorem e_lstOf (hm : X.mg "list" = none) (ha : AM X [e] src fs) (hsrc : src.all (·.isNone) = true := by rfl) (hg : Gl X "list" := by rfl) (he : starEach [e] X.env = (false, eval e X.env) :: starEach [] X.env := by rfl) (hpl : (backTo pos (starEach [] X.env)).any (·.1) = false := by rfl) : EM X (.Call (.Name "list" p) [e] [] pos) (fOf (g1m gLstOf) fs) := e_ct call_list_of cs_lst hm PyProof.Rows.boot_list ha hsrc hg (by decide) (by decide) he hpl
theorem e_all (hc : X.calm = true) (hm : X.mg "all" = none) (ha : AM X [e] src fs) (hsrc : src.all (·.isNone) = true := by rfl) (hg : Gl X "all" := by rfl) (he : starEach [e] X.env = (false, eval e X.env) :: starEach [] X.env := by rfl) (hpl : (backTo pos (starEach [] X.env)).any (·.1) = false := by rfl) : EM X (.Call (.Name "all" p) [e] [] pos) (fOf (PL.g1 gAll) fs) := e_cb (cr_all hc) cs_all hm boot_all' ha hsrc hg (by decide) (by decide) he hpl
theorem e_sum (hc : X.calm = true) (hm : X.mg "sum" = none) (ha : AM X [e] src fs) (hsrc : src.all (·.isNone) = true := by rfl) (hg : Gl X "sum" := by rfl) (he : starEach [e] X.env = (false, eval e X.env) :: starEach [] X.env := by rfl) (hpl : (backTo pos (starEach [] X.env)).any (·.1) = false := by rfl) : EM X (.Call (.Name "sum" p) [e] [] pos) (fOf (PL.g1 gSum) fs) := e_cb (cr_sum hc) cs_sum hm PyProof.Rows.boot_sum ha hsrc hg (by decide) (by decide) he hpl
theorem e_isi (hm : X.mg "isinstance" = none) (ha : AM X [e, e2] src fs) (hsrc : src.all (·.isNone) = true := by rfl) (hg : Gl X "isinstance" := by rfl) (he : starEach [e, e2] X.env = (false, eval e X.env) :: starEach [e2] X.env := by rfl) (hpl : (backTo pos (starEach [e2] X.env)).any (·.1) = false := by rfl) : EM X (.Call (.Name "isinstance" p) [e, e2] [] pos) (fOf (g22 gIsi) fs) := e_cb call_isi cs_isi hm PyProof.Rows.boot_isinstance ha hsrc hg (by decide) (by decide) he hpl
theorem e_ty {n : String} (hm : X.mg x = none) (hv : bootBuiltins x = some (.type n)) (hg : Gl X x := by rfl) (hn : x ≠ "__name__" := by decide) (hd : (x == ("__debug__" : Str)) = false := by decide) : EM X (.Name x pos) (fC (.ty n)) := e_const (pe_bltn hg hm hv (show RelV (.ty n) (.type n) from rfl) hn hd) fun _ => by simp [Rp]
end
end PL

namespace PL
open PySem PySem.Spec PyProof.Rows L2
theorem rpl_nil {K : PySem.W.Frag} {G : Hp} : RpL K G [] [] := by simp [RpL]
theorem boot_int' : bootBuiltins "int" = some (.type "int") := PyProof.Rows.boot_int
theorem boot_bool' : bootBuiltins "bool" = some (.type "bool") := PyProof.Rows.boot_bool
theorem boot_str' : bootBuiltins "str" = some (.type "str") := PyProof.Rows.boot_str
theorem boot_list' : bootBuiltins "list" = some (.type "list") := PyProof.Rows.boot_list
theorem boot_tuple' : bootBuiltins "tuple" = some (.type "tuple") := PyProof.Rows.boot_tuple
theorem boot_dict' : bootBuiltins "dict" = some (.type "dict") := PyProof.Rows.boot_dict
def dStrs (ss : List Str) : D := .tup (ss.map .str)
/-- a tuple of texts of the top -/
def TupG (K : PySem.W.Frag) (mg : Str → Option Value) (x : Str) (ss : List Str) : Prop := ∃ a, mg x = some (.ref a) ∧ ∀ H, SqT K H a (ss.map V.str)
theorem RpL.of_strs {K : PySem.W.Frag} {G : Hp} : ∀ ss : List Str, RpL K G (ss.map .str) (ss.map V.str)
  | [] => by simp [RpL]
  | s :: ss => by
    simp only [List.map_cons, RpL]
    exact ⟨.str s, _, rfl, rp_str, RpL.of_strs ss⟩
section
variable {X : Cx} {e e1 e2 e3 : Expr} {es : List Expr} {st : Stmt} {sts : List Stmt} {pos p : Pos} {f f1 f2 f3 : Ev} {fs : Av} {src : List (Option Nat)} {x : Str} {t t1 t2 : Tv} {k1 k2 : Sv}
theorem e_globI {i : Int} (hm : ∃ t, X.mg x = some (.int i t)) (hg : Gl X x := by rfl) (hd : (x == ("__debug__" : Str)) = false := by decide) : EM X (.Name x pos) (fC (.int i)) := by
  obtain ⟨t, hm⟩ := hm
  exact e_glob (v := .int i) hm ⟨t, rfl⟩ (fun _ => rp_int) hg hd
theorem e_globS {i : Str} (hm : ∃ t, X.mg x = some (.str i t)) (hg : Gl X x := by rfl) (hd : (x == ("__debug__" : Str)) = false := by decide) : EM X (.Name x pos) (fC (.str i)) := by
  obtain ⟨t, hm⟩ := hm
  exact e_glob (v := .str i) hm ⟨t, rfl⟩ (fun _ => rp_str) hg hd
theorem e_globT {ss : List Str} (hm : TupG X.K X.mg x ss) (hg : Gl X x := by rfl) (hd : (x == ("__debug__" : Str)) = false := by decide) : EM X (.Name x pos) (fC (dStrs ss)) := by
  obtain ⟨a, hm, hs⟩ := hm
  exact e_glob (v := .ref a) hm rfl (fun G => by simp only [dStrs, Rp]; exact ⟨a, _, rfl, hs G, RpL.of_strs ss⟩) hg hd
/-- len(name), the name's list owned -/
def fLenO (j : Nat) : Ev := fun b => match b[j]? with
  | some (.o _ (.lst ms)) => some (.d (.int ms.length), b)
  | _ => none
theorem e_lenO (j : Nat) {px : Pos} (hm : X.mg "len" = none) (hg : Gl X "len" := by rfl) (hN : X.N[j]? = some x := by rfl) (hv : Vis X.env.scope x := by first | exact Or.inl rfl | exact Or.inr (Or.inl rfl) | exact Or.inr (Or.inr rfl)) (hd : (x == ("__debug__" : Str)) = false := by decide)
    (hcd : (x == ("__classdict__" : Str)) = false := by decide) (hs : starEach (.Name x px :: []) X.env = (false, eval (.Name x px) X.env) :: starEach [] X.env := by rfl) (hpl : (backTo pos (starEach [] X.env)).any (·.1) = false := by rfl) :
    EM X (.Call (.Name "len" p) [.Name x px] [] pos) (fLenO j) := (pe_callB call_len_seq hg hm boot_len (pa_cons (pv j hN hv hd hcd) pa_nil hs) (by decide) (by decide) hs hpl).wk fun σ H Q => by
  rintro ⟨c, G, b, T, m, b', hf, I, q⟩
  unfold fLenO at hf
  split at hf
  · rename_i k ms e1
    cases hf
    obtain ⟨p, xs, h1, h2, h3, _⟩ := Iv.mutL (T1 := []) I e1
    refine ⟨_, h1, p, xs, rfl, .inl (SqL.of h2), ?_⟩
    rw [h3]
    exact q _ G H (I.pushD rp_int)
  · cases hf
/-- the slot's fresh thing is data from now on -/
def sFrz (i : Nat) (g : Sv) : Sv := fun b => match g b with
  | some (.nx, b1) => (match b1[i]? with
    | some (.o none m) => some (.nx, b1.set i (.d m.toD))
    | some (.d x) => some (.nx, b1)
    | _ => none)
  | _ => none
theorem s_frz (i : Nat) (h : SM X st k1) : SM X st (sFrz i k1) := h.wk fun D σ H => by
  rintro ⟨c, G, b, T, r, b', hf, I, q⟩
  unfold sFrz at hf
  split at hf
  · rename_i b1 e1
    split at hf
    · rename_i m e2
      cases hf
      refine ⟨c, G, b, T, .nx, b1, e1, I, fun σ' G' H' I' => ?_⟩
      obtain ⟨G2, I2⟩ := I'.frz e2
      exact q σ' G2 H' I2
    · cases hf
      exact ⟨c, G, b, T, .nx, b', e1, I, q⟩
    · cases hf
  · cases hf
/-! ### slices -/
def cutD (xs : List D) (lo hi : Option Int) : List D := (xs.drop (HT.sIx xs.length 0 lo)).take (HT.sIx xs.length xs.length hi - HT.sIx xs.length 0 lo)
theorem RpL.cut {K : PySem.W.Frag} {G : Hp} {ds : List D} {xs : List V} (h : RpL K G ds xs) (lo hi : Option Int) : RpL K G (cutD ds lo hi) (cutV xs lo hi) := by
  unfold cutD cutV
  rw [← h.len]
  exact (h.drop _).take _
def gSl (d : D) (lo hi : Option Int) : Option M := match d with
  | .tup ds => some (.d (.tup (cutD ds lo hi)))
  | .lst ds => some (.lst ((cutD ds lo hi).map .d))
  | .str z => if z.length ≤ 1000000 then some (.d (.str (cutS z lo hi))) else none
  | _ => none
def rSlU (K : PySem.W.Frag) : V → Option Int → Option Int → Hp → VK → Prop := fun x lo hi H Q => rSlA K x lo hi H Q ∨ rSlL K x lo hi H Q ∨ rSlS x lo hi H Q
theorem sl_U : SlR X (rSlU X.K) := sl_tupA.or (sl_list.or sl_str)
abbrev Ov := List B → Option (Option Int × List B)
def oNone : Ov := fun b => some (none, b)
def oSome (f : Ev) : Ov := fun b => match f b with
  | some (.d (.int i), b1) => some (some i, b1)
  | _ => none
def toO (K : PySem.W.Frag) (f : Ov) : TO := fun σ H Q => ∃ c G b T o b', f b = some (o, b') ∧ Iv K c G H σ b T ∧ ∀ G' H', Iv K c G' H' σ b' T → Q o H'
abbrev OM (X : Cx) (e : Option Expr) (f : Ov) : Prop := PO X e (toO X.K f)
theorem po_wk {e : Option Expr} {t t' : TO} (h : PO X e t) (hi : ∀ σ H Q, t' σ H Q → t σ H Q) : PO X e t' := ⟨fun pins s σ H Q I q => h.run pins s σ H Q I (hi σ H Q q)⟩
theorem o_none : OM X none oNone := po_wk po_none fun σ H Q => by
  rintro ⟨c, G, b, T, o, b', hf, I, q⟩
  simp only [oNone, Option.some.injEq, Prod.mk.injEq] at hf
  obtain ⟨rfl, rfl⟩ := hf
  exact q G H I
theorem o_some (h : EM X e f) : OM X (some e) (oSome f) := po_wk (po_some h) fun σ H Q => by
  rintro ⟨c, G, b, T, o, b', hf, I, q⟩
  unfold oSome at hf
  split at hf
  · rename_i i b1 e1
    cases hf
    refine ⟨c, G, b, T, _, b', e1, I, fun v G1 H1 I1 => ?_⟩
    have r := I1.topD
    simp only [Rp] at r
    exact ⟨i, r, q G1 H1 I1.drop⟩
  · cases hf
def fSl (f : Ev) (o1 o2 : Ov) : Ev := fun b => match f b with
  | some (.d d, b1) => (match o1 b1 with
    | some (lo, b2) => (match o2 b2 with
      | some (hi, b3) => (match gSl d lo hi with
        | some m => some (m, b3)
        | none => none)
      | none => none)
    | none => none)
  | _ => none
theorem e_sl {lo hi : Option Expr} {o1 o2 : Ov} {p2 : Pos} (h : EM X e f) (h1 : OM X lo o1) (h2 : OM X hi o2) : EM X (.Subscript e (.Slice lo hi none p2) pos) (fSl f o1 o2) := (pe_slice sl_U h h1 h2).wk fun σ H Q => by
  rintro ⟨c, G, b, T, m, b', hf, I, q⟩
  unfold fSl at hf
  split at hf
  · rename_i d b1 e1
    split at hf
    · rename_i lo b2 e2
      split at hf
      · rename_i hi b3 e3
        split at hf
        · rename_i m' e4
          cases hf
          refine ⟨c, G, b, T, _, b1, e1, I, fun v G1 H1 I1 => ⟨c, G1, b1, _, lo, b2, e2, I1, fun G2 H2 I2 => ⟨c, G2, b2, _, hi, b', e3, I2, fun G3 H3 I3 => ?_⟩⟩⟩
          have r := I3.topD
          have I4 := I3.drop
          unfold gSl at e4
          split at e4
          · cases e4
            simp only [Rp] at r
            obtain ⟨p, xs, rfl, h2, h3⟩ := r
            refine .inl ⟨p, xs, rfl, sqt_mono I4.st.gh h2, fun hw => ?_, fun hw p hp => q _ _ _ (I4.newT hp (h3.cut lo hi))⟩
            refine q _ G3 H3 (I4.pushD ?_)
            simp only [Rp]
            have hc := h3.cut lo hi
            have e : cutV xs lo hi = xs := by
              unfold cutV
              rw [hw.1, hw.2]
              simp
            rw [e] at hc
            exact ⟨p, xs, rfl, h2, hc⟩
          · cases e4
            simp only [Rp] at r
            obtain ⟨p, xs, rfl, h2, h3⟩ := r
            exact .inr (.inl ⟨p, xs, rfl, I4.st.gh.seq (SqL.of h2), fun p hp => q _ _ _ (I4.newL hp (h3.cut lo hi))⟩)
          · split at e4
            · rename_i hz
              cases e4
              simp only [Rp] at r
              subst r
              exact .inr (.inr ⟨_, rfl, le_line hz, q _ _ _ (I4.pushD rp_str)⟩)
            · cases e4
          · cases e4
        · cases hf
      · cases hf
    · cases hf
  · cases hf
/-! ### enumerate, zip, a text -/
def lStr (f : Ev) : Lv := fun b => match f b with
  | some (.d (.str z), b1) => some (z.cps.toList.map fun c => .str ⟨#[c]⟩, b1)
  | _ => none
theorem i_str {tg : Expr} (h : EM X e f) : IM X tg e (lStr f) := (pi_str h).wk fun σ H R => by
  rintro ⟨c, G, b, T, ds, b', hf, I, q⟩
  unfold lStr at hf
  split at hf
  · rename_i z b1 e1
    cases hf
    refine ⟨c, G, b, T, _, b', e1, I, fun v G1 H1 I1 => ?_⟩
    have r := I1.topD
    simp only [Rp] at r
    refine ⟨z, r, q _ [] G1 H1 I1.drop ?_⟩
    intro c G H σ b T i I
    refine ⟨fun hi => ?_, fun hi => by simpa [Its] using hi⟩
    have hi' : i < z.cps.size := by simpa using hi
    refine ⟨hi', fun x H' y => ?_⟩
    obtain ⟨rfl, cc, h1, rfl⟩ := y
    refine ⟨.str ⟨#[cc]⟩, G, ?_, I.pushD rp_str⟩
    rw [List.getElem?_map, Array.getElem?_toList, h1]
    rfl
  · cases hf
def enumD : Nat → List D → List D
  | _, [] => []
  | i, d :: ds => .tup [.int (i : Nat), d] :: enumD (i + 1) ds
theorem enumD_len : ∀ (ds : List D) (i : Nat), (enumD i ds).length = ds.length
  | [], _ => rfl
  | d :: ds, i => by simp [enumD, enumD_len ds]
theorem enumD_get : ∀ (ds : List D) (i j : Nat) (d : D), ds[j]? = some d → (enumD i ds)[j]? = some (.tup [.int ((i + j : Nat) : Int), d])
  | [], _, _, _, e => by simp at e
  | d :: ds, i, 0, _, e => by
    simp at e
    subst e
    simp [enumD]
  | d :: ds, i, j + 1, d', e => by
    have := enumD_get ds (i + 1) j d' (by simpa using e)
    simp only [enumD, List.getElem?_cons_succ]
    rw [this]
    congr 5
    omega
def lEnum (f : Ev) : Lv := fun b => match f b with
  | some (.d (.lst ds), b1) => some (enumD 0 ds, b1)
  | _ => none
theorem i_enum {elts : List Expr} {kk : Nat} {tpos : Pos} (hm : X.mg "enumerate" = none) (h : EM X e f) (hg : Gl X "enumerate" := by rfl) (hs1 : starEach (e :: []) X.env = (false, eval e X.env) :: starEach [] X.env := by rfl) (hs : starEach [e] X.env = [(false, eval e X.env)] := by rfl) : IM X (.Tuple elts kk tpos) (.Call (.Name "enumerate" p) [e] [] pos) (lEnum f) := (pi_enum hg hm (pa_cons h pa_nil hs1) hs).wk fun σ H R => by
  rintro ⟨c, G, b, T, ds, b', hf, I, q⟩
  unfold lEnum at hf
  split at hf
  · rename_i ds b1 e1
    cases hf
    refine ⟨c, G, b, T, _, b', e1, I, fun v G1 H1 I1 => ?_⟩
    have r := I1.topD
    simp only [Rp] at r
    obtain ⟨p, xs, rfl, h2, h3⟩ := r
    refine ⟨p, xs, rfl, SqL.of (I1.st.gh _ _ h2), q _ [_] G1 H1 I1 ?_⟩
    intro c G H σ b T i I
    have r : Rp X.K G (.lst ds) (.ref p) := Iv.topD (T := T) I
    simp only [Rp] at r
    obtain ⟨p', xs, h1, h2, h3⟩ := r
    cases h1
    have h2' := SqL.of (K := X.K) (I.st.gh _ _ h2)
    refine ⟨fun hi => ?_, fun hi => ⟨xs, h2', by rw [← h3.len, ← enumD_len ds 0]; exact hi⟩⟩
    have hi' : i < xs.length := by rw [← h3.len, ← enumD_len ds 0]; exact hi
    refine ⟨⟨xs, xs[i], h2', List.getElem?_eq_getElem hi'⟩, fun x H' y => ?_⟩
    obtain ⟨t, x, rfl, hn, rfl, y⟩ := y
    obtain ⟨d', q1, q2⟩ := item_of h3 (y xs h2')
    refine ⟨_, _, enumD_get ds 0 i d' q1, I.newT hn ?_⟩
    simp only [RpL]
    exact ⟨.int (i : Nat), [x], rfl, by rw [Nat.zero_add]; exact rp_int, x, [], rfl, q2, rfl⟩
  · cases hf
def zipD : List D → List D → List D
  | d :: ds, e :: es => .tup [d, e] :: zipD ds es
  | _, _ => []
theorem zipD_len : ∀ (ds es : List D), (zipD ds es).length = min ds.length es.length
  | [], es => by simp [zipD]
  | d :: ds, [] => by simp [zipD]
  | d :: ds, e :: es => by simp [zipD, zipD_len ds es]
theorem zipD_get : ∀ (ds es : List D) (j : Nat) (d e : D), ds[j]? = some d → es[j]? = some e → (zipD ds es)[j]? = some (.tup [d, e])
  | [], _, _, _, _, h, _ => by simp at h
  | _ :: _, [], _, _, _, _, h => by simp at h
  | d :: ds, e :: es, 0, _, _, h1, h2 => by
    simp at h1 h2
    subst h1 h2
    rfl
  | d :: ds, e :: es, j + 1, _, _, h1, h2 => by
    simp only [zipD, List.getElem?_cons_succ]
    exact zipD_get ds es j _ _ (by simpa using h1) (by simpa using h2)
def lZip (fs : Av) : Lv := fun b => match fs b with
  | some ([.d (.lst ds), .d (.lst es)], b1) => some (zipD ds es, b1)
  | some ([.d (.tup ds), .d (.tup es)], b1) => some (zipD ds es, b1)
  | _ => none
theorem i_zip {elts : List Expr} {kk : Nat} {tpos : Pos} (hm : X.mg "zip" = none) (ha : AM X [e, e2] src fs) (hsrc : src.all (·.isNone) = true := by rfl) (hg : Gl X "zip" := by rfl) (hs : starEach [e, e2] X.env = (false, eval e X.env) :: starEach [e2] X.env := by rfl) (hpl : (backTo pos (starEach [e2] X.env)).any (·.1) = false := by rfl) : IM X (.Tuple elts kk tpos) (.Call (.Name "zip" p) [e, e2] [] pos) (lZip fs) := (RZ.pi_zipA hg hm ha hs hpl).wk fun σ H R => by
  rintro ⟨c, G, b, T, ds, b', hf, I, q⟩
  unfold lZip at hf
  split at hf
  · rename_i ds es b1 e1
    cases hf
    refine ⟨c, G, b, T, _, b', e1, I, fun us vs G1 H1 hl av I1 => ?_⟩
    have e := av.pure hsrc
    subst e
    obtain ⟨u, v, rfl⟩ := len2 hl
    have r2 := Iv.topD (T := T) (Iv.drop I1)
    have r1 := Iv.topD (T := (.d (.lst es), v) :: T) I1
    simp only [Rp] at r1 r2
    obtain ⟨p1, xs, rfl, h2, h3⟩ := r1
    obtain ⟨p2, ys, rfl, h5, h6⟩ := r2
    refine ⟨p1, p2, xs, ys, rfl, .inl ⟨SqL.of (I1.st.gh _ _ h2), SqL.of (I1.st.gh _ _ h5), q _ [(.d (.lst ds), .ref p1), (.d (.lst es), .ref p2)] G1 H1 I1 ?_⟩⟩
    intro c G H σ b T i I
    have r2 := Iv.topD (T := T) (Iv.drop I)
    have r1 := Iv.topD (T := (.d (.lst es), .ref p2) :: T) I
    simp only [Rp] at r1 r2
    obtain ⟨_, xs, h1, h2, h3⟩ := r1
    cases h1
    obtain ⟨_, ys, h4, h5, h6⟩ := r2
    cases h4
    have h2' := SqL.of (K := X.K) (I.st.gh _ _ h2)
    have h5' := SqL.of (K := X.K) (I.st.gh _ _ h5)
    have el := zipD_len ds es
    rw [h3.len, h6.len] at el
    refine ⟨fun hi => ?_, fun hi => ⟨xs, ys, h2', h5', by omega⟩⟩
    have hi1 : i < xs.length := by omega
    have hi2 : i < ys.length := by omega
    refine ⟨⟨xs, ys, xs[i], ys[i], h2', h5', List.getElem?_eq_getElem hi1, List.getElem?_eq_getElem hi2⟩, fun x H' y => ?_⟩
    obtain ⟨t, x, y, rfl, hn, rfl, y1, y2⟩ := y
    obtain ⟨d1, q1, q2⟩ := item_of h3 (y1 xs h2')
    obtain ⟨d2, q3, q4⟩ := item_of h6 (y2 ys h5')
    refine ⟨_, _, zipD_get ds es i d1 d2 q1 q3, I.newT hn ?_⟩
    simp only [RpL]
    exact ⟨x, [y], rfl, q2, y, [], rfl, q4, rfl⟩
  · rename_i ds es b1 e1
    cases hf
    refine ⟨c, G, b, T, _, b', e1, I, fun us vs G1 H1 hl av I1 => ?_⟩
    have e := av.pure hsrc
    subst e
    obtain ⟨u, v, rfl⟩ := len2 hl
    have r2 := Iv.topD (T := T) (Iv.drop I1)
    have r1 := Iv.topD (T := (.d (.tup es), v) :: T) I1
    simp only [Rp] at r1 r2
    obtain ⟨p1, xs, rfl, h2, h3⟩ := r1
    obtain ⟨p2, ys, rfl, h5, h6⟩ := r2
    refine ⟨p1, p2, xs, ys, rfl, .inr ⟨sqt_mono I1.st.gh h2, sqt_mono I1.st.gh h5, q _ [(.d (.tup ds), .ref p1), (.d (.tup es), .ref p2)] G1 H1 I1 ?_⟩⟩
    intro c G H σ b T i I
    have r2 := Iv.topD (T := T) (Iv.drop I)
    have r1 := Iv.topD (T := (.d (.tup es), .ref p2) :: T) I
    simp only [Rp] at r1 r2
    obtain ⟨_, xs, h1, h2, h3⟩ := r1
    cases h1
    obtain ⟨_, ys, h4, h5, h6⟩ := r2
    cases h4
    have h2' := sqt_mono I.st.gh h2
    have h5' := sqt_mono I.st.gh h5
    have el := zipD_len ds es
    rw [h3.len, h6.len] at el
    refine ⟨fun hi => ?_, fun hi => ⟨xs, ys, h2', h5', by omega⟩⟩
    have hi1 : i < xs.length := by omega
    have hi2 : i < ys.length := by omega
    refine ⟨⟨xs, ys, xs[i], ys[i], h2', h5', List.getElem?_eq_getElem hi1, List.getElem?_eq_getElem hi2⟩, fun x H' y => ?_⟩
    obtain ⟨t, x, y, rfl, hn, rfl, y1, y2⟩ := y
    obtain ⟨d1, q1, q2⟩ := item_of h3 (y1 xs h2')
    obtain ⟨d2, q3, q4⟩ := item_of h6 (y2 ys h5')
    refine ⟨_, _, zipD_get ds es i d1 d2 q1 q3, I.newT hn ?_⟩
    simp only [RpL]
    exact ⟨x, [y], rfl, q2, y, [], rfl, q4, rfl⟩
  · cases hf
end
end PL

namespace PL
open PySem PySem.Spec PyProof.Rows L2
/-! ### paths -/
def tPl (K : PySem.W.Frag) (j : Nat) (π : Pth) : TE := fun σ H Q => ∃ v0 v1, σ[j]? = some (some v0) ∧ PathV K H v0 π v1 ∧ Q v1 H
abbrev PP (X : Cx) (e : Expr) (j : Nat) (π : Pth) : Prop := PE X e (tPl X.K j π)
/-- fields of classes -/
def FldOk (K : PySem.W.Frag) (q : Str × List Str) : Prop := ∀ C, q.2.contains C = true → Cls K (He.ga K C) ∧ NoAttr K (He.ga K C) q.1
section
variable {X : Cx} {e e1 e2 e3 : Expr} {es : List Expr} {st : Stmt} {sts : List Stmt} {pos p : Pos} {f f1 f2 f3 : Ev} {fs : Av} {src : List (Option Nat)} {x : Str} {t t1 t2 : Tv} {k1 k2 : Sv} {j : Nat} {π : Pth} {n : Str} {Cs : List Str}
theorem pl_nil (j : Nat) (hN : X.N[j]? = some x := by rfl) (hv : Vis X.env.scope x := by first | exact Or.inl rfl | exact Or.inr (Or.inl rfl) | exact Or.inr (Or.inr rfl)) (hd : (x == ("__debug__" : Str)) = false := by decide)
    (hcd : (x == ("__classdict__" : Str)) = false := by decide) : PP X (.Name x pos) j [] := (pe_var hN hv hd hcd).wk fun σ H Q => by
  rintro ⟨v0, v1, h1, h2, q⟩
  have h2 : v0 = v1 := h2
  subst h2
  exact ⟨v0, h1, q⟩
theorem pl_cons (h : PP X e j π) (hC : FldOk X.K (n, Cs)) (hb : attributeBase e n X.env (eval e X.env) = eval e X.env := by rfl) : PP X (.Attribute e n pos) j ((n, Cs) :: π) := (pe_fld h hb).wk fun σ H Q => by
  rintro ⟨v0, v1, h1, ⟨a, C, dx, fs, h2, h3, h4, h5⟩, q⟩
  exact ⟨v0, .ref a, h1, h2, a, He.ga X.K C, dx, fs, v1, rfl, h3, (hC C h4).1, (hC C h4).2, h5, q⟩
/-- data at a path -/
def fPl (j : Nat) (π : Pth) : Ev := fun b => match getP b j π with
  | some (.d d) => some (.d d, b)
  | _ => none
theorem e_pl (h : PP X e j π) : EM X e (fPl j π) := h.wk fun σ H Q => by
  rintro ⟨c, G, b, T, m, b', hf, I, q⟩
  unfold fPl at hf
  split at hf
  · rename_i d eg
    cases hf
    obtain ⟨v0, v1, f1, w1, w2, w3⟩ := I.readP eg
    simp only [RM] at w3
    exact ⟨v0, v1, w1, w2, q v1 G H (I.pushD w3.1)⟩
  · cases hf
/-- a field of data -/
def fAttr (q : Str × List Str) (f : Ev) : Ev := fun b => match f b with
  | some (.d d, b1) => (match (M.d d).fld q with
    | some (.d x) => some (.d x, b1)
    | _ => none)
  | _ => none
theorem e_attr (h : EM X e f) (hC : FldOk X.K (n, Cs)) (hb : attributeBase e n X.env (eval e X.env) = eval e X.env := by rfl) : EM X (.Attribute e n pos) (fAttr (n, Cs) f) := (pe_fld h hb).wk fun σ H Q => by
  rintro ⟨c, G, b, T, m, b', hf, I, q⟩
  unfold fAttr at hf
  split at hf
  · rename_i d b1 e1
    split at hf
    · rename_i x ex
      cases hf
      refine ⟨c, G, b, T, _, b', e1, I, fun v G1 H1 I1 => ?_⟩
      have r := I1.topD
      have r2 : RM X.K G1 H1 (.d d) v [] := by simp only [RM, and_true]; exact r
      obtain ⟨v1, f1, ⟨a, C, dx, fs, z1, z2, z3, z4⟩, w2⟩ := RM.read (π := [(n, Cs)]) r2 I1.st.gh (by simp only [M.sub]; exact ex)
      have z1 : v = .ref a := z1
      simp only [RM] at w2
      exact ⟨a, _, dx, fs, v1, z1, z2, (hC C z3).1, (hC C z3).2, z4, q v1 G1 H1 (I1.drop.pushD w2.1)⟩
    · cases hf
  · cases hf
/-- place.n = value -/
def sPut (j : Nat) (π : Pth) (q : Str × List Str) (f : Ev) : Sv := fun b => match f b with
  | some (m, b1) => (match getP b1 j π with
    | some (.obj C ns ms) => if ns.length < 1000 then (match (M.obj C ns ms).setF q m with
      | some m2 => (match setP b1 j π m2 with
        | some b2 => some (.nx, b2)
        | none => none)
      | none => none) else none
    | _ => none)
  | none => none
theorem rt_one {K : PySem.W.Frag} {c : Cg} {G H : Hp} {m : M} {v : V} {f : List Addr} (h : RT K c G H [(m, v)] f) : RM K G H m v f ∧ ∀ a ∈ f, c.H0 a = none := by
  obtain ⟨f1, f2, w1, w2, w3, rfl⟩ := h
  have w3 : f2 = [] := w3
  subst w3
  simp only [List.append_nil]
  exact ⟨w1, w2⟩
/-- an owned instance's field set -/
theorem Iv.setFld {K : PySem.W.Frag} {c : Cg} {G H : Hp} {σ : L2.St} {b b2 : List B} {T : List (M × V)} {C : Str} {ns : List Str} {ms : List M} {m m2 : M} {y : V} {q : Str × List Str}
    (I : Iv K c G H σ b ((m, y) :: T)) (hg : getP b j π = some (.obj C ns ms)) (hs : (M.obj C ns ms).setF q m = some m2) (hp : setP b j π m2 = some b2) :
    ∃ v0 a dx fs, σ[j]? = some (some v0) ∧ PathV K H v0 π (.ref a) ∧ H a = some (.ins (He.ga K C) dx fs) ∧ fs.length ≤ ns.length ∧ q.2.contains C = true ∧ Iv K c G (upd H a (.ins (He.ga K C) dx (putF q.1 y fs))) σ b2 T := by
  obtain ⟨v0, v1, fi, ft, h1, h2, h3, t1, nd, gn, old, go⟩ := Iv.place (T1 := [(m, y)]) (T := T) I hg rfl
  simp only [RM] at h3
  obtain ⟨p, dx, xs, g, rfl, h4, h5, h6, rfl⟩ := h3
  obtain ⟨t2, t3⟩ := rt_one t1
  have pp : H p ≠ none := by rw [h4]; simp
  have pg : p ∉ g := by
    have := (List.nodup_append.mp nd).1
    exact (List.nodup_cons.mp this).1
  have pt : p ∉ ft := fun hm => (List.nodup_append.mp nd).2.2 p (by simp) p hm rfl
  have nd2 : (g ++ ft).Nodup := (List.nodup_cons.mp (by simpa using nd)).2
  unfold M.setF at hs
  simp only at hs
  split at hs
  · rename_i hC
    refine ⟨v0, p, dx, ns.zip xs, h1, h2, h4, by simp; omega, hC, ?_⟩
    have key : ∀ ns' ms' xs', putF q.1 y (ns.zip xs) = ns'.zip xs' → ns'.length = xs'.length → m2 = .obj C ns' ms' → (∃ q', RML K G (upd H p (.ins (He.ga K C) dx (ns'.zip xs'))) ms' xs' q' ∧ (∀ a ∈ q', a ∈ g ++ ft) ∧ q'.Nodup) → Iv K c G (upd H p (.ins (He.ga K C) dx (putF q.1 y (ns.zip xs)))) σ b2 T := by
      intro ns' ms' xs' e1 e2 e3 ⟨q', w1, w2, w3⟩
      rw [e1]
      have pq : p ∉ q' := fun hm => by
        rcases List.mem_append.mp (w2 p hm) with z | z
        · exact pg z
        · exact pt z
      refine go G _ m2 (p :: q') [] [] b2 ⟨Same.refl _, gh_upd I.st.gh (gn p (by simp)), fun _ _ h => h, fun a o z1 z2 => by rw [upd_ne (fun z : a = p => z2 (by simp [z]))]; exact z1, dm_upd pp⟩ ?_ rfl (by simp [pq, w3]) (fun a ha => ?_) (fun a ha => ?_) hp
      · rw [e3]
        simp only [RM]
        exact ⟨p, dx, xs', q', rfl, upd_same, e2, w1, rfl⟩
      · rcases List.mem_cons.mp (by simpa using ha) with z | z
        · exact .inl (by simp [z])
        · rcases List.mem_append.mp (w2 a z) with z | z
          · exact .inl (by simp [z])
          · exact .inr (.inl z)
      · rcases List.mem_cons.mp (by simpa using ha) with z | z
        · exact gn a (by simp [z])
        · have := w2 a z
          exact gn a (by simp at this ⊢; grind)
    split at hs
    · rename_i i hi
      cases hs
      refine key ns (ms.set i m) (xs.set i y) (fldI_put hi h5) (by simpa using h5) rfl ?_
      exact RML.set (RML.frame (Same.refl _) _ _ _ h6 fun a ha => upd_ne (fun z : a = p => pg (z ▸ ha))) (RM.frame (Same.refl _) _ _ _ t2 fun a ha => upd_ne (fun z : a = p => pt (z ▸ ha))) nd2
    · rename_i hi
      cases hs
      refine key (ns ++ [q.1]) (ms ++ [m]) (xs ++ [y]) (fldI_add hi h5) (by simpa using h5) rfl ?_
      exact ⟨g ++ ft, RML.app (RML.frame (Same.refl _) _ _ _ h6 fun a ha => upd_ne (fun z : a = p => pg (z ▸ ha))) (RM.frame (Same.refl _) _ _ _ t2 fun a ha => upd_ne (fun z : a = p => pt (z ▸ ha))), fun a ha => ha, nd2⟩
  · cases hs
theorem s_put {pos' : Pos} (h : PP X e j π) (hv : EM X e1 f) (hC : FldOk X.K (n, Cs)) (hs : swapsWith e1 (some (.Attribute e n pos')) pos.line X.env = pure false := by rfl) : SM X (.Assign [.Attribute e n pos'] e1 pos) (sPut j π (n, Cs) f) := (ps_fld h hv hs).wk fun D σ H => by
  rintro ⟨c, G, b, T, r, b', hf, I, q⟩
  unfold sPut at hf
  split at hf
  · rename_i m b1 e1
    split at hf
    · rename_i C ns ms eg
      split at hf
      · rename_i hz
        split at hf
        · rename_i m2 es
          split at hf
          · rename_i b2 ep
            cases hf
            refine ⟨c, G, b, T, m, b1, e1, I, fun y G1 H1 I1 => ?_⟩
            obtain ⟨v0, a, dx, fs, w1, w2, w3, w4, w5, w6⟩ := Iv.setFld I1 eg es ep
            exact ⟨v0, .ref a, w1, w2, a, He.ga X.K C, dx, fs, rfl, w3, (hC C w5).1, (hC C w5).2, by omega, q σ G1 _ w6⟩
          · cases hf
        · cases hf
      · cases hf
    · cases hf
  · cases hf
/-- an owned list at a place is changed -/
theorem Iv.mutP {K : PySem.W.Frag} {c : Cg} {G H : Hp} {σ : L2.St} {b : List B} {T T1 : List (M × V)} {ms : List M}
    (I : Iv K c G H σ b (T1 ++ T)) (hg : getP b j π = some (.lst ms)) : ∃ v0 p xs, σ[j]? = some (some v0) ∧ PathV K H v0 π (.ref p) ∧ H p = some (.lst xs) ∧ xs.length = ms.length ∧ (∀ (i : Nat) (x : D), ms[i]? = some (M.d x) → ∃ v, xs[i]? = some v ∧ Rp K G x v) ∧
    ∀ ms' xs' T1' b2, setP b j π (.lst ms') = some b2 → (∀ H2 q ft, RML K G H2 ms xs q → RT K c G H2 T1 ft → (q ++ ft).Nodup → (∀ a ∈ q ++ ft, H2 a = H a) → ∃ q' fm, RML K G H2 ms' xs' q' ∧ RT K c G H2 T1' fm ∧ (∀ a ∈ q' ++ fm, a ∈ q ++ ft) ∧ (q' ++ fm).Nodup) → Iv K c G (upd H p (.lst xs')) σ b2 (T1' ++ T) := by
  obtain ⟨v0, v1, fi, ft, h1, h2, h3, t1, nd, gn, old, go⟩ := Iv.place (T1 := T1) (T := T) I hg rfl
  simp only [RM] at h3
  obtain ⟨p, xs, g, rfl, h4, h6, rfl⟩ := h3
  refine ⟨v0, p, xs, h1, h2, h4, h6.len.symm, fun i x hx => h6.getD hx, fun ms' xs' T1' b2 hp hk => ?_⟩
  have pp : H p ≠ none := by rw [h4]; simp
  have pg : p ∉ g := by
    have := (List.nodup_append.mp nd).1
    exact (List.nodup_cons.mp this).1
  have pt : p ∉ ft := fun hm => (List.nodup_append.mp nd).2.2 p (by simp) p hm rfl
  have nd2 : (g ++ ft).Nodup := (List.nodup_cons.mp (by simpa using nd)).2
  obtain ⟨q', fm, w1, w4, w2, w3⟩ := hk (upd H p (.lst xs')) g ft (RML.frame (Same.refl _) _ _ _ h6 fun a ha => upd_ne (fun z : a = p => pg (z ▸ ha))) (t1.frame (Same.refl _) fun a ha => upd_ne (fun z : a = p => pt (z ▸ ha))) nd2 (fun a ha => upd_ne (fun z : a = p => by
    subst z
    rcases List.mem_append.mp ha with w | w
    · exact pg w
    · exact pt w))
  have pq : p ∉ q' ++ fm := fun hm => by
    rcases List.mem_append.mp (w2 p hm) with z | z
    · exact pg z
    · exact pt z
  refine go G _ (.lst ms') (p :: q') T1' fm b2 ⟨Same.refl _, gh_upd I.st.gh (gn p (by simp)), fun _ _ h => h, fun a o z1 z2 => by rw [upd_ne (fun z : a = p => z2 (by simp [z]))]; exact z1, dm_upd pp⟩ ?_ w4 (List.nodup_cons.mpr ⟨pq, w3⟩) (fun a ha => ?_) (fun a ha => ?_) hp
  · simp only [RM]
    exact ⟨p, xs', q', rfl, upd_same, w1, rfl⟩
  · rcases List.mem_cons.mp (show a ∈ p :: (q' ++ fm) from ha) with z | z
    · exact .inl (by simp [z])
    · rcases List.mem_append.mp (w2 a z) with z | z
      · exact .inl (by simp [z])
      · exact .inr (.inl z)
  · rcases List.mem_cons.mp (show a ∈ p :: (q' ++ fm) from ha) with z | z
    · exact gn a (by simp [z])
    · have := w2 a z
      exact gn a (by simp at this ⊢; grind)
end

/-! ### looking without a touch: what is owned stands as data for the while -/
mutual
/-- addresses of known things, by what stands there -/
def D.res (as : List Addr) (cs : List D) : D → D
  | .adr a => (match cs[as.idxOf a]? with
    | some (.obj C ns ds) => .oba a C ns ds
    | _ => .adr a)
  | .lst ds => .lst (D.ress as cs ds)
  | .tup ds => .tup (D.ress as cs ds)
  | .obj C ns ds => .obj C ns (D.ress as cs ds)
  | .dic ks ds => .dic ks (D.ress as cs ds)
  | d => d
def D.ress (as : List Addr) (cs : List D) : List D → List D
  | [] => []
  | d :: ds => d.res as cs :: D.ress as cs ds
end
def boxD (r : Addr) (as : List Addr) (ms : List M) : D := match (M.toDs ms)[as.idxOf r]? with
  | some d => d.res as (M.toDs ms)
  | none => .adr r
def bF : B → B
  | .no => .no
  | .d x => .d x
  | .o _ (.box r as ms) => .d (boxD r as ms)
  | .o _ m => .d m.toD
mutual
def D.unal : D → D
  | .oba a _ _ _ => .adr a
  | .tup ds => .tup (D.unals ds)
  | d => d
def D.unals : List D → List D
  | [] => []
  | d :: ds => d.unal :: D.unals ds
end
mutual
def M.unal : M → M
  | .d x => .d x.unal
  | .lst ms => .lst (M.unals ms)
  | m => m
def M.unals : List M → List M
  | [] => []
  | m :: ms => m.unal :: M.unals ms
end
section
variable {K : PySem.W.Frag} {G H : Hp}
theorem rp_at {a : Addr} : ∀ {as : List Addr} {cs : List D} {d : D}, RpL K G cs (as.map V.ref) → cs[as.idxOf a]? = some d → Rp K G d (.ref a) := fun {as cs d} h e => by
  obtain ⟨v, h1, h2⟩ := RpL.get h e
  have hl : as.idxOf a < as.length := by
    have := (List.getElem?_eq_some_iff.mp h1).1
    simpa using this
  rw [List.getElem?_map, idxOf_get hl] at h1
  have h1 : some (V.ref a) = some v := h1
  cases h1
  exact h2
mutual
theorem Rp.res {as : List Addr} {cs : List D} (hc : RpL K G cs (as.map V.ref)) : ∀ (d : D) (v : V), Rp K G d v → Rp K G (d.res as cs) v
  | .adr a, v, h => by
    simp only [Rp] at h
    subst h
    unfold D.res
    split
    · rename_i C ns ds e
      have r := rp_at hc e
      simp only [Rp] at r ⊢
      obtain ⟨p, dx, xs, h1, h2, h3, h4⟩ := r
      cases h1
      exact ⟨dx, xs, by first | trivial | rfl, h2, h3, h4⟩
    · simp [Rp]
  | .lst ds, v, h => by
    simp only [D.res, Rp] at h ⊢
    obtain ⟨p, xs, h1, h2, h3⟩ := h
    exact ⟨p, xs, h1, h2, RpL.res hc ds xs h3⟩
  | .tup ds, v, h => by
    simp only [D.res, Rp] at h ⊢
    obtain ⟨p, xs, h1, h2, h3⟩ := h
    exact ⟨p, xs, h1, h2, RpL.res hc ds xs h3⟩
  | .obj C ns ds, v, h => by
    simp only [D.res, Rp] at h ⊢
    obtain ⟨p, dx, xs, h1, h2, h4, h3⟩ := h
    exact ⟨p, dx, xs, h1, h2, h4, RpL.res hc ds xs h3⟩
  | .dic ks ds, v, h => by
    simp only [D.res, Rp] at h ⊢
    obtain ⟨p, xs, h1, h2, h4, h3⟩ := h
    exact ⟨p, xs, h1, h2, h4, RpL.res hc ds xs h3⟩
  | .non, _, h => by simpa only [D.res] using h
  | .bl _, _, h => by simpa only [D.res] using h
  | .int _, _, h => by simpa only [D.res] using h
  | .str _, _, h => by simpa only [D.res] using h
  | .ty _, _, h => by simpa only [D.res] using h
  | .seq _, _, h => by simpa only [D.res] using h
  | .any, _, h => by simpa only [D.res] using h
  | .oba .., _, h => by simpa only [D.res] using h
theorem RpL.res {as : List Addr} {cs : List D} (hc : RpL K G cs (as.map V.ref)) : ∀ (ds : List D) (xs : List V), RpL K G ds xs → RpL K G (D.ress as cs ds) xs
  | [], _, h => by simp only [D.ress, RpL] at h ⊢; exact h
  | d :: ds, _, h => by
    simp only [D.ress, RpL] at h ⊢
    obtain ⟨y, ys, h1, h2, h3⟩ := h
    exact ⟨y, ys, h1, Rp.res hc d y h2, RpL.res hc ds ys h3⟩
end
mutual
theorem Rp.unal : ∀ (d : D) (v : V), Rp K G d v → Rp K G d.unal v
  | .oba a C ns ds, v, h => by
    simp only [D.unal, Rp] at h ⊢
    obtain ⟨_, _, h, _⟩ := h
    exact h
  | .tup ds, v, h => by
    simp only [D.unal, Rp] at h ⊢
    obtain ⟨p, xs, h1, h2, h3⟩ := h
    exact ⟨p, xs, h1, h2, RpL.unal ds xs h3⟩
  | .adr _, _, h => by simpa only [D.unal] using h
  | .lst _, _, h => by simpa only [D.unal] using h
  | .obj .., _, h => by simpa only [D.unal] using h
  | .dic .., _, h => by simpa only [D.unal] using h
  | .non, _, h => by simpa only [D.unal] using h
  | .bl _, _, h => by simpa only [D.unal] using h
  | .int _, _, h => by simpa only [D.unal] using h
  | .str _, _, h => by simpa only [D.unal] using h
  | .ty _, _, h => by simpa only [D.unal] using h
  | .seq _, _, h => by simpa only [D.unal] using h
  | .any, _, h => by simpa only [D.unal] using h
theorem RpL.unal : ∀ (ds : List D) (xs : List V), RpL K G ds xs → RpL K G (D.unals ds) xs
  | [], _, h => by simp only [D.unals, RpL] at h ⊢; exact h
  | d :: ds, _, h => by
    simp only [D.unals, RpL] at h ⊢
    obtain ⟨y, ys, h1, h2, h3⟩ := h
    exact ⟨y, ys, h1, Rp.unal d y h2, RpL.unal ds ys h3⟩
end
mutual
theorem RM.unal : ∀ (m : M) (v : V) (f : List Addr), RM K G H m v f → RM K G H m.unal v f
  | .d x, v, f, h => by
    simp only [M.unal, RM] at h ⊢
    exact ⟨Rp.unal x v h.1, h.2⟩
  | .lst ms, v, f, h => by
    simp only [M.unal, RM] at h ⊢
    obtain ⟨p, xs, q, h1, h2, h3, h4⟩ := h
    exact ⟨p, xs, q, h1, h2, RML.unal ms xs q h3, h4⟩
  | .obj .., _, _, h => by simpa only [M.unal] using h
  | .dic .., _, _, h => by simpa only [M.unal] using h
  | .box .., _, _, h => by simpa only [M.unal] using h
  | .st .., _, _, h => by simpa only [M.unal] using h
theorem RML.unal : ∀ (ms : List M) (xs : List V) (f : List Addr), RML K G H ms xs f → RML K G H (M.unals ms) xs f
  | [], _, _, h => by simp only [M.unals, RML] at h ⊢; exact h
  | m :: ms, _, _, h => by
    simp only [M.unals, RML] at h ⊢
    obtain ⟨y, ys, f1, f2, h1, h2, h3, h4⟩ := h
    exact ⟨y, ys, f1, f2, h1, RM.unal m y f1 h2, RML.unal ms ys f2 h3, h4⟩
end
theorem Iv.unal {c : Cg} {σ : L2.St} {b : List B} {T : List (M × V)} {m : M} {v : V} (I : Iv K c G H σ b ((m, v) :: T)) : Iv K c G H σ b ((m.unal, v) :: T) := by
  obtain ⟨st, f1, f2, h1, ⟨g1, g2, h2, h5, h6, h7⟩, h3, h4⟩ := I
  exact ⟨st, f1, f2, h1, ⟨g1, g2, RM.unal _ _ _ h2, h5, h6, h7⟩, h3, h4⟩
end
mutual
def D.safe : D → Bool
  | .non | .bl _ | .int _ | .str _ | .ty _ | .adr _ => true
  | .tup ds => D.safes ds
  | _ => false
def D.safes : List D → Bool
  | [] => true
  | d :: ds => d.safe && D.safes ds
end
mutual
def M.safe : M → Bool
  | .d x => x.safe
  | .lst ms => M.safes ms
  | .obj _ _ ms => M.safes ms
  | .dic _ ms => M.safes ms
  | .box .. => false
  | .st _ => false
def M.safes : List M → Bool
  | [] => true
  | m :: ms => m.safe && M.safes ms
end
section
variable {K : PySem.W.Frag} {c : Cg} {G G' H H' : Hp} {σ : L2.St} {b : List B} {T T1 : List (M × V)} {p : Addr} {o : HO} {d : D} {v : V} {m : M} {i j : Nat}
theorem RE.peek {c' : Cg} {G2 : Hp} (e : Same G G2) : ∀ {b : List B} {σ : L2.St} {f : List Addr}, RE K c G H b σ f → (∀ a ∈ f, G2 a = H a) → RE K c' G2 H (b.map bF) σ []
  | [], _, _, ⟨h, _⟩, _ => ⟨h, rfl⟩
  | x :: bs, _, _, ⟨s, σ', f1, f2, h1, h2, h3, h4⟩, k => by
    subst h4
    refine ⟨s, σ', [], [], h1, ?_, RE.peek e h3 (fun a ha => k a (by simp [ha])), rfl⟩
    cases x with
    | no => exact rfl
    | d x =>
      obtain ⟨_, v, q1, q2⟩ := h2
      exact ⟨rfl, v, q1, Rp.mono e _ _ q2⟩
    | o kk m =>
      obtain ⟨v, q1, q2, _⟩ := h2
      cases m with
      | box r as ms =>
        simp only [RM] at q2
        obtain ⟨rfl, q2⟩ := q2
        have rl := RML.data _ _ _ q2 e (fun a ha => k a (by simp [ha]))
        refine ⟨rfl, _, q1, ?_⟩
        unfold boxD
        split
        · rename_i d ed
          exact Rp.res rl d _ (rp_at rl ed)
        · simp [Rp]
      | d x => exact ⟨rfl, v, q1, RM.data _ _ _ q2 e (fun a ha => k a (by simp [ha]))⟩
      | lst ms => exact ⟨rfl, v, q1, RM.data _ _ _ q2 e (fun a ha => k a (by simp [ha]))⟩
      | obj C ns ms => exact ⟨rfl, v, q1, RM.data _ _ _ q2 e (fun a ha => k a (by simp [ha]))⟩
      | dic ks ms => exact ⟨rfl, v, q1, RM.data _ _ _ q2 e (fun a ha => k a (by simp [ha]))⟩
      | st ks => exact ⟨rfl, v, q1, RM.data _ _ _ q2 e (fun a ha => k a (by simp [ha]))⟩
mutual
theorem RM.kinds : ∀ (m : M) (v : V) (f : List Addr), RM K G H m v f → ∀ a ∈ f, (∀ xs, H a ≠ some (.tup xs)) ∧ ∀ ob xs, H a ≠ some (.frz ob (.tup xs))
  | .d x, v, f, h => by
    simp only [RM] at h
    obtain ⟨_, rfl⟩ := h
    simp
  | .lst ms, v, f, h => by
    simp only [RM] at h
    obtain ⟨p, xs, q, h1, h2, h3, rfl⟩ := h
    intro a ha
    rcases List.mem_cons.mp ha with rfl | ha
    · rw [h2]; simp
    · exact RML.kinds ms xs q h3 a ha
  | .obj C ns ms, v, f, h => by
    simp only [RM] at h
    obtain ⟨p, dx, xs, q, h1, h2, h5, h3, rfl⟩ := h
    intro a ha
    rcases List.mem_cons.mp ha with rfl | ha
    · rw [h2]; simp
    · exact RML.kinds ms xs q h3 a ha
  | .dic ks ms, v, f, h => by
    simp only [RM] at h
    obtain ⟨p, xs, q, h1, h2, h5, h3, rfl⟩ := h
    intro a ha
    rcases List.mem_cons.mp ha with rfl | ha
    · rw [h2]; simp
    · exact RML.kinds ms xs q h3 a ha
  | .box a as ms, v, f, h => by
    simp only [RM] at h
    exact RML.kinds ms _ f h.2
  | .st ks, v, f, h => by
    simp only [RM] at h
    obtain ⟨p, L, h1, h2, h3, h4, rfl⟩ := h
    intro a ha
    rw [List.mem_singleton.mp ha, h2]
    simp [NS.setH]
theorem RML.kinds : ∀ (ms : List M) (xs : List V) (f : List Addr), RML K G H ms xs f → ∀ a ∈ f, (∀ xs, H a ≠ some (.tup xs)) ∧ ∀ ob xs, H a ≠ some (.frz ob (.tup xs))
  | [], _, _, h => by
    simp only [RML] at h
    obtain ⟨_, rfl⟩ := h
    simp
  | m :: ms, _, _, h => by
    simp only [RML] at h
    obtain ⟨y, ys, f1, f2, h1, h2, h3, rfl⟩ := h
    intro a ha
    rcases List.mem_append.mp ha with ha | ha
    · exact RM.kinds m y f1 h2 a ha
    · exact RML.kinds ms ys f2 h3 a ha
end
mutual
theorem Rp.safe (k : ∀ p xs, SqT K G p xs → SqT K G' p xs) : ∀ (d : D) (v : V), d.safe = true → Rp K G d v → Rp K G' d v
  | .non, _, _, h => by simp only [Rp] at h ⊢; exact h
  | .bl _, _, _, h => by simp only [Rp] at h ⊢; exact h
  | .int _, _, _, h => by simp only [Rp] at h ⊢; exact h
  | .str _, _, _, h => by simp only [Rp] at h ⊢; exact h
  | .ty _, _, _, h => by simp only [Rp] at h ⊢; exact h
  | .tup ds, _, s, h => by
    simp only [Rp] at h ⊢
    obtain ⟨p, xs, h1, h2, h3⟩ := h
    exact ⟨p, xs, h1, k p xs h2, RpL.safe k ds xs (by simpa [D.safe] using s) h3⟩
  | .adr _, _, _, h => by simp only [Rp] at h ⊢; exact h
  | .lst _, _, s, _ => by simp [D.safe] at s
  | .seq _, _, s, _ => by simp [D.safe] at s
  | .obj .., _, s, _ => by simp [D.safe] at s
  | .dic .., _, s, _ => by simp [D.safe] at s
  | .any, _, s, _ => by simp [D.safe] at s
  | .oba .., _, s, _ => by simp [D.safe] at s
theorem RpL.safe (k : ∀ p xs, SqT K G p xs → SqT K G' p xs) : ∀ (ds : List D) (xs : List V), D.safes ds = true → RpL K G ds xs → RpL K G' ds xs
  | [], _, _, h => by simp only [RpL] at h ⊢; exact h
  | d :: ds, _, s, h => by
    simp only [D.safes, Bool.and_eq_true] at s
    simp only [RpL] at h ⊢
    obtain ⟨y, ys, h1, h2, h3⟩ := h
    exact ⟨y, ys, h1, Rp.safe k d y s.1 h2, RpL.safe k ds ys s.2 h3⟩
end
mutual
theorem RM.safe (k : ∀ p xs, SqT K G p xs → SqT K G' p xs) : ∀ (m : M) (v : V) (f : List Addr), m.safe = true → RM K G H m v f → RM K G' H m v f
  | .d x, _, _, s, h => by
    simp only [RM] at h ⊢
    exact ⟨Rp.safe k x _ (by simpa [M.safe] using s) h.1, h.2⟩
  | .lst ms, _, _, s, h => by
    simp only [RM] at h ⊢
    obtain ⟨p, xs, q, h1, h2, h3, h4⟩ := h
    exact ⟨p, xs, q, h1, h2, RML.safe k ms xs q (by simpa [M.safe] using s) h3, h4⟩
  | .obj C ns ms, _, _, s, h => by
    simp only [RM] at h ⊢
    obtain ⟨p, dx, xs, q, h1, h2, h5, h3, h4⟩ := h
    exact ⟨p, dx, xs, q, h1, h2, h5, RML.safe k ms xs q (by simpa [M.safe] using s) h3, h4⟩
  | .dic ks ms, _, _, s, h => by
    simp only [RM] at h ⊢
    obtain ⟨p, xs, q, h1, h2, h5, h3, h4⟩ := h
    exact ⟨p, xs, q, h1, h2, h5, RML.safe k ms xs q (by simpa [M.safe] using s) h3, h4⟩
  | .box .., _, _, s, _ => by simp [M.safe] at s
  | .st _, _, _, s, _ => by simp [M.safe] at s
theorem RML.safe (k : ∀ p xs, SqT K G p xs → SqT K G' p xs) : ∀ (ms : List M) (xs : List V) (f : List Addr), M.safes ms = true → RML K G H ms xs f → RML K G' H ms xs f
  | [], _, _, _, h => by simp only [RML] at h ⊢; exact h
  | m :: ms, _, _, s, h => by
    simp only [M.safes, Bool.and_eq_true] at s
    simp only [RML] at h ⊢
    obtain ⟨y, ys, f1, f2, h1, h2, h3, h4⟩ := h
    exact ⟨y, ys, f1, f2, h1, RM.safe k m y f1 s.1 h2, RML.safe k ms ys f2 s.2 h3, h4⟩
end
/-- THE LOOK: all that is owned as data; nothing of the heap changes; a safe answer stays -/
theorem Iv.look (I : Iv K c G H σ b T) : ∃ c' G2, Iv K c' G2 H σ (b.map bF) [] ∧ (∀ b1 G3 H3 T3, Iv K c' G3 H3 σ b1 T3 → Same H H3 ∧ Iv K c G H3 σ b T) ∧
    ∀ b1 G3 H3 m v, m.safe = true → Iv K c' G3 H3 σ b1 [(m, v)] → ∃ G4, Iv K c G4 H3 σ b ((m, v) :: T) := by
  obtain ⟨st, f1, f2, h1, h2, nd, hg⟩ := id I
  have gs : Same G (gain G H f1) := gain_same st.gh
  have back : ∀ (b1 : List B) G3 H3 T3, Iv K ⟨H, gain G H f1, [], fun _ => [], []⟩ G3 H3 σ b1 T3 → Same H H3 := fun b1 G3 H3 T3 J a o e => J.st.kp a o e (by simp)
  refine ⟨⟨H, gain G H f1, [], fun _ => [], []⟩, gain G H f1, ⟨⟨Same.refl _, gain_heap st.gh, fun _ _ h => h, fun _ _ h _ => h, fun _ h => h⟩, [], [], RE.peek gs h1 (fun a ha => gain_in ha), rfl, by simp, by simp⟩, fun b1 G3 H3 T3 J => ?_, fun b1 G3 H3 m v sf J => ?_⟩
  · have s := back _ _ _ _ J
    exact ⟨s, I.ext (Same.refl _) (st.gh.trans s) s fun _ _ h => h⟩
  · have s := back _ _ _ _ J
    have jg : Same (gain G H f1) G3 := J.st.g
    have g3 : Same G3 H3 := J.st.gh
    have jn : ∀ a, H a ≠ none → gain G H f1 a = none → G3 a = none := J.st.nw
    obtain ⟨_, e1, e2, _, r2, en, eg⟩ := J
    obtain ⟨r3, r4⟩ := rt_one r2
    let G4 : Hp := fun a => if H a = none then G3 a else G a
    have n4 : ∀ a, H a = none → G4 a = G3 a := fun a h => if_pos h
    have o4 : ∀ a, H a ≠ none → G4 a = G a := fun a h => if_neg h
    have s4 : Same G G4 := fun a o e => by
      have : H a ≠ none := by rw [st.gh a o e]; simp
      rw [o4 a this]; exact e
    have t4 : Same G4 H3 := fun a o e => by
      by_cases q : H a = none
      · rw [n4 a q] at e; exact g3 a o e
      · rw [o4 a q] at e; exact s a o (st.gh a o e)
    have kinds : ∀ a ∈ f1, (∀ xs, H a ≠ some (.tup xs)) ∧ ∀ ob xs, H a ≠ some (.frz ob (.tup xs)) := by
      have : ∀ {b : List B} {σ : L2.St} {f : List Addr}, RE K c G H b σ f → ∀ a ∈ f, (∀ xs, H a ≠ some (.tup xs)) ∧ ∀ ob xs, H a ≠ some (.frz ob (.tup xs)) := by
        intro b
        induction b with
        | nil => rintro σ f ⟨_, rfl⟩; simp
        | cons x bs ih =>
          rintro σ f ⟨s, σ', g1, g2, q1, q2, q3, rfl⟩ a ha
          rcases List.mem_append.mp ha with ha | ha
          · cases x with
            | no => have q2 : g1 = [] := q2; subst q2; simp at ha
            | d x => obtain ⟨rfl, _⟩ := q2; simp at ha
            | o k m => obtain ⟨v, _, q4, _⟩ := q2; exact RM.kinds _ _ _ q4 a ha
          · exact ih q3 a ha
      exact this h1
    have key : ∀ p o, G3 p = some o → ((∃ xs, o = .tup xs) ∨ ∃ ob xs, o = .frz ob (.tup xs)) → G4 p = some o := fun p o e ho => by
      by_cases q : H p = none
      · rw [n4 p q]; exact e
      · rw [o4 p q]
        by_cases w : p ∈ f1
        · exfalso
          cases hh : H p with
          | none => exact q hh
          | some o' =>
            have z1 : G3 p = some o' := jg p o' (by rw [gain_in w]; exact hh)
            rw [e] at z1
            cases z1
            rcases ho with ⟨xs, rfl⟩ | ⟨ob, xs, rfl⟩
            · exact (kinds p w).1 xs hh
            · exact (kinds p w).2 ob xs hh
        · cases hh : G p with
          | none =>
            have := jn p q (by rw [gain_out w]; exact hh)
            rw [this] at e; cases e
          | some o' =>
            have z1 : G3 p = some o' := jg p o' (gs p o' hh)
            rw [e] at z1
            exact z1.symm
    have sq : ∀ p xs, SqT K G3 p xs → SqT K G4 p xs := fun p xs h => by
      rcases h with (h | ⟨ob, h⟩) | h
      · exact .inl (.inl (key p _ h (.inl ⟨xs, rfl⟩)))
      · exact .inl (.inr ⟨ob, key p _ h (.inr ⟨ob, xs, rfl⟩)⟩)
      · exact .inr h
    have r5 := RM.safe sq m v _ sf r3
    have new : ∀ a ∈ e2, H a = none := r4
    obtain ⟨ft, t1, t2, t3, t4', go⟩ := Iv.tmp (T1 := []) I
    have t1 : ft = [] := t1
    subst t1
    refine ⟨G4, go G4 H3 [(m, v)] e2 ⟨s4, t4, fun a q1 q2 => by rw [o4 a q1]; exact q2, fun a o e _ => s a o e, fun a h => ?_⟩ ⟨e2, [], r5, fun a ha => ?_, rfl, by simp⟩ (List.nodup_append.mp en).2.1 (fun a ha => .inr (new a ha)) fun a ha => ?_⟩
    · cases q : H a with
      | none => exact absurd q h
      | some o => rw [s a o q]; simp
    · cases q : c.H0 a with
      | none => rfl
      | some o => exact absurd (new a ha) (st.dm a (by rw [q]; simp))
    · rw [n4 a (new a ha)]
      exact (eg a (List.mem_append_right _ ha)).1
end
section
variable {X : Cx} {e e1 e2 e3 : Expr} {es : List Expr} {st : Stmt} {sts : List Stmt} {pos p : Pos} {f f1 f2 f3 : Ev} {fs : Av} {src : List (Option Nat)} {x : Str} {t t1 t2 : Tv} {k1 k2 : Sv} {j : Nat} {π : Pth} {n : Str} {Cs : List Str}
def tPeek (t : Tv) : Tv := fun b => match t (b.map bF) with
  | some (r, _) => some (r, b)
  | none => none
theorem t_peek (h : TM X e t) : TM X e (tPeek t) := h.wk fun σ H Q => by
  rintro ⟨c, G, b, T, r, b', hf, I, q⟩
  unfold tPeek at hf
  split at hf
  · rename_i r0 b1 e1
    cases hf
    obtain ⟨c', G2, I2, back, _⟩ := I.look
    exact ⟨c', G2, b.map bF, [], r, b1, e1, I2, fun G' H' I' => q G H' (back _ _ _ _ I').2⟩
  · cases hf
def fPeek (f : Ev) : Ev := fun b => match f (b.map bF) with
  | some (m, _) => if m.unal.safe = true then some (m.unal, b) else none
  | none => none
theorem e_peek (h : EM X e f) : EM X e (fPeek f) := h.wk fun σ H Q => by
  rintro ⟨c, G, b, T, r, b', hf, I, q⟩
  unfold fPeek at hf
  split at hf
  · rename_i m b1 e1
    split at hf
    · rename_i sf
      cases hf
      obtain ⟨c', G2, I2, _, back⟩ := I.look
      refine ⟨c', G2, b.map bF, [], _, b1, e1, I2, fun v G' H' I' => ?_⟩
      obtain ⟨G4, I4⟩ := back _ _ _ _ _ sf I'.unal
      exact q v G4 H' I4
    · cases hf
  · cases hf
/-! ### what only adds to the heap -/
def tekO (K : PySem.W.Frag) (f : Ev) : TE := fun σ H Q => ∃ c G b T m, f b = some (m, b) ∧ Iv K c G H σ b T ∧ ∀ v G' H', Same H H' → Iv K c G' H' σ b ((m, v) :: T) → Q v H'
abbrev EK (X : Cx) (e : Expr) (f : Ev) : Prop := PE X e (tekO X.K f)
def takO (K : PySem.W.Frag) (f : Av) : TA := fun σ H Q => ∃ c G b T ms, f b = some (ms, b) ∧ Iv K c G H σ b T ∧ ∀ us G' H', ms.length = us.length → Same H H' → Iv K c G' H' σ b (zT ms us ++ T) → Q us H'
abbrev AK (X : Cx) (es : List Expr) (f : Av) : Prop := PA X es (takO X.K f)
theorem k_var (j : Nat) (hN : X.N[j]? = some x := by rfl) (hv : Vis X.env.scope x := by first | exact Or.inl rfl | exact Or.inr (Or.inl rfl) | exact Or.inr (Or.inr rfl)) (hd : (x == ("__debug__" : Str)) = false := by decide)
    (hcd : (x == ("__classdict__" : Str)) = false := by decide) : EK X (.Name x pos) (fVar j) := (pe_var hN hv hd hcd).wk fun σ H Q => by
  rintro ⟨c, G, b, T, m, hf, I, q⟩
  unfold fVar at hf
  split at hf
  · rename_i d eb
    cases hf
    obtain ⟨v, h1, h2⟩ := I.getD eb
    exact ⟨v, h1, q v G H (fun _ _ h => h) (I.pushD h2)⟩
  · cases hf
theorem k_pl (h : PP X e j π) : EK X e (fPl j π) := h.wk fun σ H Q => by
  rintro ⟨c, G, b, T, m, hf, I, q⟩
  unfold fPl at hf
  split at hf
  · rename_i d eg
    cases hf
    obtain ⟨v0, v1, f1, w1, w2, w3⟩ := I.readP eg
    simp only [RM] at w3
    exact ⟨v0, v1, w1, w2, q v1 G H (fun _ _ h => h) (I.pushD w3.1)⟩
  · cases hf
theorem k_peek (h : EM X e f) : EK X e (fPeek f) := h.wk fun σ H Q => by
  rintro ⟨c, G, b, T, r, hf, I, q⟩
  unfold fPeek at hf
  split at hf
  · rename_i m b1 e1
    split at hf
    · rename_i sf
      cases hf
      obtain ⟨c', G2, I2, kp, back⟩ := I.look
      refine ⟨c', G2, b.map bF, [], _, b1, e1, I2, fun v G' H' I' => ?_⟩
      obtain ⟨G4, I4⟩ := back _ _ _ _ _ sf I'.unal
      exact q v G4 H' (kp _ _ _ _ I').1 I4
    · cases hf
  · cases hf
theorem ka_nil : AK X [] fNil := pa_nil.wk fun σ H Q => by
  rintro ⟨c, G, b, T, ms, hf, I, q⟩
  simp only [fNil, Option.some.injEq, Prod.mk.injEq, and_true] at hf
  subst hf
  exact q [] G H rfl (fun _ _ h => h) I
def fConsK (f : Ev) (fs : Av) : Av := fun b => match f b, fs b with
  | some (m, _), some (ms, _) => some (m :: ms, b)
  | _, _ => none
/-- keeps the slots -/
def Keep (f : Ev) : Prop := ∀ b m b1, f b = some (m, b1) → b1 = b
def KeepA (f : Av) : Prop := ∀ b m b1, f b = some (m, b1) → b1 = b
theorem kp_var : Keep (fVar j) := fun b m b1 h => by
  unfold fVar at h
  split at h
  · cases h; rfl
  · cases h
theorem kp_pl : Keep (fPl j π) := fun b m b1 h => by
  unfold fPl at h
  split at h
  · cases h; rfl
  · cases h
theorem kp_peek : Keep (fPeek f) := fun b m b1 h => by
  unfold fPeek at h
  split at h
  · split at h
    · cases h; rfl
    · cases h
  · cases h
theorem kp_nil : KeepA fNil := fun b m b1 h => by
  unfold fNil at h
  cases h; rfl
theorem kp_cons (h1 : Keep f) (h2 : KeepA fs) : KeepA (fCons f fs) := fun b m b1 h => by
  unfold fCons at h
  split at h
  · rename_i e1
    have := h1 _ _ _ e1
    subst this
    split at h
    · rename_i e2
      have := h2 _ _ _ e2
      subst this
      cases h; rfl
    · cases h
  · cases h
theorem kp_of {g : List M → Option M} (h : KeepA fs) : Keep (fOf g fs) := fun b m b1 q => by
  unfold fOf at q
  split at q
  · rename_i e1
    have := h _ _ _ e1
    subst this
    split at q
    · cases q; rfl
    · cases q
  · cases q
theorem ka_cons (h : EK X e f) (hk : Keep f) (hr : AK X es fs) (hs : starEach (e :: es) X.env = (false, eval e X.env) :: starEach es X.env := by rfl) : AK X (e :: es) (fCons f fs) := (pa_cons h hr hs).wk fun σ H Q => by
  rintro ⟨c, G, b, T, ms, hf, I, q⟩
  unfold fCons at hf
  split at hf
  · rename_i m b1 e1
    have := hk _ _ _ e1
    subst this
    split at hf
    · rename_i ms' b2 e2
      cases hf
      refine ⟨c, G, b1, T, m, e1, I, fun v G1 H1 s1 I1 => ⟨c, G1, b1, _, ms', e2, I1, fun us G2 H2 hl s2 I2 => ?_⟩⟩
      exact q (v :: us) G2 H2 (by simp [hl]) (fun a o h => s2 a o (s1 a o h)) (I2.perm List.perm_middle)
    · cases hf
  · cases hf
theorem k_tup {nn : Nat} (h : AK X es fs) (hk : KeepA fs) : EK X (.Tuple es nn pos) (fOf PL.gTup fs) := (pe_tup h).wk fun σ H Q => by
  rintro ⟨c, G, b, T, m, hf, I, q⟩
  unfold fOf at hf
  split at hf
  · rename_i ms b1 e1
    have := hk _ _ _ e1
    subst this
    split at hf
    · rename_i m1 e2
      cases hf
      refine ⟨c, G, b1, T, ms, e1, I, fun us G1 H1 hl s1 I1 => ?_⟩
      unfold PL.gTup at e2
      split at e2
      · rename_i hz
        split at e2
        · rename_i ds e3
          cases e2
          refine ⟨by rw [← hl]; exact le_line hz, fun p hp => q _ _ _ (fun a o h => same_upd hp a o (s1 a o h)) (I1.dropZ.newT hp (I1.datas hl e3))⟩
        · cases e2
      · cases e2
    · cases hf
  · cases hf
theorem PathV.keep {K : PySem.W.Frag} {H H' : Hp} (s : Same H H') : ∀ {π : Pth} {v v1 : V}, PathV K H v π v1 → PathV K H' v π v1
  | [], _, _, h => h
  | q :: π, _, _, ⟨a, C, dx, fs, h1, h2, h3, h4⟩ => ⟨a, C, dx, fs, PathV.keep s h1, s _ _ h2, h3, h4⟩
theorem PathV.fun_ {K : PySem.W.Frag} {H : Hp} : ∀ {π : Pth} {v v1 v2 : V}, PathV K H v π v1 → PathV K H v π v2 → v1 = v2
  | [], _, _, _, h1, h2 => by
    have h1 : _ = _ := h1
    have h2 : _ = _ := h2
    rw [← h1, ← h2]
  | q :: π, _, _, _, ⟨a, C, dx, fs, h1, h2, h3, h4⟩, ⟨a', C', dx', fs', k1, k2, k3, k4⟩ => by
    have e := PathV.fun_ h1 k1
    cases e
    rw [h2] at k2
    have k2 := Option.some.inj k2
    injection k2 with _ _ k5
    subst k5
    rw [h4] at k4
    exact Option.some.inj k4
/-- place.append(e) -/
def sAppP (j : Nat) (π : Pth) (f : Ev) : Sv := fun b => match getP b j π with
  | some (.lst ms) => (match f b with
    | some (m, _) => if ms.length < 1000000 then (match setP b j π (.lst (ms ++ [m])) with
        | some b2 => some (.nx, b2)
        | none => none) else none
    | none => none)
  | _ => none
theorem s_appP {p2 p3 : Pos} (hp : PP X e1 j π) (h : EK X e f) (hk : Keep f)
    (hbase : attributeBase e1 "append" X.env (eval e1 X.env) = eval e1 X.env := by rfl)
    (hfew : ((backTo p3 (starEach (e :: []) X.env)).all (fun x => !x.1) && (backToKw p3 (keywordEach [] X.env)).all (fun x => x.1.isSome)
      && decide ((e :: []).length + ([] : List Keyword).length + (if ([] : List Keyword).isEmpty then 0 else 1) < 30)) = true := by rfl)
    (hline : (p2.endLine == p3.line) = true := by rfl) (hs : starEach (e :: []) X.env = (false, eval e X.env) :: starEach [] X.env := by rfl) (hplain : (backTo p3 (starEach [] X.env)).any (·.1) = false := by rfl)
    (hsw : swapsWith (.Call (.Attribute e1 "append" p2) [e] [] p3) none pos.line X.env = pure false := by rfl) :
    SM X (.Expr (.Call (.Attribute e1 "append" p2) [e] [] p3) pos) (sAppP j π f) := (ps_expr (pe_bm PySem.F.plainAttrs_list PySem.F.slot_list_append PySem.F.type_list_append mt_append hp (pa_cons h pa_nil hs) hbase hfew hline hs hplain) hsw).wk fun D σ H => by
  rintro ⟨c, G, b, T, r, b', hf, I, q⟩
  unfold sAppP at hf
  split at hf
  · rename_i ms eg
    split at hf
    · rename_i m b1 e1
      have := hk _ _ _ e1
      subst this
      split at hf
      · rename_i hz
        split at hf
        · rename_i b2 ep
          cases hf
          obtain ⟨v0, p0, xs0, w1, w2, w3, _⟩ := Iv.mutP (T1 := []) I eg
          refine ⟨v0, _, w1, w2, .inl ⟨rfl, xs0, SqL.of w3⟩, c, G, b1, T, m, e1, I, fun y G1 H1 s1 I1 => ?_⟩
          obtain ⟨v0', p1, xs, z1, z2, z3, z4, z5, z6⟩ := Iv.mutP (T1 := [(m, y)]) I1 eg
          rw [w1] at z1
          have z1 := Option.some.inj (Option.some.inj z1)
          subst z1
          have z2 := PathV.fun_ (PathV.keep s1 w2) z2
          cases z2
          refine ⟨_, xs, y, rfl, rfl, z3, by rw [z4]; exact lt_line (by omega), q σ G1 _ (z6 (ms ++ [m]) (xs ++ [y]) [] b' ep fun H3 q ft a1 a2 a3 _ => ?_)⟩
          obtain ⟨a4, a5⟩ := rt_one a2
          exact ⟨q ++ ft, [], RML.app a1 a4, rfl, fun a ha => by simpa using ha, by simpa using a3⟩
        · cases hf
      · cases hf
    · cases hf
  · cases hf
end
end PL

namespace PL
open PySem PySem.Spec PyProof.Rows L2
/-! ### methods, classes that are made, properties -/
def appF (F : Fn) (dds : List D) (src : List (Option Nat)) (ms : List M) (b1 : List B) : Option (M × List B) := match fill src ms b1 with
  | some (full, ks, b2) => (match F (full ++ dds.map .d) with
    | some (r, os) => (match putb src ks full os b2 with
      | some b3 => some (r, b3)
      | none => none)
    | none => none)
  | none => none
structure MetOk (P : Program) (w : World) (K : PySem.W.Frag) (mg : Str → Option Value) (base : Heap) (k : Nat) (C m : Str) (dvs : List V) (F : Fn) : Prop where
  cls : Cls K (He.ga K C)
  ex : ∃ f fd ps ds, Meth K (He.ga K C) m f ∧ Binds K fd ps ds ∧ Vals dvs ds ∧ FnOk P w K mg base CX0 k f fd ps (spD K F)
structure MakOk (P : Program) (w : World) (K : PySem.W.Frag) (mg : Str → Option Value) (base : Heap) (k : Nat) (C : Str) (dvs : List V) (F : Fn) : Prop where
  at_ : mg C = some (.ref (He.ga K C))
  ex : ∃ f fd ps ds, Mk K (He.ga K C) f ∧ Binds K fd ps ds ∧ Vals dvs ds ∧ FnOk P w K mg base CX0 k f fd ps (spD K F)
structure ProOk (P : Program) (w : World) (K : PySem.W.Frag) (mg : Str → Option Value) (base : Heap) (k : Nat) (C m : Str) (F : Fn) : Prop where
  cls : Cls K (He.ga K C)
  ex : ∃ f p fd ps, PropOf K (He.ga K C) m p f ∧ Binds K fd ps [] ∧ FnOk P w K mg base CX0 k f fd ps (spD K F)
/-- receiver: data -/
def fMeth (C m : Str) (F : Fn) (dds : List D) (fr : Ev) (src : List (Option Nat)) (fs : Av) : Ev := fun b => match fr b with
  | some (.d (.obj C' ns ds), b0) => if C' = C ∧ fldI m ns = none then (match fs b0 with
    | some (ms, b1) => appF F dds (none :: src) (.d (.obj C' ns ds) :: ms) b1
    | none => none) else none
  | _ => none
/-- receiver: a name; its thing is handed on and comes back -/
def fMethO (C m : Str) (F : Fn) (dds : List D) (j : Nat) (src : List (Option Nat)) (fs : Av) : Ev := fun b => match b[j]? with
  | some (.d (.obj C' ns ds)) => if C' = C ∧ fldI m ns = none then (match fs b with
    | some (ms, b1) => appF F dds (none :: src) (.d (.obj C' ns ds) :: ms) b1
    | none => none) else none
  | _ => (match getP b j [] with
    | some (.obj C' ns _) => if C' = C ∧ fldI m ns = none then (match fs b with
      | some (ms, b1) => appF F dds (some j :: src) ms b1
      | none => none) else none
    | _ => none)
section
variable {X : Cx} {e e1 e2 e3 o : Expr} {es : List Expr} {st : Stmt} {sts : List Stmt} {pos p apos : Pos} {f f1 f2 f3 fr : Ev} {fs : Av} {src : List (Option Nat)} {x m C : Str} {t t1 t2 : Tv} {k1 k2 : Sv} {j : Nat} {π : Pth} {n : Str} {Cs : List Str} {F : Fn} {dds : List D} {dvs : List V} {E : XK}
theorem appF_in {K : PySem.W.Frag} {c : Cg} {G H : Hp} {σ : L2.St} {b b3 : List B} {T : List (M × V)} {ms : List M} {us vs : List V} {r : M} {Q : VK} (I : Iv K c G H σ b (zT ms us ++ T)) (hl : ms.length = us.length) (av : AV σ src us vs) (hd : RpL K G dds dvs)
    (hf : appF F dds src ms b = some (r, b3)) (q : ∀ v G' H', Iv K c G' H' σ b3 ((r, v) :: T) → Q v H') : spD K F (vs ++ dvs) H Q E := by
  unfold appF at hf
  split at hf
  · rename_i full ks b2 e2
    split at hf
    · rename_i r0 os e3
      split at hf
      · rename_i b30 e4
        cases hf
        exact I.call hl av hd e2 e3 e4 q
      · cases hf
    · cases hf
  · cases hf
/-- the tracked instance behind data -/
theorem rp_obj {K : PySem.W.Frag} {G H : Hp} {ns : List Str} {ds : List D} {v : V} (r : Rp K G (.obj C ns ds) v) (s : Same G H) (hm : fldI m ns = none) : ∃ a dx fs, v = .ref a ∧ H a = some (.ins (He.ga K C) dx fs) ∧ fs.lookup m = none := by
  simp only [Rp] at r
  obtain ⟨p, dx, xs, rfl, h2, _, _⟩ := r
  exact ⟨p, dx, _, rfl, s _ _ h2, fldI_none hm⟩
theorem getP_obj {K : PySem.W.Frag} {c : Cg} {G H : Hp} {σ : L2.St} {b : List B} {T : List (M × V)} {ns : List Str} {ms : List M} (I : Iv K c G H σ b T) (hg : getP b j [] = some (.obj C ns ms)) (hm : fldI m ns = none) :
    ∃ a dx fs, σ[j]? = some (some (.ref a)) ∧ H a = some (.ins (He.ga K C) dx fs) ∧ fs.lookup m = none := by
  obtain ⟨v0, v1, f1, w1, w2, w3⟩ := I.readP hg
  have w2 : v0 = v1 := w2
  subst w2
  simp only [RM] at w3
  obtain ⟨p, dx, xs, q, rfl, h2, _⟩ := w3
  exact ⟨p, dx, _, w1, h2, fldI_none hm⟩
theorem meth_in {K : PySem.W.Frag} (hd : ∀ G, RpL K G dds dvs) : ∀ σ H Q, teO K (fMeth C m F dds fr src fs) σ H Q → tMeth (He.ga K C) m (spD K F) dvs E (teO K fr) (taO K src fs) σ H Q := fun σ H Q => by
  rintro ⟨c, G, b, T, r, b', hf, I, q⟩
  unfold fMeth at hf
  split at hf
  · rename_i C' ns ds b0 e0
    split at hf
    · rename_i hc
      obtain ⟨rfl, hm⟩ := hc
      split at hf
      · rename_i ms b1 e1
        refine ⟨c, G, b, T, _, b0, e0, I, fun v G1 H1 I1 => ?_⟩
        obtain ⟨a, dx, fs, w1, w2, w3⟩ := rp_obj I1.topD I1.st.gh hm
        refine ⟨a, dx, fs, w1, w2, w3, c, G1, b0, _, ms, b1, e1, I1, fun us vs G2 H2 hl av I2 => ?_⟩
        exact appF_in (src := none :: src) (vs := v :: vs) (us := v :: us) (ms := .d (.obj C' ns ds) :: ms) (I2.perm List.perm_middle) (by simp [hl]) ⟨v, us, vs, rfl, rfl, av⟩ (hd _) hf q
      · cases hf
    · cases hf
  · cases hf
theorem methO_in {K : PySem.W.Frag} (hd : ∀ G, RpL K G dds dvs) : ∀ σ H Q, teO K (fMethO C m F dds j src fs) σ H Q → tMeth (He.ga K C) m (spD K F) dvs E (fun σ H Q => ∃ v, σ[j]? = some (some v) ∧ Q v H) (taO K src fs) σ H Q := fun σ H Q => by
  rintro ⟨c, G, b, T, r, b', hf, I, q⟩
  unfold fMethO at hf
  split at hf
  · rename_i C' ns ds eb
    split at hf
    · rename_i hc
      obtain ⟨rfl, hm⟩ := hc
      split at hf
      · rename_i ms b1 e1
        obtain ⟨v, h1, h2⟩ := I.getD eb
        obtain ⟨a, dx, fs, w1, w2, w3⟩ := rp_obj h2 I.st.gh hm
        refine ⟨v, h1, a, dx, fs, w1, w2, w3, c, G, b, _, ms, b1, e1, I.pushD h2, fun us vs G2 H2 hl av I2 => ?_⟩
        exact appF_in (src := none :: src) (vs := v :: vs) (us := v :: us) (ms := .d (.obj C' ns ds) :: ms) (I2.perm List.perm_middle) (by simp [hl]) ⟨v, us, vs, rfl, rfl, av⟩ (hd _) hf q
      · cases hf
    · cases hf
  · split at hf
    · rename_i C' ns ms0 eg
      split at hf
      · rename_i hc
        obtain ⟨rfl, hm⟩ := hc
        split at hf
        · rename_i ms b1 e1
          obtain ⟨a, dx, fs, w1, w2, w3⟩ := getP_obj I eg hm
          refine ⟨_, w1, a, dx, fs, rfl, w2, w3, c, G, b, T, ms, b1, e1, I, fun us vs G2 H2 hl av I2 => ?_⟩
          exact appF_in (src := some j :: src) (vs := .ref a :: vs) I2 hl ⟨.ref a, vs, rfl, w1, av⟩ (hd _) hf q
        · cases hf
      · cases hf
    · cases hf
theorem e_meth {k : Nat} {pl : Sem Bool} (h : MetOk X.prog X.w X.K X.mg X.base k C m dvs F) (hr : Room k X.A) (hd : ∀ G, RpL X.K G dds dvs) (ho : EM X o fr) (ha : AM X (e :: es) src fs)
    (hst : starEach (e :: es) X.env = (false, eval e X.env) :: starEach es X.env := by rfl) (hpl : (backTo pos (starEach es X.env)).any (·.1) = false := by rfl)
    (ht : eval (.Call (.Attribute o m apos) (e :: es) [] pos) X.env = (do
      let ov ← eval o X.env
      standAt apos.atName
      let (f, first) ← holding [ov] (getMethod ov m pl)
      callWith pos f first (backTo pos (starEach (e :: es) X.env)) (backToKw pos (keywordEach [] X.env))) := by rfl) :
    EM X (.Call (.Attribute o m apos) (e :: es) [] pos) (fMeth C m F dds fr src fs) := by
  obtain ⟨f, fd, ps, ds, h1, h3, h4, h5⟩ := h.ex
  exact (pe_meth ho h.cls h1 h5 hr h3 h4 pass0 ha hst hpl ht).wk (meth_in hd)
theorem tnil_in {K : PySem.W.Frag} {ta : TE} {sp : Sp} {A : Addr} {σ : L2.St} {H : Hp} {Q : VK} (h : tMeth A m sp dvs E ta (taO K [] fNil) σ H Q) (mono : ∀ σ H Q Q', (∀ v H, Q v H → Q' v H) → ta σ H Q → ta σ H Q') : tMeth A m sp dvs E ta tNil σ H Q := by
  refine mono σ H _ _ (fun x H1 h => ?_) h
  obtain ⟨a, dx, fs, w1, w2, w3, c, G, b, T, ms, b', hf, I, q⟩ := h
  simp only [fNil, Option.some.injEq, Prod.mk.injEq] at hf
  obtain ⟨rfl, rfl⟩ := hf
  exact ⟨a, dx, fs, w1, w2, w3, q [] [] G H1 rfl ⟨rfl, rfl⟩ I⟩
theorem teO_mono {K : PySem.W.Frag} : ∀ σ H Q Q', (∀ v H, Q v H → Q' v H) → teO K f σ H Q → teO K f σ H Q' := by
  rintro σ H Q Q' hq ⟨c, G, b, T, m, b', hf, I, q⟩
  exact ⟨c, G, b, T, m, b', hf, I, fun v G' H' I' => hq _ _ (q v G' H' I')⟩
theorem e_meth0 {k : Nat} {pl : Sem Bool} (h : MetOk X.prog X.w X.K X.mg X.base k C m dvs F) (hr : Room k X.A) (hd : ∀ G, RpL X.K G dds dvs) (ho : EM X o fr)
    (ht : eval (.Call (.Attribute o m apos) [] [] pos) X.env = (do
      let ov ← eval o X.env
      standAt apos.atName
      let (f, first) ← holding [ov] (getMethod ov m pl)
      callWith pos f first (backTo pos (starEach [] X.env)) (backToKw pos (keywordEach [] X.env))) := by rfl) :
    EM X (.Call (.Attribute o m apos) [] [] pos) (fMeth C m F dds fr [] fNil) := by
  obtain ⟨f, fd, ps, ds, h1, h3, h4, h5⟩ := h.ex
  exact (pe_meth0 (E := E0) ho h.cls h1 h5 hr h3 h4 pass0 ht).wk fun σ H Q h => tnil_in (meth_in hd σ H Q h) teO_mono
theorem e_methO {k : Nat} {pl : Sem Bool} {px : Pos} (j : Nat) (h : MetOk X.prog X.w X.K X.mg X.base k C m dvs F) (hr : Room k X.A) (hd : ∀ G, RpL X.K G dds dvs) (ha : AM X (e :: es) src fs)
    (hst : starEach (e :: es) X.env = (false, eval e X.env) :: starEach es X.env := by rfl) (hpl : (backTo pos (starEach es X.env)).any (·.1) = false := by rfl)
    (ht : eval (.Call (.Attribute (.Name x px) m apos) (e :: es) [] pos) X.env = (do
      let ov ← eval (.Name x px) X.env
      standAt apos.atName
      let (f, first) ← holding [ov] (getMethod ov m pl)
      callWith pos f first (backTo pos (starEach (e :: es) X.env)) (backToKw pos (keywordEach [] X.env))) := by rfl)
    (hN : X.N[j]? = some x := by rfl) (hv : Vis X.env.scope x := by first | exact Or.inl rfl | exact Or.inr (Or.inl rfl) | exact Or.inr (Or.inr rfl)) (hdb : (x == ("__debug__" : Str)) = false := by decide)
    (hcd : (x == ("__classdict__" : Str)) = false := by decide) :
    EM X (.Call (.Attribute (.Name x px) m apos) (e :: es) [] pos) (fMethO C m F dds j src fs) := by
  obtain ⟨f, fd, ps, ds, h1, h3, h4, h5⟩ := h.ex
  exact (pe_meth (pe_var hN hv hdb hcd) h.cls h1 h5 hr h3 h4 pass0 ha hst hpl ht).wk (methO_in hd)
theorem e_methO0 {k : Nat} {pl : Sem Bool} {px : Pos} (j : Nat) (h : MetOk X.prog X.w X.K X.mg X.base k C m dvs F) (hr : Room k X.A) (hd : ∀ G, RpL X.K G dds dvs)
    (ht : eval (.Call (.Attribute (.Name x px) m apos) [] [] pos) X.env = (do
      let ov ← eval (.Name x px) X.env
      standAt apos.atName
      let (f, first) ← holding [ov] (getMethod ov m pl)
      callWith pos f first (backTo pos (starEach [] X.env)) (backToKw pos (keywordEach [] X.env))) := by rfl)
    (hN : X.N[j]? = some x := by rfl) (hv : Vis X.env.scope x := by first | exact Or.inl rfl | exact Or.inr (Or.inl rfl) | exact Or.inr (Or.inr rfl)) (hdb : (x == ("__debug__" : Str)) = false := by decide)
    (hcd : (x == ("__classdict__" : Str)) = false := by decide) :
    EM X (.Call (.Attribute (.Name x px) m apos) [] [] pos) (fMethO C m F dds j [] fNil) := by
  obtain ⟨f, fd, ps, ds, h1, h3, h4, h5⟩ := h.ex
  exact (pe_meth0 (E := E0) (pe_var hN hv hdb hcd) h.cls h1 h5 hr h3 h4 pass0 ht).wk fun σ H Q h => tnil_in (methO_in hd σ H Q h) fun σ H Q Q' hq ⟨v, h1, h2⟩ => ⟨v, h1, hq _ _ h2⟩
/-- data.f, f a property -/
def fProp (C m : Str) (F : Fn) (fr : Ev) : Ev := fun b => match fr b with
  | some (.d (.obj C' ns ds), b0) => if C' = C then (match F [.d (.obj C' ns ds)] with
    | some (r, []) => some (r, b0)
    | _ => none) else none
  | _ => none
theorem e_prop {k : Nat} (h : ProOk X.prog X.w X.K X.mg X.base k C m F) (hr : Room (k + 1) X.A) (ho : EM X o fr) (hab : attributeBase o m X.env (eval o X.env) = eval o X.env := by rfl) : EM X (.Attribute o m pos) (fProp C m F fr) := by
  obtain ⟨f, pp, fd, ps, h1, h3, h5⟩ := h.ex
  refine (pe_prop (E := E0) (CX := CX0) (dvs := []) ho h.cls h1 h5 hr h3 .nil pass0 hab).wk fun σ H Q => ?_
  rintro ⟨c, G, b, T, r, b', hf, I, q⟩
  unfold fProp at hf
  split at hf
  · rename_i C' ns ds b0 e0
    split at hf
    · rename_i hc
      subst hc
      split at hf
      · rename_i r0 e1
        cases hf
        refine ⟨c, G, b, T, _, b', e0, I, fun v G1 H1 I1 => ?_⟩
        have r := I1.topD
        simp only [Rp] at r
        obtain ⟨a, dx, xs, rfl, h2, _⟩ := id r
        refine ⟨a, dx, _, rfl, I1.st.gh _ _ h2, ?_⟩
        refine appF_in (src := [none]) (F := F) (dds := []) (dvs := []) (us := [.ref a]) (vs := [.ref a]) (ms := [.d (.obj C' ns ds)]) (b3 := b') I1 rfl ⟨_, [], [], rfl, rfl, rfl, rfl⟩ (by simp [RpL]) ?_ q
        simp [appF, fill, e1, putb, M.isD]
      · cases hf
    · cases hf
  · cases hf
end
end PL

namespace PL
open PySem PySem.Spec PyProof.Rows L2
section
variable {K : PySem.W.Frag} {c : Cg} {G G' H H' : Hp} {σ : L2.St} {b : List B} {T T1 : List (M × V)} {p : Addr} {o : HO} {d : D} {v : V} {m : M} {i : Nat}
/-- a new instance, handed to __init__ -/
theorem Iv.make {F : Fn} {src : List (Option Nat)} {ms : List M} {us vs : List V} {dds : List D} {dvs : List V} {full : List M} {ks : Ks} {b2 b3 : List B} {m' : M} {os : List M} {Q : VK} {E : XK} {C : Str} {x dx : Addr}
    (I : Iv K c G H σ b (zT ms us ++ T)) (hl : ms.length = us.length) (av : AV σ src us vs) (hd : RpL K G dds dvs) (e1 : fill src ms b = some (full, ks, b2)) (e2 : F (.obj C [] [] :: (full ++ dds.map .d)) = some (.d .non, m' :: os)) (e3 : putb src ks full os b2 = some b3)
    (hx : H x = none) (hdx : H dx = none) (ne : dx ≠ x)
    (q : ∀ G' H', Iv K c G' H' σ b3 ((m', .ref x) :: T) → Q (.ref x) H') : spD K F (.ref x :: (vs ++ dvs)) (upd (upd H dx (.own x)) x (.ins (He.ga K C) dx [])) (fun v H2 => v = .non ∧ Q (.ref x) H2) E := by
  have hx2 : upd H dx (.own x) x = none := by rw [upd_ne ne.symm]; exact hx
  have I1 := (I.junk (o := .own x) hdx).newO (o := .ins (He.ga K C) dx []) (m := .obj C [] []) hx2 (f := []) (by
    simp only [RM]
    exact ⟨x, dx, [], [], rfl, upd_same, rfl, by simp [RML], rfl⟩)
  revert I1
  generalize upd (upd H dx (.own x)) x (.ins (He.ga K C) dx []) = H1
  intro I1
  have I2 : Iv K c G H1 σ b (zT ms us ++ (.obj C [] [], .ref x) :: T) := I1.perm List.perm_middle.symm
  obtain ⟨st, f1, f2, h1, h2, nd, hg⟩ := I2
  obtain ⟨ft, fT0, t1, t2, rfl⟩ := RT.app.mp h2
  obtain ⟨f0, fT, g1, g2, g3, rfl⟩ := t2
  obtain ⟨ha, old⟩ := RT.list hl t1
  obtain ⟨fs, fh, i1, i2, i3, i4⟩ := take_args e1 h1 ha av old
  obtain ⟨gs, d1, d2⟩ := hd.rms (H := H1)
  have ll := i1.len
  have P : (f1 ++ (ft ++ (f0 ++ fT))).Perm ((f0 ++ fs.flatten) ++ (fh ++ fT)) := by
    rw [List.perm_iff_count]
    intro z
    have z1 := i3.count_eq z
    simp only [List.count_append] at z1 ⊢
    omega
  have N := P.nodup_iff.mp nd
  have N1 := List.nodup_append.mp N
  have hg' : ∀ a ∈ (f0 ++ fs.flatten) ++ (fh ++ fT), G a = none ∧ (a ∈ c.PS ∨ c.H0 a = none) := fun a ha => hg a (P.mem_iff.mpr ha)
  have ef : (f0 :: (fs ++ gs)).flatten = f0 ++ fs.flatten := by simp [d2]
  have rms : RMs K G H1 (.obj C [] [] :: (full ++ dds.map .d)) (.ref x :: (vs ++ dvs)) (f0 :: (fs ++ gs)) := ⟨_, _, f0, _, rfl, rfl, g1, i1.app d1⟩
  refine ⟨G, .obj C [] [] :: (full ++ dds.map .d), f0 :: (fs ++ gs), .d .non, m' :: os, e2, st.gh, rms, by rw [ef]; exact N1.1, by rw [ef]; exact fun a ha => (hg' a (List.mem_append_left _ ha)).1, fun v G' H' fr fo S rr io nd2 gn fresh => ?_⟩
  rw [ef] at S
  simp only [RM, Rp] at rr
  obtain ⟨rfl, rfl⟩ := rr
  refine ⟨rfl, ?_⟩
  obtain ⟨v0, vs0, fa, fs0, q1, q2, q3⟩ := io
  obtain ⟨rfl, rfl⟩ := List.cons.inj q1
  obtain ⟨rfl, rfl⟩ := List.cons.inj q2
  rw [if_neg (show ¬ (M.obj C [] []).isD = true by simp [M.isD])] at q3
  obtain ⟨o, os', fo1, fo2, eo, q4, q5, q6, rfl⟩ := q3
  obtain ⟨rfl, rfl⟩ := List.cons.inj eo
  have io := IOK.app ll.1 ll.2 q6
  have hn : ∀ a, H1 a = none → c.H0 a = none := fun a z => by
    cases q : c.H0 a with
    | none => rfl
    | some o => exact absurd z (st.dm a (by rw [q]; simp))
  have there : ∀ a ∈ fh ++ fT, H1 a ≠ none := fun a ha => by
    rcases List.mem_append.mp ha with ha | ha
    · exact i2.there a ha
    · exact g3.there a ha
  have out : ∀ a ∈ fh ++ fT, a ∉ f0 ++ fs.flatten := fun a ha hm => N1.2.2 a hm a ha rfl
  have same : ∀ a ∈ fh ++ fT, H' a = H1 a := fun a ha => by
    cases q : H1 a with
    | none => exact absurd q (there a ha)
    | some o => exact S.kp a o q (out a ha)
  obtain ⟨f3, f4, j1, j2⟩ := i4 G' H' os fo2 b3 S.g (fun a ha => same a (by simp [ha])) hn io e3
  have fosub := io.sub
  have from_ : ∀ a ∈ fo1 ++ fo2, a ∈ f0 ++ fs.flatten ∨ H1 a = none := fun a ha => by
    rcases List.mem_append.mp ha with z | z
    · rcases q5 a z with w | w
      · exact .inl (by simp [w])
      · exact .inr w
    · rcases fosub a z with w | w
      · exact .inl (List.mem_append_right _ w)
      · exact .inr w
  have nd3 : ((fo1 ++ fo2) ++ (fh ++ fT)).Nodup := by
    refine List.nodup_append.mpr ⟨by simpa using nd2, N1.2.1, fun a ha y hy e => ?_⟩
    subst e
    rcases from_ a ha with z | z
    · exact out a hy z
    · exact there a hy z
  have P2 : ((fo1 ++ fo2) ++ (fh ++ fT)).Perm ((f3 ++ (fo1 ++ fT)) ++ f4) := by
    rw [List.perm_iff_count]
    intro z
    have z1 := j2.count_eq z
    simp only [List.count_append] at z1 ⊢
    omega
  refine q G' H' ⟨st.trans S fun a ha => (hg' a (List.mem_append_left _ ha)).2, f3, fo1 ++ fT, j1, ⟨fo1, fT, q4, fun a ha => ?_, g3.frame S.g (fun a ha => same a (by simp [ha])), rfl⟩, ?_, ?_⟩
  · rcases q5 a ha with w | w
    · exact g2 a w
    · exact hn a w
  · exact (List.nodup_append.mp (P2.nodup_iff.mp nd3)).1
  · intro a ha
    have key : a ∈ (fo1 ++ fo2) ++ (fh ++ fT) := P2.mem_iff.mpr (List.mem_append_left _ ha)
    rcases List.mem_append.mp key with z | z
    · refine ⟨gn a (by simpa using z), ?_⟩
      rcases from_ a z with w | w
      · exact (hg' a (List.mem_append_left _ w)).2
      · exact .inr (hn a w)
    · exact ⟨S.nw a (there a z) (hg' a (List.mem_append_right _ z)).1, (hg' a (List.mem_append_right _ z)).2⟩
end
/-- C(..) -/
def fMake (C : Str) (F : Fn) (dds : List D) (src : List (Option Nat)) (fs : Av) : Ev := fun b => match fs b with
  | some (ms, b1) => (match fill src ms b1 with
    | some (full, ks, b2) => (match F (.obj C [] [] :: (full ++ dds.map .d)) with
      | some (.d .non, m' :: os) => (match putb src ks full os b2 with
        | some b3 => some (m', b3)
        | none => none)
      | _ => none)
    | none => none)
  | none => none
section
variable {X : Cx} {e e1 e2 e3 o : Expr} {es : List Expr} {st : Stmt} {sts : List Stmt} {pos p apos : Pos} {f f1 f2 f3 fr : Ev} {fs : Av} {src : List (Option Nat)} {x m C : Str} {t t1 t2 : Tv} {k1 k2 : Sv} {j : Nat} {π : Pth} {n : Str} {Cs : List Str} {F : Fn} {dds : List D} {dvs : List V} {E : XK}
theorem make_in {K : PySem.W.Frag} (hd : ∀ G, RpL K G dds dvs) : ∀ σ H Q, teO K (fMake C F dds src fs) σ H Q → tMake (He.ga K C) (spD K F) dvs E (taO K src fs) σ H Q := fun σ H Q => by
  rintro ⟨c, G, b, T, r, b', hf, I, q⟩
  unfold fMake at hf
  split at hf
  · rename_i ms b1 e1
    split at hf
    · rename_i full ks b2 e2
      split at hf
      · rename_i m' os e3
        split at hf
        · rename_i b3 e4
          cases hf
          exact ⟨c, G, b, T, ms, b1, e1, I, fun us vs G1 H1 hl av I1 x dx h1 h2 h3 => Iv.make I1 hl av (hd G1) e2 e3 e4 h1 h2 h3 fun G' H' I' => q _ G' H' I'⟩
        · cases hf
      · cases hf
    · cases hf
  · cases hf
theorem e_make {k : Nat} (h : MakOk X.prog X.w X.K X.mg X.base k C dvs F) (hr : Room (k + 1) X.A) (hd : ∀ G, RpL X.K G dds dvs) (ha : AM X (e :: es) src fs) (hg : Gl X C := by rfl) (hdb : (C == ("__debug__" : Str)) = false := by decide)
    (he : starEach (e :: es) X.env = (false, eval e X.env) :: starEach es X.env := by rfl) (hpl : (backTo pos (starEach es X.env)).any (·.1) = false := by rfl) :
    EM X (.Call (.Name C p) (e :: es) [] pos) (fMake C F dds src fs) := by
  obtain ⟨f, fd, ps, ds, h1, h3, h4, h5⟩ := h.ex
  exact (pe_make h1 h5 hr hg h.at_ h3 h4 pass0 ha hdb he hpl).wk (make_in hd)
theorem e_make0 {k : Nat} (h : MakOk X.prog X.w X.K X.mg X.base k C dvs F) (hr : Room (k + 1) X.A) (hd : ∀ G, RpL X.K G dds dvs) (hg : Gl X C := by rfl) (hdb : (C == ("__debug__" : Str)) = false := by decide) :
    EM X (.Call (.Name C p) [] [] pos) (fMake C F dds [] fNil) := by
  obtain ⟨f, fd, ps, ds, h1, h3, h4, h5⟩ := h.ex
  refine (pe_make0 (E := E0) h1 h5 hr hg h.at_ h3 h4 pass0 hdb).wk fun σ H Q h => ?_
  obtain ⟨c, G, b, T, ms, b1, e1, I, q⟩ := make_in (E := E0) hd σ H Q h
  simp only [fNil, Option.some.injEq, Prod.mk.injEq] at e1
  obtain ⟨rfl, rfl⟩ := e1
  exact q [] [] G H rfl ⟨rfl, rfl⟩ I
/-! ### more operators and built-ins -/
/-- place.pop() -/
def fPopP (j : Nat) (π : Pth) : Ev := fun b => match getP b j π with
  | some (.lst ms) => (match ms[ms.length - 1]? with
    | some (.d d) => (match setP b j π (.lst ms.dropLast) with
      | some b2 => some (.d d, b2)
      | none => none)
    | _ => none)
  | _ => none
theorem RML.dropLast {K : PySem.W.Frag} {G H : Hp} : ∀ {ms : List M} {xs : List V} {f : List Addr}, RML K G H ms xs f → f.Nodup → ∃ f', RML K G H ms.dropLast xs.dropLast f' ∧ (∀ a ∈ f', a ∈ f) ∧ f'.Nodup
  | [], xs, f, h, nd => by
    simp only [RML] at h
    obtain ⟨rfl, rfl⟩ := h
    exact ⟨[], by simp [RML], by simp, by simp⟩
  | [m], xs, f, h, nd => by
    simp only [RML] at h
    obtain ⟨y, ys, f1, f2, rfl, h2, ⟨rfl, rfl⟩, rfl⟩ := h
    exact ⟨[], by simp [RML], by simp, by simp⟩
  | m :: m2 :: ms, xs, f, h, nd => by
    unfold RML at h
    obtain ⟨y, ys, f1, f2, rfl, h2, h3, rfl⟩ := h
    have N := List.nodup_append.mp nd
    obtain ⟨f', w1, w2, w3⟩ := RML.dropLast h3 N.2.1
    have hy : ∃ y2 ys2, ys = y2 :: ys2 := by
      unfold RML at h3
      obtain ⟨y2, ys2, _, _, rfl, _⟩ := h3
      exact ⟨y2, ys2, rfl⟩
    obtain ⟨y2, ys2, rfl⟩ := hy
    refine ⟨f1 ++ f', ?_, fun a ha => ?_, List.nodup_append.mpr ⟨N.1, w3, fun x hx y hy => N.2.2 x hx y (w2 y hy)⟩⟩
    · simp only [List.dropLast_cons₂]
      unfold RML
      exact ⟨y, _, f1, f', rfl, h2, w1, rfl⟩
    · rcases List.mem_append.mp ha with z | z
      · simp [z]
      · simp [w2 a z]
end
end PL

namespace PL
open PySem PySem.Spec PyProof.Rows L2
section
variable {X : Cx} {e e1 e2 e3 o value : Expr} {es : List Expr} {st : Stmt} {sts : List Stmt} {pos pos' p apos tpos : Pos} {f f1 f2 f3 fr : Ev} {fs : Av} {src : List (Option Nat)} {x m C : Str} {t t1 t2 : Tv} {k1 k2 : Sv} {j : Nat} {π : Pth} {n : Str} {Cs : List Str} {F : Fn} {dds : List D} {dvs : List V} {E : XK} {ta tv : TE}
/-! ### a field as a target -/
def gFldR (K : PySem.W.Frag) (ta : TE) (f : Str) : TG := fun v σ H Q => ta σ H fun x H2 => ∃ a C dx fs, x = .ref a ∧ H2 a = some (.ins C dx fs) ∧ Cls K C ∧ NoAttr K C f ∧ fs.length < 1000 ∧ Q σ (upd H2 a (.ins C dx (putF f v fs)))
theorem pg_fld (ho : PE X o ta) (hst : ∀ v, assign (.Attribute o n pos) X.env v = (do
      let ov ← holding [v] (eval o X.env)
      standAt pos.atName
      holding [v, ov] (setAttr ov n v)
      release [v, ov] []) := by intro _; rfl) : PG X (.Attribute o n pos) (gFldR X.K ta n) := by
  refine ⟨fun pins s σ H v u Q I r h => ?_⟩
  rw [hst]
  refine wpAny_bind (wpAny_holding (thn (ho.run pins s σ H _ I h) fun ov s1 ⟨x, H1, I1, r1, a, C, dx, fs, ex, ea, c, na, l, q1⟩ => ?_))
  subst ex
  obtain rfl : ov = Value.ref a := r1
  refine wpAny_bind (wpAny_standAt (wpAny_bind (wpAny_holding (setattr_ok I1 ea c na l r fun s3 I3 => ?_))))
  exact wpAny_release ⟨σ, _, I3, q1⟩
def gPut (j : Nat) (π : Pth) (q : Str × List Str) : Gv := fun d b => match getP b j π with
  | some (.obj C ns ms) => if ns.length < 1000 then (match (M.obj C ns ms).setF q (.d d) with
    | some m2 => setP b j π m2
    | none => none) else none
  | _ => none
theorem g_fld (h : PP X e j π) (hC : FldOk X.K (n, Cs)) : GM X (.Attribute e n pos) [] (gPut j π (n, Cs)) := (pg_fld h).wk fun v σ H Q => by
  rintro ⟨c, G, b, T, d, b', hf, I, q⟩
  unfold gPut at hf
  split at hf
  · rename_i C ns ms eg
    split at hf
    · rename_i hz
      split at hf
      · rename_i m2 es
        obtain ⟨v0, a, dx, fs, w1, w2, w3, w4, w5, w6⟩ := Iv.setFld I eg es hf
        exact ⟨v0, .ref a, w1, w2, a, He.ga X.K C, dx, fs, rfl, w3, (hC C w5).1, (hC C w5).2, by omega, q σ G _ ⟨rfl, fun _ _ => rfl⟩ w6⟩
      · cases hf
    · cases hf
  · cases hf
/-- name.f += e, ints -/
def sAug (j : Nat) (q : Str × List Str) (f : Ev) : Sv := fun b => match getP b j [] with
  | some (.obj C0 ns0 ms0) => (match (M.obj C0 ns0 ms0).fld q with
    | some (.d (.int i)) => (match f b with
      | some (.d (.int k), b1) => (match getP b1 j [] with
        | some (.obj C ns ms) => if ns.length < 1000 ∧ C = C0 then (match (M.obj C ns ms).setF q (.d (.int (i + k))) with
          | some m2 => (match setP b1 j [] m2 with
            | some b2 => some (.nx, b2)
            | none => none)
          | none => none) else none
        | _ => none)
      | _ => none)
    | _ => none)
  | _ => none
theorem s_aug (h : PP X e j []) (hv : EM X e1 f) (hC : FldOk X.K (n, Cs)) : SM X (.AugAssign (.Attribute e n tpos) .Add e1 pos) (sAug j (n, Cs) f) := (ps_fldaug h hv in_add).wk fun D σ H => by
  rintro ⟨c, G, b, T, r, b', hf, I, q⟩
  unfold sAug at hf
  split at hf
  · rename_i C0 ns0 ms0 eg
    split at hf
    · rename_i i ei
      split at hf
      · rename_i k b1 e1
        split at hf
        · rename_i C ns ms eg2
          split at hf
          · rename_i hz
            obtain ⟨hz, rfl⟩ := hz
            split at hf
            · rename_i m2 es
              split at hf
              · rename_i b2 ep
                cases hf
                obtain ⟨v0, v1, f1, w1, w2, w6⟩ := I.readP eg
                have w2 : v0 = v1 := w2
                subst w2
                obtain ⟨v1, f2, ⟨a, C1, dx, fs, y1, y2, y3, y4⟩, y5⟩ := RM.read (π := [(n, Cs)]) w6 I.st.gh (by simp only [M.sub]; exact ei)
                have y1 : v0 = .ref a := y1
                subst y1
                simp only [RM, Rp] at y5
                obtain ⟨rfl, rfl⟩ := y5
                simp only [RM] at w6
                obtain ⟨pp, dx0, xs0, qq, u1, u2, _⟩ := w6
                cases u1
                rw [u2] at y2
                have y2 := Option.some.inj y2
                injection y2 with y6 y7 y8
                subst y7 y8
                refine ⟨.ref a, .ref a, w1, rfl, a, _, _, _, _, rfl, u2, ?_, ?_, y4, c, G, b, T, _, b1, e1, I, fun y G1 H1 I1 => ?_⟩
                · rw [y6]; exact (hC C1 y3).1
                · rw [y6]; exact (hC C1 y3).2
                have r := I1.topD
                simp only [Rp] at r
                subst r
                have I2 : Iv X.K c G1 H1 σ b1 ((.d (.int (i + k)), .int (i + k)) :: T) := I1.drop.pushD (by simp [Rp])
                obtain ⟨v0, a', dx', fs', z1, z2, z3, z4, z5, z6⟩ := Iv.setFld I2 eg2 es ep
                rw [w1] at z1
                have z1 := Option.some.inj (Option.some.inj z1)
                subst z1
                have z2 : V.ref a = .ref a' := z2
                cases z2
                exact ⟨i, k, rfl, rfl, dx', fs', z3, by omega, q σ G1 _ z6⟩
              · cases hf
            · cases hf
          · cases hf
        · cases hf
      · cases hf
    · cases hf
  · cases hf
/-! ### lists: + of data, extend, * , pop -/
theorem e_popP (hp : PP X e j π) (hbase : attributeBase e "pop" X.env (eval e X.env) = eval e X.env := by rfl) (hline : (apos.endLine == pos.line) = true := by rfl) : EM X (.Call (.Attribute e "pop" apos) [] [] pos) (fPopP j π) := (pe_bm0 PySem.F.plainAttrs_list PySem.F.slot_list_pop PySem.F.type_list_pop mt_pop hp hbase hline).wk fun σ H Q => by
  rintro ⟨c, G, b, T, r, b', hf, I, q⟩
  unfold fPopP at hf
  split at hf
  · rename_i ms eg
    split at hf
    · rename_i d ed
      split at hf
      · rename_i b2 ep
        cases hf
        obtain ⟨v0, p0, xs, w1, w2, w3, w4, w5, w6⟩ := Iv.mutP (T1 := []) I eg
        obtain ⟨v, y1, y2⟩ := w5 _ _ ed
        refine ⟨v0, .ref p0, w1, w2, .inl ⟨rfl, xs, SqL.of w3⟩, p0, xs, v, rfl, rfl, w3, by rw [w4]; exact y1, q v G _ ?_⟩
        refine Iv.pushD (w6 ms.dropLast xs.dropLast [] b' ep fun H2 qq ft a1 a2 a3 _ => ?_) y2
        have a2 : ft = [] := a2
        subst a2
        obtain ⟨q', z1, z2, z3⟩ := RML.dropLast a1 (by simpa using a3)
        exact ⟨q', [], z1, rfl, fun a ha => by simp at ha ⊢; exact z2 a ha, by simpa using z3⟩
      · cases hf
    · cases hf
  · cases hf
/-- name.extend(e), the new items in a fresh list -/
def sExt (j : Nat) (f : Ev) : Sv := fun b => match getP b j [] with
  | some (.lst _) => (match f b with
    | some (.lst ns, b1) => (match getP b1 j [] with
      | some (.lst ms) => if ms.length + ns.length ≤ 1000000 then (match setP b1 j [] (.lst (ms ++ ns)) with
        | some b2 => some (.nx, b2)
        | none => none) else none
      | _ => none)
    | _ => none)
  | _ => none
theorem RML.append {K : PySem.W.Frag} {G H : Hp} : ∀ {ms : List M} {xs : List V} {q f : List Addr} {ns : List M} {ys : List V}, RML K G H ms xs q → RML K G H ns ys f → RML K G H (ms ++ ns) (xs ++ ys) (q ++ f)
  | [], _, _, _, _, _, h, h2 => by
    simp only [RML] at h
    obtain ⟨rfl, rfl⟩ := h
    exact h2
  | m :: ms, _, _, _, _, _, h, h2 => by
    simp only [RML] at h
    obtain ⟨z, zs, f1, f2, rfl, h3, h4, rfl⟩ := h
    simp only [List.cons_append, RML, List.append_assoc]
    exact ⟨z, _, f1, _, rfl, h3, RML.append h4 h2, rfl⟩
theorem s_ext {p2 p3 : Pos} (hp : PP X e1 j []) (h : EM X e f)
    (hbase : attributeBase e1 "extend" X.env (eval e1 X.env) = eval e1 X.env := by rfl)
    (hfew : ((backTo p3 (starEach (e :: []) X.env)).all (fun x => !x.1) && (backToKw p3 (keywordEach [] X.env)).all (fun x => x.1.isSome)
      && decide ((e :: []).length + ([] : List Keyword).length + (if ([] : List Keyword).isEmpty then 0 else 1) < 30)) = true := by rfl)
    (hline : (p2.endLine == p3.line) = true := by rfl) (hs : starEach (e :: []) X.env = (false, eval e X.env) :: starEach [] X.env := by rfl) (hplain : (backTo p3 (starEach [] X.env)).any (·.1) = false := by rfl)
    (hsw : swapsWith (.Call (.Attribute e1 "extend" p2) [e] [] p3) none pos.line X.env = pure false := by rfl) :
    SM X (.Expr (.Call (.Attribute e1 "extend" p2) [e] [] p3) pos) (sExt j f) := (ps_expr (pe_bm PySem.F.plainAttrs_list PySem.F.slot_list_extend PySem.F.type_list_extend mt_extend hp (pa_cons h pa_nil hs) hbase hfew hline hs hplain) hsw).wk fun D σ H => by
  rintro ⟨c, G, b, T, r, b', hf, I, q⟩
  unfold sExt at hf
  split at hf
  · rename_i ms0 eg0
    split at hf
    · rename_i ns b1 e1
      split at hf
      · rename_i ms eg
        split at hf
        · rename_i hz
          split at hf
          · rename_i b2 ep
            cases hf
            obtain ⟨v0, p0, xs0, w1, w2, w3, _⟩ := Iv.mutP (T1 := []) I eg0
            refine ⟨v0, _, w1, w2, .inl ⟨rfl, xs0, SqL.of w3⟩, c, G, b, T, _, b1, e1, I, fun y G1 H1 I1 => ?_⟩
            obtain ⟨v0', p1, xs, z1, z2, z3, z4, z5, z6⟩ := Iv.mutP (T1 := [(.lst ns, y)]) I1 eg
            rw [w1] at z1
            have z1 := Option.some.inj (Option.some.inj z1)
            subst z1
            have w2 : v0 = .ref p0 := w2
            have z2 : v0 = .ref p1 := z2
            rw [w2] at z2
            cases z2
            obtain ⟨ft0, t1, _⟩ := Iv.tmp (T1 := [(.lst ns, y)]) I1
            obtain ⟨t2, _⟩ := rt_one t1
            simp only [RM] at t2
            obtain ⟨pb, zs, qz, rfl, hb, hl, _⟩ := t2
            refine ⟨_, pb, xs, zs, rfl, rfl, z3, hb, by rw [z4, ← hl.len]; exact le_line hz, q σ G1 _ (z6 (ms ++ ns) (xs ++ zs) [] b' ep fun H3 qq ft a1 a2 a3 a4 => ?_)⟩
            obtain ⟨t3, _⟩ := rt_one a2
            simp only [RM] at t3
            obtain ⟨pc, zs', qz', e9, hb', hl', rfl⟩ := t3
            cases e9
            have : H3 pb = H1 pb := a4 pb (by simp)
            rw [this, hb] at hb'
            cases hb'
            refine ⟨qq ++ qz', [], RML.append a1 hl', rfl, fun a ha => by simp at ha ⊢; grind, ?_⟩
            have P : (qq ++ pb :: qz').Perm (pb :: (qq ++ qz')) := List.perm_middle
            simpa using (List.nodup_cons.mp (P.nodup_iff.mp a3)).2
          · cases hf
        · cases hf
      · cases hf
    · cases hf
  · cases hf
/-- a list display times an int: new -/
def gRep : M → M → Option M
  | .lst ms, .d (.int k) => if -1000000 ≤ k ∧ k ≤ 1000000 ∧ ms.length * k.toNat ≤ 1000000 ∧ (M.datas ms).isSome then some (.lst (List.replicate k.toNat ms).flatten) else none
  | _, _ => none
theorem RpL.app2 {K : PySem.W.Frag} {G : Hp} : ∀ {ds es : List D} {xs ys : List V}, RpL K G ds xs → RpL K G es ys → RpL K G (ds ++ es) (xs ++ ys)
  | [], _, _, _, h, h2 => by
    simp only [RpL] at h
    subst h
    exact h2
  | d :: ds, _, _, _, h, h2 => by
    simp only [RpL] at h
    obtain ⟨y, ys, rfl, h3, h4⟩ := h
    simp only [List.cons_append, RpL]
    exact ⟨y, _, rfl, h3, RpL.app2 h4 h2⟩
theorem RpL.repl {K : PySem.W.Frag} {G : Hp} {ds : List D} {xs : List V} (h : RpL K G ds xs) : ∀ k, RpL K G (List.replicate k ds).flatten (List.replicate k xs).flatten
  | 0 => by simp [RpL]
  | k + 1 => by
    simp only [List.replicate_succ, List.flatten_cons]
    exact h.app2 (h.repl k)
theorem datas_eq : ∀ {ms : List M} {ds : List D}, M.datas ms = some ds → ms = ds.map .d
  | [], ds, e => by
    simp only [M.datas, Option.some.injEq] at e
    subst e; rfl
  | .d x :: ms, ds, e => by
    unfold M.datas at e
    split at e
    · rename_i ds' e1
      cases e
      rw [datas_eq e1]; rfl
    · cases e
  | .lst _ :: _, _, e => by simp [M.datas] at e
  | .obj .. :: _, _, e => by simp [M.datas] at e
  | .dic .. :: _, _, e => by simp [M.datas] at e
  | .box .. :: _, _, e => by simp [M.datas] at e
  | .st .. :: _, _, e => by simp [M.datas] at e
theorem RML.datas {K : PySem.W.Frag} {G H : Hp} : ∀ {ds : List D} {xs : List V} {q : List Addr}, RML K G H (ds.map .d) xs q → RpL K G ds xs
  | [], _, _, h => by
    simp only [List.map_nil, RML] at h
    simp [RpL, h.1]
  | d :: ds, _, _, h => by
    simp only [List.map_cons, RML, RM] at h
    obtain ⟨y, ys, f1, f2, rfl, ⟨h2, _⟩, h3, _⟩ := h
    simp only [RpL]
    exact ⟨y, ys, rfl, h2, RML.datas h3⟩
theorem os_rep {K : PySem.W.Frag} : OpS K rRep gRep := by
  intro c G H σ b T x y m1 m2 m Q hg I q
  unfold gRep at hg
  split at hg
  · rename_i ms k
    split at hg
    · rename_i hz
      cases hg
      obtain ⟨h1, h2, h3, h4⟩ := hz
      obtain ⟨ds, hd⟩ := Option.isSome_iff_exists.mp h4
      have e := datas_eq hd
      subst e
      have r2 := I.topD
      simp only [Rp] at r2
      subst r2
      have I2 := I.drop
      obtain ⟨ft0, t1, _⟩ := Iv.tmp (T1 := [(.lst (ds.map .d), x)]) I2
      obtain ⟨t2, _⟩ := rt_one t1
      simp only [RM] at t2
      obtain ⟨pb, xs, qz, rfl, hb, hl, _⟩ := t2
      have r := RML.datas hl
      refine ⟨pb, k, xs, rfl, rfl, hb, by omega, by omega, by rw [← r.len]; simpa using le_line h3, fun pn hp => q _ G _ ?_⟩
      have e2 : (List.replicate k.toNat (ds.map M.d)).flatten = (List.replicate k.toNat ds).flatten.map M.d := by
        rw [List.map_flatten, List.map_replicate]
      rw [e2]
      exact I2.drop.newL hp (r.repl _)
    · cases hg
  · cases hg
theorem e_rep (h1 : EM X e1 f1) (h2 : EM X e2 f2) : EM X (.BinOp e1 .Mult e2 pos) (fOp gRep f1 f2) := e_op op_rep os_rep h1 h2
end
end PL

namespace PL
open PySem PySem.Spec PyProof.Rows L2
/-! ### dicts -/
def D.key : D → Option Key
  | .int i => some (.inl i)
  | .str x => some (.inr x)
  | _ => none
def keyI (k : Key) : List Key → Option Nat
  | [] => none
  | x :: ks => if x = k then some 0 else (match keyI k ks with
    | some i => some (i + 1)
    | none => none)
theorem key_rel {K : PySem.W.Frag} {G : Hp} {d : D} {v : V} {k : Key} (h : d.key = some k) (r : Rp K G d v) : v = kV k := by
  cases d <;> simp only [D.key, Option.some.injEq, reduceCtorEq] at h
  · subst h; simp only [Rp] at r; exact r
  · subst h; simp only [Rp] at r; exact r
theorem keyI_val {k : Key} : ∀ {ks : List Key} {xs : List V}, ks.length = xs.length → valV (ks.zip xs) k = (match keyI k ks with
    | some i => xs[i]?
    | none => none)
  | [], xs, _ => by simp [keyI, valV]
  | x :: ks, [], l => by simp at l
  | x :: ks, v :: xs, l => by
    unfold keyI
    by_cases e : x = k
    · subst e
      rw [if_pos rfl]
      exact valV_pos rfl
    · rw [if_neg e]
      have := keyI_val (k := k) (ks := ks) (xs := xs) (by simpa using l)
      rw [List.zip_cons_cons, valV_neg e, this]
      cases keyI k ks <;> simp
theorem keyI_put {k : Key} {v : V} : ∀ {ks : List Key} {xs : List V} {i : Nat}, ks.Nodup → keyI k ks = some i → ks.length = xs.length → putK (ks.zip xs) k v = ks.zip (xs.set i v)
  | [], xs, i, _, h, _ => by simp [keyI] at h
  | x :: ks, [], i, _, h, l => by simp at l
  | x :: ks, y :: xs, i, nd, h, l => by
    have nd2 := List.nodup_cons.mp nd
    unfold keyI at h
    by_cases e : x = k
    · subst e
      rw [if_pos rfl] at h
      cases h
      unfold putK
      rw [if_pos (by simp)]
      simp only [List.zip_cons_cons, List.map_cons, if_pos, List.set_cons_zero]
      congr 1
      have hm : ∀ p ∈ ks.zip xs, (if p.1 = x then (p.1, v) else p) = id p := by
        rintro ⟨a, b⟩ hm
        have : a ∈ ks := (List.of_mem_zip hm).1
        rw [if_neg]
        · rfl
        · intro z
          exact nd2.1 (z ▸ this)
      rw [List.map_congr_left hm, List.map_id]
    · rw [if_neg e] at h
      split at h
      · rename_i j ej
        cases h
        have ih := keyI_put (v := v) (xs := xs) nd2.2 ej (by simpa using l)
        unfold putK at ih ⊢
        have ha : ((ks.zip xs).any fun kv => decide (kv.1 = k)) = true := by
          have hv := keyI_val (k := k) (ks := ks) (xs := xs) (by simpa using l)
          rw [ej] at hv
          cases hq : ((ks.zip xs).any fun kv => decide (kv.1 = k)) with
          | true => rfl
          | false =>
            have hn : (ks.zip xs).find? (fun kv => decide (kv.1 = k)) = none := by
              rw [List.find?_eq_none]
              intro p hp z
              have := List.any_eq_false.mp hq p hp
              exact this z
            unfold valV at hv
            rw [hn] at hv
            have hj : j < xs.length := by
              have : ∀ {ks : List Key} {j : Nat}, keyI k ks = some j → j < ks.length := by
                intro ks
                induction ks with
                | nil => intro j h; simp [keyI] at h
                | cons a ks ih =>
                  intro j h
                  unfold keyI at h
                  split at h
                  · cases h; simp
                  · split at h
                    · rename_i e2
                      cases h
                      have := ih e2
                      simp; omega
                    · cases h
              have := this ej
              simp at l
              omega
            simp [hj] at hv
        rw [if_pos ha] at ih
        rw [if_pos (by simp only [List.zip_cons_cons, List.any_cons, ha, Bool.or_true])]
        simp only [List.zip_cons_cons, List.map_cons, if_neg e, List.set_cons_succ, ih]
      · cases h
theorem keyI_add {k : Key} {v : V} : ∀ {ks : List Key} {xs : List V}, keyI k ks = none → ks.length = xs.length → putK (ks.zip xs) k v = (ks ++ [k]).zip (xs ++ [v]) := by
  intro ks xs h l
  have hno : ∀ a ∈ ks, a ≠ k := by
    induction ks generalizing xs with
    | nil => simp
    | cons a ks ih =>
      unfold keyI at h
      split at h
      · cases h
      · rename_i e
        split at h
        · cases h
        · rename_i e2
          intro x hx
          rcases List.mem_cons.mp hx with rfl | hx
          · exact e
          · cases xs with
            | nil => simp at l
            | cons y ys => exact ih (xs := ys) e2 (by simpa using l) x hx
  have ha : ((ks.zip xs).any fun kv => decide (kv.1 = k)) = false := by
    rw [List.any_eq_false]
    rintro ⟨a, b⟩ hm z
    exact hno a (List.of_mem_zip hm).1 (by simpa using z)
  unfold putK
  rw [if_neg (by rw [ha]; simp), List.zip_append l]
  rfl
/-- d[k] -/
def gDGet : D → D → Option D
  | .dic ks ds, d => (match d.key with
    | some k => (match keyI k ks with
      | some i => ds[i]?
      | none => none)
    | none => none)
  | _, _ => none
/-- k in d -/
def gDIn (neg : Bool) : D → D → Option D
  | d, .dic ks _ => (match d.key with
    | some k => some (.bl ((keyI k ks).isSome != neg))
    | none => none)
  | _, _ => none
section
variable {X : Cx} {e e1 e2 e3 o value : Expr} {es : List Expr} {st : Stmt} {sts : List Stmt} {pos pos' p apos tpos : Pos} {f f1 f2 f3 fr : Ev} {fs : Av} {src : List (Option Nat)} {x m C : Str} {t t1 t2 : Tv} {k1 k2 : Sv} {j k : Nat} {π : Pth} {n : Str} {Cs : List Str} {F : Fn} {dds : List D} {dvs : List V} {E : XK} {ta tv : TE}
theorem rp_dic {K : PySem.W.Frag} {G H : Hp} {ks : List Key} {ds : List D} {x y : V} {d : D} {k : Key} (r1 : Rp K G (.dic ks ds) x) (s : Same G H) (hk : d.key = some k) (r2 : Rp K G d y) : ∃ a xs, x = .ref a ∧ ks.length = xs.length ∧ RpL K G ds xs ∧ DGet H a y (valV (ks.zip xs) k) := by
  simp only [Rp] at r1
  obtain ⟨p, xs, rfl, h2, h3, h4⟩ := r1
  exact ⟨p, xs, rfl, h3, h4, .inl ⟨_, k, .inl (s _ _ h2), key_rel hk r2, rfl⟩⟩
theorem os_dget {K : PySem.W.Frag} : OpS K (fun x y H Q => ∃ a v, x = .ref a ∧ DGet H a y (some v) ∧ Q v H) (g2 gDGet) := OpS.pure fun c G H x y d1 d2 d Q hg s r1 r2 q => by
  unfold gDGet at hg
  split at hg
  · split at hg
    · rename_i hk
      split at hg
      · rename_i i hi
        obtain ⟨a, xs, rfl, l, rl, g⟩ := rp_dic r1 s hk r2
        obtain ⟨v, w1, w2⟩ := RpL.get rl hg
        rw [keyI_val l, hi] at g
        simp only [w1] at g
        exact ⟨a, v, rfl, g, q v w2⟩
      · cases hg
    · cases hg
  · cases hg
theorem e_dget (hr : Room k X.A) (h1 : EM X e1 f1) (h2 : EM X e2 f2) (hs : NoSl e2 := by intro _ _; rfl) : EM X (.Subscript e1 e2 pos) (fOp (g2 gDGet) f1 f2) := e_tOp os_dget (pe_dget (by have := hr.units; omega) h1 h2 hs)
theorem keyI_is {k : Key} : ∀ {ks : List Key} {xs : List V}, ks.length = xs.length → (valV (ks.zip xs) k).isSome = (keyI k ks).isSome := fun {ks xs} l => by
  rw [keyI_val l]
  cases h : keyI k ks with
  | none => rfl
  | some i =>
    have : ∀ {ks : List Key} {j : Nat}, keyI k ks = some j → j < ks.length := by
      intro ks
      induction ks with
      | nil => intro j h; simp [keyI] at h
      | cons a ks ih =>
        intro j h
        unfold keyI at h
        split at h
        · cases h; simp
        · split at h
          · rename_i e2
            cases h
            have := ih e2
            simp; omega
          · cases h
    have := this h
    simp only [Option.isSome_some]
    rw [l] at this
    simp [this]
theorem os_din {K : PySem.W.Frag} : OpS K (fun y x H Q => ∃ a o, x = .ref a ∧ DGet H a y o ∧ Q (.bl o.isSome) H) (g2 (gDIn false)) := OpS.pure fun c G H x y d1 d2 d Q hg s r1 r2 q => by
  unfold gDIn at hg
  split at hg
  · split at hg
    · rename_i hk
      cases hg
      obtain ⟨a, xs, rfl, l, rl, g⟩ := rp_dic r2 s hk r1
      refine ⟨a, _, rfl, g, q _ ?_⟩
      rw [keyI_is l]
      simp [Rp]
    · cases hg
  · cases hg
theorem os_dnotin {K : PySem.W.Frag} : OpS K (fun y x H Q => ∃ a o, x = .ref a ∧ DGet H a y o ∧ Q (.bl (!o.isSome)) H) (g2 (gDIn true)) := OpS.pure fun c G H x y d1 d2 d Q hg s r1 r2 q => by
  unfold gDIn at hg
  split at hg
  · split at hg
    · rename_i hk
      cases hg
      obtain ⟨a, xs, rfl, l, rl, g⟩ := rp_dic r2 s hk r1
      refine ⟨a, _, rfl, g, q _ ?_⟩
      rw [keyI_is l]
      simp [Rp]
    · cases hg
  · cases hg
theorem e_din (hr : Room k X.A) (h1 : EM X e1 f1) (h2 : EM X e2 f2) (hm : behindInMarks .In e2 = false := by rfl) : EM X (.Compare e1 [.In] [e2] pos) (fOp (g2 (gDIn false)) f1 f2) := e_tOp os_din (pe_cmp (pc_din (by have := hr.units; omega) h1 h2) hm)
theorem e_dnotin (hr : Room k X.A) (h1 : EM X e1 f1) (h2 : EM X e2 f2) (hm : behindInMarks .NotIn e2 = false := by rfl) : EM X (.Compare e1 [.NotIn] [e2] pos) (fOp (g2 (gDIn true)) f1 f2) := e_tOp os_dnotin (pe_cmp (pc_dnotin (by have := hr.units; omega) h1 h2) hm)
theorem t_din (hr : Room k X.A) (h1 : EM X e1 f1) (h2 : EM X e2 f2) (hm : behindInMarks .In e2 = false := by rfl) : TM X (.Compare e1 [.In] [e2] pos) (fT (fOp (g2 (gDIn false)) f1 f2)) := t_tTest (pt_cmp (pc_din (by have := hr.units; omega) h1 h2) hm) (teO_op os_din)
theorem t_dnotin (hr : Room k X.A) (h1 : EM X e1 f1) (h2 : EM X e2 f2) (hm : behindInMarks .NotIn e2 = false := by rfl) : TM X (.Compare e1 [.NotIn] [e2] pos) (fT (fOp (g2 (gDIn true)) f1 f2)) := t_tTest (pt_cmp (pc_dnotin (by have := hr.units; omega) h1 h2) hm) (teO_op os_dnotin)
/-- dict(d) -/
def gDictOf : List M → Option M
  | [.d (.dic ks ds)] => some (.dic ks (ds.map .d))
  | _ => none
theorem RpL.rml' {K : PySem.W.Frag} {G H : Hp} : ∀ {ds : List D} {xs : List V}, RpL K G ds xs → RML K G H (ds.map .d) xs []
  | [], _, h => by
    simp only [RpL] at h
    simp [RML, h]
  | d :: ds, _, h => by
    simp only [RpL] at h
    obtain ⟨y, ys, rfl, h2, h3⟩ := h
    simp only [List.map_cons, RML, RM]
    exact ⟨y, ys, [], [], rfl, ⟨h2, rfl⟩, RpL.rml' h3, rfl⟩
theorem cs_dictOf {K : PySem.W.Frag} : CaS K (fun xs H Q => ∃ (a : Addr) (kvs : List (Key × V)), xs = [.ref a] ∧ Rd H a (.dK kvs) ∧ ∀ p, H p = none → Q (.ref p) (upd H p (.dK kvs))) gDictOf := by
  intro c G H σ b T ms us m Q hg hl I q
  unfold gDictOf at hg
  split at hg
  · rename_i ks ds
    cases hg
    obtain ⟨u, rfl⟩ := len1 hl
    have I1 : Iv K c G H σ b ((.d (.dic ks ds), u) :: T) := I
    have r := I1.topD
    simp only [Rp] at r
    obtain ⟨pa, xs, rfl, h2, h3, h4⟩ := r
    refine ⟨pa, _, rfl, .inl (I1.st.gh _ _ h2), fun p hp => q _ G _ (I1.drop.newO (f := []) hp ?_)⟩
    simp only [RM]
    exact ⟨p, xs, [], rfl, upd_same, h3, RpL.rml' h4, rfl⟩
  · cases hg
theorem e_dictOf (hm : X.mg "dict" = none) (ha : AM X [e] src fs) (hsrc : src.all (·.isNone) = true := by rfl) (hg : Gl X "dict" := by rfl) (he : starEach [e] X.env = (false, eval e X.env) :: starEach [] X.env := by rfl) (hpl : (backTo pos (starEach [] X.env)).any (·.1) = false := by rfl) : EM X (.Call (.Name "dict" p) [e] [] pos) (fOf gDictOf fs) := e_ct call_dictD cs_dictOf hm boot_dict' ha hsrc hg (by decide) (by decide) he hpl
/-- place[k] = d -/
def sDPutP (j : Nat) (π : Pth) (fk f : Ev) : Sv := fun b => match f b with
  | some (.d d, b1) => (match getP b1 j π with
    | some (.dic ks ms) => (match fk b1 with
      | some (.d dk, _) => (match dk.key with
        | some k => if ks.length < 1000000 ∧ ks.Nodup then (match setP b1 j π (match keyI k ks with
            | some i => .dic ks (ms.set i (.d d))
            | none => .dic (ks ++ [k]) (ms ++ [.d d])) with
          | some b2 => some (.nx, b2)
          | none => none) else none
        | none => none)
      | _ => none)
    | _ => none)
  | _ => none
theorem Iv.mutDP {K : PySem.W.Frag} {c : Cg} {G H : Hp} {σ : L2.St} {b : List B} {T T1 : List (M × V)} {ks : List Key} {ms : List M}
    (I : Iv K c G H σ b (T1 ++ T)) (hg : getP b j π = some (.dic ks ms)) : ∃ v0 p xs, σ[j]? = some (some v0) ∧ PathV K H v0 π (.ref p) ∧ H p = some (.dK (ks.zip xs)) ∧ ks.length = xs.length ∧ xs.length = ms.length ∧
    ∀ ks' ms' xs' b2, setP b j π (.dic ks' ms') = some b2 → ks'.length = xs'.length → (∀ H2 q ft, RML K G H2 ms xs q → RT K c G H2 T1 ft → (q ++ ft).Nodup → ∃ q', RML K G H2 ms' xs' q' ∧ (∀ a ∈ q', a ∈ q ++ ft) ∧ q'.Nodup) → Iv K c G (upd H p (.dK (ks'.zip xs'))) σ b2 T := by
  obtain ⟨v0, v1, fi, ft, h1, h2, h3, t1, nd, gn, old, go⟩ := Iv.place (T1 := T1) (T := T) I hg rfl
  simp only [RM] at h3
  obtain ⟨p, xs, g, rfl, h4, h5, h6, rfl⟩ := h3
  refine ⟨v0, p, xs, h1, h2, h4, h5, h6.len.symm, fun ks' ms' xs' b2 hp hl hk => ?_⟩
  have pp : H p ≠ none := by rw [h4]; simp
  have pg : p ∉ g := by
    have := (List.nodup_append.mp nd).1
    exact (List.nodup_cons.mp this).1
  have pt : p ∉ ft := fun hm => (List.nodup_append.mp nd).2.2 p (by simp) p hm rfl
  have nd2 : (g ++ ft).Nodup := (List.nodup_cons.mp (by simpa using nd)).2
  obtain ⟨q', w1, w2, w3⟩ := hk (upd H p (.dK (ks'.zip xs'))) g ft (RML.frame (Same.refl _) _ _ _ h6 fun a ha => upd_ne (fun z : a = p => pg (z ▸ ha))) (t1.frame (Same.refl _) fun a ha => upd_ne (fun z : a = p => pt (z ▸ ha))) nd2
  have pq : p ∉ q' := fun hm => by
    rcases List.mem_append.mp (w2 p hm) with z | z
    · exact pg z
    · exact pt z
  refine go G _ (.dic ks' ms') (p :: q') [] [] b2 ⟨Same.refl _, gh_upd I.st.gh (gn p (by simp)), fun _ _ h => h, fun a o z1 z2 => by rw [upd_ne (fun z : a = p => z2 (by simp [z]))]; exact z1, dm_upd pp⟩ ?_ rfl (by simp [pq, w3]) (fun a ha => ?_) (fun a ha => ?_) hp
  · simp only [RM]
    exact ⟨p, xs', q', rfl, upd_same, hl, w1, rfl⟩
  · rcases List.mem_cons.mp (by simpa using ha) with z | z
    · exact .inl (by simp [z])
    · rcases List.mem_append.mp (w2 a z) with z | z
      · exact .inl (by simp [z])
      · exact .inr (.inl z)
  · rcases List.mem_cons.mp (by simpa using ha) with z | z
    · exact gn a (by simp [z])
    · have := w2 a z
      exact gn a (by simp at this ⊢; grind)
theorem s_dputP {fk : Ev} (hr : Room k X.A) (hp : PP X o j π) (hi : EK X e fk) (hkp : Keep fk) (hv : EM X value f) (hs : swapsWith value (some (.Subscript o e pos')) pos.line X.env = pure false := by rfl) : SM X (.Assign [.Subscript o e pos'] value pos) (sDPutP j π fk f) := (ps_dput (by have := hr.units; omega) hp hi hv hs).wk fun D σ H => by
  rintro ⟨c, G, b, T, r, b', hf, I, q⟩
  unfold sDPutP at hf
  split at hf
  · rename_i d b1 e1
    split at hf
    · rename_i ks ms eg
      split at hf
      · rename_i dk b9 ek
        have := hkp _ _ _ ek
        subst this
        split at hf
        · rename_i kk hk
          split at hf
          · rename_i hz
            split at hf
            · rename_i b2 ep
              cases hf
              refine ⟨c, G, b, T, _, b9, e1, I, fun y G1 H1 I1 => ?_⟩
              obtain ⟨v0, p0, xs0, w1, w2, w3, _⟩ := Iv.mutDP (T1 := [(.d d, y)]) I1 eg
              refine ⟨v0, .ref p0, w1, w2, c, G1, b9, _, _, ek, I1, fun yk G2 H2 s2 I2 => ?_⟩
              have rk := I2.topD
              obtain ⟨v0', p1, xs, z1, z2, z3, z4, z5, z6⟩ := Iv.mutDP (T1 := [(.d d, y)]) I2.drop eg
              rw [w1] at z1
              have z1 := Option.some.inj (Option.some.inj z1)
              subst z1
              have z2 := PathV.fun_ (PathV.keep s2 w2) z2
              cases z2
              refine ⟨p0, _, rfl, .inl ⟨_, kk, z3, key_rel hk rk, ?_, rfl⟩, q σ G2 _ ?_⟩
              · have : (ks.zip xs).length ≤ ks.length := by simp; omega
                exact lt_line (by omega)
              · cases hi2 : keyI kk ks with
                | some i =>
                  rw [hi2] at ep
                  rw [keyI_put hz.2 hi2 z4]
                  refine z6 ks (ms.set i (.d d)) (xs.set i y) b' ep (by simpa using z4) fun H3 qq ft a1 a2 a3 => ?_
                  obtain ⟨a4, _⟩ := rt_one a2
                  obtain ⟨q', w1, w2, w3⟩ := RML.set (i := i) a1 a4 a3
                  exact ⟨q', w1, w2, w3⟩
                | none =>
                  rw [hi2] at ep
                  rw [keyI_add hi2 z4]
                  refine z6 (ks ++ [kk]) (ms ++ [.d d]) (xs ++ [y]) b' ep (by simpa using z4) fun H3 qq ft a1 a2 a3 => ?_
                  obtain ⟨a4, _⟩ := rt_one a2
                  exact ⟨qq ++ ft, RML.app a1 a4, fun a ha => ha, a3⟩
            · cases hf
          · cases hf
        · cases hf
      · cases hf
    · cases hf
  · cases hf
end
end PL

namespace PL
open PySem PySem.Spec PyProof.Rows L2
/-! ### dict comprehensions over data -/
def putD (ks : List Key) (ds : List D) (k : Key) (d : D) : List Key × List D := match keyI k ks with
  | some i => (ks, ds.set i d)
  | none => (ks ++ [k], ds ++ [d])
section
variable {K : PySem.W.Frag} {c : Cg} {G G' H H' : Hp} {σ : L2.St} {b : List B} {T T1 : List (M × V)} {p : Addr} {o : HO} {d : D} {v : V} {m : M} {i : Nat}
theorem RpL.set {d : D} {y : V} : ∀ {ds : List D} {xs : List V} (i : Nat), RpL K G ds xs → Rp K G d y → RpL K G (ds.set i d) (xs.set i y)
  | [], xs, i, h, _ => by
    simp only [RpL] at h
    subst h
    simp [RpL]
  | e :: ds, _, 0, h, r => by
    simp only [RpL] at h
    obtain ⟨z, zs, rfl, h2, h3⟩ := h
    simp only [List.set_cons_zero, RpL]
    exact ⟨y, zs, rfl, r, h3⟩
  | e :: ds, _, i + 1, h, r => by
    simp only [RpL] at h
    obtain ⟨z, zs, rfl, h2, h3⟩ := h
    simp only [List.set_cons_succ, RpL]
    exact ⟨z, _, rfl, h2, RpL.set i h3 r⟩
theorem Iv.putT {ks : List Key} {ds : List D} {y : V} {k : Key} (I : Iv K c G H σ b ((.d d, y) :: (.dic ks (ds.map .d), .ref p) :: T)) (nd : ks.Nodup) : ∃ xs, H p = some (.dK (ks.zip xs)) ∧ ks.length = xs.length ∧
    Iv K c G (upd H p (.dK (putK (ks.zip xs) k y))) σ b ((.dic (putD ks ds k d).1 ((putD ks ds k d).2.map .d), .ref p) :: T) := by
  have r := I.topD
  obtain ⟨ft, t1, nd1, gn, old, go⟩ := Iv.tmp (T1 := [(.dic ks (ds.map .d), .ref p)]) I.drop
  obtain ⟨t2, t3⟩ := rt_one t1
  simp only [RM] at t2
  obtain ⟨p', xs, q, e1, h2, h3, h4, rfl⟩ := t2
  have e1 := V.ref.inj e1
  subst e1
  have rl := RML.datas h4
  have inn : ∀ a ∈ [p], a ∈ p :: q := fun a ha => by
    rw [List.mem_singleton.mp ha]; exact List.mem_cons_self
  have pp : H p ≠ none := by rw [h2]; simp
  refine ⟨xs, h2, h3, go G _ [(_, .ref p)] [p] ⟨Same.refl _, gh_upd I.st.gh (gn p (by simp)), fun _ _ h => h, fun a o z1 z2 => by rw [upd_ne (fun z : a = p => z2 (by simp [z]))]; exact z1, dm_upd pp⟩ ⟨[p], [], ?_, fun a ha => t3 a (inn a ha), rfl, by simp⟩ (by simp) (fun a ha => .inl (inn a ha)) (fun a ha => gn a (inn a ha))⟩
  unfold putD
  cases hi : keyI k ks with
  | some i =>
    rw [keyI_put nd hi h3]
    simp only [RM]
    exact ⟨p, xs.set i y, [], rfl, upd_same, by simpa using h3, RpL.rml' (rl.set i r), rfl⟩
  | none =>
    rw [keyI_add hi h3]
    simp only [RM]
    exact ⟨p, xs ++ [y], [], rfl, upd_same, by simpa using h3, RpL.rml' (rl.app (by simp only [RpL]; exact ⟨y, [], rfl, r, rfl⟩)), rfl⟩
end
def dcL (vs : List Nat) (g : Gv) (fk fv : Ev) : List D → List Key × List D → List B → Option ((List Key × List D) × List B)
  | [], acc, b => some (acc, b)
  | d :: ds, acc, b => match g d b with
    | some b1 => (match fk b1 with
      | some (.d dk, b2) => (match fv b2 with
        | some (.d dv, b3) => (match dk.key with
          | some k => if acc.1.Nodup ∧ acc.1.length < 1000000 then dcL vs g fk fv ds (putD acc.1 acc.2 k dv) (wipeB b3 vs) else none
          | none => none)
        | _ => none)
      | _ => none)
    | none => none
def fDc (vs : List Nat) (l : Lv) (g : Gv) (fk fv : Ev) : Ev := fun b => match l b with
  | some (ds, b1) => (match dcL vs g fk fv ds ([], []) (wipeB b1 vs) with
    | some ((ks, xs), b2) => some (.dic ks (xs.map .d), b2)
    | none => none)
  | none => none
theorem dcL_no {vs : List Nat} {g : Gv} {fk fv : Ev} : ∀ {ds : List D} {acc : List Key × List D} {b : List B} {r : List Key × List D} {b' : List B}, dcL vs g fk fv ds acc b = some (r, b') → (∀ j ∈ vs, j < b.length → b[j]? = some .no) → ∀ j ∈ vs, j < b'.length → b'[j]? = some .no
  | [], acc, b, ms, b', h, k => by
    simp only [dcL, Option.some.injEq, Prod.mk.injEq] at h
    obtain ⟨rfl, rfl⟩ := h
    exact k
  | d :: ds, acc, b, ms, b', h, k => by
    unfold dcL at h
    split at h
    · split at h
      · split at h
        · split at h
          · split at h
            · exact dcL_no h fun j hj hl => wipeB_at _ _ _ hj (by rw [wipeB_len] at hl; exact hl)
            · cases h
          · cases h
        · cases h
      · cases h
    · cases h
theorem dc_in {K : PySem.W.Frag} {ix vs : List Nat} {l : Lv} {g : Gv} {fk fv : Ev} (hix : ix.all (fun i => vs.contains i) = true) : ∀ σ H Q, teO K (fDc vs l g fk fv) σ H Q → tDc (tiO K l) (tgO K ix g) (ttO K tTrue) (teO K fk) (teO K fv) vs σ H Q := fun σ H Q => by
  rintro ⟨c, G, b, T, m, b', hf, I, q⟩
  unfold fDc at hf
  split at hf
  · rename_i ds b1 e1
    split at hf
    · rename_i kz xz b2 e2
      cases hf
      refine ⟨c, G, b, T, ds, b1, e1, I, fun J s G1 H1 I1 ok D hD => ?_⟩
      have I2 : Iv K c G1 (upd H1 D (.dK [])) σ b1 ((.dic [] [], .ref D) :: (s ++ T)) := I1.newO (f := []) hD (by
        simp only [RM]
        exact ⟨D, [], [], rfl, upd_same, rfl, by simp [RML], rfl⟩)
      refine ⟨fun i m H => m = ds.length - i ∧ i ≤ ds.length ∧ ∃ G b3 ks xs, Iv K c G H (L2.wipe σ vs) b3 ((.dic ks (xs.map .d), .ref D) :: (s ++ T)) ∧ dcL vs g fk fv (ds.drop i) (ks, xs) b3 = some ((kz, xz), b') ∧ (∀ j ∈ vs, j < b3.length → b3[j]? = some .no),
        ⟨ds.length, by simp, Nat.zero_le _, G1, wipeB b1 vs, [], [], I2.wipe vs, by simpa using e2, fun j hj hl => wipeB_at _ _ _ hj (by rw [wipeB_len] at hl; exact hl)⟩, ?_⟩
      rintro i m H ⟨rfl, hi, G3, b3, ks, xs, I3, hl, hno⟩
      have P : ∀ (a : M), ((a, V.ref D) :: (s ++ T)).Perm (s ++ (a, .ref D) :: T) := fun a => List.perm_middle.symm
      obtain ⟨o1, o2⟩ := ok c G3 H _ b3 ((.dic ks (xs.map .d), .ref D) :: T) i (I3.perm (P _))
      by_cases hlt : i < ds.length
      · obtain ⟨go, yl⟩ := o1 hlt
        refine .inr ⟨go, fun H' => ∃ G b3 ks xs, Iv K c G H' (L2.wipe σ vs) b3 ((.dic ks (xs.map .d), .ref D) :: (s ++ T)) ∧ dcL vs g fk fv (ds.drop (i + 1)) (ks, xs) b3 = some ((kz, xz), b') ∧ (∀ j ∈ vs, j < b3.length → b3[j]? = some .no),
          fun H' ⟨G3, b3, ks, xs, x1, x2, x3⟩ => ⟨ds.length - (i + 1), by omega, rfl, hlt, G3, b3, ks, xs, x1, x2, x3⟩, fun x H' y => ?_⟩
        obtain ⟨d, G4, hd, I4⟩ := yl x H' y
        rw [List.drop_eq_getElem_cons hlt] at hl
        have e : ds[i] = d := by rw [List.getElem?_eq_getElem hlt] at hd; exact Option.some.inj hd
        rw [e] at hl
        unfold dcL at hl
        split at hl
        · rename_i b4 e4
          refine ⟨c, G4, b3, s ++ (.dic ks (xs.map .d), .ref D) :: T, d, b4, e4, I4, fun σ5 G5 H5 k5 I5 => ?_⟩
          have hw : L2.wipe σ5 vs = L2.wipe σ vs := by
            have h2 : L2.wipe σ5 vs = L2.wipe (L2.wipe σ vs) vs := wipe_ext k5.1 fun j hj => k5.2 j fun z => hj (by
              have := List.all_eq_true.mp hix j z
              simpa using this)
            rw [h2]
            exact wipe_ext (wipe_length _ _) fun j hj => by rw [wipe_at, if_neg (fun z => hj z.1)]
          refine ⟨hw, ?_⟩
          refine ⟨c, G5, b4, _, true, b4, rfl, I5, fun G6 H6 I6 => ?_⟩
          refine iteT ?_
          split at hl
          · rename_i dk b5 e5
            split at hl
            · rename_i dv b6 e6
              split at hl
              · rename_i kk hk
                split at hl
                · rename_i hz
                  refine ⟨c, G6, b4, _, .d dk, b5, e5, I6, fun v G7 H7 I7 => ?_⟩
                  have rk := I7.topD
                  refine ⟨c, G7, b5, _, .d dv, b6, e6, I7, fun v2 G8 H8 I8 => ?_⟩
                  have Q1 : ((M.d dv, v2) :: (M.d dk, v) :: (s ++ (M.dic ks (xs.map .d), V.ref D) :: T)).Perm ((M.d dk, v) :: (M.d dv, v2) :: (.dic ks (xs.map .d), .ref D) :: (s ++ T)) := (List.Perm.swap _ _ _).trans (List.Perm.cons _ (List.Perm.cons _ List.perm_middle))
                  obtain ⟨ys, w1, w2, I9⟩ := ((I8.perm Q1).drop).putT (k := kk) hz.1
                  refine ⟨_, kk, key_rel hk rk, w1, ?_, G8, wipeB b6 vs, _, _, ?_, hl, fun j hj hl => wipeB_at _ _ _ hj (by rw [wipeB_len] at hl; exact hl)⟩
                  · have : (ks.zip ys).length ≤ ks.length := by simp; omega
                    have := hz.2
                    exact lt_line (by simp at *; omega)
                  · rw [← hw]
                    exact I9.wipe vs
                · cases hl
              · cases hl
            · cases hl
          · cases hl
        · cases hl
      · have e : i = ds.length := by omega
        subst e
        simp only [List.drop_length, dcL, Option.some.injEq, Prod.mk.injEq] at hl
        obtain ⟨⟨rfl, rfl⟩, rfl⟩ := hl
        exact .inl ⟨o2 (Nat.le_refl _), q _ G3 H (Iv.unwipe hno ((I3.perm (P _)).dropN))⟩
    · cases hf
  · cases hf
section
variable {X : Cx} {e e1 e2 e3 o value : Expr} {es : List Expr} {st : Stmt} {sts : List Stmt} {pos pos' p apos tpos q : Pos} {f f1 f2 f3 fr : Ev} {fs : Av} {src : List (Option Nat)} {x m C : Str} {t t1 t2 : Tv} {k1 k2 : Sv} {j k : Nat} {π : Pth} {n : Str} {Cs : List Str} {F : Fn} {dds : List D} {dvs : List V} {E : XK} {ta tv : TE}
theorem e_dc {kx vx tg iter : Expr} {scope : Scope} {own : List (Str × Nat)} {ix : List Nat} {l : Lv} {g : Gv} {fk fv : Ev} (hc : X.calm = true) (hN : X.N.Nodup) (hi : IM X tg iter l) (ok : BlkOk X.N X.env.scope scope own) (hix : ix.all (fun i => (own.map (·.2)).contains i) = true)
    (hg : ∀ (s : Shared) (H : Hp) (C : Addr) (cl : List (Str × Addr)) (fp : List Addr), GM (X.blk s H scope (compEnvC scope cl C X.env) fp) tg ix g)
    (hk : ∀ (s : Shared) (H : Hp) (C : Addr) (cl : List (Str × Addr)) (fp : List Addr), EM (X.blk s H scope (compEnvC scope cl C X.env) fp) kx fk)
    (he : ∀ (s : Shared) (H : Hp) (C : Addr) (cl : List (Str × Addr)) (fp : List Addr), EM (X.blk s H scope (compEnvC scope cl C X.env) fp) vx fv) (hs : ∀ x, foldedSetIterable iter X.env x = pure x := by intro _; rfl) :
    EM X (.DictComp kx vx [⟨tg, iter, [], 0⟩] scope pos) (fDc (own.map (·.2)) l g fk fv) := (pe_dc hc hN hi ok hg (fun _ _ _ _ _ => ts_nil) hk he hs).wk (dc_in hix)
/-! ### texts -/
def D.strL : List D → Option (List Str)
  | [] => some []
  | .str x :: ds => (match D.strL ds with
    | some xs => some (x :: xs)
    | none => none)
  | _ => none
theorem strs_rel {K : PySem.W.Frag} {G : Hp} : ∀ {ds : List D} {ys : List Str} {xs : List V}, D.strL ds = some ys → RpL K G ds xs → xs = ys.map V.str
  | [], ys, xs, h, r => by
    simp only [D.strL, Option.some.injEq] at h
    simp only [RpL] at r
    subst h r; rfl
  | .str x :: ds, ys, xs, h, r => by
    unfold D.strL at h
    split at h
    · rename_i zs e
      cases h
      simp only [RpL, Rp] at r
      obtain ⟨y, ys', rfl, rfl, r3⟩ := r
      rw [strs_rel e r3]; rfl
    · cases h
  | .non :: _, _, _, h, _ => by simp [D.strL] at h
  | .bl _ :: _, _, _, h, _ => by simp [D.strL] at h
  | .int _ :: _, _, _, h, _ => by simp [D.strL] at h
  | .adr _ :: _, _, _, h, _ => by simp [D.strL] at h
  | .ty _ :: _, _, _, h, _ => by simp [D.strL] at h
  | .tup _ :: _, _, _, h, _ => by simp [D.strL] at h
  | .lst _ :: _, _, _, h, _ => by simp [D.strL] at h
  | .seq _ :: _, _, _, h, _ => by simp [D.strL] at h
  | .obj .. :: _, _, _, h, _ => by simp [D.strL] at h
  | .dic .. :: _, _, _, h, _ => by simp [D.strL] at h
  | .any :: _, _, _, h, _ => by simp [D.strL] at h
  | .oba .. :: _, _, _, h, _ => by simp [D.strL] at h
def gJoin : D → D → Option D
  | .str a, .lst ds => (match D.strL ds with
    | some ys => if (ys.map (·.length)).sum + ys.length * a.length ≤ 16777216 then some (.str (Txt.join a ys)) else none
    | none => none)
  | _, _ => none
theorem os_join {K : PySem.W.Frag} : OpS K (fun x y H Q => ∃ a p, ∃ ys : List Str, x = .str a ∧ y = .ref p ∧ (SqL K H p (ys.map V.str) ∨ SqT K H p (ys.map V.str)) ∧ (ys.map (·.length)).sum + ys.length * a.length ≤ 16777216 ∧ Q (.str (Txt.join a ys)) H) (g2 gJoin) := OpS.pure fun c G H x y d1 d2 d Q hg s r1 r2 q => by
  unfold gJoin at hg
  split at hg
  · split at hg
    · rename_i ys ey
      split at hg
      · rename_i hz
        cases hg
        simp only [Rp] at r1 r2
        subst r1
        obtain ⟨pp, xs, rfl, h2, h3⟩ := r2
        have := strs_rel ey h3
        subst this
        exact ⟨_, pp, ys, rfl, rfl, .inl (SqL.of (s _ _ h2)), hz, q _ (by simp [Rp])⟩
      · cases hg
    · cases hg
  · cases hg
theorem e_join (h1 : EM X e1 f1) (h2 : EM X e f2) (hstr : ∀ b m b1, f1 b = some (m, b1) → ∃ z, m = .d (.str z)) (hs : starEach [e] X.env = [(false, eval e X.env)] := by rfl) (hbase : attributeBase e1 "join" X.env (eval e1 X.env) = eval e1 X.env := by rfl) (hline : (apos.endLine == pos.line) = true := by rfl) :
    EM X (.Call (.Attribute e1 "join" apos) [e] [] pos) (fOp (g2 gJoin) f1 f2) := (pe_join h1 h2 hs hbase hline).wk fun σ H Q => by
  rintro ⟨c, G, b, T, r, b', hf, I, qq⟩
  unfold fOp at hf
  split at hf
  · rename_i m1 b1 ea
    split at hf
    · rename_i m2 b2 eb
      split at hf
      · rename_i mm eg
        cases hf
        obtain ⟨z, rfl⟩ := hstr _ _ _ ea
        refine ⟨c, G, b, T, _, b1, ea, I, fun v G1 H1 I1 => ?_⟩
        have r1 := I1.topD
        simp only [Rp] at r1
        refine ⟨⟨z, r1⟩, c, G1, b1, _, m2, b', eb, I1, fun y G2 H2 I2 => ?_⟩
        obtain ⟨a, pp, ys, w1, w2, w3⟩ := os_join (K := X.K) c G2 H2 σ b' T v y _ m2 _ Q eg I2 qq
        exact ⟨a, pp, ys, w1, by rw [w2], w3⟩
      · cases hf
    · cases hf
  · cases hf
theorem fC_str {z : Str} : ∀ b m b1, fC (.str z) b = some (m, b1) → ∃ z, m = .d (.str z) := fun b m b1 h => by
  unfold fC at h
  cases h
  exact ⟨z, rfl⟩
/-- len(set(xs)), at most one text -/
def gLenSet : D → Option D
  | .lst ds => (match D.strL ds with
    | some ys => if ys.length ≤ 1 then some (.int ys.length) else none
    | none => none)
  | _ => none
def fUnD (g : D → Option D) (f : Ev) : Ev := fun b => match f b with
  | some (.d d, b1) => (match g d with
    | some x => some (.d x, b1)
    | none => none)
  | _ => none
theorem e_lenSet1 {p2 : Pos} (hm : X.mg "len" = none) (hm2 : X.mg "set" = none) (h : EM X e f) (hc : X.calm = true := by rfl) (hg : Gl X "len" := by rfl) (hg2 : Gl X "set" := by rfl) (na : starEach [e] X.env = (false, eval e X.env) :: starEach [] X.env := by rfl) :
    EM X (.Call (.Name "len" p) [.Call (.Name "set" p2) [e] [] q] [] pos) (fUnD gLenSet f) := (L2.pe_lenSet hc hg hm hg2 hm2 h na).wk fun σ H Q => by
  rintro ⟨c, G, b, T, r, b', hf, I, qq⟩
  unfold fUnD at hf
  split at hf
  · rename_i d b1 e1
    split at hf
    · rename_i x ex
      cases hf
      refine ⟨c, G, b, T, _, b', e1, I, fun v G1 H1 I1 => ?_⟩
      unfold gLenSet at ex
      split at ex
      · split at ex
        · rename_i ys ey
          split at ex
          · rename_i hz
            cases ex
            have r := I1.topD
            simp only [Rp] at r
            obtain ⟨pp, xs, rfl, h2, h3⟩ := r
            have := strs_rel ey h3
            subst this
            exact ⟨pp, ys, rfl, .inl (SqL.of (I1.st.gh _ _ h2)), hz, qq _ G1 H1 (I1.drop.pushD (by simp [Rp]))⟩
          · cases ex
        · cases ex
      · cases ex
    · cases hf
  · cases hf
end
end PL

namespace PL
open PySem PySem.Spec PyProof.Rows L2 PySem.Calls
/-! ### len of an instance -/
theorem len_inst {prog : Program} {w : World} {A : Around} {E : Value → Shared → Prop} {s : Shared} {K : PySem.W.Frag} {x C f : Addr} {ox : Obj} {od : Option Obj} {Q : Value → Shared → Prop} (Xk : K.In s.heap) (I : PySem.W.InstAt s.heap x ox C od) (hs : PySem.W.findIn K (.ref C) "__len__" = some (some (.ref f))) (hf : PySem.W.isFn K (.ref f) = true)
    (h : wpAny (model prog w) A.in1 (call (.ref f) [.ref x]) (PySem.W.LenBack Q) E s) : wpAny (model prog w) A (call (.builtin "len") [.ref x]) Q E s := by
  refine Calls.call_function_entry kind_len plain_len entry_len (args_len1 _) ?_
  unfold Builtin.«len»
  refine wpAny_bind (m := oneArg "len" _) (wpAny_pure ?_)
  refine wpAny_bind (m := callSpecial? (.ref x) (Str.ofString "__len__")) (PySem.W.special_fn Xk I hs (beq_iff_eq.mp hf) (wpAny_mono h (fun r s' hr => ?_) fun _ _ y => y))
  cases r <;> first | exact hr.elim | skip
  rename_i n u
  obtain ⟨⟨h0, h1⟩, hq⟩ := hr
  refine wpAny_bind (wpAny_holding (wpAny_pure ?_))
  refine wpAny_bind (wpAny_letGo ?_)
  show wpAny _ _ (if n < 0 then _ else _) _ _ _
  rw [if_neg (by omega)]
  show wpAny _ _ (if n ≥ 2 ^ 63 then _ else _) _ _ _
  rw [if_neg (by omega)]
  exact wpAny_bind (wpAny_mkInt (wpAny_pure ⟨_, rfl, hq⟩))
section
variable {X : Cx} {e e1 e2 e3 o value : Expr} {es : List Expr} {st : Stmt} {sts : List Stmt} {pos pos' p apos tpos q : Pos} {f f1 f2 f3 fr : Ev} {fs : Av} {src : List (Option Nat)} {x m C : Str} {t t1 t2 : Tv} {k1 k2 : Sv} {j k : Nat} {π : Pth} {n : Str} {Cs : List Str} {F : Fn} {dds : List D} {dvs : List V} {E : XK} {ta tv : TE}
def rLenI (K : PySem.W.Frag) (C : Addr) (sp : Sp) : List V → Hp → VK → Prop := fun xs H Q => ∃ a dx fs, xs = [.ref a] ∧ H a = some (.ins C dx fs) ∧ sp [.ref a] H (fun v H' => ∃ i : Int, v = .int i ∧ 0 ≤ i ∧ i < 2 ^ 63 ∧ Q (.int i) H') E0
theorem call_lenI {f : Addr} {fd : FuncData} {ps : List Str} {sp : Sp} {C : Addr} (c : Cls X.K C) (hm : Meth X.K C "__len__" f) (F : FnOk X.prog X.w X.K X.mg X.base CX0 k f fd ps sp) (hr : Room (k + 1) X.A) (hb : Binds X.K fd ps []) : CallR X (.builtin "len") (rLenI X.K C sp) := by
  intro pins s σ H xs us Q I r ⟨a, dx, fs, ex, ea, h⟩
  subst ex
  obtain ⟨u, eu, rx⟩ := vals1 r
  subst eu
  obtain rfl : u = Value.ref a := rx
  obtain ⟨mA, O, _, _, _, _⟩ := ins_get I.hok ea
  obtain ⟨od, J, _⟩ := O.look
  have hl : ([Value.ref a] ++ ([] : List Value)).length = ps.length := by
    have e := F.len _ _ _ _ h
    simpa using e
  refine len_inst I.kIn J hm.at_ hm.fn (wpAny_call ?_)
  refine codeAny_mono (F.run X.A.in1 X.stack s H ⟨[.ref a], []⟩ [.ref a] [.ref a] _ E0 hr.in1 I.env0.in1 (by simpa using hb s [.ref a] I.kIn hl) (.cons rfl .nil) h) fun r s' hq => ?_
  cases r with
  | error er => exact pass0 pins σ H s er s' I hq
  | ok fl =>
    cases fl with
    | ret u =>
      obtain ⟨v, H', I3, rv, i, rfl, h0, h1, q3⟩ := I.after hq
      obtain ⟨t, rfl⟩ := rv
      exact ⟨⟨h0, h1⟩, .int i, H', I3.tok _, ⟨_, rfl⟩, q3⟩
    | next => exact False.elim hq
    | brk => exact False.elim hq
    | cont => exact False.elim hq
def gLenI (C : Str) (F : Fn) : List M → Option M
  | [.d (.obj C' ns ds)] => if C' = C then (match F [.d (.obj C' ns ds)] with
    | some (.d (.int i), []) => if 0 ≤ i ∧ i < 1000000000 then some (.d (.int i)) else none
    | _ => none) else none
  | _ => none
theorem cs_lenI : CaS X.K (rLenI X.K (He.ga X.K C) (spD X.K F)) (gLenI C F) := by
  intro c G H σ b T ms us m Q hg hl I qq
  unfold gLenI at hg
  split at hg
  · rename_i C' ns ds
    split at hg
    · rename_i hc
      subst hc
      split at hg
      · rename_i i e1
        split at hg
        · rename_i hz
          cases hg
          obtain ⟨u, rfl⟩ := len1 hl
          have r := Iv.topD (T := T) I
          simp only [Rp] at r
          obtain ⟨a, dx, xs, rfl, h2, _⟩ := id r
          refine ⟨a, dx, _, rfl, I.st.gh _ _ h2, ?_⟩
          refine appF_in (src := [none]) (F := F) (dds := []) (dvs := []) (us := [.ref a]) (vs := [.ref a]) (ms := [.d (.obj C' ns ds)]) (b3 := b) (r := .d (.int i)) I rfl ⟨_, [], [], rfl, rfl, rfl, rfl⟩ (by simp [RpL]) (by simp [appF, fill, e1, putb, M.isD]) fun v G' H' I' => ?_
          have rv := I'.topD
          simp only [Rp] at rv
          subst rv
          exact ⟨i, rfl, hz.1, by omega, qq _ G' H' I'⟩
        · cases hg
      · cases hg
    · cases hg
  · cases hg
theorem e_lenI (h : MetOk X.prog X.w X.K X.mg X.base k C "__len__" [] F) (hr : Room (k + 1) X.A) (hm : X.mg "len" = none) (ha : AM X [e] src fs) (hsrc : src.all (·.isNone) = true := by rfl) (hg : Gl X "len" := by rfl) (he : starEach [e] X.env = (false, eval e X.env) :: starEach [] X.env := by rfl) (hpl : (backTo pos (starEach [] X.env)).any (·.1) = false := by rfl) : EM X (.Call (.Name "len" p) [e] [] pos) (fOf (gLenI C F) fs) := by
  obtain ⟨f, fd, ps, ds, h1, h3, h4, h5⟩ := h.ex
  cases h4
  exact e_cb (call_lenI h.cls h1 h5 hr h3) cs_lenI hm boot_len ha hsrc hg (by decide) (by decide) he hpl
/-! ### tuple.index of a tuple of the top -/
def TupX (K : PySem.W.Frag) (mg : Str → Option Value) (x : Str) (ss : List Str) : Prop := ∃ a, mg x = some (.ref a) ∧ (∀ H, SqT K H a (ss.map V.str)) ∧ ∃ o, K.lookup a = some o ∧ o.cls = .type "tuple" ∧ o.dict = none
def tidx (z : Str) : List Str → Option Nat
  | [] => none
  | y :: ys => if y = z then some 0 else (match tidx z ys with
    | some i => some (i + 1)
    | none => none)
theorem tidx_ok {z : Str} : ∀ {ys : List Str} {i : Nat}, tidx z ys = some i → ys[i]? = some z ∧ ∀ m, m < i → ys[m]? ≠ some z
  | [], i, h => by simp [tidx] at h
  | y :: ys, i, h => by
    unfold tidx at h
    split at h
    · rename_i e
      cases h
      subst e
      exact ⟨rfl, by simp⟩
    · rename_i e
      split at h
      · rename_i k ek
        cases h
        obtain ⟨h1, h2⟩ := tidx_ok ek
        refine ⟨by simpa using h1, fun m hm => ?_⟩
        cases m with
        | zero => simpa using e
        | succ m => simpa using h2 m (by omega)
      · cases h
def gTidx (ss : List Str) : D → Option D
  | .str z => (match tidx z ss with
    | some i => some (.int i)
    | none => none)
  | _ => none
theorem e_tidx {ss : List Str} {px : Pos} (ht : TupX X.K X.mg x ss) (h : EM X e f) (hg : Gl X x := by rfl) (hd : (x == ("__debug__" : Str)) = false := by decide)
    (hbase : attributeBase (.Name x px) "index" X.env (eval (.Name x px) X.env) = eval (.Name x px) X.env := by rfl)
    (hfew : ((backTo pos (starEach (e :: []) X.env)).all (fun x => !x.1) && (backToKw pos (keywordEach [] X.env)).all (fun x => x.1.isSome)
      && decide ((e :: []).length + ([] : List Keyword).length + (if ([] : List Keyword).isEmpty then 0 else 1) < 30)) = true := by rfl)
    (hline : (apos.endLine == pos.line) = true := by rfl) (hs : starEach (e :: []) X.env = (false, eval e X.env) :: starEach [] X.env := by rfl) (hplain : (backTo pos (starEach [] X.env)).any (·.1) = false := by rfl) :
    EM X (.Call (.Attribute (.Name x px) "index" apos) [e] [] pos) (fUnD (gTidx ss) f) := by
  obtain ⟨a, h1, h2, h3⟩ := ht
  refine (pe_bm PySem.F.plainAttrs_tuple PySem.F.slot_tuple_index PySem.F.type_tuple_index L2.mt_tup_index (pe_glob (v := .ref a) hg h1 rfl hd) (pa_cons h pa_nil hs) hbase hfew hline hs hplain).wk fun σ H Q => ?_
  rintro ⟨c, G, b, T, r, b', hf, I, qq⟩
  unfold fUnD at hf
  split at hf
  · rename_i d b1 e1
    split at hf
    · rename_i y ey
      cases hf
      unfold gTidx at ey
      split at ey
      · rename_i z
        split at ey
        · rename_i i ei
          cases ey
          refine ⟨.inr (.inl ⟨rfl, h3⟩), c, G, b, T, _, b', e1, I, fun v G1 H1 I1 => ?_⟩
          have r := I1.topD
          simp only [Rp] at r
          subst r
          obtain ⟨w1, w2⟩ := tidx_ok ei
          exact ⟨a, ss, z, i, rfl, rfl, h2 H1, w1, w2, qq _ G1 H1 (I1.drop.pushD (by simp [Rp]))⟩
        · cases ey
      · cases ey
    · cases hf
  · cases hf
end
end PL

namespace PL
open PySem PySem.Spec PyProof.Rows L2
theorem funD_kbn {K : PySem.W.Frag} {x qual : Str} {params : Arguments} {body : List Stmt} {scope : Scope} {kws : List (Str × V)} {f : Addr} {fd : FuncData} {ps : List Str} (F : FunD K x qual params body scope [] kws f fd) (n : Nat) (ks : List Str) (g : {α : Type} → List α → List α → List α)
    (hrel : ∀ {vs zs : List V} {us ws : List Value}, Vals vs us → Vals zs ws → Vals (g vs zs) (g us ws))
    (h : ∀ (kV doc pm : Value) (an : Option Addr) (cdv ct : Value) (us ws : List Value), us.length = n → ws.length = ks.length → bindArgs (PySem.W.fnOf x qual params body scope .none kV doc pm an cdv ct) ⟨us, ks.zip ws⟩ = pure (ps.zip (g us ws))) :
    KBn K fd ps n ks (fun us ws => g us ws) (fun vs zs => g vs zs) := by
  obtain ⟨oc, od, dV, kV, doc, pm, an, cdv, ct, osl, rfl, lk, hcd, hD, hK⟩ := F.ex
  rcases hD with ⟨_, rfl⟩ | ⟨e, _⟩
  · exact ⟨fun s us ws X l1 l2 => .of_eq (h kV doc pm an cdv ct us ws l1 l2), fun r1 r2 => hrel r1 r2⟩
  · exact absurd rfl e
structure MetKOk (P : Program) (w : World) (K : PySem.W.Frag) (mg : Str → Option Value) (base : Heap) (k : Nat) (C m kn : Str) (F : Fn) : Prop where
  cls : Cls K (He.ga K C)
  ex : ∃ f fd ps, Meth K (He.ga K C) m f ∧ KBn K fd ps 1 [kn] (fun us ws => us ++ ws) (fun vs zs => vs ++ zs) ∧ FnOk P w K mg base CX0 k f fd ps (spD K F)
structure MakKOk (P : Program) (w : World) (K : PySem.W.Frag) (mg : Str → Option Value) (base : Heap) (k : Nat) (C k1 k2 : Str) (F : Fn) : Prop where
  at_ : mg C = some (.ref (He.ga K C))
  ex : ∃ f fd ps, Mk K (He.ga K C) f ∧ KBn K fd ps 1 [k1, k2] (fun us ws => us ++ ws.reverse) (fun vs zs => vs ++ zs.reverse) ∧ FnOk P w K mg base CX0 k f fd ps (spD K F)
section
variable {X : Cx} {e e1 e2 e3 o value : Expr} {es : List Expr} {st : Stmt} {sts : List Stmt} {pos pos' p apos tpos q kpos kpos2 : Pos} {f f1 f2 f3 fr : Ev} {fs : Av} {src : List (Option Nat)} {x m C kn kn2 : Str} {t t1 t2 : Tv} {k1 k2 : Sv} {j k : Nat} {π : Pth} {n : Str} {Cs : List Str} {F : Fn} {dds : List D} {dvs : List V} {E : XK} {ta te tv : TE}
/-- o.m(k = e) -/
def tMethK (C : Addr) (m : Str) (sp : Sp) (E : XK) (ta te : TE) : TE := fun σ H Q => ta σ H fun x H1 => ∃ a dx fs, x = .ref a ∧ H1 a = some (.ins C dx fs) ∧ fs.lookup m = none ∧ te σ H1 fun z H2 => ([z] : List V).length = 1 ∧ sp ([x] ++ [z]) H2 Q E
theorem pe_methK {CX : CXT} {A f : Addr} {fd : FuncData} {ps : List Str} {sp : Sp} {pl : Sem Bool} (he : PE X o ta) (c : Cls X.K A) (hm : Meth X.K A m f) (F : FnOk X.prog X.w X.K X.mg X.base CX k f fd ps sp) (hr : Room k X.A)
    (hb : KBn X.K fd ps 1 [kn] (fun us ws => us ++ ws) (fun vs zs => vs ++ zs)) (hx : Passes CX X E) (hv : PE X e te)
    (hall : (backToKw pos (keywordEach [⟨some kn, e, kpos⟩] X.env)).all (·.1.isSome) = true := by rfl) (hks : (backToKw pos (keywordEach [⟨some kn, e, kpos⟩] X.env)).filterMap (·.1) = [kn] := by rfl)
    (hpl : ((backTo pos (starEach [] X.env)).any (·.1) || (backToKw pos (keywordEach [⟨some kn, e, kpos⟩] X.env)).any (·.1.isNone)) = false := by rfl)
    (ht : eval (.Call (.Attribute o m apos) [] [⟨some kn, e, kpos⟩] pos) X.env = (do
      let ov ← eval o X.env
      standAt apos.atName
      let (f, first) ← holding [ov] (getMethod ov m pl)
      callWith pos f first (backTo pos (starEach [] X.env)) (backToKw pos (keywordEach [⟨some kn, e, kpos⟩] X.env))) := by rfl) :
    PE X (.Call (.Attribute o m apos) [] [⟨some kn, e, kpos⟩] pos) (tMethK A m sp E ta te) := by
  refine ⟨fun pins s σ H Q I h => ?_⟩
  refine PySem.W.methodCall_KW (pl := pl) (thn (he.run pins s σ H _ I h) fun u s1 ⟨x, H1, I1, rx, a, dx, fs, ex, ea, l, q⟩ => ?_) ht
  subst ex
  obtain rfl : u = Value.ref a := rx
  refine getmeth_ok I1 ea c hm l ?_
  refine PySem.W.callWith_KW0 (first := [.ref a]) (h₀ := X.base) I.ok.mod.kin hm.kp hall ?_ hpl
  have hk : PK X [⟨some kn, e, kpos⟩] (tCons te tNil) := pk_cons hv pk_nil
  refine thn (hk.run pos pins s1 σ H1 (fun zs H2 => zs.length = 1 ∧ sp ([V.ref a] ++ zs) H2 Q E) I1 (show tCons te tNil σ H1 _ from q)) fun ws s2 ⟨zs, H2, I2, rz, l2, q2⟩ => ⟨I2.kIn, ?_⟩
  rw [hks]
  exact run_fnN (us := [.ref a]) (vs := [.ref a]) F hr hb hx I2 (.cons rfl .nil) rz rfl l2 q2
def fMethK (C m : Str) (F : Fn) (j : Nat) (fv : Ev) : Ev := fMethO C m F [] j [none] (fCons fv fNil)
theorem e_methK {pl : Sem Bool} {px : Pos} (j : Nat) (h : MetKOk X.prog X.w X.K X.mg X.base k C m kn F) (hr : Room k X.A) (hv : EM X e f)
    (hall : (backToKw pos (keywordEach [⟨some kn, e, kpos⟩] X.env)).all (·.1.isSome) = true := by rfl) (hks : (backToKw pos (keywordEach [⟨some kn, e, kpos⟩] X.env)).filterMap (·.1) = [kn] := by rfl)
    (hpl : ((backTo pos (starEach [] X.env)).any (·.1) || (backToKw pos (keywordEach [⟨some kn, e, kpos⟩] X.env)).any (·.1.isNone)) = false := by rfl)
    (ht : eval (.Call (.Attribute (.Name x px) m apos) [] [⟨some kn, e, kpos⟩] pos) X.env = (do
      let ov ← eval (.Name x px) X.env
      standAt apos.atName
      let (f, first) ← holding [ov] (getMethod ov m pl)
      callWith pos f first (backTo pos (starEach [] X.env)) (backToKw pos (keywordEach [⟨some kn, e, kpos⟩] X.env))) := by rfl)
    (hN : X.N[j]? = some x := by rfl) (hv' : Vis X.env.scope x := by first | exact Or.inl rfl | exact Or.inr (Or.inl rfl) | exact Or.inr (Or.inr rfl)) (hdb : (x == ("__debug__" : Str)) = false := by decide)
    (hcd : (x == ("__classdict__" : Str)) = false := by decide) :
    EM X (.Call (.Attribute (.Name x px) m apos) [] [⟨some kn, e, kpos⟩] pos) (fMethK C m F j f) := by
  obtain ⟨f0, fd, ps, h1, h3, h5⟩ := h.ex
  refine (pe_methK (E := E0) (pe_var hN hv' hdb hcd) h.cls h1 h5 hr h3 pass0 hv hall hks hpl ht).wk fun σ H Q h => ?_
  obtain ⟨v, w1, a, dx, fs, w2, w3, w4, c, G, b, T, ms, b', hf, I, q⟩ := methO_in (E := E0) (dvs := []) (dds := []) (fun _ => by simp [RpL]) σ H Q h
  refine ⟨v, w1, a, dx, fs, w2, w3, w4, ?_⟩
  unfold fCons fNil at hf
  split at hf
  · rename_i m1 b1 e1
    simp only [Option.some.injEq, Prod.mk.injEq] at hf
    obtain ⟨rfl, rfl⟩ := hf
    refine ⟨c, G, b, T, m1, b1, e1, I, fun v2 G2 H2 I2 => ⟨rfl, ?_⟩⟩
    exact q [v2] [v2] G2 H2 rfl ⟨v2, [], [], rfl, rfl, rfl, rfl⟩ I2
  · cases hf
/-- C(k1 = e1, k2 = e2), in the other order -/
def fMake2 (C : Str) (F : Fn) (f1 f2 : Ev) : Ev := fun b => match f1 b with
  | some (m1, b1) => (match f2 b1 with
    | some (m2, b2) => (match F [.obj C [] [], m2, m1] with
      | some (.d .non, m' :: os) => (match putb [none, none] [] [m2, m1] os b2 with
        | some b3 => some (m', b3)
        | none => none)
      | _ => none)
    | none => none)
  | none => none
theorem e_make2 (h : MakKOk X.prog X.w X.K X.mg X.base k C kn kn2 F) (hr : Room (k + 1) X.A) (h1 : EM X e1 f1) (h2 : EM X e2 f2) (hg : Gl X C := by rfl)
    (hall : (backToKw pos (keywordEach [⟨some kn, e1, kpos⟩, ⟨some kn2, e2, kpos2⟩] X.env)).all (·.1.isSome) = true := by rfl) (hks : (backToKw pos (keywordEach [⟨some kn, e1, kpos⟩, ⟨some kn2, e2, kpos2⟩] X.env)).filterMap (·.1) = [kn, kn2] := by rfl) (hdb : (C == ("__debug__" : Str)) = false := by decide)
    (hpl : ((backTo pos (starEach [] X.env)).any (·.1) || (backToKw pos (keywordEach [⟨some kn, e1, kpos⟩, ⟨some kn2, e2, kpos2⟩] X.env)).any (·.1.isNone)) = false := by rfl) :
    EM X (.Call (.Name C p) [] [⟨some kn, e1, kpos⟩, ⟨some kn2, e2, kpos2⟩] pos) (fMake2 C F f1 f2) := by
  obtain ⟨f, fd, ps, z1, z3, z5⟩ := h.ex
  refine (pe_makeK0 (E := E0) z1 z5 hr hg h.at_ z3 pass0 (pk_cons h1 (pk_cons h2 pk_nil)) hall hks hdb hpl).wk fun σ H Q => ?_
  rintro ⟨c, G, b, T, r, b', hf, I, q⟩
  unfold fMake2 at hf
  split at hf
  · rename_i m1 b1 e1
    split at hf
    · rename_i m2 b2 e2
      split at hf
      · rename_i m' os e3
        split at hf
        · rename_i b3 e4
          cases hf
          refine ⟨c, G, b, T, m1, b1, e1, I, fun v1 G1 H1 I1 => ⟨c, G1, b1, _, m2, b2, e2, I1, fun v2 G2 H2 I2 => ⟨rfl, rfl, fun xx dx hx hdx ne => ?_⟩⟩⟩
          have := Iv.make (F := F) (dds := []) (dvs := []) (src := [none, none]) (ms := [m2, m1]) (us := [v2, v1]) (vs := [v2, v1]) (full := [m2, m1]) (ks := []) (b2 := b2) (b3 := b') (os := os) (Q := Q) (E := E0) I2 rfl ⟨v2, [v1], [v1], rfl, rfl, v1, [], [], rfl, rfl, rfl, rfl⟩ (by simp [RpL]) (by simp [fill]) (by simpa using e3) e4 hx hdx ne fun G' H' I' => q _ G' H' I'
          simpa using this
        · cases hf
      · cases hf
    · cases hf
  · cases hf
end
end PL

namespace PySem.SeqAt
open AutoSeq1 (wpAny_loadPart')
open MeetsSeq MeetsSeq2 MeetsSeq3 SeqRoads2
section
variable {prog : Program} {w : World}
theorem pl_list_ne (l b : Addr) (items items2 : Array Value) (n n2 : Nat) (dd dd2 : Option Addr) (sl sl2 : Array (Option Value)) (hsz : items.size ≠ items2.size) :
    MeetsIn prog w (Builtin.«list.__eq__» ⟨[.ref l, .ref b], []⟩)
      (fun A R s => s.heap.get? l = some { cls := .type "list", dict := dd, data := .seq items n, slots := sl } ∧ s.heap.get? b = some { cls := .type "list", dict := dd2, data := .seq items2 n2, slots := sl2 } ∧
        R (.ok (.ret (.bool false))) s) := by
  intro A R s h
  obtain ⟨hp, g, d, tk, os⟩ := s; obtain ⟨hl, hb, h⟩ := h
  have f3 := AutoSeq1.sub_list_list
  have hne : (items.size != items2.size) = true := by simp [hsz]
  wp_walk using wpAny_loadPart' hl, wpAny_loadPart' hb
  exact h
theorem pl_rc_sz {A : Around} {s : Shared} {l b : Addr} {items items2 : Array Value} (hl : s.heap.IsList l items) (hb : s.heap.IsList b items2) (hsz : items.size ≠ items2.size) (hu : A.units < cLine)
    (E Q : Value → Shared → Prop) (h : Q (.bool false) s) : wpAny (model prog w) A (richCompare .Eq (.ref l) (.ref b)) Q E s := by
  obtain ⟨⟨cls, dd, data, sl⟩, ho, hc, n, hd⟩ := id hl
  obtain ⟨⟨cls2, dd2, data2, sl2⟩, ho2, hc2, n2, hd2⟩ := id hb
  simp only at hc hd hc2 hd2
  subst hc hd hc2 hd2
  have ta : s.TypeIs (.ref l) "list" := ⟨_, ho, rfl⟩
  have tb : s.TypeIs (.ref b) "list" := ⟨_, ho2, rfl⟩
  exact wpAny_richCompare_same_room (op := .Eq) ta tb F.slot_list_eq (call_meetsIn F.slot_list_eq ta F.entry_list_eq (F.args_list_eq_2 _ _) (pl_list_ne l b items items2 n n2 dd dd2 sl sl2 hsz)
    ⟨ho, ho2, show Value.bool false ≠ Value.notImplemented ∧ Q (.bool false) s from ⟨(fun x => nomatch x), h⟩⟩) hu
end
end PySem.SeqAt
namespace PL
open PySem PySem.Spec PyProof.Rows L2
section
variable {X : Cx} {e e1 e2 e3 o value : Expr} {es : List Expr} {st : Stmt} {sts : List Stmt} {pos pos' p apos tpos q : Pos} {f f1 f2 f3 fr : Ev} {fs : Av} {src : List (Option Nat)} {x m C : Str} {t t1 t2 : Tv} {k1 k2 : Sv} {j k : Nat} {π : Pth} {n : Str} {Cs : List Str} {F : Fn} {dds : List D} {dvs : List V} {E : XK} {ta tv : TE}
def rEqSz (K : PySem.W.Frag) : R2 := fun x y H Q => ∃ a b xs ys, x = .ref a ∧ y = .ref b ∧ SqL K H a xs ∧ SqL K H b ys ∧ xs.length ≠ ys.length ∧ Q (.bl false) H
theorem op_eqSz (hu : X.A.units < cLine) : OpR X (compareOp .Eq) (rEqSz X.K) := by
  intro pins s σ H x y v u Q I rx ry h
  obtain ⟨a, b, xs, ys, rfl, rfl, ha, hb, hl, q⟩ := h
  obtain rfl : v = Value.ref a := rx
  obtain rfl : u = Value.ref b := ry
  obtain ⟨us, r1, p1, _⟩ := I.list ha
  obtain ⟨ws, r2, p2, _⟩ := I.list hb
  exact PySem.SeqAt.pl_rc_sz p1.isList p2.isList (by rw [List.size_toArray, List.size_toArray, ← r1.length, ← r2.length]; exact hl) hu _ _ ⟨.bl false, H, I, rfl, q⟩
def gEqX : D → D → Option D := fun a b => match a, b with
  | .lst xs, .lst ys => if xs.length ≠ ys.length then some (.bl false) else gEq a b
  | _, _ => gEq a b
def rEqX (K : PySem.W.Frag) : R2 := fun x y H Q => rEqD K x y H Q ∨ rEqSz K x y H Q
theorem op_eqX (hu : X.A.units + 64 < cLine) : OpR X (compareOp .Eq) (rEqX X.K) := fun pins s σ H x y v u Q I rx ry h => by
  rcases h with h | h
  · exact op_eqD hu pins s σ H x y v u Q I rx ry h
  · exact op_eqSz (by omega) pins s σ H x y v u Q I rx ry h
theorem os_eqX {K : PySem.W.Frag} : OpS K (rEqX K) (g2 gEqX) := OpS.pure fun c G H x y d1 d2 d Q hg s r1 r2 q => by
  have plain : gEq d1 d2 = some d → rEqX K x y H Q := fun hg => .inl (pu_eq (K := K) H x y d1 d2 d Q hg (Rp.mono s _ _ r1) (Rp.mono s _ _ r2) fun v hv => q v (hv G))
  unfold gEqX at hg
  split at hg
  · split at hg
    · rename_i hne
      cases hg
      simp only [Rp] at r1 r2
      obtain ⟨p1, xs, rfl, h2, h3⟩ := r1
      obtain ⟨p2, ys, rfl, h4, h5⟩ := r2
      exact .inr ⟨p1, p2, xs, ys, rfl, rfl, SqL.of (s _ _ h2), SqL.of (s _ _ h4), by rw [← h3.len, ← h5.len]; exact hne, q _ (by simp [Rp])⟩
    · exact plain hg
  · exact plain hg
theorem t_eqX (hr : Room k X.A) (h1 : EM X e1 f1) (h2 : EM X e2 f2) : TM X (.Compare e1 [.Eq] [e2] pos) (fT (fOp (g2 gEqX) f1 f2)) := t_cmp (op_eqX hr.units) os_eqX h1 h2 (nomark _)
/-! ### whatever is walked -/
def lAny (f : Ev) : Lv := fun b => match f b with
  | some (.d (.lst ds), b1) => some (ds, b1)
  | some (.d (.seq ds), b1) => some (ds, b1)
  | some (.d (.tup ds), b1) => some (ds, b1)
  | some (.d (.str z), b1) => some (z.cps.toList.map fun c => .str ⟨#[c]⟩, b1)
  | _ => none
theorem i_any {tg : Expr} (h : EM X e f) : IM X tg e (lAny f) := ⟨fun pins s σ H R I q => by
  obtain ⟨c, G, b, T, ds, b', hf, Iv', qq⟩ := q
  unfold lAny at hf
  split at hf
  · rename_i e1
    cases hf
    exact (i_list h).run pins s σ H R I ⟨c, G, b, T, _, _, by simp only [lLst, e1], Iv', qq⟩
  · rename_i e1
    cases hf
    exact (i_list h).run pins s σ H R I ⟨c, G, b, T, _, _, by simp only [lLst, e1], Iv', qq⟩
  · rename_i e1
    cases hf
    exact (i_tup h).run pins s σ H R I ⟨c, G, b, T, _, _, by simp only [lTup, e1], Iv', qq⟩
  · rename_i e1
    cases hf
    exact (i_str h).run pins s σ H R I ⟨c, G, b, T, _, _, by simp only [lStr, e1], Iv', qq⟩
  · cases hf⟩
/-- name = [comprehension], looking only -/
theorem peek_in {K : PySem.W.Frag} : ∀ σ H Q, teO K (fPeek f) σ H Q → teO K f σ H Q := fun σ H Q => by
  rintro ⟨c, G, b, T, r, b', hf, I, q⟩
  unfold fPeek at hf
  split at hf
  · rename_i m b1 e1
    split at hf
    · rename_i sf
      cases hf
      obtain ⟨c', G2, I2, _, back⟩ := I.look
      refine ⟨c', G2, b.map bF, [], _, b1, e1, I2, fun v G' H' I' => ?_⟩
      obtain ⟨G4, I4⟩ := back _ _ _ _ _ sf I'.unal
      exact q v G4 H' I4
    · cases hf
  · cases hf
theorem s_setLcP (i : Nat) {y : Str} {py : Pos} {elt tg iter : Expr} {ifs : List Expr} {scope : Scope} {own : List (Str × Nat)} {ix : List Nat} {l : Lv} {g : Gv} (hc : X.calm = true) (hN : X.N.Nodup) (hi : IM X tg iter l) (ok : BlkOk X.N X.env.scope scope own) (hix : ix.all (fun i => (own.map (·.2)).contains i) = true)
    (hg : ∀ (s : Shared) (H : Hp) (C : Addr) (cl : List (Str × Addr)) (fp : List Addr), GM (X.blk s H scope (compEnvC scope cl C X.env) fp) tg ix g) (ht : ∀ (s : Shared) (H : Hp) (C : Addr) (cl : List (Str × Addr)) (fp : List Addr), PTs (X.blk s H scope (compEnvC scope cl C X.env) fp) ifs (ttO X.K t))
    (he : ∀ (s : Shared) (H : Hp) (C : Addr) (cl : List (Str × Addr)) (fp : List Addr), EM (X.blk s H scope (compEnvC scope cl C X.env) fp) elt f) (hsw : swapsWith (.ListComp elt [⟨tg, iter, ifs, 0⟩] scope pos) (some (.Name y py)) pos.line X.env = pure true) (hy : X.N[i]? = some y := by rfl) (hyl : X.env.scope.names.lookup y = some .local := by rfl)
    {spos : Pos} (hl : spos.line = pos.line := by rfl) (hs : ∀ x, foldedSetIterable iter X.env x = pure x := by intro _; rfl) :
    SM X (.Assign [.Name y py] (.ListComp elt [⟨tg, iter, ifs, 0⟩] scope pos) spos) (sSet i (fPeek (fLc (own.map (·.2)) l g t f))) := (ps_setLc (i := i) hc hN hy hyl (by rw [hl]; exact hsw) hi ok hg ht he hs).wk fun D σ H => by
  rintro ⟨c, G, b, T, r, b', hf, I, q⟩
  unfold sSet at hf
  split at hf
  · rename_i m b1 e1
    split at hf
    · rename_i hl
      cases hf
      exact lc_in hix σ H _ (peek_in σ H _ ⟨c, G, b, T, m, b1, e1, I, fun v G' H' I' => q _ G' H' (I'.put hl)⟩)
    · cases hf
  · cases hf
theorem bool_of {a b : Bool} (h : (a && b) = true) : a = true ∧ b = true := Bool.and_eq_true_iff.mp h
end
end PL

namespace PL
open PySem PySem.Spec PyProof.Rows L2
def propB (K : PySem.W.Frag) (C f : Str) : Bool := He.eqO (PySem.W.findIn K (.ref (He.ga K C)) f) (some (some (.ref (He.ma K (He.ga K C) f)))) && (He.eqO (PySem.W.specialIn K (.ref (He.ma K (He.ga K C) f)) "__get__") (some (some (.builtin "property.__get__"))) && (decide (PySem.W.takesIn K (.ref (He.ma K (He.ga K C) f)) = some true) && (match PySem.W.recIn K (He.ma K (He.ga K C) f) "property" with
  | some (.ref _ :: _) => true
  | _ => false)))
theorem propB_ok {K : PySem.W.Frag} {C f : Str} (h : propB K C f = true) : PropOf K (He.ga K C) f (He.ma K (He.ga K C) f) (getterAt K C f) := by
  unfold propB at h
  simp only [Bool.and_eq_true] at h
  obtain ⟨h1, h2, h3, h4⟩ := h
  refine ⟨He.eqO_ok h1, He.eqO_ok h2, of_decide_eq_true h3, ?_⟩
  unfold getterAt
  split at h4
  · rename_i g r e
    rw [e]
    exact ⟨r, rfl⟩
  · cases h4
def okAt (K : PySem.W.Frag) (a : Addr) (q : Str) : Bool := PySem.W.keepIn K (.ref a) && (match K.lookup a with
  | some ⟨_, _, .func fd, _⟩ => PySem.W.codeIn K fd.code q && (He.dflB K fd.defaults [] && He.kwdB K fd.kwdefaults [])
  | _ => false)
theorem funD_at {K : PySem.W.Frag} {a : Addr} {d : He.DefD} (e : codeAt K a = d.val) (c : okAt K a d.qual = true) : ∃ fd, FunD K d.name d.qual d.params d.body d.scope [] [] a fd := by
  obtain ⟨kp, c2⟩ := bool_of c
  unfold codeAt at e
  cases q : K.lookup a with
  | none => rw [q] at c2; cases c2
  | some o =>
    obtain ⟨oc, od, dt, osl⟩ := o
    rw [q] at c2 e
    cases dt with
    | func fd =>
      obtain ⟨n1, n2, n3, n4, n5, n6, n7, n8, n9, n10, n11, n12, n13, n14, n15⟩ := fd
      have e2 : (some (n1, n2, n3, n4, n5, n6, n7, n15) : He.FnW) = some (d.name, d.qual, d.params, .stmts d.body, d.scope, mainGlobals, [], builtinsNs) := e
      simp only [Option.some.injEq, Prod.mk.injEq] at e2
      obtain ⟨h1, h2, h3, h4, h5, h6, h7, h8⟩ := e2
      subst h1 h2 h3 h4 h5 h6 h7 h8
      have c3 : (PySem.W.codeIn K n13 d.qual && (He.dflB K n8 [] && He.kwdB K n9 [])) = true := c2
      obtain ⟨k1, k2⟩ := bool_of c3
      obtain ⟨k3, k4⟩ := bool_of k2
      exact ⟨_, ⟨oc, od, n8, n9, n10, n11, n12, n13, n14, osl, rfl, q, k1, He.dflB_ok k3, He.kwdB_ok k4⟩, kp⟩
    | _ => cases c2
theorem obsP_at {ps : List Getter} {K : PySem.W.Frag} (h : obsP ps K = valP ps) (i : Nat) {q : Getter} (e : ps[i]? = some q := by rfl) : codeAt K (getterAt K q.1 q.2.1) = q.2.2.val := by
  have := congrArg (fun l : List He.FnW => l[i]?) h
  simp only [obsP, valP, List.getElem?_map, e, Option.map_some, Option.some.injEq] at this
  exact this
theorem tupN_ok {K : PySem.W.Frag} {x : Str} (h : tupN K x = true) : ∃ o, K.lookup (He.ga K x) = some o ∧ o.cls = .type "tuple" ∧ o.dict = none := by
  unfold tupN at h
  split at h
  · rename_i c dd sl e
    rw [beq_iff_eq] at h
    exact ⟨_, e, by rw [h], rfl⟩
  · cases h
end PL
namespace PL
open PySem PySem.Spec PyProof.Rows L2
theorem vals_rev : ∀ {vs : List V} {us : List Value}, Vals vs us → Vals vs.reverse us.reverse
  | [], _, .nil => .nil
  | v :: vs, _, .cons r t => by
    simp only [List.reverse_cons]
    exact (vals_rev t).append (.cons r .nil)
end PL

namespace PL
open PySem PySem.Spec PyProof.Rows L2
/-! ### what may come out in more ways than one -/
def M.plain : M → Bool
  | .d _ => false
  | .st _ => false
  | .box .. => false
  | _ => true
abbrev Wv := List B → (R → List B → Prop) → Prop
def tswO (K : PySem.W.Frag) (w : Wv) : TS := fun D σ H => ∃ c G b T post, w b post ∧ Iv K c G H σ b T ∧ ∀ r b', post r b' → endO K c T b' D r
abbrev SW (X : Cx) (st : Stmt) (w : Wv) : Prop := PS X st (tswO X.K w)
abbrev SWs (X : Cx) (st : List Stmt) (w : Wv) : Prop := PSs X st (tswO X.K w)
def wOf (g : Sv) : Wv := fun b post => ∃ r b', g b = some (r, b') ∧ post r b'
def wSeq (w1 w2 : Wv) : Wv := fun b post => w1 b fun r b1 => match r with
  | .nx => w2 b1 post
  | r => post r b1
def wIf (t : Tv) (w1 w2 : Wv) : Wv := fun b post => ∃ k b1, t b = some (k, b1) ∧ if k = true then w1 b1 post else w2 b1 post
/-- the fresh thing at slot i gets a place in the box at slot j -/
def wCell (i j : Nat) (g : Sv) : Wv := fun b post => ∃ b1 m k r as ms, g b = some (.nx, b1) ∧ b1[i]? = some (.o none m) ∧ (∃ C ns fs, m = .obj C ns fs) ∧ i ≠ j ∧ b1[j]? = some (.o k (.box r as ms)) ∧ ms.all M.plain = true ∧ ∀ a, a ∉ as → post .nx ((b1.set i (.d (.adr a))).set j (.o k (.box r (as ++ [a]) (ms ++ [m]))))
section
variable {X : Cx} {e e1 e2 e3 o value : Expr} {es : List Expr} {st : Stmt} {sts : List Stmt} {pos pos' p apos tpos q : Pos} {f f1 f2 f3 fr : Ev} {fs : Av} {src : List (Option Nat)} {x m C : Str} {t t1 t2 : Tv} {g g1 g2 : Sv} {w1 w2 : Wv} {i j k : Nat}
theorem sw_of (h : SM X st g) : SW X st (wOf g) := h.wk fun D σ H => by
  rintro ⟨c, G, b, T, post, ⟨r, b', e, hp⟩, I, q⟩
  exact ⟨c, G, b, T, r, b', e, I, q r b' hp⟩
theorem sws_of (h : SMs X sts g) : SWs X sts (wOf g) := h.wk fun D σ H => by
  rintro ⟨c, G, b, T, post, ⟨r, b', e, hp⟩, I, q⟩
  exact ⟨c, G, b, T, r, b', e, I, q r b' hp⟩
theorem sws_one (h : SW X st w1) : SWs X [st] w1 := pss_one h
theorem sws_cons (h1 : SW X st w1) (h2 : SWs X sts w2) : SWs X (st :: sts) (wSeq w1 w2) := (pss_cons h1 h2).wk fun D σ H => by
  rintro ⟨c, G, b, T, post, hw, I, q⟩
  refine ⟨c, G, b, T, _, hw, I, fun r b1 hp => ?_⟩
  cases r with
  | nx => exact fun σ' G' H' I' => ⟨c, G', b1, T, post, hp, I', fun r b' h => by have := q r b' h; cases r <;> exact this⟩
  | bk => exact q _ _ hp
  | ct => exact q _ _ hp
  | rt m => exact q _ _ hp
theorem sw_if (h : TM X e t) (h1 : SWs X sts w1) {sts2 : List Stmt} (h2 : SWs X sts2 w2) : SW X (.If e sts sts2 pos) (wIf t w1 w2) := (ps_if h h1 h2).wk fun D σ H => by
  rintro ⟨c, G, b, T, post, ⟨k, b1, e1, hk⟩, I, q⟩
  refine ⟨c, G, b, T, k, b1, e1, I, fun G' H' I' => ?_⟩
  cases k with
  | true =>
    rw [if_pos rfl] at hk
    exact iteT ⟨c, G', b1, T, post, hk, I', q⟩
  | false =>
    rw [if_neg (by simp)] at hk
    exact iteF ⟨c, G', b1, T, post, hk, I', q⟩
theorem RM.plainAt {K : PySem.W.Frag} {G H : Hp} {m : M} {v : V} {f : List Addr} (h : RM K G H m v f) (hp : m.plain = true) : ∃ a, v = .ref a ∧ a ∈ f := by
  cases m with
  | d x => simp [M.plain] at hp
  | box a b c => simp [M.plain] at hp
  | st a => simp [M.plain] at hp
  | lst ms =>
    simp only [RM] at h
    obtain ⟨p, xs, q, e, _, _, rfl⟩ := h
    exact ⟨p, e, by simp⟩
  | obj C ns ms =>
    simp only [RM] at h
    obtain ⟨p, dx, xs, q, e, _, _, _, rfl⟩ := h
    exact ⟨p, e, by simp⟩
  | dic ks ms =>
    simp only [RM] at h
    obtain ⟨p, xs, q, e, _, _, _, rfl⟩ := h
    exact ⟨p, e, by simp⟩
theorem RML.nodD {K : PySem.W.Frag} {G H : Hp} : ∀ {ms : List M} {as : List Addr} {f : List Addr}, RML K G H ms (as.map V.ref) f → ms.all M.plain = true → ∀ a ∈ as, a ∈ f
  | [], as, f, h, _ => by
    simp only [RML] at h
    have : as = [] := by simpa using h.1
    subst this
    simp
  | m :: ms, as, f, h, hd => by
    cases as with
    | nil => simp
    | cons a as =>
      simp only [RML, List.map_cons] at h
      obtain ⟨y, ys, f1, f2, e1, h2, h3, rfl⟩ := h
      obtain ⟨rfl, rfl⟩ := List.cons.inj e1
      simp only [List.all_cons, Bool.and_eq_true] at hd
      intro x hx
      rcases List.mem_cons.mp hx with rfl | hx
      · obtain ⟨a', e, h4⟩ := RM.plainAt h2 hd.1
        cases e
        exact List.mem_append_left _ h4
      · exact List.mem_append_right _ (RML.nodD h3 hd.2 x hx)
theorem sw_cell (i j : Nat) (h : SM X st g) : SW X st (wCell i j g) := h.wk fun D σ H => by
  rintro ⟨c, G, b, T, post, ⟨b1, m, k, r, as, ms, e1, hi, ⟨C, ns, fs, rfl⟩, ne, hj, hd, hp⟩, I, q⟩
  refine ⟨c, G, b, T, .nx, b1, e1, I, fun σ' G' H' I' => ?_⟩
  obtain ⟨v, sv, I2⟩ := I'.take hi
  have hj2 : (b1.set i .no)[j]? = some (.o k (.box r as ms)) := by rw [List.getElem?_set_ne ne]; exact hj
  obtain ⟨s0, fi, ft, z1, z2, z3, nd, gn, old, go⟩ := Iv.slot (T1 := [(M.obj C ns fs, v)]) I2 hj2
  obtain ⟨z4, z5⟩ := rt_one z3
  obtain ⟨a, rfl, ha⟩ := RM.plainAt z4 rfl
  obtain ⟨v0, rfl, y1, y2⟩ := z2
  simp only [RM] at y1
  obtain ⟨rfl, y1⟩ := y1
  have na : a ∉ as := fun hm => (List.nodup_append.mp nd).2.2 a (RML.nodD y1 hd a hm) a ha rfl
  have I3 := go G' H' (.o k (.box r (as ++ [a]) (ms ++ [.obj C ns fs]))) (some (.ref r)) (fi ++ ft) [] [] ⟨Same.refl _, I'.st.gh, fun _ _ h => h, fun _ _ h _ => h, fun _ h => h⟩ ⟨_, rfl, ?_, ?_⟩ rfl (by simpa using nd) (fun x hx => by
    rcases List.mem_append.mp (by simpa using hx) with z | z
    · exact .inl z
    · exact .inr (.inl z)) (fun x hx => gn x (by simpa using hx))
  · rw [set_self z1] at I3
    have I4 : Iv X.K c G' H' σ' ((b1.set i .no).set j (.o k (.box r (as ++ [a]) (ms ++ [.obj C ns fs])))) ((.d (.adr a), .ref a) :: T) := Iv.pushD I3 (by simp [Rp])
    have hl : i < b1.length := (List.getElem?_eq_some_iff.mp hi).1
    have I5 := I4.put (i := i) (by simpa using hl)
    rw [set_self sv] at I5
    have eb : (((b1.set i .no).set j (.o k (.box r (as ++ [a]) (ms ++ [.obj C ns fs])))).set i (M.d (.adr a)).toB) = (b1.set i (.d (.adr a))).set j (.o k (.box r (as ++ [a]) (ms ++ [.obj C ns fs]))) := by
      rw [List.set_comm _ _ (Ne.symm ne), List.set_set]
      rfl
    rw [eb] at I5
    exact q .nx _ (hp a na) σ' G' H' I5
  · simp only [RM]
    refine ⟨by first | trivial | rfl, ?_⟩
    rw [List.map_append]
    exact RML.app y1 z4
  · cases k with
    | none =>
      intro x hx
      rcases List.mem_append.mp hx with z | z
      · exact y2 x z
      · exact old x z
    | some jj =>
      refine ⟨y2.1, fun x hx => ?_⟩
      rcases List.mem_append.mp hx with z | z
      · exact y2.2 x z
      · exact .inr (old x z)
/-! ### promises of such defs -/
abbrev Wn := List M → (M → List M → Prop) → Prop
def spW (K : PySem.W.Frag) (W : Wn) : Sp := fun vs H Q _ => ∃ (G : Hp) (ms : List M) (fs : List (List Addr)) (post : M → List M → Prop), W ms post ∧ Same G H ∧ RMs K G H ms vs fs ∧ fs.flatten.Nodup ∧ (∀ a ∈ fs.flatten, G a = none) ∧
  ∀ r os, post r os → ∀ v G' H' fr fo, Stp fs.flatten G H G' H' → RM K G' H' r v fr → IOK K G' H' H ms vs fs os fo → (fr ++ fo).Nodup → (∀ a ∈ fr ++ fo, G' a = none) → (∀ a ∈ fr, H a = none) → Q v H'
def wnF (np nl : Nat) (w : Wv) : Wn := fun ms post => ms.length = np ∧ w (startE ms 0 ++ List.replicate nl .no) fun r b => match r with
  | .nx => ∃ os, finals ms 0 b = some os ∧ post (.d .non) os
  | .rt m => ∃ os, finals ms 0 b = some os ∧ post m os
  | _ => False
theorem fn_okW {P : Program} {w : World} {K : PySem.W.Frag} {mg : Str → Option Value} {base : Heap} {x qual : Str} {params : Arguments} {body : List Stmt} {scope : Scope} {dvs : List V} {kws : List (Str × V)} {f : Addr} {fd : FuncData} {N ps : List Str} {k : Nat} {wv : Wv}
    (F : FunD K x qual params body scope dvs kws f fd) (S : FnScope N ps scope)
    (hbody : ∀ (cdv : Value) (A : Around) (outer : List Env) (s : Shared) (H : Hp) (E : XK), Room k (A.deeper (envOfC qual scope s.heap.objs.size f cdv)) → SWs (cxOf CX0 P w K mg base N qual scope f cdv A outer s H E).nox body wv) :
    FnOk P w K mg base CX0 (k + 1) f fd ps (spW K (wnF ps.length (N.length - ps.length) wv)) := by
  refine F.ok S (fun vs H Q E h => ?_) (fun cdv A outer s H vs Q E hr h => ⟨tswO K wv, (hbody cdv A outer s H E hr).nox, ?_⟩)
  · obtain ⟨G, ms, fs, post, e, _, h2, _⟩ := h
    rw [← (RMs.len h2).1]; exact e.1
  · obtain ⟨G, ms, fs, post, e, h1, h2, h3, h4, h5⟩ := h
    obtain ⟨q, e⟩ := e
    have ll := RMs.len h2
    have hst : L2.start N vs = vs.map some ++ List.replicate (N.length - ps.length) none := by
      unfold L2.start
      rw [← ll.1, q]
    rw [hst]
    let c : Cg := ⟨H, G, fs.flatten, fun j => fs.getD j [], vs⟩
    have hv : ∀ i, i < vs.length → c.VS[0 + i]? = vs[i]? := fun i _ => by simp [c]
    have hf : ∀ i, i < fs.length → c.PP (0 + i) = fs.getD i [] := fun i _ => by simp [c]
    have I : Iv K c G H (vs.map some ++ List.replicate (N.length - ps.length) none) (startE ms 0 ++ List.replicate (N.length - ps.length) .no) [] := by
      refine ⟨⟨Same.refl _, h1, fun _ _ h => h, fun _ _ h _ => h, fun _ h => h⟩, fs.flatten, [], RE.start (c := c) h2 hv hf, rfl, by simpa using h3, fun a ha => ?_⟩
      simp only [List.append_nil] at ha
      exact ⟨h4 a ha, .inl ha⟩
    have done : ∀ (b' : List B) (m : M) (os : List M) σ' G' H' T v, finals ms 0 b' = some os → Iv K c G' H' σ' b' T → (T = [(m, v)] ∨ (T = [] ∧ m = .d .non ∧ v = .non)) → post m os → Q v H' := by
      intro b' m os σ' G' H' T v ef I' hT hp
      obtain ⟨st, f1, f2, r1, r2, nd, hg⟩ := I'
      obtain ⟨fo, fx, k1, k2⟩ := RE.fin r1 ef ll.1 ll.2 hv hf
      have P : (f1 ++ f2).Perm ((f2 ++ fo) ++ fx) := by
        refine (List.Perm.append_right f2 k2).trans ?_
        refine List.perm_append_comm.trans ?_
        rw [List.append_assoc]
      have N2 := P.nodup_iff.mp nd
      have N3 := (List.nodup_append.mp N2).1
      have hin : ∀ a ∈ f2 ++ fo, G' a = none := fun a ha => (hg a (P.mem_iff.mpr (List.mem_append_left _ ha))).1
      rcases hT with rfl | ⟨rfl, rfl, rfl⟩
      · obtain ⟨q1, q2⟩ := rt_one r2
        exact h5 m os hp v G' H' f2 fo st q1 k1 N3 hin q2
      · have r2 : f2 = [] := r2
        subst r2
        exact h5 _ os hp .non G' H' [] fo st (by simp [RM, Rp]) k1 N3 hin (by simp)
    refine ⟨c, G, _, [], _, e, I, fun r b' hp => ?_⟩
    cases r with
    | nx =>
      obtain ⟨os, ef, hp⟩ := hp
      exact fun σ' G' H' I' => done b' _ os σ' G' H' [] .non ef I' (.inr ⟨rfl, rfl, rfl⟩) hp
    | bk => exact hp.elim
    | ct => exact hp.elim
    | rt m =>
      obtain ⟨os, ef, hp⟩ := hp
      exact fun v σ' G' H' I' => done b' _ os σ' G' H' [(m, v)] v ef I' (.inl rfl) hp
end
end PL

namespace PL
open PySem PySem.Spec PyProof.Rows L2
abbrev Ew := List B → (M → List B → Prop) → Prop
def tewO (K : PySem.W.Frag) (w : Ew) : TE := fun σ H Q => ∃ c G b T post, w b post ∧ Iv K c G H σ b T ∧ ∀ m b', post m b' → ∀ v G' H', Iv K c G' H' σ b' ((m, v) :: T) → Q v H'
abbrev EW (X : Cx) (e : Expr) (w : Ew) : Prop := PE X e (tewO X.K w)
section
variable {K : PySem.W.Frag} {c : Cg} {G G' H H' : Hp} {σ : L2.St} {b : List B} {T T1 : List (M × V)} {p : Addr} {o : HO} {d : D} {v : V} {m : M} {i : Nat}
theorem Iv.callW {W : Wn} {src : List (Option Nat)} {ms : List M} {us vs : List V} {full : List M} {ks : Ks} {b2 : List B} {post : M → List B → Prop} {Q : VK} {E : XK}
    (I : Iv K c G H σ b (zT ms us ++ T)) (hl : ms.length = us.length) (av : AV σ src us vs) (e1 : fill src ms b = some (full, ks, b2)) (e2 : W full fun r os => ∃ b3, putb src ks full os b2 = some b3 ∧ post r b3)
    (q : ∀ r b3, post r b3 → ∀ v G' H', Iv K c G' H' σ b3 ((r, v) :: T) → Q v H') : spW K W vs H Q E := by
  obtain ⟨st, f1, f2, h1, h2, nd, hg⟩ := I
  obtain ⟨ft, fT, t1, t2, rfl⟩ := RT.app.mp h2
  obtain ⟨ha, old⟩ := RT.list hl t1
  obtain ⟨fs, fh, i1, i2, i3, i4⟩ := take_args e1 h1 ha av old
  have ll := i1.len
  have P : (f1 ++ (ft ++ fT)).Perm (fs.flatten ++ (fh ++ fT)) := by
    rw [← List.append_assoc, ← List.append_assoc]
    exact List.Perm.append_right fT i3
  have N := P.nodup_iff.mp nd
  have N1 := List.nodup_append.mp N
  have hg' : ∀ a ∈ fs.flatten ++ (fh ++ fT), G a = none ∧ (a ∈ c.PS ∨ c.H0 a = none) := fun a ha => hg a (P.mem_iff.mpr ha)
  refine ⟨G, full, fs, _, e2, st.gh, i1, N1.1, fun a ha => (hg' a (by simp [ha])).1, fun r os hp v G' H' fr fo S rr io nd2 gn fresh => ?_⟩
  obtain ⟨b3, e3, hp⟩ := hp
  have hn : ∀ a, H a = none → c.H0 a = none := fun a z => by
    cases q : c.H0 a with
    | none => rfl
    | some o => exact absurd z (st.dm a (by rw [q]; simp))
  have there : ∀ a ∈ fh ++ fT, H a ≠ none := fun a ha => by
    rcases List.mem_append.mp ha with ha | ha
    · exact i2.there a ha
    · exact t2.there a ha
  have out : ∀ a ∈ fh ++ fT, a ∉ fs.flatten := fun a ha hm => N1.2.2 a hm a ha rfl
  have same : ∀ a ∈ fh ++ fT, H' a = H a := fun a ha => by
    cases q : H a with
    | none => exact absurd q (there a ha)
    | some o => exact S.kp a o q (out a ha)
  obtain ⟨f3, f4, j1, j2⟩ := i4 G' H' os fo b3 S.g (fun a ha => same a (by simp [ha])) hn io e3
  have fosub := io.sub
  refine q r b3 hp v G' H' ⟨st.trans S fun a ha => (hg' a (List.mem_append_left _ ha)).2, f3, fr ++ fT, j1, ⟨fr, fT, rr, fun a ha => hn a (fresh a ha), t2.frame S.g (fun a ha => same a (by simp [ha])), rfl⟩, ?_, ?_⟩
  · have N2 : ((fr ++ fo) ++ (fh ++ fT)).Nodup := by
      refine List.nodup_append.mpr ⟨nd2, N1.2.1, fun x hx y hy e => ?_⟩
      subst e
      rcases List.mem_append.mp hx with z | z
      · exact there x hy (fresh x z)
      · rcases fosub x z with z | z
        · exact out x hy z
        · exact there x hy z
    have P2 : ((fr ++ fo) ++ (fh ++ fT)).Perm ((f3 ++ (fr ++ fT)) ++ f4) := by
      rw [List.perm_iff_count]
      intro z
      have z1 := j2.count_eq z
      simp only [List.count_append] at z1 ⊢
      omega
    exact (List.nodup_append.mp (P2.nodup_iff.mp N2)).1
  · intro a ha
    have key : a ∈ fo ∨ a ∈ fh ∨ a ∈ fr ∨ a ∈ fT := by
      rcases List.mem_append.mp ha with z | z
      · have := j2.mem_iff.mpr (List.mem_append_left f4 z)
        rcases List.mem_append.mp this with z | z
        · exact .inl z
        · exact .inr (.inl z)
      · rcases List.mem_append.mp z with z | z
        · exact .inr (.inr (.inl z))
        · exact .inr (.inr (.inr z))
    have old2 : ∀ a ∈ fh ++ fT, G' a = none ∧ (a ∈ c.PS ∨ c.H0 a = none) := fun a ha =>
      ⟨S.nw a (there a ha) (hg' a (List.mem_append_right _ ha)).1, (hg' a (List.mem_append_right _ ha)).2⟩
    rcases key with z | z | z | z
    · refine ⟨gn a (by simp [z]), ?_⟩
      rcases fosub a z with z | z
      · exact (hg' a (List.mem_append_left _ z)).2
      · exact .inr (hn a z)
    · exact old2 a (by simp [z])
    · exact ⟨gn a (by simp [z]), .inr (hn a (fresh a z))⟩
    · exact old2 a (by simp [z])
end
structure MetWOk (P : Program) (w : World) (K : PySem.W.Frag) (mg : Str → Option Value) (base : Heap) (k : Nat) (C m : Str) (W : Wn) : Prop where
  cls : Cls K (He.ga K C)
  ex : ∃ f fd ps, Meth K (He.ga K C) m f ∧ Binds K fd ps [] ∧ FnOk P w K mg base CX0 k f fd ps (spW K W)
def wMethO (C m : Str) (W : Wn) (j : Nat) (src : List (Option Nat)) (fs : Av) : Ew := fun b post => ∃ C' ns ms0 ms b1 full ks b2, getP b j [] = some (.obj C' ns ms0) ∧ C' = C ∧ fldI m ns = none ∧ fs b = some (ms, b1) ∧ fill (some j :: src) ms b1 = some (full, ks, b2) ∧
  W full fun r os => ∃ b3, putb (some j :: src) ks full os b2 = some b3 ∧ post r b3
/-- what is walked -/
abbrev Lw2 := List B → (List D → List B → Prop) → Prop
def tiwO (K : PySem.W.Frag) (w : Lw2) : TI := fun σ H R => ∃ c G b T post, w b post ∧ Iv K c G H σ b T ∧ ∀ ds b', post ds b' → ∀ J s G' H', Iv K c G' H' σ b' (s ++ T) → ItOk K J s ds → R J H'
abbrev IW (X : Cx) (tg e : Expr) (w : Lw2) : Prop := PI X tg e (tiwO X.K w)
def wList (w : Ew) : Lw2 := fun b post => w b fun m b1 => ∃ ds, m.toD = .lst ds ∧ post ds b1
def wFor (l : Lw2) (g : Gv) (body : Sv) : Wv := fun b post => l b fun ds b1 => ∃ r b2, forL g body ds b1 = some (r, b2) ∧ post r b2
section
variable {X : Cx} {e e1 e2 e3 o value : Expr} {es : List Expr} {st : Stmt} {sts : List Stmt} {pos pos' p apos tpos q : Pos} {f f1 f2 f3 fr : Ev} {fs : Av} {src : List (Option Nat)} {x m C : Str} {t t1 t2 : Tv} {g g1 g2 : Sv} {w1 w2 : Wv} {we : Ew} {i j k : Nat} {W : Wn}
theorem e_methOW {pl : Sem Bool} {px : Pos} (j : Nat) (h : MetWOk X.prog X.w X.K X.mg X.base k C m W) (hr : Room k X.A) (ha : AM X (e :: es) src fs)
    (hst : starEach (e :: es) X.env = (false, eval e X.env) :: starEach es X.env := by rfl) (hpl : (backTo pos (starEach es X.env)).any (·.1) = false := by rfl)
    (ht : eval (.Call (.Attribute (.Name x px) m apos) (e :: es) [] pos) X.env = (do
      let ov ← eval (.Name x px) X.env
      standAt apos.atName
      let (f, first) ← holding [ov] (getMethod ov m pl)
      callWith pos f first (backTo pos (starEach (e :: es) X.env)) (backToKw pos (keywordEach [] X.env))) := by rfl)
    (hN : X.N[j]? = some x := by rfl) (hv : Vis X.env.scope x := by first | exact Or.inl rfl | exact Or.inr (Or.inl rfl) | exact Or.inr (Or.inr rfl)) (hdb : (x == ("__debug__" : Str)) = false := by decide)
    (hcd : (x == ("__classdict__" : Str)) = false := by decide) :
    EW X (.Call (.Attribute (.Name x px) m apos) (e :: es) [] pos) (wMethO C m W j src fs) := by
  obtain ⟨f, fd, ps, h1, h3, h5⟩ := h.ex
  refine (pe_meth (E := E0) (dvs := []) (pe_var hN hv hdb hcd) h.cls h1 h5 hr h3 .nil pass0 ha hst hpl ht).wk fun σ H Q => ?_
  rintro ⟨c, G, b, T, post, ⟨C', ns, ms0, ms, b1, full, ks, b2, eg, rfl, hm, ea, ef, hw⟩, I, q⟩
  obtain ⟨a, dx, fs', w1, w2, w3⟩ := getP_obj I eg hm
  refine ⟨_, w1, a, dx, fs', rfl, w2, w3, c, G, b, T, ms, b1, ea, I, fun us vs G2 H2 hl av I2 => ?_⟩
  have := Iv.callW (src := some j :: src) (vs := .ref a :: vs) (E := E0) I2 hl ⟨.ref a, vs, rfl, w1, av⟩ ef hw q
  simpa using this
theorem i_listW {tg : Expr} (h : EW X e we) : IW X tg e (wList we) := (pi_list h).wk fun σ H R => by
  rintro ⟨c, G, b, T, post, hw, I, q⟩
  refine ⟨c, G, b, T, _, hw, I, fun m b1 hp v G1 H1 I1 => ?_⟩
  obtain ⟨ds, ed, hp⟩ := hp
  obtain ⟨G2, I2⟩ := I1.freeze
  rw [ed] at I2
  have r := I2.topD
  simp only [Rp] at r
  obtain ⟨p, xs, rfl, h2, h3⟩ := r
  exact ⟨p, rfl, ⟨xs, I2.st.gh.seq (SqL.of h2)⟩, q ds b1 hp _ [_] G2 H1 I2 (itok_list (.inl rfl))⟩
theorem s_forW {tg iter : Expr} {ix : List Nat} {l : Lw2} {g : Gv} {g1 : Sv} (hp : PassesOwn (model X.prog X.w) X.A X.env X.xe) (hc : X.calm = true) (hi : IW X tg iter l) (hg : GM X tg ix g) (hb : SMs X sts g1) (hs : ∀ x, foldedSetIterable iter X.env x = pure x := by intro _; rfl) : SW X (.For tg iter sts [] pos) (wFor l g g1) := (ps_for hp hc hi hg hb hs).wk fun D σ H => by
  rintro ⟨c, G, b, T, post, hw, I, q0⟩
  refine ⟨c, G, b, T, _, hw, I, fun ds b1 hds J s G1 H1 I1 ok => ?_⟩
  obtain ⟨r, b', hf, hpost⟩ := hds
  have q := q0 r b' hpost
  refine ⟨fun i m σ H => m = ds.length - i ∧ i ≤ ds.length ∧ ∃ G b2, Iv X.K c G H σ b2 (s ++ T) ∧ forL g g1 (ds.drop i) b2 = some (r, b'), ⟨ds.length, by simp, Nat.zero_le _, G1, b1, I1, by simpa using hf⟩, ?_⟩
  rintro i m σ H ⟨rfl, hi, G2, b2, I2, hl⟩
  obtain ⟨o1, o2⟩ := ok c G2 H σ b2 T i I2
  by_cases hlt : i < ds.length
  · obtain ⟨go, yl⟩ := o1 hlt
    refine .inr ⟨go, fun σ' H' => ∃ G b2, Iv X.K c G H' σ' b2 (s ++ T) ∧ forL g g1 (ds.drop (i + 1)) b2 = some (r, b'), fun σ' H' ⟨G3, b3, I3, h3⟩ => ⟨ds.length - (i + 1), by omega, rfl, hlt, G3, b3, I3, h3⟩, fun x H' y => ?_⟩
    obtain ⟨d, G3, hd, I3⟩ := yl x H' y
    rw [List.drop_eq_getElem_cons hlt] at hl
    have e : ds[i] = d := by rw [List.getElem?_eq_getElem hlt] at hd; exact Option.some.inj hd
    rw [e] at hl
    unfold forL at hl
    split at hl
    · rename_i b3 e3
      refine ⟨c, G3, b2, s ++ T, d, b3, e3, I3, fun σ4 G4 H4 _ I4 => ?_⟩
      split at hl
      · rename_i b4 e4
        exact ⟨c, G4, b3, s ++ T, .nx, b4, e4, I4, fun σ5 G5 H5 I5 => ⟨G5, b4, I5, hl⟩⟩
      · rename_i b4 e4
        exact ⟨c, G4, b3, s ++ T, .ct, b4, e4, I4, fun σ5 G5 H5 I5 => ⟨G5, b4, I5, hl⟩⟩
      · rename_i b4 e4
        cases hl
        exact ⟨c, G4, b3, s ++ T, .bk, b', e4, I4, fun σ5 G5 H5 I5 => q σ5 G5 H5 I5.dropN⟩
      · rename_i m b4 e4
        cases hl
        refine ⟨c, G4, b3, s ++ T, .rt m, b', e4, I4, fun v σ5 G5 H5 I5 => q v σ5 G5 H5 ?_⟩
        have P : ((m, v) :: (s ++ T)).Perm (s ++ (m, v) :: T) := List.perm_middle.symm
        exact (I5.perm P).dropN
      · cases hl
    · cases hl
  · have e : i = ds.length := by omega
    subst e
    simp only [List.drop_length, forL, Option.some.injEq, Prod.mk.injEq] at hl
    obtain ⟨rfl, rfl⟩ := hl
    exact .inl ⟨o2 (Nat.le_refl _), q σ G2 H I2.dropN⟩
end
end PL

namespace PL
open PySem PySem.Spec PyProof.Rows L2
/-! ### an instance whose field n is a list of instances: opened, closed -/
def adrM (a : Addr) : M := .d (.adr a)
def openM (n : Str) (m : M) (a : Addr) (as : List Addr) : M := match m with
  | .obj C ns ms => (match fldI n ns with
    | some i => (match ms[i]? with
      | some (.lst ls) => .box a (a :: as) (.obj C ns (ms.set i (.lst (as.map adrM))) :: ls)
      | _ => m)
    | none => m)
  | m => m
/-- how many -/
def openN (n : Str) (m : M) : Option Nat := match m with
  | .obj C ns ms => (match fldI n ns with
    | some i => (match ms[i]? with
      | some (.lst ls) => if ls.all M.plain = true then some ls.length else none
      | _ => none)
    | none => none)
  | _ => none
def adrsOf : List M → Option (List Addr)
  | [] => some []
  | .d (.adr a) :: ms => (match adrsOf ms with
    | some as => some (a :: as)
    | none => none)
  | _ => none
def pick (as : List Addr) (cs : List M) : List Addr → Option (List M)
  | [] => some []
  | k :: ks => (match cs[as.idxOf k]?, pick as cs ks with
    | some c, some xs => some (c :: xs)
    | _, _ => none)
def closeM (n : Str) : M → Option M
  | .box a as cs => (match cs[as.idxOf a]? with
    | some (.obj C ns ms) => (match fldI n ns with
      | some i => (match ms[i]? with
        | some (.lst xs) => (match adrsOf xs with
          | some ks => if (a :: ks).Nodup then (match pick as cs ks with
            | some ls => some (.obj C ns (ms.set i (.lst ls)))
            | none => none) else none
          | none => none)
        | _ => none)
      | none => none)
    | _ => none)
  | _ => none
section
variable {K : PySem.W.Frag} {c : Cg} {G G' H H' : Hp} {σ : L2.St} {b : List B} {T T1 : List (M × V)} {p : Addr} {o : HO} {d : D} {v : V} {m : M} {i : Nat}
theorem RML.adrs : ∀ {ms : List M} {xs : List V} {f : List Addr}, RML K G H ms xs f → ms.all M.plain = true → f.Nodup → ∃ as : List Addr, xs = as.map V.ref ∧ as.length = ms.length ∧ as.Nodup ∧ ∀ a ∈ as, a ∈ f
  | [], xs, f, h, _, _ => by
    simp only [RML] at h
    exact ⟨[], by simp [h.1], rfl, by simp, by simp⟩
  | m :: ms, xs, f, h, hp, nd => by
    simp only [RML] at h
    obtain ⟨y, ys, f1, f2, rfl, h2, h3, rfl⟩ := h
    simp only [List.all_cons, Bool.and_eq_true] at hp
    have N := List.nodup_append.mp nd
    obtain ⟨as, e1, e2, e3, e4⟩ := RML.adrs h3 hp.2 N.2.1
    obtain ⟨a, rfl, ha⟩ := RM.plainAt h2 hp.1
    refine ⟨a :: as, by rw [e1]; rfl, by simp [e2], List.nodup_cons.mpr ⟨fun hm => N.2.2 a ha a (e4 a hm) rfl, e3⟩, fun x hx => ?_⟩
    rcases List.mem_cons.mp hx with rfl | hx
    · simp [ha]
    · simp [e4 x hx]
theorem RML.ofAdrs : ∀ {as : List Addr}, RML K G H (as.map adrM) (as.map V.ref) []
  | [] => by simp [RML]
  | a :: as => by
    simp only [List.map_cons, RML]
    exact ⟨.ref a, _, [], [], rfl, by simp [adrM, RM, Rp], RML.ofAdrs, rfl⟩
theorem RML.atAdrs : ∀ {xs : List M} {ys : List V} {f : List Addr} {ks : List Addr}, RML K G H xs ys f → adrsOf xs = some ks → ys = ks.map V.ref ∧ f = []
  | [], ys, f, ks, h, e => by
    simp only [adrsOf, Option.some.injEq] at e
    simp only [RML] at h
    subst e
    exact h
  | x :: xs, ys, f, ks, h, e => by
    unfold adrsOf at e
    split at e
    · rename_i e0
      cases e0
    · rename_i a ms e0
      obtain ⟨rfl, rfl⟩ := List.cons.inj e0
      split at e
      · rename_i as e1
        cases e
        simp only [RML, RM, Rp] at h
        obtain ⟨y, ys, f1, f2, rfl, ⟨rfl, rfl⟩, h3, rfl⟩ := h
        obtain ⟨q1, q2⟩ := RML.atAdrs h3 e1
        subst q1 q2
        exact ⟨rfl, rfl⟩
      · cases e
    · cases e
theorem RM.open_ {n : Str} {f : List Addr} {N : Nat} (h : RM K G H m v f) (nd : f.Nodup) (e : openN n m = some N) : ∃ a as f', v = .ref a ∧ as.length = N ∧ (a :: as).Nodup ∧ RM K G H (openM n m a as) v f' ∧ f.Perm f' := by
  unfold openN at e
  split at e
  · rename_i C ns ms
    split at e
    · rename_i i hi
      split at e
      · rename_i ls hm
        split at e
        · rename_i hp
          cases e
          simp only [RM] at h
          obtain ⟨a, dx, xs, q, rfl, h2, h3, h4, rfl⟩ := h
          obtain ⟨vl, fl, fr, w1, w2, w3, w4⟩ := RML.split h4 hm
          simp only [RM] at w2
          obtain ⟨pl, ys, ql, rfl, y1, y2, rfl⟩ := w2
          have nd2 := List.nodup_cons.mp nd
          have ndl : (pl :: ql).Nodup := (List.nodup_append.mp (w3.nodup_iff.mp nd2.2)).1
          obtain ⟨as, rfl, e2, e3, e4⟩ := RML.adrs y2 hp (List.nodup_cons.mp ndl).2
          obtain ⟨fn, z1, z2⟩ := w4 G H (.lst (as.map adrM)) (.ref pl) [pl] (Same.refl _) (fun _ _ => rfl) (by
            simp only [RM]
            exact ⟨pl, _, [], rfl, y1, RML.ofAdrs, rfl⟩)
          rw [set_self w1] at z1
          have na : a ∉ as := fun hm => nd2.1 (w3.mem_iff.mpr (List.mem_append_left _ (by simp [e4 a hm])))
          refine ⟨a, as, (a :: fn) ++ ql, rfl, e2, List.nodup_cons.mpr ⟨na, e3⟩, ?_, ?_⟩
          · simp only [openM, hi, hm, RM, List.map_cons, RML]
            refine ⟨by first | trivial | rfl, .ref a, _, a :: fn, ql, rfl, ⟨a, dx, xs, fn, by first | trivial | rfl, h2, h3, z1, rfl⟩, y2, rfl⟩
          · rw [List.perm_iff_count]
            intro x
            have k1 := w3.count_eq x
            have k2 := z2.count_eq x
            simp only [List.count_append, List.count_cons, List.count_nil] at k1 k2 ⊢
            omega
        · cases e
      · cases e
    · cases e
  · cases e
theorem idxOf_inj {a b : Addr} {as : List Addr} (h : as.idxOf a < as.length) (e : as.idxOf a = as.idxOf b) (hb : as.idxOf b < as.length) : a = b := by
  have h1 := idxOf_get h
  have h2 := idxOf_get hb
  rw [e, h2] at h1
  exact (Option.some.inj h1).symm
theorem RML.pick {as : List Addr} : ∀ {ks : List Addr} {cs ls : List M} {f : List Addr}, RML K G H cs (as.map V.ref) f → pick as cs ks = some ls → ks.Nodup → ∃ f1 fr, RML K G H ls (ks.map V.ref) f1 ∧ f.Perm (f1 ++ fr)
  | [], cs, ls, f, h, e, _ => by
    simp only [PL.pick, Option.some.injEq] at e
    subst e
    exact ⟨[], f, by simp [RML], by simp⟩
  | k :: ks, cs, ls, f, h, e, nd => by
    unfold PL.pick at e
    split at e
    · rename_i c0 xs e1 e2
      cases e
      have nd2 := List.nodup_cons.mp nd
      obtain ⟨v, fi, fr, w1, w2, w3, w4⟩ := RML.split h e1
      have hl : as.idxOf k < as.length := by
        have := (List.getElem?_eq_some_iff.mp w1).1
        simpa using this
      have hv : v = .ref k := by
        rw [List.getElem?_map, idxOf_get hl] at w1
        simpa using w1.symm
      subst hv
      obtain ⟨f', z1, z2⟩ := w4 G H (.d .any) (.ref k) [] (Same.refl _) (fun _ _ => rfl) rm_any
      rw [set_self w1] at z1
      have e3 : PL.pick as (cs.set (as.idxOf k) (.d .any)) ks = some xs := by
        have : ∀ {ks : List Addr} {xs : List M}, PL.pick as cs ks = some xs → k ∉ ks → PL.pick as (cs.set (as.idxOf k) (.d .any)) ks = some xs := by
          intro ks
          induction ks with
          | nil => intro xs h _; exact h
          | cons x ks ih =>
            intro xs h hk
            unfold PL.pick at h ⊢
            split at h
            · rename_i c1 ys q1 q2
              cases h
              have hne : as.idxOf k ≠ as.idxOf x := fun z => by
                have hlen : cs.length = as.length := by
                  have := (show cs.length = (as.map V.ref).length from RML.len ‹RML K G H cs (as.map V.ref) f›)
                  simpa using this
                have hx : as.idxOf x < as.length := by
                  rw [← hlen]; exact (List.getElem?_eq_some_iff.mp q1).1
                exact hk (by rw [idxOf_inj hl z hx]; simp)
              rw [List.getElem?_set_ne hne, q1, ih q2 (fun z => hk (by simp [z]))]
            · cases h
        exact this e2 nd2.1
      obtain ⟨f1, fr1, y1, y2⟩ := RML.pick z1 e3 nd2.2
      refine ⟨fi ++ f1, fr1, ?_, ?_⟩
      · simp only [List.map_cons, RML]
        exact ⟨.ref k, _, fi, f1, rfl, w2, y1, rfl⟩
      · rw [List.perm_iff_count]
        intro x
        have k1 := w3.count_eq x
        have k2 := z2.count_eq x
        have k3 := y2.count_eq x
        simp only [List.count_append, List.count_nil] at k1 k2 k3 ⊢
        omega
    · cases e
theorem RM.close_ {n : Str} {f : List Addr} {m' : M} (h : RM K G H m v f) (e : closeM n m = some m') : ∃ f' fr, RM K G H m' v f' ∧ f.Perm (f' ++ fr) := by
  unfold closeM at e
  split at e
  · rename_i a as cs
    split at e
    · rename_i C ns ms ea
      split at e
      · rename_i i hi
        split at e
        · rename_i xs hm
          split at e
          · rename_i ks hk
            split at e
            · rename_i nd
              split at e
              · rename_i ls hp
                cases e
                simp only [RM] at h
                obtain ⟨rfl, h⟩ := h
                have hp2 : PL.pick as cs (a :: ks) = some (.obj C ns ms :: ls) := by
                  unfold PL.pick
                  rw [ea, hp]
                obtain ⟨f1, fr, y1, y2⟩ := RML.pick h hp2 nd
                simp only [List.map_cons, RML] at y1
                obtain ⟨va, vs, fa, fl, ev, r1, r2, rfl⟩ := y1
                obtain ⟨rfl, rfl⟩ := List.cons.inj ev
                simp only [RM] at r1
                obtain ⟨p, dx, zs, q, ep, h2, h3, h4, rfl⟩ := r1
                cases ep
                obtain ⟨vl, fi, fr2, w1, w2, w3, w4⟩ := RML.split h4 hm
                simp only [RM] at w2
                obtain ⟨pl, ys, ql, rfl, u1, u2, rfl⟩ := w2
                obtain ⟨rfl, rfl⟩ := RML.atAdrs u2 hk
                obtain ⟨fn, z1, z2⟩ := w4 G H (.lst ls) (.ref pl) (pl :: fl) (Same.refl _) (fun _ _ => rfl) (by
                  simp only [RM]
                  exact ⟨pl, _, fl, rfl, u1, r2, rfl⟩)
                rw [set_self w1] at z1
                refine ⟨a :: fn, fr, by simp only [RM]; exact ⟨a, dx, zs, fn, rfl, h2, h3, z1, rfl⟩, ?_⟩
                rw [List.perm_iff_count]
                intro x
                have k1 := y2.count_eq x
                have k2 := w3.count_eq x
                have k3 := z2.count_eq x
                simp only [List.count_append, List.count_cons, List.count_nil] at k1 k2 k3 ⊢
                omega
              · cases e
            · cases e
          · cases e
        · cases e
      · cases e
    · cases e
  · cases e
theorem openM_isD {n : Str} {N : Nat} {a : Addr} {as : List Addr} (e : openN n m = some N) : m.isD = false ∧ (openM n m a as).isD = false := by
  unfold openN at e
  split at e
  · rename_i C ns ms
    split at e
    · rename_i i hi
      split at e
      · rename_i ls hm
        simp [openM, hi, hm, M.isD]
      · cases e
    · cases e
  · cases e
/-- a def on its first argument opened, as one on it closed -/
theorem open_imp {n : Str} {F : Fn} {W : Wn} (hF : ∀ ms r os, F ms = some (r, os) → ∃ (m0 : M) (ds : List D) (N : Nat) (m1 : M), ms = m0 :: ds.map M.d ∧ os = [m1] ∧ openN n m0 = some N ∧
      ∀ a as, (a :: as).Nodup → as.length = N → W (openM n m0 a as :: ds.map M.d) fun r' os' => r' = r ∧ ∃ bx, os' = [bx] ∧ closeM n bx = some m1) :
    ∀ vs H Q E, spD K F vs H Q E → spW K W vs H Q E := by
  rintro vs H Q E ⟨G, ms, fs, r, os, e, h1, h2, h3, h4, h5⟩
  obtain ⟨m0, ds, N, m1, rfl, rfl, eN, hW⟩ := hF ms r os e
  obtain ⟨v, vs', f, fs', rfl, rfl, r1, r2⟩ := h2
  have nf : f.Nodup := (List.nodup_append.mp (by simpa using h3)).1
  obtain ⟨a, as, f', rfl, l1, nd, r3, P⟩ := RM.open_ r1 nf eN
  have PF : (f :: fs').flatten.Perm (f' :: fs').flatten := by
    simp only [List.flatten_cons]
    exact List.Perm.append_right _ P
  obtain ⟨dm, dbx⟩ := openM_isD (a := a) (as := as) eN
  refine ⟨G, _, f' :: fs', _, hW a as nd l1, h1, ⟨.ref a, vs', f', fs', rfl, rfl, r3, r2⟩, PF.nodup_iff.mp h3, fun x hx => h4 x (PF.mem_iff.mpr hx), fun r' os' hp v' G' H' fr fo S rr io nd2 gn fresh => ?_⟩
  obtain ⟨rfl, bx, rfl, ec⟩ := hp
  obtain ⟨v0, vs0, f0, fs0, q1, q2, q3⟩ := io
  obtain ⟨rfl, rfl⟩ := List.cons.inj q1
  obtain ⟨rfl, rfl⟩ := List.cons.inj q2
  rw [if_neg (by rw [dbx]; simp)] at q3
  obtain ⟨o, os2, f1, f2, eo, q4, q5, q6, rfl⟩ := q3
  obtain ⟨rfl, rfl⟩ := List.cons.inj eo
  obtain ⟨f1', fr', z1, z2⟩ := RM.close_ q4 ec
  have sub : ∀ x ∈ f1', x ∈ f1 := fun x hx => z2.mem_iff.mpr (List.mem_append_left _ hx)
  have f20 : f2 = [] := by
    have : ∀ {ds : List D} {us gs os fo}, IOK K G' H' H (ds.map .d) us gs os fo → fo = [] := by
      intro ds
      induction ds with
      | nil => exact fun h => h.2
      | cons d ds ih =>
        rintro us gs os fo ⟨_, _, _, _, _, _, h⟩
        rw [if_pos (show (M.d d).isD = true from rfl)] at h
        exact ih h
    exact this q6
  subst f20
  simp only [List.append_nil] at nd2 gn
  have PN : (fr ++ f1).Perm ((fr ++ f1') ++ fr') := by
    rw [List.perm_iff_count]
    intro x
    have k1 := z2.count_eq x
    simp only [List.count_append] at k1 ⊢
    omega
  refine h5 v' G' H' fr f1' (gh_frame S fun x hx => PF.mem_iff.mpr hx) rr ⟨.ref a, vs', f, fs', rfl, rfl, ?_⟩ (List.nodup_append.mp (PN.nodup_iff.mp nd2)).1 (fun x hx => gn x (PN.mem_iff.mpr (List.mem_append_left _ hx))) fresh
  rw [if_neg (by rw [dm]; simp)]
  exact ⟨m1, [], f1', [], rfl, z1, fun x hx => (q5 x (sub x hx)).imp (fun z => P.mem_iff.mpr z) id, q6, by simp⟩
end
end PL

namespace PL
open PySem PySem.Spec PyProof.Rows L2
/-- place[e], an owned dict -/
def fDGetP (j : Nat) (π : Pth) (fk : Ev) : Ev := fun b => match getP b j π with
  | some (.dic ks ms) => (match fk b with
    | some (.d dk, _) => (match dk.key with
      | some k => (match keyI k ks with
        | some i => (match ms[i]? with
          | some (.d d) => some (.d d, b)
          | _ => none)
        | none => none)
      | none => none)
    | _ => none)
  | _ => none
section
variable {X : Cx} {e e1 e2 e3 o value : Expr} {es : List Expr} {st : Stmt} {sts : List Stmt} {pos pos' p apos tpos q : Pos} {f f1 f2 f3 fr fk : Ev} {fs : Av} {src : List (Option Nat)} {x m C : Str} {i j k : Nat} {π : Pth}
theorem e_dgetP (hr : Room k X.A) (hp : PP X o j π) (hi : EK X e fk) (hkp : Keep fk) (hs : NoSl e := by intro _ _; rfl) : EM X (.Subscript o e pos) (fDGetP j π fk) := (pe_dget (by have := hr.units; omega) hp hi hs).wk fun σ H Q => by
  rintro ⟨c, G, b, T, r, b', hf, I, q⟩
  unfold fDGetP at hf
  split at hf
  · rename_i ks ms eg
    split at hf
    · rename_i dk b9 ek
      have := hkp _ _ _ ek
      subst this
      split at hf
      · rename_i kk hk
        split at hf
        · rename_i i hi2
          split at hf
          · rename_i d ed
            cases hf
            obtain ⟨v0, v1, f1, w1, w2, w3⟩ := I.readP eg
            simp only [RM] at w3
            obtain ⟨p0, xs0, q0, rfl, h2, h3, h4, _⟩ := w3
            refine ⟨v0, .ref p0, w1, w2, c, G, b', T, _, ek, I, fun yk G2 H2 s2 I2 => ?_⟩
            have rk := I2.topD
            obtain ⟨v0', v1', f1', z1, z2, z3⟩ := I2.drop.readP eg
            rw [w1] at z1
            have z1 := Option.some.inj (Option.some.inj z1)
            subst z1
            have z2 := PathV.fun_ (PathV.keep s2 w2) z2
            subst z2
            simp only [RM] at z3
            obtain ⟨p1, xs, q1, e1, y2, y3, y4, _⟩ := z3
            cases e1
            obtain ⟨v, u1, u2⟩ := y4.getD ed
            refine ⟨p0, v, rfl, .inl ⟨_, kk, .inl y2, key_rel hk rk, ?_⟩, q v G2 H2 (I2.drop.pushD u2)⟩
            rw [keyI_val y3, hi2]
            exact u1.symm
          · cases hf
        · cases hf
      · cases hf
    · cases hf
  · cases hf
end
end PL

namespace PL
open PySem PySem.Spec PyProof.Rows L2
/-! ### methods of a thing within an owned one -/
theorem zip_inj {ns : List Str} {xs ys : List V} (h1 : ns.length = xs.length) (h2 : ns.length = ys.length) (h : ns.zip xs = ns.zip ys) : xs = ys := by
  have := congrArg (List.map Prod.snd) h
  rw [List.map_snd_zip (by omega), List.map_snd_zip (by omega)] at this
  exact this
theorem zipK_inj {ns : List Key} {xs ys : List V} (h1 : ns.length = xs.length) (h2 : ns.length = ys.length) (h : ns.zip xs = ns.zip ys) : xs = ys := by
  have := congrArg (List.map Prod.snd) h
  rw [List.map_snd_zip (by omega), List.map_snd_zip (by omega)] at this
  exact this
mutual
theorem RM.uniq {K : PySem.W.Frag} {G H : Hp} : ∀ (m : M) (v : V) (f f' : List Addr), RM K G H m v f → RM K G H m v f' → f = f'
  | .d x, v, f, f', h, h' => by
    simp only [RM] at h h'
    rw [h.2, h'.2]
  | .lst ms, v, f, f', h, h' => by
    simp only [RM] at h h'
    obtain ⟨p, xs, q, rfl, h2, h3, rfl⟩ := h
    obtain ⟨p', xs', q', e1, k2, k3, rfl⟩ := h'
    cases e1
    rw [h2] at k2
    cases k2
    rw [RML.uniq ms xs q q' h3 k3]
  | .obj C ns ms, v, f, f', h, h' => by
    simp only [RM] at h h'
    obtain ⟨p, dx, xs, q, rfl, h2, h5, h3, rfl⟩ := h
    obtain ⟨p', dx', xs', q', e1, k2, k5, k3, rfl⟩ := h'
    cases e1
    rw [h2] at k2
    have k2 := Option.some.inj k2
    injection k2 with _ _ e
    have e := zip_inj h5 k5 e
    subst e
    rw [RML.uniq ms xs q q' h3 k3]
  | .dic ks ms, v, f, f', h, h' => by
    simp only [RM] at h h'
    obtain ⟨p, xs, q, rfl, h2, h5, h3, rfl⟩ := h
    obtain ⟨p', xs', q', e1, k2, k5, k3, rfl⟩ := h'
    cases e1
    rw [h2] at k2
    have k2 := Option.some.inj k2
    injection k2 with e
    have e := zipK_inj h5 k5 e
    subst e
    rw [RML.uniq ms xs q q' h3 k3]
  | .box a as ms, v, f, f', h, h' => by
    simp only [RM] at h h'
    exact RML.uniq ms _ f f' h.2 h'.2
  | .st ks, v, f, f', h, h' => by
    simp only [RM] at h h'
    obtain ⟨p, L, rfl, _, _, _, rfl⟩ := h
    obtain ⟨p', L', e, _, _, _, rfl⟩ := h'
    cases e
    rfl
theorem RML.uniq {K : PySem.W.Frag} {G H : Hp} : ∀ (ms : List M) (xs : List V) (f f' : List Addr), RML K G H ms xs f → RML K G H ms xs f' → f = f'
  | [], _, f, f', h, h' => by
    simp only [RML] at h h'
    rw [h.2, h'.2]
  | m :: ms, xs, f, f', h, h' => by
    simp only [RML] at h h'
    obtain ⟨y, ys, f1, f2, rfl, h2, h3, rfl⟩ := h
    obtain ⟨y', ys', g1, g2, e1, k2, k3, rfl⟩ := h'
    cases e1
    rw [RM.uniq m y f1 g1 h2 k2, RML.uniq ms ys f2 g2 h3 k3]
end
section
variable {K : PySem.W.Frag} {c : Cg} {G H : Hp} {σ : L2.St} {b b2 : List B} {T : List (M × V)} {as_ : List M} {us dvs : List V} {ads dds : List D} {j : Nat} {π : Pth} {recv r o : M} {v0 v1 : V} {F : Fn} {Q : VK} {E : XK}
theorem methP_core (I : Iv K c G H σ b (zT as_ us ++ T)) (hl : as_.length = us.length) (hda : M.datas as_ = some ads) (hg : getP b j π = some recv) (hrd : recv.isD = false) (hd : RpL K G dds dvs)
    (hF : F (recv :: (ads ++ dds).map .d) = some (r, [o])) (hs : setP b j π o = some b2) (hσ : σ[j]? = some (some v0)) (hp : PathV K H v0 π v1)
    (q : ∀ fi, RM K G H recv v1 fi → ∀ v G' H', Stp fi G H G' H' → Iv K c G' H' σ b2 ((r, v) :: T) → Q v H') : spD K F (v1 :: (us ++ dvs)) H Q E := by
  have I0 : Iv K c G H σ b ([] ++ T) := I.dropZ
  have ra : RpL K G ads us := I.datas hl hda
  have rad := RpL.app2 ra hd
  obtain ⟨w0, w1, fi, ft, h1, h2, h3, t1, nd, gn, old, go⟩ := Iv.place (T1 := []) I0 hg hrd
  rw [hσ] at h1
  cases h1
  have e1 := PathV.fun_ hp h2
  subst e1
  have t1 : ft = [] := t1
  subst t1
  obtain ⟨gs, d1, d2⟩ := rad.rms (H := H)
  have ef : (fi :: gs).flatten = fi := by simp [d2]
  have st := I0.st
  refine ⟨G, recv :: (ads ++ dds).map .d, fi :: gs, r, [o], hF, st.gh, ⟨v1, us ++ dvs, fi, gs, rfl, rfl, h3, d1⟩, by rw [ef]; simpa using nd, by rw [ef]; intro a ha; exact gn a (by simpa using ha), fun v G' H' fr fo S rr io nd2 gn2 fresh => ?_⟩
  rw [ef] at S
  obtain ⟨v', vs', f', fs', e1, e2, io⟩ := io
  cases e1
  cases e2
  rw [if_neg (by rw [hrd]; simp)] at io
  obtain ⟨o', os', f1, f2, e3, ro, sub, io2, rfl⟩ := io
  cases e3
  have io3 := IOK.app (ms := []) (vs := []) (fs := []) (ds := ads ++ dds) rfl rfl io2
  obtain ⟨_, e4⟩ := io3
  subst e4
  have hn : ∀ a, H a = none → c.H0 a = none := fun a z => by
    cases q : c.H0 a with
    | none => rfl
    | some o => exact absurd z (st.dm a (by rw [q]; simp))
  have nd3 := List.nodup_append.mp nd2
  have S' : Stp (fi ++ []) G H G' H' := gh_frame S fun a ha => by simpa using ha
  refine q fi h3 v G' H' S (go G' H' o f1 [(r, v)] fr b2 S' ro ⟨fr, [], rr, fun a ha => hn a (fresh a ha), rfl, by simp⟩ ?_ ?_ ?_ hs)
  · refine List.nodup_append.mpr ⟨by simpa using nd3.2.1, nd3.1, fun x hx y hy e => ?_⟩
    subst e
    exact nd3.2.2 x hy x (by simpa using hx) rfl
  · intro a ha
    rcases List.mem_append.mp ha with z | z
    · rcases sub a z with w | w
      · exact .inl w
      · exact .inr (.inr w)
    · exact .inr (.inr (fresh a z))
  · intro a ha
    rcases List.mem_append.mp ha with z | z
    · exact gn2 a (by simp [z])
    · exact gn2 a (by simp [z])
end
/-- place.m(data ..) -/
def fMethP (C m : Str) (F : Fn) (dds : List D) (j : Nat) (π : Pth) (fs : Av) : Ev := fun b => match getP b j π with
  | some (.obj C' ns ms) => if C' = C ∧ fldI m ns = none then (match fs b with
    | some (as_, _) => (match M.datas as_ with
      | some ads => (match F (.obj C' ns ms :: (ads ++ dds).map .d) with
        | some (r, [o]) => (match setP b j π o with
          | some b2 => some (r, b2)
          | none => none)
        | _ => none)
      | none => none)
    | none => none) else none
  | _ => none
section
variable {X : Cx} {e e1 e2 e3 o : Expr} {es : List Expr} {st : Stmt} {sts : List Stmt} {pos p apos : Pos} {f f1 f2 f3 fr : Ev} {fs : Av} {src : List (Option Nat)} {x m C : Str} {t t1 t2 : Tv} {k1 k2 : Sv} {j : Nat} {π : Pth} {n : Str} {Cs : List Str} {F : Fn} {dds : List D} {dvs : List V} {E : XK}
theorem fMethP_inv {b b' : List B} {r : M} (h : fMethP C m F dds j π fs b = some (r, b')) : ∃ ns ms as_ b1 ads o, getP b j π = some (.obj C ns ms) ∧ fldI m ns = none ∧ fs b = some (as_, b1) ∧ M.datas as_ = some ads ∧ F (.obj C ns ms :: (ads ++ dds).map .d) = some (r, [o]) ∧ setP b j π o = some b' := by
  unfold fMethP at h
  split at h
  · rename_i C' ns ms eg
    split at h
    · rename_i hc
      obtain ⟨rfl, hm⟩ := hc
      split at h
      · rename_i as_ b1 e1
        split at h
        · rename_i ads e2
          split at h
          · rename_i r0 o e3
            split at h
            · rename_i b2 e4
              cases h
              exact ⟨ns, ms, as_, b1, ads, o, eg, hm, e1, e2, e3, e4⟩
            · cases h
          · cases h
        · cases h
      · cases h
    · cases h
  · cases h
/-- the reading: with what a step leaves as it is -/
theorem methP_in {K : PySem.W.Frag} (hd : ∀ G, RpL K G dds dvs) (hk : KeepA fs) {c : Cg} {G H : Hp} {σ : L2.St} {b b' : List B} {T : List (M × V)} {r : M} {Q : VK} (hf : fMethP C m F dds j π fs b = some (r, b')) (I : Iv K c G H σ b T)
    (q : ∀ v0 v1 fi G2 H2 v G' H' as_ us, σ[j]? = some (some v0) → PathV K H v0 π v1 → Same H H2 → Iv K c G2 H2 σ b (zT as_ us ++ T) → (∀ ns ms, getP b j π = some (.obj C ns ms) → RM K G2 H2 (.obj C ns ms) v1 fi) → Stp fi G2 H2 G' H' → Iv K c G' H' σ b' ((r, v) :: T) → Q v H') :
    tMeth (He.ga K C) m (spD K F) dvs E (tPl K j π) (takO K fs) σ H Q := by
  obtain ⟨ns, ms, as_, b1, ads, o, eg, hm, e1, e2, e3, e4⟩ := fMethP_inv hf
  obtain ⟨v0, v1, f1, w1, w2, w3⟩ := I.readP eg
  have w3' := w3
  simp only [RM] at w3'
  obtain ⟨p, dx, xs, g, rfl, h2, h5, _, _⟩ := w3'
  have := hk _ _ _ e1
  subst this
  refine ⟨v0, _, w1, w2, p, dx, _, rfl, h2, fldI_none hm, c, G, b1, T, as_, e1, I, fun us G2 H2 hl s2 I2 => ?_⟩
  refine methP_core I2 hl e2 eg rfl (hd _) e3 e4 w1 (PathV.keep s2 w2) fun fi rf v G' H' S I3 => ?_
  exact q v0 _ fi G2 H2 v G' H' as_ us w1 w2 s2 I2 (fun ns' ms' e => by rw [eg] at e; cases e; exact rf) S I3
theorem e_methP {k : Nat} {pl : Sem Bool} (hp : PP X o j π) (h : MetOk X.prog X.w X.K X.mg X.base k C m dvs F) (hr : Room k X.A) (hd : ∀ G, RpL X.K G dds dvs) (ha : AK X (e :: es) fs) (hk : KeepA fs)
    (hst : starEach (e :: es) X.env = (false, eval e X.env) :: starEach es X.env := by rfl) (hpl : (backTo pos (starEach es X.env)).any (·.1) = false := by rfl)
    (ht : eval (.Call (.Attribute o m apos) (e :: es) [] pos) X.env = (do
      let ov ← eval o X.env
      standAt apos.atName
      let (f, first) ← holding [ov] (getMethod ov m pl)
      callWith pos f first (backTo pos (starEach (e :: es) X.env)) (backToKw pos (keywordEach [] X.env))) := by rfl) :
    EM X (.Call (.Attribute o m apos) (e :: es) [] pos) (fMethP C m F dds j π fs) := by
  obtain ⟨f, fd, ps, ds, h1, h3, h4, h5⟩ := h.ex
  refine (pe_meth hp h.cls h1 h5 hr h3 h4 pass0 ha hst hpl ht).wk fun σ H Q => ?_
  rintro ⟨c, G, b, T, r, b', hf, I, q⟩
  exact methP_in hd hk hf I fun v0 v1 fi G2 H2 v G' H' as_ us _ _ _ _ _ _ I3 => q v G' H' I3
/-- self.list.append(self.o.m(..)) -/
def sAppM (j : Nat) (ql qo : Str × List Str) (C m : Str) (F : Fn) (dds : List D) (fs : Av) : Sv := fun b => match b[j]? with
  | some (.o _ (.obj _ _ _)) => (match getP b j [ql] with
    | some (.lst _) => (match fMethP C m F dds j [qo] fs b with
      | some (r, b1) => (match getP b1 j [ql] with
        | some (.lst ms) => if ms.length < 1000000 then (match setP b1 j [ql] (.lst (ms ++ [r])) with
          | some b2 => some (.nx, b2)
          | none => none) else none
        | _ => none)
      | none => none)
    | _ => none)
  | _ => none
theorem root_out {K : PySem.W.Frag} {c : Cg} {G H : Hp} {σ : L2.St} {b : List B} {T : List (M × V)} {k : Option Nat} {C0 : Str} {ns0 : List Str} {ms0 : List M} {qo : Str × List Str} {v0 v1 : V} {recv : M} {fi : List Addr}
    (I : Iv K c G H σ b T) (hb : b[j]? = some (.o k (.obj C0 ns0 ms0))) (hg : getP b j [qo] = some recv) (hrd : recv.isD = false) (hσ : σ[j]? = some (some v0)) (hp : PathV K H v0 [qo] v1) (hr : RM K G H recv v1 fi) : ∃ a, v0 = .ref a ∧ a ∉ fi := by
  obtain ⟨s, f, ft, z1, z2, z3, nd, gn, old, go⟩ := Iv.slot (T1 := []) (T := T) I hb
  obtain ⟨v, rfl, q2, _⟩ := z2
  rw [hσ] at z1
  cases z1
  simp only [RM] at q2
  obtain ⟨p, dx, xs, g, rfl, h2, h5, h3, rfl⟩ := q2
  have e : (M.obj C0 ns0 ms0).fld qo = some recv := by
    unfold getP ownS at hg
    simp only [hb] at hg
    exact hg
  obtain ⟨C, ns, ms, i, e1, hC, hi, hm⟩ := M.fld_own e hrd
  cases e1
  obtain ⟨v1', fi', fr, k1, k2, k3, _⟩ := RML.split h3 hm
  have hp2 : PathV K H (.ref p) [qo] v1' := ⟨p, C0, dx, _, rfl, h2, hC, (fldI_some hi h5).trans k1⟩
  have e2 := PathV.fun_ hp hp2
  subst e2
  have e3 := RM.uniq _ _ _ _ hr k2
  subst e3
  refine ⟨p, rfl, fun hm => ?_⟩
  have nd1 := (List.nodup_append.mp nd).1
  have nd2 := List.nodup_cons.mp nd1
  exact nd2.1 (k3.mem_iff.mpr (List.mem_append_left _ hm))
theorem s_appM {k : Nat} {pl : Sem Bool} {p2 p3 : Pos} {el : Expr} {ql qo : Str × List Str} (hl : PP X el j [ql]) (hp : PP X o j [qo]) (h : MetOk X.prog X.w X.K X.mg X.base k C m dvs F) (hr : Room k X.A) (hd : ∀ G, RpL X.K G dds dvs) (ha : AK X (e :: es) fs) (hk : KeepA fs)
    (hst : starEach (e :: es) X.env = (false, eval e X.env) :: starEach es X.env := by rfl) (hpl : (backTo pos (starEach es X.env)).any (·.1) = false := by rfl)
    (ht : eval (.Call (.Attribute o m apos) (e :: es) [] pos) X.env = (do
      let ov ← eval o X.env
      standAt apos.atName
      let (f, first) ← holding [ov] (getMethod ov m pl)
      callWith pos f first (backTo pos (starEach (e :: es) X.env)) (backToKw pos (keywordEach [] X.env))) := by rfl)
    (hbase : attributeBase el "append" X.env (eval el X.env) = eval el X.env := by rfl)
    (hfew : ((backTo p3 (starEach ((.Call (.Attribute o m apos) (e :: es) [] pos) :: []) X.env)).all (fun x => !x.1) && (backToKw p3 (keywordEach [] X.env)).all (fun x => x.1.isSome)
      && decide (((.Call (.Attribute o m apos) (e :: es) [] pos : Expr) :: []).length + ([] : List Keyword).length + (if ([] : List Keyword).isEmpty then 0 else 1) < 30)) = true := by rfl)
    (hline : (p2.endLine == p3.line) = true := by rfl) (hs : starEach ((.Call (.Attribute o m apos) (e :: es) [] pos) :: []) X.env = (false, eval (.Call (.Attribute o m apos) (e :: es) [] pos) X.env) :: starEach [] X.env := by rfl) (hplain : (backTo p3 (starEach [] X.env)).any (·.1) = false := by rfl)
    {pos' : Pos} (hsw : swapsWith (.Call (.Attribute el "append" p2) [.Call (.Attribute o m apos) (e :: es) [] pos] [] p3) none pos'.line X.env = pure false := by rfl) :
    SM X (.Expr (.Call (.Attribute el "append" p2) [.Call (.Attribute o m apos) (e :: es) [] pos] [] p3) pos') (sAppM j ql qo C m F dds fs) := by
  obtain ⟨f, fd, ps, ds, h1, h3, h4, h5⟩ := h.ex
  refine (ps_expr (pe_bm PySem.F.plainAttrs_list PySem.F.slot_list_append PySem.F.type_list_append mt_append hl (pa_cons (pe_meth (E := E0) hp h.cls h1 h5 hr h3 h4 pass0 ha hst hpl ht) pa_nil hs) hbase hfew hline hs hplain) hsw).wk fun D σ H => ?_
  rintro ⟨c, G, b, T, rr, b', hf, I, q⟩
  unfold sAppM at hf
  split at hf
  · rename_i kk C0 ns0 ms0 eb
    split at hf
    · rename_i ms1 el1
      split at hf
      · rename_i r b1 em
        split at hf
        · rename_i ms el2
          split at hf
          · rename_i hz
            split at hf
            · rename_i b2 ep
              cases hf
              obtain ⟨v0, p0, xs0, w1, w2, w3, _⟩ := Iv.mutP (T1 := []) (T := T) I el1
              refine ⟨v0, _, w1, w2, .inl ⟨rfl, xs0, SqL.of w3⟩, ?_⟩
              refine methP_in hd hk em I fun v0' v1 fi G2 H2 y G1 H1 as_ us z1 z2 s2 I2 rf S I3 => ?_
              obtain ⟨v0'', p1, xs, y1, y2, y3, y4, y5, y6⟩ := Iv.mutP (T1 := [(r, y)]) (T := T) I3 el2
              rw [w1] at z1 y1
              cases z1
              cases y1
              obtain ⟨ns, ms2, _, _, _, _, eg, _⟩ := fMethP_inv em
              have I2' : Iv X.K c G2 H2 σ b (zT as_ us ++ T) := I2
              obtain ⟨a0, rfl, na⟩ := root_out I2' eb eg rfl w1 (PathV.keep s2 z2) (rf ns ms2 eg)
              have hpath : PathV X.K H1 (.ref a0) [ql] (.ref p0) := by
                obtain ⟨a, C', dx, fs', k1, k2, k3, k4⟩ := PathV.keep s2 w2
                have k1' : V.ref a0 = .ref a := k1
                cases k1'
                exact ⟨a0, C', dx, fs', rfl, S.kp a0 _ k2 na, k3, k4⟩
              have := PathV.fun_ hpath y2
              cases this
              refine ⟨_, xs, y, rfl, rfl, y3, by rw [y4]; exact lt_line (by omega), q σ G1 _ (y6 (ms ++ [r]) (xs ++ [y]) [] b' ep fun H3 q ft a1 a2 a3 _ => ?_)⟩
              obtain ⟨a4, a5⟩ := rt_one a2
              exact ⟨q ++ ft, [], RML.app a1 a4, rfl, fun a ha => by simpa using ha, by simpa using a3⟩
            · cases hf
          · cases hf
        · cases hf
      · cases hf
    · cases hf
  · cases hf
/-- {} -/
theorem e_dic0 : EM X (.Dict [] [] pos) (fun b => some (.dic [] [], b)) := pe_dnewK.wk fun σ H Q => by
  rintro ⟨c, G, b, T, r, b', hf, I, q⟩
  cases hf
  intro p hp
  refine q _ G _ (I.newO (f := []) hp ?_)
  simp only [RM]
  exact ⟨p, [], [], rfl, by rw [upd_same]; rfl, rfl, by simp [RML], rfl⟩
end
end PL

namespace PL
open PySem PySem.Spec PyProof.Rows L2
/-! ### sets of nested tuples -/
mutual
theorem nk_key {K : PySem.W.Frag} {G H : Hp} (e : Same G H) : ∀ (d : D) (v : V) (k : NestedKey), d.nk = some k → Rp K G d v → NS.KeyIs K H k v
  | .non, v, k, h, r => by
    simp only [D.nk, Option.some.injEq] at h
    subst h
    simp only [Rp] at r
    subst r
    simp [NS.KeyIs]
  | .bl b, v, k, h, r => by
    simp only [D.nk, Option.some.injEq] at h
    subst h
    simp only [Rp] at r
    subst r
    simp [NS.KeyIs]
  | .int i, v, k, h, r => by
    simp only [D.nk, Option.some.injEq] at h
    subst h
    simp only [Rp] at r
    subst r
    simp [NS.KeyIs]
  | .tup ds, v, k, h, r => by
    unfold D.nk at h
    split at h
    · rename_i ks e1
      cases h
      simp only [Rp] at r
      obtain ⟨p, xs, rfl, h2, h3⟩ := r
      simp only [NS.KeyIs]
      exact ⟨p, xs, rfl, sqt_mono e h2, nks_keys e ds xs ks e1 h3⟩
    · cases h
  | .str _, _, _, h, _ => by simp [D.nk] at h
  | .adr _, _, _, h, _ => by simp [D.nk] at h
  | .ty _, _, _, h, _ => by simp [D.nk] at h
  | .lst _, _, _, h, _ => by simp [D.nk] at h
  | .obj .., _, _, h, _ => by simp [D.nk] at h
  | .dic .., _, _, h, _ => by simp [D.nk] at h
  | .seq _, _, _, h, _ => by simp [D.nk] at h
  | .any, _, _, h, _ => by simp [D.nk] at h
  | .oba .., _, _, h, _ => by simp [D.nk] at h
theorem nks_keys {K : PySem.W.Frag} {G H : Hp} (e : Same G H) : ∀ (ds : List D) (xs : List V) (ks : List NestedKey), D.nks ds = some ks → RpL K G ds xs → NS.KeysAre K H ks xs
  | [], xs, ks, h, r => by
    simp only [D.nks, Option.some.injEq] at h
    subst h
    simp only [RpL] at r
    simp [NS.KeysAre, r]
  | d :: ds, xs, ks, h, r => by
    unfold D.nks at h
    split at h
    · rename_i k ks' e1 e2
      cases h
      simp only [RpL] at r
      obtain ⟨y, ys, rfl, h2, h3⟩ := r
      simp only [NS.KeysAre]
      exact ⟨y, ys, rfl, nk_key e d y k e1 h2, nks_keys e ds ys ks' e2 h3⟩
    · cases h
end
mutual
theorem nk_bare : ∀ (d : D) (k : NestedKey), d.nk = some k → NS.bare k = true
  | .non, k, h => by simp only [D.nk, Option.some.injEq] at h; subst h; rfl
  | .bl b, k, h => by simp only [D.nk, Option.some.injEq] at h; subst h; rfl
  | .int i, k, h => by simp only [D.nk, Option.some.injEq] at h; subst h; rfl
  | .tup ds, k, h => by
    unfold D.nk at h
    split at h
    · rename_i ks e1
      cases h
      simp only [NS.bare]
      exact nks_bare ds ks e1
    · cases h
  | .str _, _, h => by simp [D.nk] at h
  | .adr _, _, h => by simp [D.nk] at h
  | .ty _, _, h => by simp [D.nk] at h
  | .lst _, _, h => by simp [D.nk] at h
  | .obj .., _, h => by simp [D.nk] at h
  | .dic .., _, h => by simp [D.nk] at h
  | .seq _, _, h => by simp [D.nk] at h
  | .any, _, h => by simp [D.nk] at h
  | .oba .., _, h => by simp [D.nk] at h
theorem nks_bare : ∀ (ds : List D) (ks : List NestedKey), D.nks ds = some ks → NS.bares ks = true
  | [], ks, h => by simp only [D.nks, Option.some.injEq] at h; subst h; rfl
  | d :: ds, ks, h => by
    unfold D.nks at h
    split at h
    · rename_i k ks' e1 e2
      cases h
      simp only [NS.bares, nk_bare d k e1, nks_bare ds ks' e2, Bool.and_self]
    · cases h
end
/-- a tuple as a key -/
def D.key8 : D → Option NestedKey
  | .tup ds => (match (D.tup ds).nk with
    | some k => if k.depth ≤ 8 then some k else none
    | none => none)
  | _ => none
def fSet0 : Ev := fun b => some (.st [], b)
def gAddK (k : NestedKey) (ks : List NestedKey) : List NestedKey := if k ∈ ks then ks else k :: ks
/-- name.add(e) -/
def sAddSt (j : Nat) (f : Ev) : Sv := fun b => if isO b j = true then (match b[j]? with
  | some (.o _ (.st _)) => (match f b with
    | some (.d d, b1) => (match b1[j]? with
      | some (.o k (.st ks)) => (match d.key8 with
        | some key => if ks.length + 1 ≤ 300 then some (.nx, b1.set j (.o k (.st (gAddK key ks)))) else none
        | none => none)
      | _ => none)
    | _ => none)
  | _ => none) else none
/-- e in name, e not in name -/
def fInSt (neg : Bool) (f : Ev) (j : Nat) : Ev := fun b => match f b with
  | some (.d d, b1) => (match b1[j]? with
    | some (.o _ (.st ks)) => (match d.key8 with
      | some key => some (.d (.bl (if neg then !decide (key ∈ ks) else decide (key ∈ ks))), b1)
      | none => none)
    | _ => none)
  | _ => none
section
variable {K : PySem.W.Frag} {c : Cg} {G H : Hp} {σ : L2.St} {b : List B} {T T1 : List (M × V)} {d : D} {y : V} {ks : List NestedKey} {key : NestedKey} {j : Nat} {k : Option Nat}
theorem key8_some (h : d.key8 = some key) : d.nk = some key ∧ key.depth ≤ 8 ∧ ∃ ds, d = .tup ds := by
  unfold D.key8 at h
  split at h
  · rename_i ds
    split at h
    · rename_i k0 e
      split at h
      · rename_i hz
        cases h
        exact ⟨e, hz, ds, rfl⟩
      · cases h
    · cases h
  · cases h
theorem Iv.setAt (I : Iv K c G H σ b (T1 ++ T)) (hb : b[j]? = some (.o k (.st ks))) : ∃ p L, σ[j]? = some (some (.ref p)) ∧ H p = some (NS.setH p L) ∧ (L.map (·.2)).Perm ks ∧ (∀ q ∈ L, NS.KeyIs K H q.2 (.ref q.1) ∧ q.2.depth ≤ 8) ∧
    ∀ L' ks', (L'.map (·.2)).Perm ks' → (∀ q ∈ L', q ∈ L ∨ (q.2.depth ≤ 8 ∧ ∃ d : D, d.nk = some q.2 ∧ Rp K G d (.ref q.1))) → (∀ ft, RT K c G H T1 ft → ft = []) → Iv K c G (upd H p (NS.setH p L')) σ (b.set j (.o k (.st ks'))) T := by
  obtain ⟨s, fi, ft, e1, e2, t1, nd, gn, old, go⟩ := Iv.slot (T1 := T1) (T := T) I hb
  obtain ⟨v, rfl, q2, q3⟩ := e2
  simp only [RM] at q2
  obtain ⟨p, L, rfl, h2, h3, h4, rfl⟩ := q2
  have sg := I.st.gh
  refine ⟨p, L, e1, h2, h3, fun q hq => ?_, fun L' ks' w1 w2 w3 => ?_⟩
  · obtain ⟨z1, d, z2, z3⟩ := h4 q hq
    exact ⟨nk_key sg d _ _ z2 z3, z1⟩
  · have e0 := w3 ft t1
    subst e0
    have gp : G p = none := gn p (by simp)
    have S : Stp ([p] ++ []) G H G (upd H p (NS.setH p L')) := by
      refine ⟨Same.refl _, fun a o h => ?_, fun _ _ h => h, fun a o h hn => ?_, fun a h => ?_⟩
      · rw [upd_ne (fun z => by subst z; rw [gp] at h; cases h)]
        exact sg a o h
      · rw [upd_ne (fun z => by subst z; simp at hn)]
        exact h
      · by_cases z : a = p
        · subst z; rw [upd_same]; simp
        · rw [upd_ne z]; exact h
    have R : RM K G (upd H p (NS.setH p L')) (.st ks') (.ref p) [p] := by
      simp only [RM]
      refine ⟨p, L', rfl, upd_same, w1, fun q hq => ?_, rfl⟩
      rcases w2 q hq with z | z
      · exact h4 q z
      · exact z
    have := go G (upd H p (NS.setH p L')) (.o k (.st ks')) (some (.ref p)) [p] [] [] S ⟨_, rfl, R, q3⟩ rfl (by simp) (fun a ha => .inl (by simpa using ha)) (fun a ha => gn a (by simpa using ha))
    rw [set_self e1] at this
    exact this
theorem mem_perm {L : List (Addr × NestedKey)} (h : (L.map (·.2)).Perm ks) : (key ∈ L.map (·.2)) ↔ key ∈ ks := h.mem_iff
end
section
variable {X : Cx} {e e1 e2 : Expr} {pos p apos cpos pos' : Pos} {f : Ev} {x : Str} {j : Nat}
theorem e_set0 (hm : X.mg "set" = none) (hg : Gl X "set" := by rfl) : EM X (.Call (.Name "set" p) [] [] pos) fSet0 := (pe_callTy0 NS.cr_setN hg hm PyProof.Rows.boot_set).wk fun σ H Q => by
  rintro ⟨c, G, b, T, r, b', hf, I, q⟩
  cases hf
  refine ⟨rfl, fun p hp => q _ G _ (I.newO (f := []) hp ?_)⟩
  simp only [RM]
  exact ⟨p, [], rfl, upd_same, by simp, by simp, rfl⟩
theorem s_addSt {k : Nat} (j : Nat) {px : Pos} (hr : Room k X.A) (h : EM X e f) (hN : X.N[j]? = some x := by rfl) (hv : Vis X.env.scope x := by first | exact Or.inl rfl | exact Or.inr (Or.inl rfl) | exact Or.inr (Or.inr rfl)) (hd : (x == ("__debug__" : Str)) = false := by decide)
    (hcd : (x == ("__classdict__" : Str)) = false := by decide)
    (hbase : attributeBase (.Name x px) "add" X.env (eval (.Name x px) X.env) = eval (.Name x px) X.env := by rfl)
    (hfew : ((backTo cpos (starEach (e :: []) X.env)).all (fun x => !x.1) && (backToKw cpos (keywordEach [] X.env)).all (fun x => x.1.isSome)
      && decide ((e :: []).length + ([] : List Keyword).length + (if ([] : List Keyword).isEmpty then 0 else 1) < 30)) = true := by rfl)
    (hline : (apos.endLine == cpos.line) = true := by rfl) (hs : starEach (e :: []) X.env = (false, eval e X.env) :: starEach [] X.env := by rfl) (hplain : (backTo cpos (starEach [] X.env)).any (·.1) = false := by rfl)
    (hsw : swapsWith (.Call (.Attribute (.Name x px) "add" apos) [e] [] cpos) none pos'.line X.env = pure false := by rfl) :
    SM X (.Expr (.Call (.Attribute (.Name x px) "add" apos) [e] [] cpos) pos') (sAddSt j f) := (ps_expr (NS.pe_addN (by have := hr.units; omega) (pv j hN hv hd hcd) (pa_cons h pa_nil hs) hbase hfew hline hs hplain) hsw).wk fun D σ H => by
  rintro ⟨c, G, b, T, r, b', hf, I, q⟩
  unfold sAddSt at hf
  split at hf
  · split at hf
    · rename_i k0 ks0 eb0
      split at hf
      · rename_i d b1 e1
        split at hf
        · rename_i kk ks eb
          split at hf
          · rename_i key ek
            split at hf
            · rename_i hz
              cases hf
              obtain ⟨p0, L0, w1, w2, _⟩ := Iv.setAt (T1 := []) (T := T) I eb0
              refine ⟨_, w1, ⟨p0, L0, rfl, w2⟩, c, G, b, T, _, b1, e1, I, fun y G1 H1 I1 => ?_⟩
              obtain ⟨k1, k2, ds, rfl⟩ := key8_some ek
              have ry := I1.topD
              have ry' := ry
              simp only [Rp] at ry'
              obtain ⟨pb, xs, rfl, _, _⟩ := ry'
              obtain ⟨p, L, z1, z2, z3, z4, z5⟩ := Iv.setAt (T1 := [(M.d (.tup ds), .ref pb)]) (T := T) I1 eb
              rw [w1] at z1
              cases z1
              refine ⟨p0, L, pb, key, rfl, rfl, ⟨z2, z4, nk_key I1.st.gh _ _ _ k1 ry, k2, nk_bare _ _ k1⟩, ?_, fun L' a1 a2 => ?_⟩
              · have := z3.length_eq
                simp only [List.length_map] at this
                omega
              · refine q σ G1 _ (z5 L' (gAddK key ks) ?_ ?_ ?_)
                · unfold gAddK
                  by_cases hm : key ∈ ks
                  · rw [if_pos hm, a1 (z3.mem_iff.mpr hm)]
                    exact z3
                  · rw [if_neg hm]
                    have w := List.Perm.map (fun p : Addr × NestedKey => p.2) (a2 (fun z => hm (z3.mem_iff.mp z)))
                    exact w.trans (z3.cons key)
                · intro q hq
                  by_cases hm : key ∈ L.map (·.2)
                  · rw [a1 hm] at hq
                    exact .inl hq
                  · rcases List.mem_cons.mp ((a2 hm).mem_iff.mp hq) with z | z
                    · subst z
                      exact .inr ⟨k2, _, k1, ry⟩
                    · exact .inl z
                · intro ft h
                  obtain ⟨h1, _⟩ := rt_one h
                  simp only [RM] at h1
                  exact h1.2
            · cases hf
          · cases hf
        · cases hf
      · cases hf
    · cases hf
  · cases hf
theorem inSt_in {K : PySem.W.Frag} {neg : Bool} {X : Cx} (eK : K = X.K) (hv0 : ∀ {c : Cg} {G H : Hp} {b : List B} {T : List (M × V)}, True) : ∀ σ H Q, teO K (fInSt neg f j) σ H Q →
    tOp (fun x y H Q => ∃ a L b k, x = .ref b ∧ y = .ref a ∧ NS.HasK X H a L (.ref b) k ∧ Q (.bl (if neg then !decide (k ∈ L.map (·.2)) else decide (k ∈ L.map (·.2)))) H) (teO K f) (tVar j) σ H Q := fun σ H Q => by
  subst eK
  rintro ⟨c, G, b, T, r, b', hf, I, q⟩
  unfold fInSt at hf
  split at hf
  · rename_i d b1 e1
    split at hf
    · rename_i kk ks eb
      split at hf
      · rename_i key ek
        cases hf
        refine ⟨c, G, b, T, _, b', e1, I, fun y G1 H1 I1 => ?_⟩
        obtain ⟨k1, k2, ds, rfl⟩ := key8_some ek
        have ry := I1.topD
        have ry' := ry
        simp only [Rp] at ry'
        obtain ⟨pb, xs, rfl, _, _⟩ := ry'
        obtain ⟨p, L, z1, z2, z3, z4, _⟩ := Iv.setAt (T1 := []) (T := _) I1 eb
        refine ⟨_, z1, p, L, pb, key, rfl, rfl, ⟨z2, z4, nk_key I1.st.gh _ _ _ k1 ry, k2, nk_bare _ _ k1⟩, ?_⟩
        have em : decide (key ∈ L.map (·.2)) = decide (key ∈ ks) := by
          by_cases hm : key ∈ ks
          · simp only [hm, decide_true, decide_eq_true_eq]; exact z3.mem_iff.mpr hm
          · simp only [hm, decide_false, decide_eq_false_iff_not]; exact fun z => hm (z3.mem_iff.mp z)
        rw [em]
        exact q _ G1 H1 (I1.drop.pushD (by simp [Rp]))
      · cases hf
    · cases hf
  · cases hf
theorem e_ninSt {k : Nat} (j : Nat) {px : Pos} (hr : Room k X.A) (h : EM X e f) (hN : X.N[j]? = some x := by rfl) (hv : Vis X.env.scope x := by first | exact Or.inl rfl | exact Or.inr (Or.inl rfl) | exact Or.inr (Or.inr rfl)) (hd : (x == ("__debug__" : Str)) = false := by decide)
    (hcd : (x == ("__classdict__" : Str)) = false := by decide) (hm : behindInMarks .NotIn (.Name x px) = false := by rfl) :
    EM X (.Compare e [.NotIn] [.Name x px] pos) (fInSt true f j) := (pe_cmpR (NS.op_ninN X (by have := hr.units; omega)) h (pv j hN hv hd hcd) hm).wk fun σ H Q q => by
  have := inSt_in (neg := true) (X := X) rfl trivial σ H Q q
  simpa only [if_true] using this
theorem e_inSt {k : Nat} (j : Nat) {px : Pos} (hr : Room k X.A) (h : EM X e f) (hN : X.N[j]? = some x := by rfl) (hv : Vis X.env.scope x := by first | exact Or.inl rfl | exact Or.inr (Or.inl rfl) | exact Or.inr (Or.inr rfl)) (hd : (x == ("__debug__" : Str)) = false := by decide)
    (hcd : (x == ("__classdict__" : Str)) = false := by decide) (hm : behindInMarks .In (.Name x px) = false := by rfl) :
    EM X (.Compare e [.In] [.Name x px] pos) (fInSt false f j) := (pe_cmpR (NS.op_inN X (by have := hr.units; omega)) h (pv j hN hv hd hcd) hm).wk fun σ H Q q => by
  have := inSt_in (neg := false) (X := X) rfl trivial σ H Q q
  simpa only [Bool.false_eq_true, if_false] using this
theorem t_ninSt {k : Nat} (j : Nat) {px : Pos} (hr : Room k X.A) (h : EM X e f) (hN : X.N[j]? = some x := by rfl) (hv : Vis X.env.scope x := by first | exact Or.inl rfl | exact Or.inr (Or.inl rfl) | exact Or.inr (Or.inr rfl)) (hd : (x == ("__debug__" : Str)) = false := by decide)
    (hcd : (x == ("__classdict__" : Str)) = false := by decide) (hm : behindInMarks .NotIn (.Name x px) = false := by rfl) :
    TM X (.Compare e [.NotIn] [.Name x px] pos) (fT (fInSt true f j)) := t_tTest (pt_cmpR (NS.op_ninN X (by have := hr.units; omega)) h (pv j hN hv hd hcd) hm) fun σ H Q q => by
  have := inSt_in (neg := true) (X := X) rfl trivial σ H Q q
  simpa only [if_true] using this
end
end PL

namespace PL
open PySem PySem.Spec PyProof.Rows L2
/-! ### stars in displays and calls -/
def tasO (K : PySem.W.Frag) (f : Av) : TA := fun σ H Q => ∃ c G b T ms b', f b = some (ms, b') ∧ Iv K c G H σ b T ∧ ∀ us G' H', ms.length = us.length → Iv K c G' H' σ b' (zT ms us ++ T) → Q us H'
abbrev ASt (X : Cx) (es : List Expr) (f : Av) : Prop := PA X es (tasO X.K f)
/-- *e, .. -/
def fStar (f : Ev) (fs : Av) : Av := fun b => match f b with
  | some (.d d, b1) => (match d.items with
    | some ds => (match fs b1 with
      | some (ms, b2) => some (ds.map .d ++ ms, b2)
      | none => none)
    | none => none)
  | _ => none
section
variable {K : PySem.W.Frag} {c : Cg} {G H : Hp} {σ : L2.St} {b : List B} {T : List (M × V)} {v : V}
theorem Iv.pushDs : ∀ {ds : List D} {xs : List V}, Iv K c G H σ b T → RpL K G ds xs → Iv K c G H σ b (zT (ds.map .d) xs ++ T)
  | [], xs, I, h => by
    simp only [RpL] at h
    subst h
    exact I
  | d :: ds, xs, I, h => by
    simp only [RpL] at h
    obtain ⟨y, ys, rfl, h1, h2⟩ := h
    exact (Iv.pushDs I h2).pushD h1
theorem rpl_len : ∀ {ds : List D} {xs : List V}, RpL K G ds xs → ds.length = xs.length
  | [], xs, h => by
    simp only [RpL] at h
    subst h; rfl
  | d :: ds, xs, h => by
    simp only [RpL] at h
    obtain ⟨y, ys, rfl, h1, h2⟩ := h
    simp [rpl_len h2]
theorem zT_app : ∀ {ms ns : List M} {us vs : List V}, ms.length = us.length → zT (ms ++ ns) (us ++ vs) = zT ms us ++ zT ns vs
  | [], ns, [], vs, _ => rfl
  | m :: ms, ns, u :: us, vs, h => by
    have := zT_app (ms := ms) (ns := ns) (us := us) (vs := vs) (by simpa using h)
    unfold zT at *
    simp only [List.cons_append, List.zip_cons_cons, this]
  | [], _, _ :: _, _, h => by simp at h
  | _ :: _, _, [], _, h => by simp at h
theorem items_rp {d : D} {ds : List D} (e : d.items = some ds) (h : Rp K G d v) (s : Same G H) : ∃ p xs, v = .ref p ∧ (SqT K H p xs ∨ SqL K H p xs) ∧ RpL K G ds xs := by
  cases d with
  | tup es =>
    simp only [D.items, Option.some.injEq] at e
    subst e
    simp only [Rp] at h
    obtain ⟨p, xs, rfl, h2, h3⟩ := h
    exact ⟨p, xs, rfl, .inl (sqt_mono s h2), h3⟩
  | lst es =>
    simp only [D.items, Option.some.injEq] at e
    subst e
    simp only [Rp] at h
    obtain ⟨p, xs, rfl, h2, h3⟩ := h
    exact ⟨p, xs, rfl, .inr (SqL.of (s _ _ h2)), h3⟩
  | seq es =>
    simp only [D.items, Option.some.injEq] at e
    subst e
    simp only [Rp] at h
    obtain ⟨p, xs, rfl, h2, h3⟩ := h
    exact ⟨p, xs, rfl, .inr (s.seq h2), h3⟩
  | _ => simp [D.items] at e
end
section
variable {X : Cx} {e e1 e2 : Expr} {es : List Expr} {pos p sp_ : Pos} {f : Ev} {fs : Av} {C : Str} {F : Fn} {k : Nat} {dvs : List V} {E : XK}
theorem as_nil : ASt X [] fNil := pa_nil.wk fun σ H Q => by
  rintro ⟨c, G, b, T, ms, b', hf, I, q⟩
  simp only [fNil, Option.some.injEq, Prod.mk.injEq] at hf
  obtain ⟨rfl, rfl⟩ := hf
  exact q [] G H rfl I
theorem as_cons (h : EM X e f) (hr : ASt X es fs) (hs : starEach (e :: es) X.env = (false, eval e X.env) :: starEach es X.env := by rfl) : ASt X (e :: es) (fCons f fs) := (pa_cons h hr hs).wk fun σ H Q => by
  rintro ⟨c, G, b, T, ms, b', hf, I, q⟩
  unfold fCons at hf
  split at hf
  · rename_i m b1 e1
    split at hf
    · rename_i ms' b2 e2
      cases hf
      refine ⟨c, G, b, T, m, b1, e1, I, fun v G1 H1 I1 => ⟨c, G1, b1, _, ms', b', e2, I1, fun us G2 H2 hl I2 => ?_⟩⟩
      exact q (v :: us) G2 H2 (by simp [hl]) (I2.perm List.perm_middle)
    · cases hf
  · cases hf
theorem as_star (h : EM X e f) (hr : ASt X es fs) (hs : starEach (.Starred e p :: es) X.env = (true, eval e X.env) :: starEach es X.env := by rfl) : ASt X (.Starred e p :: es) (fStar f fs) := (StX.pa_star h hr hs).wk fun σ H Q => by
  rintro ⟨c, G, b, T, ms, b', hf, I, q⟩
  unfold fStar at hf
  split at hf
  · rename_i d b1 e1
    split at hf
    · rename_i ds ei
      split at hf
      · rename_i ms' b2 e2
        cases hf
        refine ⟨c, G, b, T, _, b1, e1, I, fun v G1 H1 I1 => ?_⟩
        obtain ⟨pp, xs, rfl, hq, hx⟩ := items_rp ei I1.topD I1.st.gh
        refine ⟨pp, xs, rfl, hq, c, G1, b1, _, ms', b', e2, I1.drop.pushDs hx, fun us G2 H2 hl I2 => ?_⟩
        have hl2 := rpl_len hx
        refine q (xs ++ us) G2 H2 (by simp [hl, hl2]) (I2.perm ?_)
        rw [zT_app (by simpa using hl2), List.append_assoc]
        rw [← List.append_assoc, ← List.append_assoc]
        exact List.Perm.append_right T List.perm_append_comm
      · cases hf
    · cases hf
  · cases hf
theorem e_lstS (h : ASt X es fs) : EM X (.List es pos) (fOf gLst fs) := (pe_lst h).wk fun σ H Q => by
  rintro ⟨c, G, b, T, m, b', hf, I, q⟩
  unfold fOf at hf
  split at hf
  · rename_i ms b1 e1
    split at hf
    · rename_i m1 e2
      cases hf
      refine ⟨c, G, b, T, ms, b', e1, I, fun us G1 H1 hl I1 => ?_⟩
      unfold gLst at e2
      split at e2
      · rename_i hz
        cases e2
        exact ⟨by rw [← hl]; exact le_line hz, fun p hp => q _ _ _ (I1.newLst hl hp)⟩
      · cases e2
    · cases hf
  · cases hf
theorem e_tupS {nn : Nat} (h : ASt X es fs) : EM X (.Tuple es nn pos) (fOf PL.gTup fs) := (pe_tup h).wk fun σ H Q => by
  rintro ⟨c, G, b, T, m, b', hf, I, q⟩
  unfold fOf at hf
  split at hf
  · rename_i ms b1 e1
    split at hf
    · rename_i m1 e2
      cases hf
      refine ⟨c, G, b, T, ms, b', e1, I, fun us G1 H1 hl I1 => ?_⟩
      unfold PL.gTup at e2
      split at e2
      · rename_i hz
        split at e2
        · rename_i ds e3
          cases e2
          refine ⟨by rw [← hl]; exact le_line hz, fun p hp => q _ _ _ (I1.dropZ.newT hp (I1.datas hl e3))⟩
        · cases e2
      · cases e2
    · cases hf
  · cases hf
/-- C( *e) -/
def fMakeS (C : Str) (F : Fn) (dds : List D) (f : Ev) : Ev := fun b => match f b with
  | some (.d d, b1) => (match d.items with
    | some ds => (match F (.obj C [] [] :: (ds.map .d ++ dds.map .d)) with
      | some (.d .non, [m']) => some (m', b1)
      | _ => none)
    | none => none)
  | _ => none
theorem pe_makeS1 {CA f : Addr} {CX : CXT} {sp : Sp} {te : TE} (Mk_ : Mk X.K CA f) (F : FnR X.prog X.w X.K X.mg X.base CX k f sp) (hr : Room (k + 1) X.A) (hg : Gl X C) (hm : X.mg C = some (.ref CA)) (hx : Passes CX X E) (he : PE X e te) (hd : (C == ("__debug__" : Str)) = false := by decide)
    (hst : starEach [.Starred e sp_] X.env = [(true, eval e X.env)] := by rfl) :
    PE X (.Call (.Name C p) [.Starred e sp_] [] pos) (fun σ H Q => te σ H fun y H1 => ∃ a xs, y = V.ref a ∧ (SqT X.K H1 a xs ∨ SqL X.K H1 a xs) ∧ ∀ x dx, H1 x = none → H1 dx = none → dx ≠ x → sp (V.ref x :: xs) (upd (upd H1 dx (.own x)) x (.ins CA dx [])) (fun v H2 => v = .non ∧ Q (.ref x) H2) E) := by
  refine ⟨fun pins s σ H Q I h => ?_⟩
  refine wpAny_Call_Name_kw (ld_glob I hg hm ?_ hd)
  refine PySem.W.callWith_S (h₀ := X.base) I.ok.mod.kin Mk_.kp (thn (he.run pins s σ H _ I h) fun v s1 ⟨y, H1, I1, ry, a, xs, ey, hxs, q⟩ => ?_) hst
  subst ey
  obtain rfl : v = Value.ref a := ry
  exact StX.star_any I1 hxs fun us s2 I2 rv => ⟨I2.kIn, StX.run_makeR Mk_ F hr hx I2 rv q⟩
theorem fill_datas (b : List B) : ∀ ds : List D, fill (ds.map fun _ => none) (ds.map .d) b = some (ds.map .d, [], b)
  | [] => rfl
  | d :: ds => by
    have := fill_datas b ds
    simp only [List.map_cons, fill, this]
theorem putb_datas (b : List B) : ∀ ds : List D, putb (ds.map fun _ => none) [] (ds.map .d) [] b = some b
  | [] => rfl
  | d :: ds => by
    have := putb_datas b ds
    simp only [List.map_cons, putb, M.isD, if_true, this]
theorem av_datas (σ : L2.St) : ∀ (ds : List D) (xs : List V), ds.length = xs.length → AV σ (ds.map fun _ => none) xs xs
  | [], [], _ => ⟨rfl, rfl⟩
  | d :: ds, x :: xs, h => ⟨x, xs, xs, rfl, rfl, av_datas σ ds xs (by simpa using h)⟩
  | [], _ :: _, h => by simp at h
  | _ :: _, [], h => by simp at h
theorem e_makeS (h : MakOk X.prog X.w X.K X.mg X.base k C dvs F) (hr : Room (k + 1) X.A) {dds : List D} (hd : ∀ G, RpL X.K G dds dvs) (he : EM X e f) (hg : Gl X C := by rfl) (hdb : (C == ("__debug__" : Str)) = false := by decide)
    (hst : starEach [.Starred e sp_] X.env = [(true, eval e X.env)] := by rfl) : EM X (.Call (.Name C p) [.Starred e sp_] [] pos) (fMakeS C F dds f) := by
  obtain ⟨fa, fd, ps, ds, h1, h3, h4, h5⟩ := h.ex
  refine (pe_makeS1 (E := E0) h1 (h5.raw h3 h4) hr hg h.at_ pass0 he hdb hst).wk fun σ H Q => ?_
  rintro ⟨c, G, b, T, m, b', hf, I, q⟩
  unfold fMakeS at hf
  split at hf
  · rename_i d b1 e1
    split at hf
    · rename_i ds ei
      split at hf
      · rename_i m' e3
        cases hf
        refine ⟨c, G, b, T, _, b', e1, I, fun v G1 H1 I1 => ?_⟩
        obtain ⟨pp, xs, rfl, hq, hx⟩ := items_rp ei I1.topD I1.st.gh
        have hl2 := rpl_len hx
        refine ⟨pp, xs, rfl, hq, fun x dx q1 q2 q3 => ?_⟩
        exact Iv.make (I1.drop.pushDs hx) (by simpa using hl2) (av_datas σ ds xs hl2) (hd G1) (fill_datas b' ds) e3 (putb_datas b' ds) q1 q2 q3 fun G' H' I' => q _ G' H' I'
      · cases hf
    · cases hf
  · cases hf
end
end PL

namespace PL
open PySem PySem.Spec PyProof.Rows L2
/-! ### sorted(set(xs)) of ints -/
/-- put in its place, if it is not there -/
def insU (i : Int) : List Int → List Int
  | [] => [i]
  | x :: xs => if i < x then i :: x :: xs else if i = x then x :: xs else x :: insU i xs
def srtU : List Int → List Int
  | [] => []
  | x :: xs => insU x (srtU xs)
theorem insU_mem {i k : Int} : ∀ {xs : List Int}, k ∈ insU i xs ↔ k = i ∨ k ∈ xs
  | [] => by simp [insU]
  | x :: xs => by
    unfold insU
    split
    · simp
    · split
      · rename_i h; subst h; simp
      · simp only [List.mem_cons, insU_mem (xs := xs)]
        constructor
        · rintro (h | h | h) <;> simp [h]
        · rintro (h | h | h) <;> simp [h]
theorem srtU_mem {k : Int} : ∀ {xs : List Int}, k ∈ srtU xs ↔ k ∈ xs
  | [] => by simp [srtU]
  | x :: xs => by
    unfold srtU
    rw [insU_mem, srtU_mem (xs := xs), List.mem_cons]
theorem insU_lt {i : Int} : ∀ {xs : List Int}, xs.Pairwise (· < ·) → (insU i xs).Pairwise (· < ·)
  | [], _ => by simp [insU]
  | x :: xs, h => by
    have h2 := List.pairwise_cons.mp h
    unfold insU
    split
    · rename_i c
      refine List.pairwise_cons.mpr ⟨fun y hy => ?_, h⟩
      rcases List.mem_cons.mp hy with e | e
      · rw [e]; exact c
      · exact Int.lt_trans c (h2.1 y e)
    · split
      · exact h
      · refine List.pairwise_cons.mpr ⟨fun y hy => ?_, insU_lt h2.2⟩
        rcases insU_mem.mp hy with e | e
        · rw [e]; omega
        · exact h2.1 y e
theorem srtU_lt : ∀ {xs : List Int}, (srtU xs).Pairwise (· < ·)
  | [] => List.Pairwise.nil
  | x :: xs => insU_lt srtU_lt
theorem lt_uniq : ∀ {xs ys : List Int}, xs.Pairwise (· < ·) → ys.Pairwise (· < ·) → (∀ k, k ∈ xs ↔ k ∈ ys) → xs = ys
  | [], [], _, _, _ => rfl
  | [], y :: ys, _, _, h => by have := (h y).mpr (by simp); simp at this
  | x :: xs, [], _, _, h => by have := (h x).mp (by simp); simp at this
  | x :: xs, y :: ys, hx, hy, h => by
    have px := List.pairwise_cons.mp hx
    have py := List.pairwise_cons.mp hy
    have e : x = y := by
      have a := (h x).mp (by simp)
      have b := (h y).mpr (by simp)
      rcases List.mem_cons.mp a with e | e
      · exact e
      · rcases List.mem_cons.mp b with e2 | e2
        · exact e2.symm
        · have := py.1 x e
          have := px.1 y e2
          omega
    subst e
    refine congrArg _ (lt_uniq px.2 py.2 fun k => ⟨fun hk => ?_, fun hk => ?_⟩)
    · have := px.1 k hk
      rcases List.mem_cons.mp ((h k).mp (by simp [hk])) with e | e
      · omega
      · exact e
    · have := py.1 k hk
      rcases List.mem_cons.mp ((h k).mpr (by simp [hk])) with e | e
      · omega
      · exact e
def tSrt (K : PySem.W.Frag) (ta : TE) : TE := fun σ H Q => ta σ H fun x H1 => ∃ (l : Addr) (ns : List Int), x = V.ref l ∧ SqL K H1 l (ns.map V.int) ∧ ns.length < 64 ∧ ∀ p, H1 p = none → Q (.ref p) (upd H1 p (.lst ((srtU ns).map V.int)))
section
variable {X : Cx} {e e1 e2 o : Expr} {p p2 q pos apos : Pos} {ta : TE} {f f1 f2 : Ev} {k : Nat}
theorem sorted_inv {pins : List (Addr × Obj)} {σ : L2.St} {H : Hp} {s : Shared} {a : Addr} {S : Int → Bool} {n : Nat} {Q : VK} (I : Inv X pins σ H s) (hc : X.calm = true) (R : SetR X.w s.heap a S n) (h64 : n < 64)
    (q : ∀ (ks : List Int) (p : Addr), ks.Pairwise (· < ·) → (∀ z, z ∈ ks ↔ S z = true) → H p = none → Q (.ref p) (upd H p (.lst (ks.map V.int)))) : wpAny (model X.prog X.w) X.A (call (.builtin "sorted") [.ref a]) (EP X pins σ Q) X.xe s := by
  refine sorted_set R (I.ok.hd hc) h64 fun s' pp out c ks kk g o hp hgt hi hs hm hll => ?_
  have hlen : (ks.map V.int).length ≤ sizeLine := by rw [List.length_map, hll, sizeLine_eq]; omega
  have hnn : H pp = none := I.hok.fresh hp
  have J : Inv X pins σ (upd H pp (.lst (ks.map V.int))) { s with heap := s'.heap, gens := s'.gens, drawn := s'.drawn, toks := s'.toks } :=
    I.call (ch := []) (Un.laid kk hp hnn) (I.hok.laid kk hp ⟨hlen, out.toList, c, vals_of_ints hi, hgt⟩) (by rw [g]; exact I.bare) (fun _ z => nomatch z)
  have e : s' = { s with heap := s'.heap, gens := s'.gens, drawn := s'.drawn, toks := s'.toks } := by
    cases s'
    cases s
    cases o
    rfl
  rw [e]
  exact ⟨.ref pp, _, J, rfl, q ks pp hs hm hnn⟩
theorem pe_srt (hg : Gl X "sorted") (hm : X.mg "sorted" = none) (hg2 : Gl X "set") (hm2 : X.mg "set" = none) (ha : PE X e ta) (hc : X.calm = true)
    (na : starEach [e] X.env = (false, eval e X.env) :: starEach [] X.env := by rfl) : PE X (.Call (.Name "sorted" p) [.Call (.Name "set" p2) [e] [] q] [] pos) (tSrt X.K ta) := by
  refine ⟨fun pins s σ H Q I h => ?_⟩
  refine Call_ (ld_blt I hg hm boot_sorted ?_)
  refine PyProof.Rows.callWith_builtin1 (PyProof.Rows.args_cons ?_ rfl) rfl rfl
  refine Call_ (ld_blt I hg2 hm2 PyProof.Rows.boot_set ?_)
  refine PyProof.Rows.callWith_type1 (PyProof.Rows.args_cons (thn (ha.run pins s σ H _ I h) fun v s1 ⟨x, H1, I1, r1, q1⟩ => PyProof.Rows.args_nil ?_) na) na rfl
  obtain ⟨l, ns, rfl, hq, hl, q1⟩ := q1
  cases r1
  obtain ⟨its, r, pl, hz⟩ := I1.list hq
  refine NS.set_fill (I1.ok.hd hc) pl.isList (ns := ns) (by simpa using r.ints) (by unfold scanBound; omega) fun h' tk n hR hn hk => ?_
  refine PyProof.Rows.args_nil ?_
  have I2 : Inv X pins σ H1 { s1 with heap := h', toks := tk } := I1.kept hk
  exact sorted_inv I2 hc hR (by omega) fun ks p h1 h2 h3 => by
    have ek : ks = srtU ns := lt_uniq h1 srtU_lt fun z => by rw [h2, srtU_mem]; simp
    subst ek
    exact q1 p h3
def fSrt (f : Ev) : Ev := fun b => match f b with
  | some (.d (.lst ds), b1) => (match D.ints ds with
    | some ns => if ns.length < 64 then some (.lst ((srtU ns).map fun i => .d (.int i)), b1) else none
    | none => none)
  | _ => none
theorem e_srt (hm : X.mg "sorted" = none) (hm2 : X.mg "set" = none) (h : EM X e f) (hc : X.calm = true := by rfl) (hg : Gl X "sorted" := by rfl) (hg2 : Gl X "set" := by rfl) (na : starEach [e] X.env = (false, eval e X.env) :: starEach [] X.env := by rfl) :
    EM X (.Call (.Name "sorted" p) [.Call (.Name "set" p2) [e] [] q] [] pos) (fSrt f) := (pe_srt hg hm hg2 hm2 h hc na).wk fun σ H Q => by
  rintro ⟨c, G, b, T, r, b', hf, I, qq⟩
  unfold fSrt at hf
  split at hf
  · rename_i ds b1 e1
    split at hf
    · rename_i ns en
      split at hf
      · rename_i hz
        cases hf
        refine ⟨c, G, b, T, _, b', e1, I, fun v G1 H1 I1 => ?_⟩
        have r := I1.topD
        simp only [Rp] at r
        obtain ⟨pp, xs, rfl, h2, h3⟩ := r
        have := h3.ints en
        subst this
        refine ⟨pp, ns, rfl, SqL.of (I1.st.gh _ _ h2), hz, fun p hp => ?_⟩
        refine qq _ G1 _ ?_
        have J : Iv X.K c G1 H1 σ b' (zT ((srtU ns).map fun i => M.d (.int i)) ((srtU ns).map V.int) ++ T) := by
          have : ∀ zs : List Int, Iv X.K c G1 H1 σ b' (zT (zs.map fun i => M.d (.int i)) (zs.map V.int) ++ T) := fun zs => by
            induction zs with
            | nil => exact I1.drop
            | cons z zs ih => exact ih.pushD (by simp [Rp])
          exact this _
        exact J.newLst (by simp) hp
      · cases hf
    · cases hf
  · cases hf
/-! ### list.index of ints -/
def ixI (i : Int) : List Int → Option Nat
  | [] => none
  | x :: xs => if x = i then some 0 else (match ixI i xs with
    | some j => some (j + 1)
    | none => none)
theorem ixI_ok {i : Int} : ∀ {xs : List Int} {j : Nat}, ixI i xs = some j → xs[j]? = some i ∧ ∀ (m : Nat) (z : Int), m < j → xs[m]? = some z → z ≠ i
  | [], _, h => by simp [ixI] at h
  | x :: xs, j, h => by
    unfold ixI at h
    split at h
    · rename_i e
      cases h
      exact ⟨by simp [e], fun m z hm => absurd hm (Nat.not_lt_zero m)⟩
    · rename_i ne
      split at h
      · rename_i j' e
        cases h
        obtain ⟨h1, h2⟩ := ixI_ok e
        refine ⟨by simpa using h1, fun m z hm hz => ?_⟩
        cases m with
        | zero => simp at hz; rw [← hz]; exact ne
        | succ m => exact h2 m z (by omega) (by simpa using hz)
      · cases h
def gLidx (a b : D) : Option D := match a, b with
  | .lst ds, .int i => (match D.ints ds with
    | some ns => (match ixI i ns with
      | some j => some (.int j)
      | none => none)
    | none => none)
  | _, _ => none
/-- xs.index(i) -/
theorem e_lidx (h1 : EM X e1 f1) (h2 : EM X e2 f2)
    (hbase : attributeBase e1 "index" X.env (eval e1 X.env) = eval e1 X.env := by rfl)
    (hfew : ((backTo pos (starEach (e2 :: []) X.env)).all (fun x => !x.1) && (backToKw pos (keywordEach [] X.env)).all (fun x => x.1.isSome)
      && decide ((e2 :: []).length + ([] : List Keyword).length + (if ([] : List Keyword).isEmpty then 0 else 1) < 30)) = true := by rfl)
    (hline : (apos.endLine == pos.line) = true := by rfl) (hs : starEach (e2 :: []) X.env = (false, eval e2 X.env) :: starEach [] X.env := by rfl) (hplain : (backTo pos (starEach [] X.env)).any (·.1) = false := by rfl) :
    EM X (.Call (.Attribute e1 "index" apos) [e2] [] pos) (fOp (g2 gLidx) f1 f2) := by
  refine (pe_bm PySem.F.plainAttrs_list PySem.F.slot_list_index PySem.F.type_list_index L2.mt_index h1 (pa_cons h2 pa_nil hs) hbase hfew hline hs hplain).wk fun σ H Q => ?_
  rintro ⟨c, G, b, T, r, b', hf, I, qq⟩
  unfold fOp at hf
  split at hf
  · rename_i m1 b1 e1'
    split at hf
    · rename_i m2 b2 e2'
      split at hf
      · rename_i m3 e3
        cases hf
        unfold PL.g2 at e3
        split at e3
        · rename_i d1 d2
          cases ed : gLidx d1 d2 with
          | none => rw [ed] at e3; simp at e3
          | some dd =>
            rw [ed] at e3
            simp at e3
            subst e3
            unfold gLidx at ed
            split at ed
            · rename_i ds i
              split at ed
              · rename_i ns en
                split at ed
                · rename_i j ej
                  cases ed
                  refine ⟨c, G, b, T, _, b1, e1', I, fun v G1 H1 I1 => ?_⟩
                  have r1 := I1.topD
                  simp only [Rp] at r1
                  obtain ⟨pp, xs, rfl, h3, h4⟩ := r1
                  have := h4.ints en
                  subst this
                  refine ⟨.inl ⟨rfl, _, SqL.of (I1.st.gh _ _ h3)⟩, c, G1, b1, _, _, b', e2', I1, fun v2 G2 H2 I2 => ?_⟩
                  have r2 := I2.topD
                  simp only [Rp] at r2
                  subst r2
                  have r1 := I2.drop.topD
                  simp only [Rp] at r1
                  obtain ⟨pp', xs', e', h3', h4'⟩ := r1
                  cases e'
                  have := h4'.ints en
                  subst this
                  obtain ⟨w1, w2⟩ := ixI_ok ej
                  refine ⟨pp, ns.map V.int, .int i, j, .int i, rfl, rfl, SqL.of (I2.st.gh _ _ h3'), rfl, by simp [flatV], by simp [w1], by simp [eqV], fun m z hm hz => ?_, qq _ G2 H2 (I2.drop.drop.pushD (by simp [Rp]))⟩
                  rw [List.getElem?_map] at hz
                  cases hq : ns[m]? with
                  | none => rw [hq] at hz; simp at hz
                  | some y =>
                    rw [hq] at hz
                    simp at hz
                    subst hz
                    have := w2 m y hm hq
                    simp [eqV, this]
                · cases ed
              · cases ed
            · cases ed
        · cases e3
      · cases hf
    · cases hf
  · cases hf
/-! ### lists of unlike lengths are not equal -/
def rNeSz (K : PySem.W.Frag) : R2 := fun x y H Q => ∃ a b xs ys, x = .ref a ∧ y = .ref b ∧ SqL K H a xs ∧ SqL K H b ys ∧ xs.length ≠ ys.length ∧ Q (.bl true) H
theorem op_neSz (hu : X.A.units < cLine) : OpR X (compareOp .NotEq) (rNeSz X.K) := by
  intro pins s σ H x y v u Q I rx ry h
  obtain ⟨a, b, xs, ys, rfl, rfl, ha, hb, hl, q⟩ := h
  obtain rfl : v = Value.ref a := rx
  obtain rfl : u = Value.ref b := ry
  obtain ⟨us, r1, p1, _⟩ := I.list ha
  obtain ⟨ws, r2, p2, _⟩ := I.list hb
  exact PySem.SeqAt.RcNeAt.lists_lengths p1.isList p2.isList (by rw [List.size_toArray, List.size_toArray, ← r1.length, ← r2.length]; simpa using hl) hu _ _ _ _ ⟨.bl true, H, I, rfl, q⟩
def gNeX : D → D → Option D := fun a b => match a, b with
  | .lst xs, .lst ys => if xs.length ≠ ys.length then some (.bl true) else gNe a b
  | _, _ => gNe a b
def rNeX (K : PySem.W.Frag) : R2 := fun x y H Q => rNeD K x y H Q ∨ rNeSz K x y H Q
theorem op_neX (hu : X.A.units + 64 < cLine) : OpR X (compareOp .NotEq) (rNeX X.K) := fun pins s σ H x y v u Q I rx ry h => by
  rcases h with h | h
  · exact op_neD hu pins s σ H x y v u Q I rx ry h
  · exact op_neSz (by omega) pins s σ H x y v u Q I rx ry h
theorem os_neX {K : PySem.W.Frag} : OpS K (rNeX K) (g2 gNeX) := OpS.pure fun c G H x y d1 d2 d Q hg s r1 r2 q => by
  have plain : gNe d1 d2 = some d → rNeX K x y H Q := fun hg => .inl (pu_ne (K := K) H x y d1 d2 d Q hg (Rp.mono s _ _ r1) (Rp.mono s _ _ r2) fun v hv => q v (hv G))
  unfold gNeX at hg
  split at hg
  · split at hg
    · rename_i hne
      cases hg
      simp only [Rp] at r1 r2
      obtain ⟨p1, xs, rfl, h2, h3⟩ := r1
      obtain ⟨p2, ys, rfl, h4, h5⟩ := r2
      exact .inr ⟨p1, p2, xs, ys, rfl, rfl, SqL.of (s _ _ h2), SqL.of (s _ _ h4), by rw [← h3.len, ← h5.len]; exact hne, q _ (by simp [Rp])⟩
    · exact plain hg
  · exact plain hg
theorem t_neX (hr : Room k X.A) (h1 : EM X e1 f1) (h2 : EM X e2 f2) : TM X (.Compare e1 [.NotEq] [e2] pos) (fT (fOp (g2 gNeX) f1 f2)) := t_cmp (op_neX hr.units) os_neX h1 h2 (nomark _)
end
end PL

namespace PL
open PySem PySem.Spec PyProof.Rows L2
/-! ### C(e, .., k = v): all but self by position, the last by its name -/
theorem funD_kbnD {K : PySem.W.Frag} {x qual : Str} {params : Arguments} {body : List Stmt} {scope : Scope} {dvs : List V} {kws : List (Str × V)} {f : Addr} {fd : FuncData} {ps : List Str} (F : FunD K x qual params body scope dvs kws f fd) (hd : dvs ≠ []) (n : Nat) (ks : List Str) (g : {α : Type} → List α → List α → List α)
    (hrel : ∀ {vs zs : List V} {us ws : List Value}, Vals vs us → Vals zs ws → Vals (g vs zs) (g us ws))
    (h : ∀ (T : Addr) (kV doc pm : Value) (an : Option Addr) (cdv ct : Value) (us its ws : List Value), us.length = n → its.length = dvs.length → ws.length = ks.length →
      ∃ k, bindArgs (PySem.W.fnOf x qual params body scope (.ref T) kV doc pm an cdv ct) ⟨us, ks.zip ws⟩ = seqItems? (.ref T) >>= k ∧ k (some its.toArray) = pure (ps.zip (g us ws))) :
    KBn K fd ps n ks (fun us ws => g us ws) (fun vs zs => g vs zs) := by
  obtain ⟨oc, od, dV, kV, doc, pm, an, cdv, ct, osl, rfl, lk, hcd, hD, hK⟩ := F.ex
  rcases hD with ⟨e, _⟩ | ⟨_, T, o, its, m, rfl, lT, oT, rT⟩
  · exact absurd e hd
  · refine ⟨fun s us ws X l1 l2 => ?_, fun r1 r2 => hrel r1 r2⟩
    obtain ⟨k, e1, e2⟩ := h T kV doc pm an cdv ct us its ws l1 rT.length.symm l2
    refine BindsTo.of_looks fun M => ?_
    rw [e1]
    exact looks_items X lT oT (.of_pure e2)
structure MakJOk (P : Program) (w : World) (K : PySem.W.Frag) (mg : Str → Option Value) (base : Heap) (k : Nat) (C kn : Str) (n : Nat) (F : Fn) : Prop where
  at_ : mg C = some (.ref (He.ga K C))
  ex : ∃ f fd ps, Mk K (He.ga K C) f ∧ KBn K fd ps (n + 1) [kn] (fun us ws => us ++ ws) (fun vs zs => vs ++ zs) ∧ FnOk P w K mg base CX0 k f fd ps (spD K F)
section
variable {X : Cx} {e e1 e2 : Expr} {es : List Expr} {pos p kpos : Pos} {f f1 f2 : Ev} {fs : Av} {C kn : Str} {F : Fn} {k n : Nat} {E : XK}
/-- the arguments stand as data; so does the last -/
def fMakeJ (C : Str) (F : Fn) (n : Nat) (fs : Av) (f : Ev) : Ev := fun b => match fs b with
  | some (ms, b1) => (match M.datas ms with
    | some ds => (match f b1 with
      | some (.d d, b2) => if ds.length = n then (match F (.obj C [] [] :: (ds ++ [d]).map .d) with
        | some (.d .non, [m']) => some (m', b2)
        | _ => none) else none
      | _ => none)
    | none => none)
  | none => none
theorem e_makeJ (h : MakJOk X.prog X.w X.K X.mg X.base k C kn n F) (hr : Room (k + 1) X.A) (ha : ASt X (e :: es) fs) (hv : EM X e2 f2) (hg : Gl X C := by rfl)
    (hall : (backToKw pos (keywordEach [⟨some kn, e2, kpos⟩] X.env)).all (·.1.isSome) = true := by rfl) (hks : (backToKw pos (keywordEach [⟨some kn, e2, kpos⟩] X.env)).filterMap (·.1) = [kn] := by rfl) (hdb : (C == ("__debug__" : Str)) = false := by decide)
    (he : starEach (e :: es) X.env = (false, eval e X.env) :: starEach es X.env := by rfl) (hpl : ((backTo pos (starEach (e :: es) X.env)).any (·.1) || (backToKw pos (keywordEach [⟨some kn, e2, kpos⟩] X.env)).any (·.1.isNone)) = false := by rfl) :
    EM X (.Call (.Name C p) (e :: es) [⟨some kn, e2, kpos⟩] pos) (fMakeJ C F n fs f2) := by
  obtain ⟨fa, fd, ps, z1, z3, z5⟩ := h.ex
  refine (pe_makeK (E := E0) z1 z5 hr hg h.at_ z3 pass0 ha (pk_cons hv pk_nil) hall hks hdb he hpl).wk fun σ H Q => ?_
  rintro ⟨c, G, b, T, r, b', hf, I, q⟩
  unfold fMakeJ at hf
  split at hf
  · rename_i ms b1 e1
    split at hf
    · rename_i ds ed
      split at hf
      · rename_i d b2 ef
        split at hf
        · rename_i hn
          split at hf
          · rename_i m' eF
            cases hf
            refine ⟨c, G, b, T, ms, b1, e1, I, fun us G1 H1 hl I1 => ⟨c, G1, b1, _, .d d, b', ef, I1, fun v2 G2 H2 I2 => ?_⟩⟩
            have em := datas_eq ed
            have hl2 : ds.length = us.length := by rw [← hl, em, List.length_map]
            have r2 := I2.topD
            have I3 := I2.drop
            rw [em] at I3
            refine ⟨by rw [← hl2]; exact hn, rfl, fun xx dx hx hdx ne => ?_⟩
            have I4 : Iv X.K c G2 H2 σ b' (zT ((ds ++ [d]).map M.d) (us ++ [v2]) ++ T) := by
              have : zT ((ds ++ [d]).map M.d) (us ++ [v2]) = zT (ds.map M.d) us ++ zT [M.d d] [v2] := by
                rw [List.map_append]
                exact zT_app (by simpa using hl2)
              rw [this, List.append_assoc]
              rw [em] at I2
              refine I2.perm ?_
              exact List.perm_middle.symm
            have := Iv.make (F := F) (dds := []) (dvs := []) (src := (ds ++ [d]).map fun _ => none) (ms := (ds ++ [d]).map .d) (us := us ++ [v2]) (vs := us ++ [v2]) (Q := Q) (E := E0) I4 (by simp [hl2]) (av_datas σ (ds ++ [d]) (us ++ [v2]) (by simp [hl2])) (by simp [RpL]) (fill_datas b' (ds ++ [d])) (by simpa using eF) (putb_datas b' (ds ++ [d])) hx hdx ne fun G' H' I' => q _ G' H' I'
            simpa using this
          · cases hf
        · cases hf
      · cases hf
    · cases hf
  · cases hf
end
end PL

namespace PL
open PySem PySem.Spec PyProof.Rows L2
/-- self.list.extend(what is looked at) -/
def sExtP (j : Nat) (π : Pth) (f : Ev) : Sv := fun b => match getP b j π with
  | some (.lst ms) => (match f b with
    | some (.lst ns, _) => if ms.length + ns.length ≤ 1000000 then (match setP b j π (.lst (ms ++ ns)) with
        | some b2 => some (.nx, b2)
        | none => none) else none
    | _ => none)
  | _ => none
section
variable {X : Cx} {e e1 e2 e3 : Expr} {es : List Expr} {pos : Pos} {f : Ev} {j : Nat} {π : Pth}
theorem s_extP {p2 p3 : Pos} (hp : PP X e1 j π) (h : EK X e f) (hk : Keep f)
    (hbase : attributeBase e1 "extend" X.env (eval e1 X.env) = eval e1 X.env := by rfl)
    (hfew : ((backTo p3 (starEach (e :: []) X.env)).all (fun x => !x.1) && (backToKw p3 (keywordEach [] X.env)).all (fun x => x.1.isSome)
      && decide ((e :: []).length + ([] : List Keyword).length + (if ([] : List Keyword).isEmpty then 0 else 1) < 30)) = true := by rfl)
    (hline : (p2.endLine == p3.line) = true := by rfl) (hs : starEach (e :: []) X.env = (false, eval e X.env) :: starEach [] X.env := by rfl) (hplain : (backTo p3 (starEach [] X.env)).any (·.1) = false := by rfl)
    (hsw : swapsWith (.Call (.Attribute e1 "extend" p2) [e] [] p3) none pos.line X.env = pure false := by rfl) :
    SM X (.Expr (.Call (.Attribute e1 "extend" p2) [e] [] p3) pos) (sExtP j π f) := (ps_expr (pe_bm PySem.F.plainAttrs_list PySem.F.slot_list_extend PySem.F.type_list_extend mt_extend hp (pa_cons h pa_nil hs) hbase hfew hline hs hplain) hsw).wk fun D σ H => by
  rintro ⟨c, G, b, T, r, b', hf, I, q⟩
  unfold sExtP at hf
  split at hf
  · rename_i ms eg
    split at hf
    · rename_i ns b1 e1
      have := hk _ _ _ e1
      subst this
      split at hf
      · rename_i hz
        split at hf
        · rename_i b2 ep
          cases hf
          obtain ⟨v0, p0, xs0, w1, w2, w3, _⟩ := Iv.mutP (T1 := []) I eg
          refine ⟨v0, _, w1, w2, .inl ⟨rfl, xs0, SqL.of w3⟩, c, G, b1, T, _, e1, I, fun y G1 H1 s1 I1 => ?_⟩
          obtain ⟨v0', p1, xs, z1, z2, z3, z4, z5, z6⟩ := Iv.mutP (T1 := [(.lst ns, y)]) I1 eg
          rw [w1] at z1
          have z1 := Option.some.inj (Option.some.inj z1)
          subst z1
          have z2 := PathV.fun_ (PathV.keep s1 w2) z2
          cases z2
          obtain ⟨ft0, t1, _⟩ := Iv.tmp (T1 := [(.lst ns, y)]) I1
          obtain ⟨t2, _⟩ := rt_one t1
          simp only [RM] at t2
          obtain ⟨pb, zs, qz, rfl, hb, hl, _⟩ := t2
          refine ⟨_, pb, xs, zs, rfl, rfl, z3, hb, by rw [z4, ← hl.len]; exact le_line hz, q σ G1 _ (z6 (ms ++ ns) (xs ++ zs) [] b' ep fun H3 qq ft a1 a2 a3 a4 => ?_)⟩
          obtain ⟨t3, _⟩ := rt_one a2
          simp only [RM] at t3
          obtain ⟨pc, zs', qz', e9, hb', hl', rfl⟩ := t3
          cases e9
          have : H3 pb = H1 pb := a4 pb (by simp)
          rw [this, hb] at hb'
          cases hb'
          refine ⟨qq ++ qz', [], RML.append a1 hl', rfl, fun a ha => by simp at ha ⊢; grind, ?_⟩
          have P : (qq ++ pb :: qz').Perm (pb :: (qq ++ qz')) := List.perm_middle
          simpa using (List.nodup_cons.mp (P.nodup_iff.mp a3)).2
        · cases hf
      · cases hf
    · cases hf
  · cases hf
end
end PL

namespace PL
open PySem PySem.Spec PyProof.Rows L2
/-! ### a, b, .. = x, y, ..: names that may own what they get -/
def setS (σ : L2.St) : List Nat → List V → L2.St
  | i :: is, v :: vs => setS (σ.set i (some v)) is vs
  | _, _ => σ
def setBs (b : List B) : List Nat → List M → List B
  | i :: is, m :: ms => setBs (b.set i m.toB) is ms
  | _, _ => b
def tgsN (ixs : List Nat) : TGs := fun vs σ H Q => vs.length = ixs.length ∧ Q (setS σ ixs vs) H
abbrev GN (X : Cx) (es : List Expr) (ixs : List Nat) : Prop := PGs X es (tgsN ixs)
section
variable {X : Cx} {e : Expr} {es : List Expr} {pos : Pos} {x : Str} {f : Ev} {fs : Av} {src : List (Option Nat)}
theorem gn_nil : GN X [] [] := pgs_nil.wk fun vs σ H Q => by
  rintro ⟨h, q⟩
  have : vs = [] := List.length_eq_zero_iff.mp h
  subst this
  exact ⟨rfl, q⟩
theorem gn_cons (i : Nat) {ixs : List Nat} (nd : X.N.Nodup) (h2 : GN X es ixs) (hi : X.N[i]? = some x := by rfl) (hx : Loc X.env.scope x := by first | exact Or.inl rfl | exact Or.inr rfl) (hf : X.fn x = true ∨ X.env.scope.names.lookup x = some .local := by first | exact .inl rfl | exact .inr rfl | assumption)
    (hs : (assignEach (.Name x pos :: es) X.env).map (·.2) = assign (.Name x pos) X.env :: (assignEach es X.env).map (·.2) := by rfl) : GN X (.Name x pos :: es) (i :: ixs) := (pgs_cons (pg_name (i := i) nd hi hx hf) h2 hs).wk fun vs σ H Q => by
  rintro ⟨h, q⟩
  cases vs with
  | nil => simp at h
  | cons v vs => exact ⟨v, vs, rfl, by simpa using h, q⟩
theorem Iv.puts {K : PySem.W.Frag} {c : Cg} {G H : Hp} {T : List (M × V)} : ∀ {ixs : List Nat} {ms : List M} {us : List V} {σ : L2.St} {b : List B}, ms.length = us.length → us.length = ixs.length → (∀ i ∈ ixs, i < b.length) → Iv K c G H σ b (zT ms us ++ T) → Iv K c G H (setS σ ixs us) (setBs b ixs ms) T
  | [], [], [], _, _, _, _, _, I => I
  | i :: ixs, m :: ms, u :: us, σ, b, h1, h2, h3, I => by
    have I1 : Iv K c G H σ b ((m, u) :: (zT ms us ++ T)) := I
    refine Iv.puts (ixs := ixs) (by simpa using h1) (by simpa using h2) (fun j hj => ?_) (I1.put (h3 i (by simp)))
    simpa using h3 j (by simp [hj])
  | [], [], _ :: _, _, _, h1, _, _, _ => by simp at h1
  | [], _ :: _, [], _, _, h1, _, _, _ => by simp at h1
  | _ :: _, [], [], _, _, _, h2, _, _ => by simp at h2
  | _ :: _, _ :: _, [], _, _, h1, _, _, _ => by simp at h1
  | _ :: _, [], _ :: _, _, _, h1, _, _, _ => by simp at h1
  | [], _ :: _, _ :: _, _, _, _, h2, _, _ => by simp at h2
def sAsgN (ixs : List Nat) (fs : Av) : Sv := fun b => match fs b with
  | some (ms, b1) => if ms.length = ixs.length ∧ ms.length ≤ 1000000 ∧ (ixs.all fun i => decide (i < b1.length)) = true then some (.nx, setBs b1 ixs ms) else none
  | none => none
theorem s_asgN {k n : Nat} {ixs : List Nat} {tgs es : List Expr} {pt p2 : Pos} (hc : X.calm = true) (ha : AM X es src fs) (hg : GN X tgs ixs) (hsrc : src.all (·.isNone) = true := by rfl)
    (hn : (assignEach tgs X.env).length = ixs.length := by rfl) (hst : (assignEach tgs X.env).findIdx? (·.1) = none := by rfl)
    (hs : swapsWithSole [.Tuple tgs k pt] (.Tuple es n p2) pos.line X.env = pure false := by rfl) (hw : swappedStores [.Tuple tgs k pt] (.Tuple es n p2) X.env = pure none := by rfl)
    (h1 : (assignEach [.Tuple tgs k pt] X.env).map (·.2) = [assign (.Tuple tgs k pt) X.env] := by rfl) : SM X (.Assign [.Tuple tgs k pt] (.Tuple es n p2) pos) (sAsgN ixs fs) :=
  (ps_asg (pe_tup ha) (pg_tup hc hg hn hst) hs hw h1).wk fun D σ H => by
  rintro ⟨c, G, b, T, r, b', hf, I, q⟩
  unfold sAsgN at hf
  split at hf
  · rename_i ms b1 e1
    split at hf
    · rename_i hz
      cases hf
      obtain ⟨z1, z2, z3⟩ := hz
      refine ⟨c, G, b, T, ms, b1, e1, I, fun us vs G1 H1 hl av I1 => ?_⟩
      have e := av.pure hsrc
      subst e
      refine ⟨by rw [← hl]; exact le_line z2, fun p hp => ⟨p, us, rfl, .inl (.inl upd_same), by rw [← hl]; exact z1, by rw [← hl]; exact z1, ?_⟩⟩
      exact q _ G1 _ (Iv.puts hl (by rw [← hl]; exact z1) (fun i hi => by simpa using (List.all_eq_true.mp z3) i hi) (I1.junk hp))
    · cases hf
  · cases hf
end
/-! ### dict(a list of pairs with distinct keys) -/
def D.pair : D → Option (Key × D)
  | .tup [k, v] => (match k.key with
    | some q => some (q, v)
    | none => none)
  | _ => none
def D.pairs : List D → Option (List (Key × D))
  | [] => some []
  | d :: ds => (match d.pair, D.pairs ds with
    | some p, some ps => some (p :: ps)
    | _, _ => none)
def gDictP : List M → Option M
  | [.d (.lst ds)] => (match D.pairs ds with
    | some ps => if (ps.map (·.1)).Nodup then some (.dic (ps.map (·.1)) (ps.map fun p => .d p.2)) else none
    | none => none)
  | _ => none
theorem key_rp {K : PySem.W.Frag} {G : Hp} {d : D} {k : Key} {v : V} (h : d.key = some k) (r : Rp K G d v) : v = kV k := by
  unfold D.key at h
  split at h
  · cases h; simpa [Rp, kV] using r
  · cases h; simpa [Rp, kV] using r
  · cases h
theorem pairs_rp {K : PySem.W.Frag} {G H : Hp} (s : Same G H) : ∀ {ds : List D} {xs : List V} {ps : List (Key × D)}, RpL K G ds xs → D.pairs ds = some ps → ∃ (as : List Addr) (kvs : List (Key × V)), xs = as.map V.ref ∧ Paired (fun p kv => SqT K H p [kV kv.1, kv.2]) as kvs ∧ kvs.map (·.1) = ps.map (·.1) ∧ RpL K G (ps.map (·.2)) (kvs.map (·.2))
  | [], xs, ps, h, e => by
    simp only [RpL] at h
    simp only [D.pairs, Option.some.injEq] at e
    subst h e
    exact ⟨[], [], rfl, .nil, rfl, by simp [RpL]⟩
  | d :: ds, xs, ps, h, e => by
    simp only [RpL] at h
    obtain ⟨y, ys, rfl, h2, h3⟩ := h
    unfold D.pairs at e
    split at e
    · rename_i p ps' e1 e2
      cases e
      obtain ⟨as, kvs, rfl, i2, i3, i4⟩ := pairs_rp s h3 e2
      unfold D.pair at e1
      split at e1
      · rename_i k v
        split at e1
        · rename_i q hq
          cases e1
          simp only [Rp] at h2
          obtain ⟨a, zs, rfl, j2, j3⟩ := h2
          simp only [RpL] at j3
          obtain ⟨y1, z1, rfl, j4, y2, z2, rfl, j5, rfl⟩ := j3
          have := key_rp hq j4
          subst this
          refine ⟨a :: as, (q, y2) :: kvs, rfl, .cons (sqt_mono s j2) i2, by simp [i3], ?_⟩
          simp only [List.map_cons, RpL]
          exact ⟨y2, _, rfl, j5, i4⟩
        · cases e1
      · cases e1
    · cases e
theorem putK_new {kvs : List (Key × V)} {k : Key} {v : V} (h : k ∉ kvs.map (·.1)) : putK kvs k v = kvs ++ [(k, v)] := by
  unfold putK
  rw [if_neg]
  simp only [List.any_eq_true, decide_eq_true_eq, not_exists, not_and]
  exact fun p hp e => h (List.mem_map.mpr ⟨p, hp, e⟩)
theorem mergeK_nodup : ∀ {more kvs : List (Key × V)}, ((kvs ++ more).map (·.1)).Nodup → mergeK kvs more = kvs ++ more
  | [], kvs, _ => by simp [mergeK]
  | p :: more, kvs, h => by
    have h1 : p.1 ∉ kvs.map (·.1) := by
      simp only [List.map_append, List.map_cons] at h
      exact fun hm => (List.nodup_append.mp h).2.2 _ hm p.1 (by simp) rfl
    have e : mergeK kvs (p :: more) = mergeK (putK kvs p.1 p.2) more := rfl
    rw [e, putK_new h1]
    have := mergeK_nodup (more := more) (kvs := kvs ++ [(p.1, p.2)]) (by simpa using h)
    rw [this]
    simp
theorem zip_maps {α β : Type} : ∀ kvs : List (α × β), (kvs.map (·.1)).zip (kvs.map (·.2)) = kvs
  | [] => rfl
  | p :: kvs => by simp [zip_maps kvs]
theorem cs_dictP {K : PySem.W.Frag} : CaS K (fun xs H Q => ∃ (a : Addr) (ps : List Addr) (kvs : List (Key × V)), xs = [.ref a] ∧ SqL K H a (ps.map V.ref) ∧ Paired (fun p kv => SqT K H p [kV kv.1, kv.2]) ps kvs ∧ ∀ p, H p = none → Q (.ref p) (upd H p (.dK (mergeK [] kvs)))) gDictP := by
  intro c G H σ b T ms us m Q hg hl I q
  unfold gDictP at hg
  split at hg
  · rename_i ds
    split at hg
    · rename_i ps e1
      split at hg
      · rename_i nd
        cases hg
        obtain ⟨u, rfl⟩ := len1 hl
        have I1 : Iv K c G H σ b ((.d (.lst ds), u) :: T) := I
        have r := I1.topD
        simp only [Rp] at r
        obtain ⟨pa, xs, rfl, h2, h3⟩ := r
        obtain ⟨as, kvs, rfl, i2, i3, i4⟩ := pairs_rp I1.st.gh h3 e1
        refine ⟨pa, as, kvs, rfl, SqL.of (I1.st.gh _ _ h2), i2, fun p hp => q _ G _ (I1.drop.newO (f := []) hp ?_)⟩
        have mk : mergeK [] kvs = kvs := by
          have := mergeK_nodup (more := kvs) (kvs := []) (by simpa [i3] using nd)
          simpa using this
        simp only [RM]
        refine ⟨p, kvs.map (·.2), [], rfl, ?_, ?_, ?_, rfl⟩
        · rw [mk, ← i3, zip_maps]
          exact upd_same
        · rw [← i3]
          simp
        · have := RpL.rml' (H := upd H p (.dK (mergeK [] kvs))) i4
          rw [List.map_map] at this
          exact this
      · cases hg
    · cases hg
  · cases hg
section
variable {X : Cx} {e : Expr} {pos p : Pos} {fs : Av} {src : List (Option Nat)}
theorem e_dictP (hc : X.calm = true) (hm : X.mg "dict" = none) (ha : AM X [e] src fs) (hsrc : src.all (·.isNone) = true := by rfl) (hg : Gl X "dict" := by rfl) (he : starEach [e] X.env = (false, eval e X.env) :: starEach [] X.env := by rfl) (hpl : (backTo pos (starEach [] X.env)).any (·.1) = false := by rfl) : EM X (.Call (.Name "dict" p) [e] [] pos) (fOf gDictP fs) := e_ct (call_dictP hc) cs_dictP hm boot_dict' ha hsrc hg (by decide) (by decide) he hpl
end
end PL

namespace PL
open PySem PySem.Spec PyProof.Rows L2
def gLidxS (a b : D) : Option D := match a, b with
  | .lst ds, .str i => (match D.strs ds with
    | some ns => (match tidx i ns with
      | some j => some (.int j)
      | none => none)
    | none => none)
  | _, _ => none
section
variable {X : Cx} {e e1 e2 e3 : Expr} {es : List Expr} {pos p p2 q apos : Pos} {f f1 f2 : Ev} {fs : Av} {src : List (Option Nat)} {x : Str}
/-- xs.index(text) -/
theorem e_lidxS (h1 : EM X e1 f1) (h2 : EM X e2 f2)
    (hbase : attributeBase e1 "index" X.env (eval e1 X.env) = eval e1 X.env := by rfl)
    (hfew : ((backTo pos (starEach (e2 :: []) X.env)).all (fun x => !x.1) && (backToKw pos (keywordEach [] X.env)).all (fun x => x.1.isSome)
      && decide ((e2 :: []).length + ([] : List Keyword).length + (if ([] : List Keyword).isEmpty then 0 else 1) < 30)) = true := by rfl)
    (hline : (apos.endLine == pos.line) = true := by rfl) (hs : starEach (e2 :: []) X.env = (false, eval e2 X.env) :: starEach [] X.env := by rfl) (hplain : (backTo pos (starEach [] X.env)).any (·.1) = false := by rfl) :
    EM X (.Call (.Attribute e1 "index" apos) [e2] [] pos) (fOp (g2 gLidxS) f1 f2) := by
  refine (pe_bm PySem.F.plainAttrs_list PySem.F.slot_list_index PySem.F.type_list_index L2.mt_index h1 (pa_cons h2 pa_nil hs) hbase hfew hline hs hplain).wk fun σ H Q => ?_
  rintro ⟨c, G, b, T, r, b', hf, I, qq⟩
  unfold fOp at hf
  split at hf
  · rename_i m1 b1 e1'
    split at hf
    · rename_i m2 b2 e2'
      split at hf
      · rename_i m3 e3
        cases hf
        unfold PL.g2 at e3
        split at e3
        · rename_i d1 d2
          cases ed : gLidxS d1 d2 with
          | none => rw [ed] at e3; simp at e3
          | some dd =>
            rw [ed] at e3
            simp at e3
            subst e3
            unfold gLidxS at ed
            split at ed
            · rename_i ds i
              split at ed
              · rename_i ns en
                split at ed
                · rename_i j ej
                  cases ed
                  refine ⟨c, G, b, T, _, b1, e1', I, fun v G1 H1 I1 => ?_⟩
                  have r1 := I1.topD
                  simp only [Rp] at r1
                  obtain ⟨pp, xs, rfl, h3, h4⟩ := r1
                  have := RpL.strs h4 en
                  subst this
                  refine ⟨.inl ⟨rfl, _, SqL.of (I1.st.gh _ _ h3)⟩, c, G1, b1, _, _, b', e2', I1, fun v2 G2 H2 I2 => ?_⟩
                  have r2 := I2.topD
                  simp only [Rp] at r2
                  subst r2
                  have r1 := I2.drop.topD
                  simp only [Rp] at r1
                  obtain ⟨pp', xs', e', h3', h4'⟩ := r1
                  cases e'
                  have := RpL.strs h4' en
                  subst this
                  obtain ⟨w1, w2⟩ := tidx_ok ej
                  refine ⟨pp, ns.map V.str, .str i, j, .str i, rfl, rfl, SqL.of (I2.st.gh _ _ h3'), rfl, by simp [flatV], by simp [w1], by simp [eqV], fun m z hm hz => ?_, qq _ G2 H2 (I2.drop.drop.pushD (by simp [Rp]))⟩
                  rw [List.getElem?_map] at hz
                  cases hq : ns[m]? with
                  | none => rw [hq] at hz; simp at hz
                  | some y =>
                    rw [hq] at hz
                    simp at hz
                    subst hz
                    have hne : y ≠ i := fun e => w2 m hm (by rw [hq, e])
                    simpa [eqV] using hne
                · cases ed
              · cases ed
            · cases ed
        · cases e3
      · cases hf
    · cases hf
  · cases hf
end
end PL

namespace PL
open PySem PySem.Spec PyProof.Rows L2 NS
/-! ### len(set(texts)) -/
def cntD : List Str → Nat
  | [] => 0
  | x :: xs => if x ∈ xs then cntD xs else cntD xs + 1
theorem cntD_snoc (x : Str) : ∀ l : List Str, cntD (l ++ [x]) = if x ∈ l then cntD l else cntD l + 1
  | [] => by simp [cntD]
  | y :: l => by
    have ih := cntD_snoc x l
    simp only [List.cons_append, cntD, List.mem_append, List.mem_singleton, List.mem_cons, ih]
    by_cases h1 : y = x
    · subst h1
      by_cases h2 : y ∈ l <;> simp [h2]
    · have h1' : ¬ x = y := fun e => h1 e.symm
      by_cases h2 : y ∈ l <;> by_cases h3 : x ∈ l <;> simp [h1, h1', h2, h3]
theorem cntD_le : ∀ l : List Str, cntD l ≤ l.length
  | [] => Nat.le_refl _
  | x :: l => by
    have := cntD_le l
    unfold cntD
    split
    · simp only [List.length_cons]; omega
    · simp only [List.length_cons]; omega
theorem cntD_nodup : ∀ {l : List Str}, l.Nodup → cntD l = l.length
  | [], _ => rfl
  | x :: l, h => by
    have h2 := List.nodup_cons.mp h
    unfold cntD
    rw [if_neg h2.1, cntD_nodup h2.2]
    rfl
theorem strs_at : ∀ {vs : List Value} {ns : List Str}, StrsAre vs ns → ∀ (i : Nat) (v : Value), vs[i]? = some v → ∃ k t, ns[i]? = some k ∧ v = .str k t
  | _, _, .nil, i, v, h => by simp at h
  | _, _, .cons n t hr, 0, v, h => by
    simp at h
    exact ⟨n, t, rfl, h.symm⟩
  | _, _, .cons n t hr, i + 1, v, h => by
    obtain ⟨k, t', h1, h2⟩ := strs_at hr i v (by simpa using h)
    exact ⟨k, t', by simpa using h1, h2⟩
section
variable {P : Program} {w : World} {A : Around} {E : Value → Shared → Prop}
abbrev keyS (ys : List Str) (k : Key) : Bool := decide (∃ y ∈ ys, k = .inr y)
theorem set_update_strs {I : Addr} {fp wr : List Addr} {G : Array GenState → Array GenState → Prop} {n : Nat} {Pv : Nat → Value → Prop} {St : Nat → Shared → Prop} {R : Result → Shared → Prop}
    (W : WalksS P w A.in1 I fp wr G n Pv St) (S : Addr) (hSf : S ∉ fp) (ns : List Str) (hn : n = ns.length) (hb : ns.length + 1 < scanBound) (hval : ∀ i v, Pv i v → ∃ k t, ns[i]? = some k ∧ v = .str k t) :
    ∀ (k i : Nat) (s : Shared), n - i = k → i ≤ n → St i s → s.heap.SetOf (mixKind P w) S (keyS (ns.take i)) (cntD (ns.take i)) →
      (∀ s', Moved (S :: wr) G s s' → s'.heap.SetOf (mixKind P w) S (keyS ns) (cntD ns) → R (.ok (.ret .none)) s') →
      codeAny (model P w) A (.builtin "set.update.loop" ⟨[.ref S, .ref I], []⟩) R s := by
  have hSw : S ∉ wr := fun h => hSf (W.sub _ h)
  have hsub : ∀ b ∈ wr, b ∈ S :: wr := fun b hb => List.mem_cons_of_mem _ hb
  intro k
  induction k with
  | zero =>
    intro i s hk' hi hst hS hR
    have hin : i = n := by omega
    subst hin
    refine codeAny_builtin F.entry_set_update_loop ?_
    rw [Around.under_plainId F.plain_set_update_loop _]
    show wpAny _ A.in1 (pyNext (.ref I) >>= _) _ _ s
    refine wpAny_bind (W.done s _ _ hst fun s' hm => ?_)
    show wpAny _ A.in1 (ret Value.none) _ _ s'
    have e : ns.take i = ns := List.take_of_length_le (by omega)
    rw [e] at hS
    exact wpAny_pure (hR s' (hm.mono hsub) (setOf_at hS fun o e => hm.heap S o hSw e))
  | succ k ih =>
    intro i s hk' hi hst hS hR
    have hlt : i < n := by omega
    refine codeAny_builtin F.entry_set_update_loop ?_
    rw [Around.under_plainId F.plain_set_update_loop _]
    show wpAny _ A.in1 (pyNext (.ref I) >>= _) _ _ s
    refine wpAny_bind (W.item i s _ _ hlt hst fun v s' hP hst' hm => ?_)
    obtain ⟨z, t, hz, rfl⟩ := hval i v hP
    have hS' : s'.heap.SetOf (mixKind P w) S (keyS (ns.take i)) (cntD (ns.take i)) := setOf_at hS fun o e => hm.heap S o hSw e
    have hkey : (mixKind P w).is (.inr z) (.str z t) = true := mixKind_str P w z t
    have hcl := cntD_le (ns.take i)
    have htl : (ns.take i).length ≤ ns.length := by simp; omega
    show wpAny _ A.in1 (holding [Value.str z t] (setAdd S (.str z t)) >>= _) _ _ s'
    refine wpAny_bind (wpAny_holding ?_)
    unfold setAdd
    refine wpAny_holding ?_
    refine wpAny_bind ((mixKind P w).pyHash (k := .inr z) hkey ?_)
    refine wpAny_setAddHashed_of (s := { s' with toks := s'.toks + 1 }) hkey rfl hS' (by omega) fun h' hsb hS2 => ?_
    have et : ns.take (i + 1) = ns.take i ++ [z] := by rw [List.take_add_one, hz]; rfl
    have hS3 : h'.SetOf (mixKind P w) S (keyS (ns.take (i + 1))) (cntD (ns.take (i + 1))) := by
      have e1 : (fun k' => keyS (ns.take i) k' || decide (k' = .inr z)) = keyS (ns.take (i + 1)) := by
        funext k'
        rw [et]
        unfold keyS
        rw [← Bool.decide_or]
        congr 1
        simp only [List.mem_append, List.mem_singleton, eq_iff_iff]
        constructor
        · rintro (⟨y, h1, h2⟩ | h)
          · exact ⟨y, .inl h1, h2⟩
          · exact ⟨z, .inr rfl, h⟩
        · rintro ⟨y, h1 | h1, h2⟩
          · exact .inl ⟨y, h1, h2⟩
          · exact .inr (by rw [h2, h1])
      have e2 : (if keyS (ns.take i) (.inr z) = true then cntD (ns.take i) else cntD (ns.take i) + 1) = cntD (ns.take (i + 1)) := by
        rw [et, cntD_snoc]
        have : keyS (ns.take i) (.inr z) = true ↔ z ∈ ns.take i := by
          unfold keyS
          simp only [decide_eq_true_eq]
          constructor
          · rintro ⟨y, h1, h2⟩
            cases h2
            exact h1
          · exact fun h => ⟨z, h, rfl⟩
        by_cases q : z ∈ ns.take i
        · rw [if_pos (this.mpr q), if_pos q]
        · rw [if_neg fun h => q (this.mp h), if_neg q]
      rw [← e1, ← e2]
      exact hS2
    refine wpAny_pure ⟨plainId_quiet F.plain_set_update_loop _, ih (i + 1) _ (by omega) hlt (W.frame _ s' _ _ hst' (Nat.le_succ _) fun b hb o e => ?_) hS3 fun s'' hm'' hS'' => ?_⟩
    · rw [hsb.2 b (fun h : b = S => hSf (by rw [← h]; exact hb))]; exact e
    · refine hR s'' (Moved.trans W.gtrans ((hm.mono hsub).then_heap (Nat.le_succ _) fun b o hb e => ?_) hm'') hS''
      rw [hsb.2 b (fun h : b = S => hb (by rw [h]; exact List.mem_cons_self))]; exact e
theorem set_fillS {s : Shared} {l : Addr} {items : Array Value} {ns : List Str} {Q : Value → Shared → Prop} (hh : A.handled = none) (hl : s.heap.IsList l items) (hi : StrsAre items.toList ns) (hb : ns.length + 1 < scanBound)
    (hq : ∀ (h' : Heap) (tk : Nat), h'.SetOf (mixKind P w) s.heap.objs.size (keyS ns) (cntD ns) → (∀ b o, s.heap.get? b = some o → h'.get? b = some o) → Q (.ref s.heap.objs.size) { s with heap := h', toks := tk }) :
    wpAny (model P w) A (call (.type "set") [.ref l]) Q E s := by
  have hz : items.size = ns.length := by
    have q := StrsAre.length hi
    rwa [Array.length_toList] at q
  refine set_from fun A' hA => ?_
  have hA0 : A'.handled = none := hA.trans hh
  have hS : (s.heap.push (newSet w)).get? s.heap.objs.size = some (newSet w) := Heap.get?_push_size _ rfl
  have hl1 : (s.heap.push (newSet w)).IsList l items := hl.push _
  have hlS : l < s.heap.objs.size := by
    obtain ⟨ol, hol, _⟩ := hl
    exact Heap.lt_size hol
  obtain ⟨ol, hol, hcl, nl, hdl⟩ := hl1
  obtain ⟨ocls, odict, odata, oslots⟩ := ol
  simp only at hcl hdl
  subst hcl; subst hdl
  have hl1 : (s.heap.push (newSet w)).IsList l items := ⟨_, hol, rfl, nl, rfl⟩
  have hsls := F.sub_list_set
  have hslf := F.sub_list_frozenset
  have hne : (Value.type "list" == Value.type "dict") = false := by decide
  unfold Builtin.Frozenset.updateFrom
  generalize hPI : pyIter = PI
  wp_walk
  subst hPI
  refine wpAny_pyIter_list hl1 ?_
  refine wpAny_bind (wpAny_runValue ?_)
  have h3 : A'.in1.handled = none := by simp [hA0]
  have ne1 : l ≠ (s.heap.push (newSet w)).objs.size := by
    rw [Heap.size_push]; exact Nat.ne_of_lt (Nat.lt_succ_of_lt hlS)
  have ne2 : s.heap.objs.size ∉ [(s.heap.push (newSet w)).objs.size, l] := by
    rw [Heap.size_push]
    simp only [List.mem_cons, List.not_mem_nil, or_false, not_or]
    exact ⟨Nat.ne_of_lt (Nat.lt_succ_self _), Nat.ne_of_gt hlS⟩
  refine set_update_strs ((Walks.list h3 _ l ne1 items).toS) s.heap.objs.size ne2 ns hz hb (fun i v hv => ?_) items.size 0 _ (Nat.sub_zero _) (Nat.zero_le _)
    ⟨⟨_, Heap.get?_push_size _ rfl, rfl, rfl⟩, hl1.push _⟩ ?_ fun s' hm hR => ?_
  · exact strs_at hi i v (by rw [Array.getElem?_toList]; exact hv)
  · exact ⟨_, #[], 0, _, Heap.get?_push_of_some _ hS, ⟨rfl, rfl, rfl⟩, rfl, (fun e he => by simp at he), (fun k => by simp [keyS]), (by decide), (by rfl), rfl⟩
  · obtain ⟨h', g', d', tk', os'⟩ := s'
    have eg : g' = s.gens := hm.gens
    have ed : d' = s.drawn := hm.drawn
    have eo : os' = s.os := hm.os
    subst eg; subst ed; subst eo
    refine wpAny_pure (hq h' tk' hR fun b o e => ?_)
    have b0 : b < s.heap.objs.size := Heap.lt_size e
    refine hm.heap b o ?_ (Heap.get?_push_of_some _ (Heap.get?_push_of_some _ e))
    simp only [List.mem_cons, List.not_mem_nil, or_false, not_or]
    refine ⟨Nat.ne_of_lt b0, ?_⟩
    show b ≠ (s.heap.push (newSet w)).objs.size
    rw [Heap.size_push]
    exact Nat.ne_of_lt (Nat.lt_succ_of_lt b0)
end
def gLenSetS : D → Option D
  | .lst ds => (match D.strL ds with
    | some ys => if ys.length ≤ 1000 then some (.int (cntD ys)) else none
    | none => none)
  | _ => none
section
variable {X : Cx} {e : Expr} {pos p p2 q : Pos} {f : Ev} {ta : TE}
def tLenSS (K : PySem.W.Frag) (ta : TE) : TE := fun σ H Q => ta σ H fun x H1 => ∃ (l : Addr) (xs : List Str), x = .ref l ∧ SqL K H1 l (xs.map V.str) ∧ xs.length ≤ 1000 ∧ Q (.int (cntD xs)) H1
theorem pe_lenSS (hc : X.calm = true) (hg : Gl X "len") (hm : X.mg "len" = none) (hg2 : Gl X "set") (hm2 : X.mg "set" = none) (ha : PE X e ta)
    (na : starEach [e] X.env = (false, eval e X.env) :: starEach [] X.env := by rfl) : PE X (.Call (.Name "len" p) [.Call (.Name "set" p2) [e] [] q] [] pos) (tLenSS X.K ta) := by
  refine ⟨fun pins s σ H Q I h => ?_⟩
  refine Call_ (ld_blt I hg hm PySem.boot_len ?_)
  refine PyProof.Rows.callWith_builtin1 (PyProof.Rows.args_cons ?_ rfl) rfl rfl
  refine Call_ (ld_blt I hg2 hm2 PyProof.Rows.boot_set ?_)
  refine PyProof.Rows.callWith_type1 (PyProof.Rows.args_cons (thn (ha.run pins s σ H _ I h) fun v s1 ⟨x, H1, I1, r1, q1⟩ => PyProof.Rows.args_nil ?_) na) na rfl
  obtain ⟨l, xs, rfl, hq, h1, q1⟩ := q1
  cases r1
  obtain ⟨its, r, pl, hz⟩ := I1.list hq
  refine set_fillS (I1.ok.hd hc) pl.isList (ns := xs) (by simpa using strsAre_of r) (by unfold scanBound; omega) fun h' tk hS hk => ?_
  refine PyProof.Rows.args_nil ?_
  have hcl := cntD_le xs
  obtain ⟨o, es, ep, t, ho, hex, hd, _, _, _, hf, hn⟩ := hS
  have I2 : Inv X pins σ H1 { s1 with heap := h', toks := tk } := I1.kept hk
  refine call_len_set ho hex hd hf (by rw [hn] <;> omega) ⟨.int (cntD xs), H1, I2.tok _, ⟨_, by rw [hn]⟩, q1⟩
theorem e_lenSetS (hm : X.mg "len" = none) (hm2 : X.mg "set" = none) (h : EM X e f) (hc : X.calm = true := by rfl) (hg : Gl X "len" := by rfl) (hg2 : Gl X "set" := by rfl) (na : starEach [e] X.env = (false, eval e X.env) :: starEach [] X.env := by rfl) :
    EM X (.Call (.Name "len" p) [.Call (.Name "set" p2) [e] [] q] [] pos) (fUnD gLenSetS f) := (pe_lenSS hc hg hm hg2 hm2 h na).wk fun σ H Q => by
  rintro ⟨c, G, b, T, r, b', hf, I, qq⟩
  unfold fUnD at hf
  split at hf
  · rename_i d b1 e1
    split at hf
    · rename_i x ex
      cases hf
      refine ⟨c, G, b, T, _, b', e1, I, fun v G1 H1 I1 => ?_⟩
      unfold gLenSetS at ex
      split at ex
      · split at ex
        · rename_i ys ey
          split at ex
          · rename_i hz
            cases ex
            have r := I1.topD
            simp only [Rp] at r
            obtain ⟨pp, xs, rfl, h2, h3⟩ := r
            have := strs_rel ey h3
            subst this
            exact ⟨pp, ys, rfl, SqL.of (I1.st.gh _ _ h2), hz, qq _ G1 H1 (I1.drop.pushD (by simp [Rp]))⟩
          · cases ex
        · cases ex
      · cases ex
    · cases hf
  · cases hf
end
end PL

/-! zip of a list and a tuple -/
namespace RZ
open PySem PySem.Spec PyProof.Rows L2
open PySem.Sem (wp)
section
variable {prog : Program} {w : World} {A : Around} {E : Value → Shared → Prop} {s : Shared}
theorem zipM_next_item {z TI TO i1 i2 l1 l2 : Addr} {k1 k2 : Nat} {xs ys : Array Value} {x y a b : Value} {Q : Value → Shared → Prop} (D : ZipApart z TI TO i1 i2 l1 l2)
    (hz : IsZip s.heap z TI TO .none) (hTI : IsPair s.heap TI (.ref i1) (.ref i2)) (hTO : IsPair s.heap TO a b)
    (h1 : s.heap.IsListIter i1 l1 k1) (h2 : s.heap.IsTupleIter i2 l2 k2) (hl1 : s.heap.IsList l1 xs) (hl2 : s.heap.IsTuple l2 ys) (hx : xs[k1]? = some x) (hy : ys[k2]? = some y)
    (hQ : ∀ h', IsZip h' z TI TO (rawInt s.heap.objs.size) → IsPair h' TO x y → h'.IsListIter i1 l1 (k1 + 1) → h'.IsTupleIter i2 l2 (k2 + 1) → IsPair h' s.heap.objs.size x y → h'.objs.size = s.heap.objs.size + 1 →
      (∀ c o, c ≠ z → c ≠ TO → c ≠ i1 → c ≠ i2 → s.heap.get? c = some o → h'.get? c = some o) → Q (.ref s.heap.objs.size) { s with heap := h' }) :
    wpAny (model prog w) A (Builtin.«zip.__next__» ⟨[.ref z], []⟩) (fun fin s' => ∃ v, fin = .done (.ret v) ∧ Q v s') E s := by
  show wpAny _ _ (field (.ref z) 2 >>= _) _ _ _
  refine wpAny_bind (wpAny_field hz rfl (x := .bool false) rfl ?_)
  show wpAny _ _ (field (.ref z) 3 >>= _) _ _ _
  refine wpAny_bind (wpAny_field hz rfl (x := .ref TI) rfl ?_)
  refine wpAny_bind (wpAny_seqItems hTI rfl ?_)
  show wpAny _ _ (Builtin.SmallTypes.ownedTupleIsFree (.ref z) >>= _) _ _ _
  refine wpAny_bind ?_
  unfold Builtin.SmallTypes.ownedTupleIsFree
  refine wpAny_bind (wpAny_field hz rfl (x := .none) rfl (wpAny_pure ?_))
  simp only [if_true]
  refine wpAny_bind (wpAny_rule ?_)
  refine wpAny_bind (wpAny_field hz rfl (x := .ref TO) rfl ?_)
  refine wpAny_bind (wpAny_setField_rec hz (by simp) fun h₁ hz₁ hs₁ => ?_)
  replace hz₁ : IsZip h₁ z TI TO .ellipsis := hz₁
  refine wpAny_bind ?_
  simp only [List.zipIdx_cons, List.zipIdx_nil, List.forIn_cons, List.forIn_nil]

  refine wpAny_bind (wpAny_bind (wpAny_onRaise ?_))
  show wpAny _ _ (Builtin.SmallTypes.nextOf (.ref i1) >>= _) _ _ _
  refine wpAny_bind (wpAny_nextOf_list_item (h1.extBut hs₁.extBut D.i1z) (hl1.extBut hs₁.extBut D.l1z) hx fun h₂ h1₂ hs₂ => wpAny_pure ?_)
  have hTO₂ : IsPair h₂ TO a b := hs₂.extBut _ _ D.TOi1 (hs₁.extBut _ _ D.TOz hTO)
  refine wpAny_bind (wpAny_seqItems hTO₂ rfl ?_)
  refine wpAny_bind (wpAny_updateSeq_pair hTO₂ fun h₃ hTO₃ hs₃ => ?_)
  replace hTO₃ : IsPair h₃ TO x b := hTO₃
  refine wpAny_bind (wpAny_letGo (wpAny_pure ?_))

  refine wpAny_bind (wpAny_bind (wpAny_onRaise ?_))
  show wpAny _ _ (Builtin.SmallTypes.nextOf (.ref i2) >>= _) _ _ _
  refine wpAny_bind (nextOf_tuple_item (((h2.extBut hs₁.extBut D.i2z).extBut hs₂.extBut D.i12.symm).extBut hs₃.extBut D.TOi2.symm)
    (((hl2.extBut hs₁.extBut D.l2z).extBut hs₂.extBut D.l2i1).extBut hs₃.extBut D.l2TO) hy fun h₄ h2₄ hs₄ => wpAny_pure ?_)
  have hTO₄ : IsPair h₄ TO x b := hs₄.extBut _ _ D.TOi2 hTO₃
  refine wpAny_bind (wpAny_seqItems hTO₄ rfl ?_)
  refine wpAny_bind (wpAny_updateSeq_pair hTO₄ fun h₅ hTO₅ hs₅ => ?_)
  replace hTO₅ : IsPair h₅ TO x y := hTO₅
  refine wpAny_bind (wpAny_letGo (wpAny_pure (wpAny_pure ?_)))

  refine wpAny_bind (wpAny_seqItems hTO₅ rfl ?_)
  refine wpAny_bind (wpAny_newTuple ?_)
  have hsz : h₅.objs.size = s.heap.objs.size := by rw [hs₅.1, hs₄.1, hs₃.1, hs₂.1, hs₁.1]
  have hz₅ : IsZip h₅ z TI TO .ellipsis := hs₅.extBut _ _ D.TOz.symm (hs₄.extBut _ _ D.i2z.symm (hs₃.extBut _ _ D.TOz.symm (hs₂.extBut _ _ D.i1z.symm hz₁)))
  have hk₅ : ∀ c o, c ≠ z → c ≠ TO → c ≠ i1 → c ≠ i2 → s.heap.get? c = some o → h₅.get? c = some o := fun c o c1 c2 c3 c4 e =>
    hs₅.extBut _ _ c2 (hs₄.extBut _ _ c4 (hs₃.extBut _ _ c2 (hs₂.extBut _ _ c3 (hs₁.extBut _ _ c1 e))))
  have h1₅ : h₅.IsListIter i1 l1 (k1 + 1) := ((h1₂.extBut hs₃.extBut D.TOi1.symm).extBut hs₄.extBut D.i12).extBut hs₅.extBut D.TOi1.symm
  have h2₅ : h₅.IsTupleIter i2 l2 (k2 + 1) := h2₄.extBut hs₅.extBut D.TOi2.symm
  have hzlt : z < h₅.objs.size := Heap.lt_size hz₅
  have hTOlt : TO < h₅.objs.size := Heap.lt_size hTO₅
  have hi1lt : i1 < h₅.objs.size := by obtain ⟨_, e, _⟩ := h1₅; exact Heap.lt_size e
  have hi2lt : i2 < h₅.objs.size := by obtain ⟨_, e, _⟩ := h2₅; exact Heap.lt_size e
  show wpAny _ _ (Builtin.SmallTypes.ownedTupleHandOut (.ref z) (.ref h₅.objs.size) >>= _) _ _ _
  refine wpAny_bind ?_
  unfold Builtin.SmallTypes.ownedTupleHandOut
  have hz₆ : IsZip (h₅.push { cls := .type "tuple", data := .seq #[x, y] }) z TI TO .ellipsis := Heap.get?_push_of_some _ hz₅
  refine wpAny_bind (wpAny_setField_rec hz₆ (by simp) fun h₇ hz₇ hs₇ => ?_)
  replace hz₇ : IsZip h₇ z TI TO (rawInt h₅.objs.size) := hz₇
  refine wpAny_setField_rec hz₇ (by simp) fun h₈ hz₈ hs₈ => ?_
  replace hz₈ : IsZip h₈ z TI TO (rawInt h₅.objs.size) := hz₈
  have up : ∀ c o, c ≠ z → h₅.get? c = some o → h₈.get? c = some o := fun c o c1 e => hs₈.extBut _ _ c1 (hs₇.extBut _ _ c1 (Heap.get?_push_of_some _ e))
  have hT₈ : IsPair h₈ h₅.objs.size x y := hs₈.extBut _ _ (Nat.ne_of_gt hzlt) (hs₇.extBut _ _ (Nat.ne_of_gt hzlt) (Heap.get?_push_size _ rfl))
  have hz8 : h₈.objs.size = h₅.objs.size + 1 := by rw [hs₈.1, hs₇.1, Heap.size_push]
  rw [hsz] at hz₈ hT₈ hz8
  refine wpAny_pure ⟨_, rfl, ?_⟩
  show Q (.ref h₅.objs.size) _
  rw [hsz]
  exact hQ h₈ hz₈ (up _ _ D.TOz hTO₅) (h1₅.at fun o e => up _ o D.i1z e) (h2₅.at fun o e => up _ o D.i2z e) hT₈ hz8 fun c o c1 c2 c3 c4 e => up c o c1 (hk₅ c o c1 c2 c3 c4 e)

theorem zipM_next_end {z TI TO i1 i2 l1 l2 : Addr} {k1 k2 : Nat} {xs ys : Array Value} {a b : Value} {Q : Fin → Shared → Prop} (hh : A.handled = none) (D : ZipApart z TI TO i1 i2 l1 l2)
    (hz : IsZip s.heap z TI TO .none) (hTI : IsPair s.heap TI (.ref i1) (.ref i2)) (hTO : IsPair s.heap TO a b)
    (h1 : s.heap.IsListIter i1 l1 k1) (h2 : s.heap.IsTupleIter i2 l2 k2) (hl1 : s.heap.IsList l1 xs) (hl2 : s.heap.IsTuple l2 ys) (hend : xs[k1]? = none ∨ ys[k2]? = none)
    (hE : ∀ h' e, (∀ c o, c ≠ z → c ≠ TO → c ≠ i1 → c ≠ i2 → s.heap.get? c = some o → h'.get? c = some o) → (∃ o, h'.get? e = some o ∧ o.cls = .type "StopIteration") → E (.ref e) { s with heap := h' }) :
    wpAny (model prog w) A (Builtin.«zip.__next__» ⟨[.ref z], []⟩) Q E s := by
  show wpAny _ _ (field (.ref z) 2 >>= _) _ _ _
  refine wpAny_bind (wpAny_field hz rfl (x := .bool false) rfl ?_)
  show wpAny _ _ (field (.ref z) 3 >>= _) _ _ _
  refine wpAny_bind (wpAny_field hz rfl (x := .ref TI) rfl ?_)
  refine wpAny_bind (wpAny_seqItems hTI rfl ?_)
  show wpAny _ _ (Builtin.SmallTypes.ownedTupleIsFree (.ref z) >>= _) _ _ _
  refine wpAny_bind ?_
  unfold Builtin.SmallTypes.ownedTupleIsFree
  refine wpAny_bind (wpAny_field hz rfl (x := .none) rfl (wpAny_pure ?_))
  simp only [if_true]
  refine wpAny_bind (wpAny_rule ?_)
  refine wpAny_bind (wpAny_field hz rfl (x := .ref TO) rfl ?_)
  refine wpAny_bind (wpAny_setField_rec hz (by simp) fun h₁ hz₁ hs₁ => ?_)
  replace hz₁ : IsZip h₁ z TI TO .ellipsis := hz₁
  refine wpAny_bind ?_
  simp only [List.zipIdx_cons, List.zipIdx_nil, List.forIn_cons, List.forIn_nil]
  refine wpAny_bind (wpAny_bind (wpAny_onRaise ?_))
  show wpAny _ _ (Builtin.SmallTypes.nextOf (.ref i1) >>= _) _ _ _
  cases hx : xs[k1]? with
  | none =>
    refine wpAny_bind (wpAny_nextOf_list_end hh (h1.extBut hs₁.extBut D.i1z) (hl1.extBut hs₁.extBut D.l1z) hx fun h₂ e hs₂ he => ?_)
    obtain ⟨oe, hoe, hce⟩ := he
    have hz₂ : IsZip h₂ z TI TO .ellipsis := hs₂ _ _ D.i1z.symm hz₁
    have hez : e ≠ z := fun x => by subst x; rw [hz₂] at hoe; cases hoe; simp at hce
    refine wpAny_setField_rec hz₂ (by simp) fun h₃ _ hs₃ => hE h₃ e (fun c o c1 _ c3 _ x => hs₃.extBut _ _ c1 (hs₂ _ _ c3 (hs₁.extBut _ _ c1 x))) ⟨oe, hs₃.extBut _ _ hez hoe, hce⟩
  | some x =>
    have hy : ys[k2]? = none := by rcases hend with h | h; rw [hx] at h; cases h; exact h
    refine wpAny_bind (wpAny_nextOf_list_item (h1.extBut hs₁.extBut D.i1z) (hl1.extBut hs₁.extBut D.l1z) hx fun h₂ h1₂ hs₂ => wpAny_pure ?_)
    have hTO₂ : IsPair h₂ TO a b := hs₂.extBut _ _ D.TOi1 (hs₁.extBut _ _ D.TOz hTO)
    refine wpAny_bind (wpAny_seqItems hTO₂ rfl ?_)
    refine wpAny_bind (wpAny_updateSeq_pair hTO₂ fun h₃ hTO₃ hs₃ => ?_)
    refine wpAny_bind (wpAny_letGo (wpAny_pure ?_))
    refine wpAny_bind (wpAny_bind (wpAny_onRaise ?_))
    show wpAny _ _ (Builtin.SmallTypes.nextOf (.ref i2) >>= _) _ _ _
    refine wpAny_bind (nextOf_tuple_end hh (((h2.extBut hs₁.extBut D.i2z).extBut hs₂.extBut D.i12.symm).extBut hs₃.extBut D.TOi2.symm)
      (((hl2.extBut hs₁.extBut D.l2z).extBut hs₂.extBut D.l2i1).extBut hs₃.extBut D.l2TO) hy fun h₄ e hs₄ he => ?_)
    obtain ⟨oe, hoe, hce⟩ := he
    have hz₄ : IsZip h₄ z TI TO .ellipsis := hs₄ _ _ D.i2z.symm (hs₃.extBut _ _ D.TOz.symm (hs₂.extBut _ _ D.i1z.symm hz₁))
    have hez : e ≠ z := fun x => by subst x; rw [hz₄] at hoe; cases hoe; simp at hce
    refine wpAny_setField_rec hz₄ (by simp) fun h₅ _ hs₅ => hE h₅ e (fun c o c1 c2 c3 c4 x => hs₅.extBut _ _ c1 (hs₄ _ _ c4 (hs₃.extBut _ _ c2 (hs₂.extBut _ _ c3 (hs₁.extBut _ _ c1 x))))) ⟨oe, hs₅.extBut _ _ hez hoe, hce⟩

theorem pyNext_zipM_item {z TI TO i1 i2 l1 l2 : Addr} {k1 k2 : Nat} {xs ys : Array Value} {x y a b : Value} {Q : Option Value → Shared → Prop} (D : ZipApart z TI TO i1 i2 l1 l2)
    (hz : IsZip s.heap z TI TO .none) (hTI : IsPair s.heap TI (.ref i1) (.ref i2)) (hTO : IsPair s.heap TO a b)
    (h1 : s.heap.IsListIter i1 l1 k1) (h2 : s.heap.IsTupleIter i2 l2 k2) (hl1 : s.heap.IsList l1 xs) (hl2 : s.heap.IsTuple l2 ys) (hx : xs[k1]? = some x) (hy : ys[k2]? = some y)
    (hQ : ∀ h', IsZip h' z TI TO (rawInt s.heap.objs.size) → IsPair h' TO x y → h'.IsListIter i1 l1 (k1 + 1) → h'.IsTupleIter i2 l2 (k2 + 1) → IsPair h' s.heap.objs.size x y → h'.objs.size = s.heap.objs.size + 1 →
      (∀ c o, c ≠ z → c ≠ TO → c ≠ i1 → c ≠ i2 → s.heap.get? c = some o → h'.get? c = some o) → Q (some (.ref s.heap.objs.size)) { s with heap := h' }) :
    wpAny (model prog w) A (pyNext (.ref z)) Q E s := by
  have hT : s.TypeIs (.ref z) "zip" := ⟨_, hz, rfl⟩
  unfold pyNext
  exact wpAny_bind (wpAny_attempt (wpAny_callSpecial?_slot (name := Str.ofString "__next__") hT F.slot_zip_next
    (wpAny_call_entry F.slot_zip_next hT F.entry_zip_next
      (zipM_next_item D hz hTI hTO h1 h2 hl1 hl2 hx hy fun h' a1 a2 a3 a4 a5 a6 a7 => wpAny_pure (hQ h' a1 a2 a3 a4 a5 a6 a7)) (F.args_zip_next_1 _))))

theorem pyNext_zipM_end {z TI TO i1 i2 l1 l2 : Addr} {k1 k2 : Nat} {xs ys : Array Value} {a b : Value} {Q : Option Value → Shared → Prop} (hh : A.handled = none) (D : ZipApart z TI TO i1 i2 l1 l2)
    (hz : IsZip s.heap z TI TO .none) (hTI : IsPair s.heap TI (.ref i1) (.ref i2)) (hTO : IsPair s.heap TO a b)
    (h1 : s.heap.IsListIter i1 l1 k1) (h2 : s.heap.IsTupleIter i2 l2 k2) (hl1 : s.heap.IsList l1 xs) (hl2 : s.heap.IsTuple l2 ys) (hend : xs[k1]? = none ∨ ys[k2]? = none)
    (hQ : ∀ h', (∀ c o, c ≠ z → c ≠ TO → c ≠ i1 → c ≠ i2 → s.heap.get? c = some o → h'.get? c = some o) → Q none { s with heap := h' }) : wpAny (model prog w) A (pyNext (.ref z)) Q E s := by
  have hT : s.TypeIs (.ref z) "zip" := ⟨_, hz, rfl⟩
  unfold pyNext
  refine wpAny_bind (wpAny_attempt (wpAny_callSpecial?_slot (name := Str.ofString "__next__") hT F.slot_zip_next
    (wpAny_call_entry F.slot_zip_next hT F.entry_zip_next (zipM_next_end hh D hz hTI hTO h1 h2 hl1 hl2 hend fun h' e hk he => ?_) (F.args_zip_next_1 _))))
  obtain ⟨o, ho, hc⟩ := he
  refine wpAny_bind (wpAny_isInstance (T := "StopIteration") (b := true) ⟨o, ho, hc⟩ isSubtype_stop ?_)
  exact wpAny_pure (hQ _ hk)
end

abbrev zipMH1 (h : Heap) (l1 : Addr) : Heap := h.push { cls := .type "list_iterator", data := .fields #[.ref l1, .int 0 0] }
abbrev zipMH2 (h : Heap) (l1 l2 : Addr) : Heap := (zipMH1 h l1).push { cls := .type "tuple_iterator", data := .fields #[.ref l2, .int 0 0] }
abbrev zipMH3 (h : Heap) (l1 l2 : Addr) : Heap := (zipMH2 h l1 l2).push { cls := .type "tuple", data := .seq #[.ref h.objs.size, .ref (zipMH1 h l1).objs.size] }
abbrev zipMH4 (h : Heap) (l1 l2 : Addr) : Heap := (zipMH3 h l1 l2).push { cls := .type "tuple", data := .seq #[.none, .none] }
abbrev zipMH5 (h : Heap) (l1 l2 : Addr) : Heap := (zipMH4 h l1 l2).push { cls := .type "zip", data := .fields #[.none, .bool false, .bool false, .ref (zipMH2 h l1 l2).objs.size, .ref (zipMH3 h l1 l2).objs.size] }

theorem meets_zipM_new (l1 l2 : Addr) (xs ys : Array Value) :
    Meets (Builtin.«zip.__new__» ⟨[.type "zip", .ref l1, .ref l2], []⟩) (fun _ R s => s.heap.IsList l1 xs ∧ s.heap.IsTuple l2 ys ∧
      R (.ok (.ret (.ref (zipMH4 s.heap l1 l2).objs.size))) { s with heap := zipMH5 s.heap l1 l2 }) :=
  .of_wp fun prog w A R s h => by
    obtain ⟨hp, g, d, tk, os⟩ := s; obtain ⟨hl1, hl2, h⟩ := h
    have hsub := sub_zip
    have hL1 : Heap.IsList (Shared.heap ⟨hp, g, d, tk, os⟩) l1 xs := hl1
    have hL2 : Heap.IsTuple (Shared.heap ⟨hp.push { cls := .type "list_iterator", data := .fields #[.ref l1, .int 0 0] }, g, d, tk, os⟩) l2 ys := Heap.IsTuple.push hl2 _
    wp_walk using wpAny_pyIter_list hL1, wpAny_pyIter_tuple hL2
    exact ⟨_, rfl, h⟩

section
variable {prog : Program} {w : World} {A : Around} {E : Value → Shared → Prop} {s : Shared}

theorem call_zipM {l1 l2 : Addr} {xs ys : Array Value} {Q : Value → Shared → Prop} (hl1 : s.heap.IsList l1 xs) (hl2 : s.heap.IsTuple l2 ys)
    (h : ∀ h', IsZip h' (s.heap.objs.size + 4) (s.heap.objs.size + 2) (s.heap.objs.size + 3) .none → IsPair h' (s.heap.objs.size + 2) (.ref s.heap.objs.size) (.ref (s.heap.objs.size + 1)) →
      IsPair h' (s.heap.objs.size + 3) .none .none → h'.IsListIter s.heap.objs.size l1 0 → h'.IsTupleIter (s.heap.objs.size + 1) l2 0 → h'.objs.size = s.heap.objs.size + 5 →
      (∀ c o, s.heap.get? c = some o → h'.get? c = some o) → Q (.ref (s.heap.objs.size + 4)) { s with heap := h' }) :
    wpAny (model prog w) A (call (.type "zip") [.ref l1, .ref l2]) Q E s := by
  refine callType_new F.called_zip (by decide) (F.typeCall_zip_2 _ _) (F.newCall_zip_2 _ _) (fun obj => F.args_object_init_3 obj _ _) F.entry_zip_new
    (meets_zipM_new l1 l2 xs ys) ⟨hl1, hl2, ?_⟩
  have z1 : (zipMH1 s.heap l1).objs.size = s.heap.objs.size + 1 := Heap.size_push ..
  have z2 : (zipMH2 s.heap l1 l2).objs.size = s.heap.objs.size + 2 := by rw [Heap.size_push, z1]
  have z3 : (zipMH3 s.heap l1 l2).objs.size = s.heap.objs.size + 3 := by rw [Heap.size_push, z2]
  have z4 : (zipMH4 s.heap l1 l2).objs.size = s.heap.objs.size + 4 := by rw [Heap.size_push, z3]
  have z5 : (zipMH5 s.heap l1 l2).objs.size = s.heap.objs.size + 5 := by rw [Heap.size_push, z4]
  have g5 : (zipMH5 s.heap l1 l2).get? (zipMH4 s.heap l1 l2).objs.size = some _ := Heap.get?_push_size _ rfl
  have g4 : (zipMH5 s.heap l1 l2).get? (zipMH3 s.heap l1 l2).objs.size = some _ := Heap.get?_push_of_some _ (Heap.get?_push_size _ rfl)
  have g3 : (zipMH5 s.heap l1 l2).get? (zipMH2 s.heap l1 l2).objs.size = some _ := Heap.get?_push_of_some _ (Heap.get?_push_of_some _ (Heap.get?_push_size _ rfl))
  have g2 : (zipMH5 s.heap l1 l2).get? (zipMH1 s.heap l1).objs.size = some _ := Heap.get?_push_of_some _ (Heap.get?_push_of_some _ (Heap.get?_push_of_some _ (Heap.get?_push_size _ rfl)))
  have g1 : (zipMH5 s.heap l1 l2).get? s.heap.objs.size = some _ := Heap.get?_push_of_some _ (Heap.get?_push_of_some _ (Heap.get?_push_of_some _ (Heap.get?_push_of_some _ (Heap.get?_push_size _ rfl))))
  show _ ∧ _
  rw [z2, z3, z4] at g5
  rw [z1, z2] at g3
  rw [z3] at g4
  rw [z1] at g2
  rw [z4]
  exact ⟨⟨_, g5, rfl⟩, h _ g5 g3 g4 ⟨_, g1, rfl, rfl⟩ ⟨_, g2, rfl, rfl⟩ z5 fun c o x =>
    Heap.get?_push_of_some _ (Heap.get?_push_of_some _ (Heap.get?_push_of_some _ (Heap.get?_push_of_some _ (Heap.get?_push_of_some _ x))))⟩
end
/-- the tuples at a and b as they stand at each turn, the items in new pairs -/
def ItzM (K : PySem.W.Frag) (a b : Addr) : It :=
  ⟨fun i H => ∃ (xs ys : List V) (x y : V), SqL K H a xs ∧ SqT K H b ys ∧ xs[i]? = some x ∧ ys[i]? = some y,
    fun i H v H' => ∃ T x y, v = .ref T ∧ H T = none ∧ H' = upd H T (.tup [x, y]) ∧ (∀ xs, SqL K H a xs → xs[i]? = some x) ∧ ∀ ys, SqT K H b ys → ys[i]? = some y,
    fun i H => ∃ xs ys : List V, SqL K H a xs ∧ SqT K H b ys ∧ (xs.length ≤ i ∨ ys.length ≤ i)⟩
theorem turn_zipM {P : Program} {w : World} {K : PySem.W.Frag} {elts : List Expr} {kk : Nat} {tpos : Pos} {a b z TI TO i1 i2 : Addr} (D : ZipApart z TI TO i1 i2 a b) :
    Turn P w K (.Tuple elts kk tpos) (ItzM K a b) [z, TI, TO, i1, i2] z (fun i h => IsZip h z TI TO .none ∧ IsPair h TI (.ref i1) (.ref i2) ∧ (∃ x y, IsPair h TO x y) ∧ h.IsListIter i1 a i ∧ h.IsTupleIter i2 b i) where
  mem := by simp
  obj := fun i h st c hc => by
    obtain ⟨hz, hTI, ⟨x, y, hTO⟩, ⟨o1, e1, _, d1⟩, ⟨o2, e2, _, d2⟩⟩ := st
    have e' : c = z ∨ c = TI ∨ c = TO ∨ c = i1 ∨ c = i2 := by simpa using hc
    rcases e' with q | q | q | q | q
    · rw [q]; exact ⟨_, hz, fun v q => nomatch q⟩
    · rw [q]; exact ⟨_, hTI, fun v q => nomatch q⟩
    · rw [q]; exact ⟨_, hTO, fun v q => nomatch q⟩
    · rw [q]; exact ⟨o1, e1, fun v q => by rw [d1] at q; cases q⟩
    · rw [q]; exact ⟨o2, e2, fun v q => by rw [d2] at q; cases q⟩
  keep := fun i h h' st k => by
    obtain ⟨hz, hTI, ⟨x, y, hTO⟩, h1, h2⟩ := st
    exact ⟨k z (by simp) _ hz, k TI (by simp) _ hTI, ⟨x, y, k TO (by simp) _ hTO⟩, h1.at fun o q => k i1 (by simp) o q, h2.at fun o q => k i2 (by simp) o q⟩
  item := by
    intro X hP hw hK hc i pins s σ H E I hf st hg
    subst hP hw hK
    obtain ⟨hz, hTI, ⟨x0, y0, hTO⟩, h1, h2⟩ := st
    obtain ⟨xs, ys, x, y, hqx, hqy, hx, hy⟩ := hg
    obtain ⟨its, rv, p, _⟩ := I.list hqx
    obtain ⟨its2, rv2, p2, _⟩ := I.tuple hqy
    obtain ⟨u, hu, ru⟩ := rv.get hx
    obtain ⟨u2, hu2, ru2⟩ := rv2.get hy
    have hzl : z < s.heap.objs.size := Heap.lt_size hz
    refine pyNext_zipM_item D hz hTI hTO h1 h2 p.isList p2 (x := u) (y := u2) (by simpa using hu) (by simpa using hu2) fun h' z' TO' h1' h2' hT hsz hk => ?_
    refine ⟨_, rfl, wpAny_letOwnedTupleGo_zip (s := { s with heap := h' }) z' fun h'' z'' sb => ?_⟩
    have hT2 : h''.get? s.heap.objs.size = some { cls := .type "tuple", data := .seq #[u, u2] } := (sb.2 _ (Nat.ne_of_gt hzl)).trans hT
    have new : ObjOk X.prog X.w (upd H s.heap.objs.size (.tup [x, y])) h'' s.heap.objs.size (.tup [x, y]) :=
      ⟨by show 2 ≤ sizeLine; decide, [u, u2], .cons ru (.cons ru2 .nil), ⟨_, hT2, rfl, _, rfl⟩⟩
    have I1 : Inv X pins σ (upd H s.heap.objs.size (.tup [x, y])) { s with heap := h'' } :=
      I.turnedNew (t' := s.toks) (ch := [z, TI, TO, i1, i2]) (fun c o hb q => (sb.2 c (fun q' => hb (by simp [q']))).trans (hk c o (fun q' => hb (by simp [q'])) (fun q' => hb (by simp [q'])) (fun q' => hb (by simp [q'])) (fun q' => hb (by simp [q'])) q)) hf (Nat.le_refl _) new
    refine ⟨.ref s.heap.objs.size, _, I1, rfl, ⟨_, x, y, rfl, I.hok.fresh (Nat.le_refl _), rfl, fun l hl => by rw [I.list_inj hl hqx]; exact hx, fun l hl => by rw [I.tuple_inj hl hqy]; exact hy⟩, ⟨z'', ?_, ⟨u, u2, ?_⟩, ?_, ?_⟩, fun c hcm => ?_⟩
    · exact (sb.2 _ D.TIz).trans (hk _ _ D.TIz D.TITO D.TIi1 D.TIi2 hTI)
    · exact (sb.2 _ D.TOz).trans TO'
    · exact h1'.at fun o q => (sb.2 _ D.i1z).trans q
    · exact h2'.at fun o q => (sb.2 _ D.i2z).trans q
    · have hlt : c < s.heap.objs.size := by
        have e' : c = z ∨ c = TI ∨ c = TO ∨ c = i1 ∨ c = i2 := by simpa using hcm
        rcases e' with q | q | q | q | q
        · rw [q]; exact hzl
        · rw [q]; exact Heap.lt_size hTI
        · rw [q]; exact Heap.lt_size hTO
        · rw [q]; obtain ⟨_, e1, _⟩ := h1; exact Heap.lt_size e1
        · rw [q]; obtain ⟨_, e2, _⟩ := h2; exact Heap.lt_size e2
      rw [upd_ne (Nat.ne_of_lt hlt)]
      exact (hf c hcm).1
  done := by
    intro X hP hw hK hc i pins s σ H E I hf st hg
    subst hP hw hK
    obtain ⟨hz, hTI, ⟨x0, y0, hTO⟩, h1, h2⟩ := st
    obtain ⟨xs, ys, hqx, hqy, hend⟩ := hg
    obtain ⟨its, rv, p, _⟩ := I.list hqx
    obtain ⟨its2, rv2, p2, _⟩ := I.tuple hqy
    have l1 := rv.length
    have l2 := rv2.length
    have he : its.toArray[i]? = none ∨ its2.toArray[i]? = none := by
      rcases hend with q | q
      · exact .inl (by simp; omega)
      · exact .inr (by simp; omega)
    exact pyNext_zipM_end (I.ok.hd hc) D hz hTI hTO h1 h2 p.isList p2 he fun h' hk => ⟨rfl, I.turnedL (t' := s.toks) (ch := [z, TI, TO, i1, i2]) (fun c o hb q =>
      hk c o (fun q' => hb (by simp [q'])) (fun q' => hb (by simp [q'])) (fun q' => hb (by simp [q'])) (fun q' => hb (by simp [q'])) q) hf⟩
  self := fun A i s Q E st h => wpAny_pyIter_zip st.1 h


end RZ

/-! ### t[::-1] of a tuple -/
namespace RV
open PySem PySem.Spec PyProof.Rows HT L2
section
variable {prog : Program} {w : World} {A : Around} {E : Value → Shared → Prop} {s : Shared}
theorem filterMap_same {α β : Type} {f g : α → Option β} : ∀ {l : List α}, (∀ x ∈ l, f x = g x) → l.filterMap f = l.filterMap g
  | [], _ => rfl
  | x :: l, h => by
    rw [List.filterMap_cons, List.filterMap_cons, h x (by simp), filterMap_same fun y hy => h y (by simp [hy])]
theorem pick_back (xs : Array Value) : ((List.range xs.size).filterMap fun (m : Nat) => xs[((xs.size : Int) - 1 + (m : Int) * (-1)).toNat]?).toArray = xs.toList.reverse.toArray := by
  congr 1
  have h := pick_run xs.toList.reverse.toArray 0 xs.size
  have hl : xs.toList.reverse.length = xs.size := by simp
  simp only [List.drop_zero] at h
  rw [List.filterMap_map, List.take_of_length_le (by omega)] at h
  rw [← h]
  apply filterMap_same
  intro m hm
  have hm' : m < xs.size := List.mem_range.mp hm
  have e : ((xs.size : Int) - 1 + (m : Int) * (-1)).toNat = xs.size - 1 - m := by omega
  rw [e]
  show xs[xs.size - 1 - m]? = xs.toList.reverse.toArray[0 + m]?
  rw [Nat.zero_add, ← Array.getElem?_toList, ← Array.getElem?_toList, List.toList_toArray, List.getElem?_reverse (by simpa using hm'), Array.length_toList]
theorem adjust_back (n : Nat) : Builtin.Slice.sliceAdjust none none (-1) (n : Int) = ((n : Int) - 1, -1) := rfl
theorem places_back (n : Nat) : Builtin.Slice.slicePlaces ((n : Int) - 1) (-1) (-1) = n := by
  unfold Builtin.Slice.slicePlaces
  have h1 : ¬ ((-1 : Int) > 0) := by omega
  rw [if_neg h1]
  by_cases h : (n : Int) - 1 > -1
  · rw [if_pos h]
    have : ((n : Int) - 1 - -1 - 1) / (- -1) + 1 = n := by
      rw [show (- -1 : Int) = 1 from rfl, Int.ediv_one]
      omega
    rw [this, Int.toNat_natCast]
  · rw [if_neg h]
    omega
theorem sliceApplied_back {sl : Addr} {vs : Value} {n : Nat} {Q : Int × Int × Nat → Shared → Prop} (hs : s.heap.IsSliceOf sl .none .none vs) (ps : IsPart vs (some (-1)))
    (h : Q ((n : Int) - 1, -1, n) s) : wpAny (model prog w) A (Builtin.Slice.sliceApplied (.ref sl) (pure (n : Int))) Q E s := by
  obtain ⟨os, hos, hcs, hds⟩ := id hs
  unfold Builtin.Slice.sliceApplied Builtin.Slice.sliceFields
  refine wpAny_bind (wpAny_bind (wpAny_field hos hds (x := .none) rfl (wpAny_bind (wpAny_field hos hds (x := .none) rfl (wpAny_bind (wpAny_field hos hds (x := vs) rfl (wpAny_pure ?_)))))))
  refine wpAny_bind (slicePart_ ps ?_)
  show wpAny _ _ (if ((-1 : Int) == 0) = true then _ else _) _ _ s
  rw [if_neg (by decide)]
  refine wpAny_bind (slicePart_none (wpAny_bind (slicePart_none (wpAny_bind (wpAny_pure ?_)))))
  show wpAny _ _ (match Builtin.Slice.sliceAdjust none none (-1) (n : Int) with | (lo, hi) => pure (lo, (-1 : Int), Builtin.Slice.slicePlaces lo hi (-1))) _ _ s
  rw [adjust_back n]
  show wpAny _ _ (pure ((n : Int) - 1, (-1 : Int), Builtin.Slice.slicePlaces ((n : Int) - 1) (-1) (-1))) _ _ s
  rw [places_back]
  exact wpAny_pure h
theorem getItem_tuple_back {t sl : Addr} {items : Array Value} {vs : Value} {Q : Value → Shared → Prop} (ht : IsTup s.heap t items) (hs : s.heap.IsSliceOf sl .none .none vs) (ps : IsPart vs (some (-1)))
    (h : Q (.ref s.heap.objs.size) { s with heap := s.heap.push { cls := .type "tuple", data := .seq items.toList.reverse.toArray } })
    (hsz : items.size ≤ sizeLine) : wpAny (model prog w) A (getItem (.ref t) (.ref sl)) Q E s := by
  have htake : sizeOk (.seq items.toList.reverse.toArray) := by
    show items.toList.reverse.toArray.size ≤ sizeLine
    rw [List.size_toArray, List.length_reverse, Array.length_toList]
    exact hsz
  obtain ⟨os, hos, hcs, hds⟩ := id hs
  have hTs : s.TypeIs (.ref sl) "slice" := ⟨os, hos, hcs⟩
  unfold getItem
  try with_reducible refine wpAny_holding ?_
  first | refine wpAny_bind (wpAny_pure ?_) | skip
  refine wpAny_bind (wpAny_sequenceKey ht.typeIs (by decide) ?_)
  refine wpAny_bind (wpAny_callSpecial?_slot (name := Str.ofString "__getitem__") ht.typeIs PyProof.Rows.slot_tuple_getitem
    (wpAny_call_entry PyProof.Rows.slot_tuple_getitem ht.typeIs entry_tuple_getitem ?_ (args_tuple_getitem _ _)))
  show wpAny _ _ (Builtin.Tuple.tupleItemsOf (.ref t) >>= _) _ _ s
  refine wpAny_bind (tupleItemsOf_ ht ?_)
  refine wpAny_bind (wpAny_typeOf hTs ?_)
  rw [if_pos (by decide)]
  refine wpAny_bind (sliceApplied_back hs ps ?_)
  have hno : ¬ ((((items.size : Int) - 1) == 0 && (-1 : Int) == 1 && items.size == items.size) = true) := by
    intro q
    rw [Bool.and_eq_true, Bool.and_eq_true] at q
    exact absurd q.1.2 (by decide)
  show wpAny _ _ (if ((((items.size : Int) - 1) == 0 && (-1 : Int) == 1 && items.size == items.size)) = true then _ else _) _ _ s
  rw [if_neg hno, pick_back]
  first
    | exact wpAny_bind (m := Builtin.Tuple.tupleExact _) (wpAny_newObj_type (wpAny_pure ⟨_, rfl, wpAny_pure h⟩) htake)
    | exact wpAny_bind (m := Builtin.Tuple.tupleExact _) (wpAny_newObj_type (wpAny_bind (wpAny_pure (wpAny_pure ⟨_, rfl, wpAny_pure h⟩))) htake)
    | exact wpAny_bind (wpAny_bind (m := Builtin.Tuple.tupleExact _) (wpAny_newObj_type (wpAny_pure (wpAny_pure ⟨_, rfl, wpAny_pure h⟩)) htake))
    | exact wpAny_bind (wpAny_bind (m := Builtin.Tuple.tupleExact _) (wpAny_newObj_type (wpAny_pure ⟨_, rfl, wpAny_pure h⟩) htake))
end
def tRevT (K : PySem.W.Frag) (te : TE) : TE := fun σ H Q => te σ H fun x H1 => ∃ a xs, x = .ref a ∧ SqT K H1 a xs ∧ ∀ p, H1 p = none → Q (.ref p) (upd H1 p (.tup xs.reverse))
section
variable {X : Cx}
theorem pe_revT {e : Expr} {te : TE} {k : Nat} {p1 p2 p3 pos : Pos} (he : PE X e te) : PE X (.Subscript e (.Slice none none (some (.UnaryOp .USub (.Constant (.int 1) k p1) p2)) p3) pos) (tRevT X.K te) := by
  refine ⟨fun pins s σ H Q I h => ?_⟩
  refine Subscript_ (thn (he.run pins s σ H _ I h) fun v s1 ⟨x, H1, I1, r1, q1⟩ => ?_)
  obtain ⟨a, xs, ex, hx, q⟩ := q1
  subst ex
  cases r1
  have hst : PO X (some (.UnaryOp .USub (.Constant (.int 1) k p1) p2)) (tPart (tUn (rU fun i => .int (-i)) (tC (.int 1)))) := po_some (pe_un un_neg pe_int)
  refine wpAny_Slice (thn (po_none.run pins s1 σ H1 (fun o H2 => o = none ∧ H2 = H1) I1 ⟨rfl, rfl⟩) fun vl s2 ⟨l, H2, I2, pl, el, e2⟩ => ?_)
  subst el e2
  refine thn (po_none.run pins s2 σ H2 (fun o H3 => o = none ∧ H3 = H2) I2 ⟨rfl, rfl⟩) fun vu s3 ⟨u, H3, I3, pu, eu, e3⟩ => ?_
  subst eu e3
  refine thn (hst.run pins s3 σ H3 (fun o H4 => o = some (-1) ∧ H4 = H3) I3 ⟨1, rfl, -1, rfl, rfl, rfl⟩) fun vs s4 ⟨o, H4, I4, ps, eo, e4⟩ => ?_
  subst eo e4
  cases pl
  cases pu
  have I5 : Inv X pins σ H4 { s4 with heap := s4.heap.push { cls := .type "slice", data := .fields #[.none, .none, vs] } } := I4.kept (t' := s4.toks) fun b ob q => Heap.get?_push_of_some _ q
  obtain ⟨its, r, ht, hz⟩ := I5.tuple hx
  have hlen := r.length
  show wpAny (model X.prog X.w) X.A (subscriptTail e (.Slice none none (some (.UnaryOp .USub (.Constant (.int 1) k p1) p2)) p3) (.ref a) (.ref s4.heap.objs.size)) (EP X pins σ Q) X.xe { s4 with heap := s4.heap.push { cls := .type "slice", data := .fields #[.none, .none, vs] } }
  refine tail_any (ops := [.ref a, .ref s4.heap.objs.size]) ht.typeIs (PyProof.Rows.slot_tuple_getitem.lookup) ?_ (by with_unfolding_all rfl)
  refine getItem_tuple_back ht (Heap.IsSliceOf.new _ .none .none vs) ps ?_ (by rw [List.size_toArray]; omega)
  refine ⟨.ref _, _, I5.laid (t' := s4.toks) (o := .tup xs.reverse) (fun b ob q => Heap.get?_push_of_some _ q) (Nat.le_refl _) ?_, rfl, q _ (I5.hok.fresh (Nat.le_refl _))⟩
  exact ⟨by rw [List.length_reverse]; exact hz, _, r.reverse, IsTup.new _ _⟩
end
end RV
namespace PL
open PySem PySem.Spec PyProof.Rows L2
section
variable {X : Cx} {e : Expr} {pos p1 p2 p3 : Pos} {f : Ev}
def gRev : D → Option M
  | .tup ds => some (.d (.tup ds.reverse))
  | _ => none
def fRev (f : Ev) : Ev := fun b => match f b with
  | some (.d d, b1) => (match gRev d with
    | some m => some (m, b1)
    | none => none)
  | _ => none
theorem rpl_reverse {K : PySem.W.Frag} {G : Hp} : ∀ {ds : List D} {xs : List V}, RpL K G ds xs → RpL K G ds.reverse xs.reverse := by
  intro ds
  induction ds with
  | nil => intro xs h; simp only [RpL] at h; subst h; simp [RpL]
  | cons d ds ih =>
    intro xs h
    simp only [RpL] at h
    obtain ⟨y, ys, rfl, h2, h3⟩ := h
    simp only [List.reverse_cons]
    exact (ih h3).app (by simp only [RpL]; exact ⟨y, [], rfl, h2, rfl⟩)
theorem e_rev {k : Nat} (h : EM X e f) : EM X (.Subscript e (.Slice none none (some (.UnaryOp .USub (.Constant (.int 1) k p1) p2)) p3) pos) (fRev f) := (RV.pe_revT h).wk fun σ H Q => by
  rintro ⟨c, G, b, T, m, b', hf, I, q⟩
  unfold fRev at hf
  split at hf
  · rename_i d b1 e1
    split at hf
    · rename_i m' e4
      cases hf
      refine ⟨c, G, b, T, _, _, e1, I, fun v G1 H1 I1 => ?_⟩
      have r := I1.topD
      have I2 := I1.drop
      cases d <;> simp only [gRev] at e4 <;> cases e4
      rename_i ds
      simp only [Rp] at r
      obtain ⟨p, xs, rfl, h2, h3⟩ := r
      exact ⟨p, xs, rfl, sqt_mono I2.st.gh h2, fun p hp => q _ _ _ (I2.newT hp (rpl_reverse h3))⟩
    · cases hf
  · cases hf
end
end PL

/-! zip of a list and a tuple in a loop; a list unpacked -/
namespace RZ
open PySem PySem.Spec PyProof.Rows L2
open PySem.Sem (wp)
def iZipM (K : PySem.W.Frag) (ta : TA) : TI := fun σ H R => ta σ H fun vs H1 => ∃ a b xs ys, vs = [.ref a, .ref b] ∧ SqL K H1 a xs ∧ SqT K H1 b ys ∧ R (ItzM K a b) H1
theorem pi_zipM {X : Cx} {e e2 : Expr} {ta : TA} {p pos tpos : Pos} {elts : List Expr} {kk : Nat} (hg : Gl X "zip") (hm : X.mg "zip" = none) (ha : PA X [e, e2] ta)
    (hs : starEach [e, e2] X.env = (false, eval e X.env) :: starEach [e2] X.env := by rfl) (hpl : (backTo pos (starEach [e2] X.env)).any (·.1) = false := by rfl) :
    PI X (.Tuple elts kk tpos) (.Call (.Name "zip" p) [e, e2] [] pos) (iZipM X.K ta) := by
  refine ⟨fun pins s σ H R I h => ?_⟩
  refine Call_ (ld_blt I hg hm PyProof.Rows.boot_zip (PyProof.Rows.callWith_type1 (thn (ha.run pos pins s σ H _ I h) fun us s1 ⟨vs, H1, I1, r1, q1⟩ => ?_) hs hpl))
  obtain ⟨a, b, xs, ys, ex, hqx, hqy, q⟩ := q1
  subst ex
  cases r1 with
  | cons r rr =>
    cases rr with
    | cons r' rr =>
      cases rr
      cases r
      cases r'
      have fresh5 : ∀ c, c ∈ [s1.heap.objs.size + 4, s1.heap.objs.size + 2, s1.heap.objs.size + 3, s1.heap.objs.size, s1.heap.objs.size + 1] → FpOk X pins H1 c := fun c hcm => by
        have e' : c = s1.heap.objs.size + 4 ∨ c = s1.heap.objs.size + 2 ∨ c = s1.heap.objs.size + 3 ∨ c = s1.heap.objs.size ∨ c = s1.heap.objs.size + 1 := by simpa using hcm
        have hle : s1.heap.objs.size ≤ c := by
          rcases e' with z | z | z | z | z
          · rw [z]; exact Nat.le_add_right _ _
          · rw [z]; exact Nat.le_add_right _ _
          · rw [z]; exact Nat.le_add_right _ _
          · rw [z]; exact Nat.le_refl _
          · rw [z]; exact Nat.le_add_right _ _
        exact I1.fpOk hle (I1.hok.fresh hle)
      obtain ⟨its, rv, p1, _⟩ := I1.list hqx
      obtain ⟨its2, rv2, p2, _⟩ := I1.tuple hqy
      obtain ⟨o2, ho2, _⟩ := id p2
      refine call_zipM p1.isList (show s1.heap.IsTuple b its2.toArray from p2) fun h' hz hTI hTO h1 h2 hsz hk => wpAny_pyIter_zip hz ?_
      have I2 : Inv X pins σ H1 { s1 with heap := h' } := I1.kept (t' := s1.toks) hk
      exact ⟨s1.heap.objs.size + 4, [s1.heap.objs.size + 4, s1.heap.objs.size + 2, s1.heap.objs.size + 3, s1.heap.objs.size, s1.heap.objs.size + 1], _, _, H1, rfl, I2, turn_zipM (PySem.W.ktu_apart s1.heap.objs.size a b p1.lt (Heap.lt_size ho2)), ⟨hz, hTI, ⟨_, _, hTO⟩, h1, h2⟩, fresh5, q⟩
end RZ
namespace PL
open PySem PySem.Spec PyProof.Rows L2
section
variable {X : Cx} {e e1 e2 e3 : Expr} {es : List Expr} {pos p : Pos} {f : Ev} {fs : Av} {src : List (Option Nat)}
def lZipM (fs : Av) : Lv := fun b => match fs b with
  | some ([.d (.lst ds), .d (.tup es)], b1) => some (zipD ds es, b1)
  | _ => none
theorem i_zipM {elts : List Expr} {kk : Nat} {tpos : Pos} (hm : X.mg "zip" = none) (ha : AM X [e, e2] src fs) (hsrc : src.all (·.isNone) = true := by rfl) (hg : Gl X "zip" := by rfl) (hs : starEach [e, e2] X.env = (false, eval e X.env) :: starEach [e2] X.env := by rfl) (hpl : (backTo pos (starEach [e2] X.env)).any (·.1) = false := by rfl) : IM X (.Tuple elts kk tpos) (.Call (.Name "zip" p) [e, e2] [] pos) (lZipM fs) := (RZ.pi_zipM hg hm ha hs hpl).wk fun σ H R => by
  rintro ⟨c, G, b, T, ds, b', hf, I, q⟩
  unfold lZipM at hf
  split at hf
  · rename_i ds es b1 e1
    cases hf
    refine ⟨c, G, b, T, _, b', e1, I, fun us vs G1 H1 hl av I1 => ?_⟩
    have e := av.pure hsrc
    subst e
    obtain ⟨u, v, rfl⟩ := len2 hl
    have r2 := Iv.topD (T := T) (Iv.drop I1)
    have r1 := Iv.topD (T := (.d (.tup es), v) :: T) I1
    simp only [Rp] at r1 r2
    obtain ⟨p1, xs, rfl, h2, h3⟩ := r1
    obtain ⟨p2, ys, rfl, h5, h6⟩ := r2
    refine ⟨p1, p2, xs, ys, rfl, SqL.of (I1.st.gh _ _ h2), sqt_mono I1.st.gh h5, q _ [(.d (.lst ds), .ref p1), (.d (.tup es), .ref p2)] G1 H1 I1 ?_⟩
    intro c G H σ b T i I
    have r2 := Iv.topD (T := T) (Iv.drop I)
    have r1 := Iv.topD (T := (.d (.tup es), .ref p2) :: T) I
    simp only [Rp] at r1 r2
    obtain ⟨_, xs, h1, h2, h3⟩ := r1
    cases h1
    obtain ⟨_, ys, h4, h5, h6⟩ := r2
    cases h4
    have h2' := SqL.of (K := X.K) (I.st.gh _ _ h2)
    have h5' := sqt_mono I.st.gh h5
    have el := zipD_len ds es
    rw [h3.len, h6.len] at el
    refine ⟨fun hi => ?_, fun hi => ⟨xs, ys, h2', h5', by omega⟩⟩
    have hi1 : i < xs.length := by omega
    have hi2 : i < ys.length := by omega
    refine ⟨⟨xs, ys, xs[i], ys[i], h2', h5', List.getElem?_eq_getElem hi1, List.getElem?_eq_getElem hi2⟩, fun x H' y => ?_⟩
    obtain ⟨t, x, y, rfl, hn, rfl, y1, y2⟩ := y
    obtain ⟨d1, q1, q2⟩ := item_of h3 (y1 xs h2')
    obtain ⟨d2, q3, q4⟩ := item_of h6 (y2 ys h5')
    refine ⟨_, _, zipD_get ds es i d1 d2 q1 q3, I.newT hn ?_⟩
    simp only [RpL]
    exact ⟨x, [y], rfl, q2, y, [], rfl, q4, rfl⟩
  · cases hf
def gLs (n : Nat) (gs : Gvs) : Gv := fun d b => match d with
  | .lst ds => if ds.length = n then gs ds b else none
  | _ => none
theorem g_ls {n k : Nat} {ix : List Nat} {gs : Gvs} (hc : X.calm = true) (h : GMs X es ix gs) (hn : (assignEach es X.env).length = n := by rfl) (hst : (assignEach es X.env).findIdx? (·.1) = none := by rfl) : GM X (.Tuple es k pos) ix (gLs n gs) := (pg_lst hc h hn hst).wk fun v σ H Q => by
  rintro ⟨c, G, b, T, d, b', hf, I, q⟩
  unfold gLs at hf
  split at hf
  · rename_i ds
    split at hf
    · rename_i hl
      have r := I.topD
      simp only [Rp] at r
      obtain ⟨p, xs, rfl, h2, h3⟩ := r
      refine ⟨p, xs, rfl, SqL.of (I.st.gh _ _ h2), by rw [← h3.len]; exact hl, c, G, b, T, ds, b', hf, h3.len, ?_, q⟩
      have push : ∀ {ds : List D} {xs : List V}, RpL X.K G ds xs → Iv X.K c G H σ b T → Iv X.K c G H σ b (zT (ds.map .d) xs ++ T) := by
        intro ds
        induction ds with
        | nil => intro xs h I; simp only [RpL] at h; subst h; exact I
        | cons d ds ih =>
          intro xs h I
          simp only [RpL] at h
          obtain ⟨y, ys, rfl, h2, h3⟩ := h
          exact (ih h3 I).pushD h2
      exact push h3 I.drop
    · cases hf
  · cases hf
end
end PL

/-! a, b, c = x, y, z -/
namespace PL
open PySem PySem.Spec PyProof.Rows L2
section
variable {X : Cx} {e : Expr} {es : List Expr} {pos : Pos} {x : Str} {f : Ev} {fs : Av} {src : List (Option Nat)}
def sPar3 (i j l : Nat) (fs : Av) : Sv := fun b => match fs b with
  | some ([m1, m2, m3], b1) => if i < b1.length ∧ j < b1.length ∧ l < b1.length then some (.nx, ((b1.set i m1.toB).set j m2.toB).set l m3.toB) else none
  | _ => none
theorem s_par3 (i j l : Nat) {y z : Str} {a e2 e3 : Expr} {px py pz pt : Pos} {kt k2 pt2} (hc : X.calm = true) (hN : X.N.Nodup) (ha : AM X [a, e2, e3] src fs) (hsrc : src.all (·.isNone) = true := by rfl) (hi : X.N[i]? = some x := by rfl) (hj : X.N[j]? = some y := by rfl) (hl : X.N[l]? = some z := by rfl) (hij : i ≠ j := by decide) (hil : i ≠ l := by decide) (hjl : j ≠ l := by decide)
    (hx : X.env.scope.names.lookup x = some .local := by rfl) (hy : X.env.scope.names.lookup y = some .local := by rfl) (hz : X.env.scope.names.lookup z = some .local := by rfl)
    (hw : swappedStores [.Tuple [.Name x px, .Name y py, .Name z pz] kt pt] (.Tuple [a, e2, e3] k2 pt2) X.env = pure (some [x, y, z]) := by rfl)
    (hs : swapsWithSole [.Tuple [.Name x px, .Name y py, .Name z pz] kt pt] (.Tuple [a, e2, e3] k2 pt2) pos.line X.env = pure false := by rfl) :
    SM X (.Assign [.Tuple [.Name x px, .Name y py, .Name z pz] kt pt] (.Tuple [a, e2, e3] k2 pt2) pos) (sPar3 i j l fs) := (ps_par3 (i := i) (j := j) (l := l) hc hN hi hj hl hij hil hjl hx hy hz ha hw hs).wk fun D σ H => by
  rintro ⟨c, G, b, T, r, b', hf, I, q⟩
  unfold sPar3 at hf
  split at hf
  · rename_i m1 m2 m3 b1 e1
    split at hf
    · rename_i hl
      cases hf
      refine ⟨c, G, b, T, _, b1, e1, I, fun us vs G1 H1 hl2 av I1 => ?_⟩
      have e := av.pure hsrc
      subst e
      obtain ⟨u1, u2, u3, rfl⟩ : ∃ u1 u2 u3, us = [u1, u2, u3] := by
        cases us with
        | nil => simp at hl2
        | cons u1 us =>
          cases us with
          | nil => simp at hl2
          | cons u2 us =>
            cases us with
            | nil => simp at hl2
            | cons u3 us =>
              cases us with
              | nil => exact ⟨u1, u2, u3, rfl⟩
              | cons _ _ => simp at hl2
      refine ⟨u1, u2, u3, rfl, ?_⟩
      have I2 : Iv X.K c G1 H1 σ b1 ((m1, u1) :: (m2, u2) :: (m3, u3) :: T) := I1
      exact q _ G1 H1 (((I2.put hl.1).put (by simpa using hl.2.1)).put (by simpa using hl.2.2))
    · cases hf
  · cases hf
end
end PL

namespace PL
open PySem PySem.Spec PyProof.Rows L2
theorem dtB_ok {K : PySem.W.Frag} {a : Addr} (h : dtB K a = true) (H : Hp) : SqT K H a [] := by
  unfold dtB at h
  cases q : K.lookup a with
  | none =>
    rw [q] at h
    cases h
  | some o =>
    obtain ⟨oc, od, dt, osl⟩ := o
    rw [q] at h
    cases oc with
    | type c =>
      cases dt with
      | seq its n =>
        obtain ⟨h1, h2⟩ := bool_of (show (decide (c = "tuple") && decide (its.size = 0)) = true from h)
        have h2 := of_decide_eq_true h2
        have e : its.toList = [] := by
          apply List.length_eq_zero_iff.mp
          rw [Array.length_toList]
          exact h2
        refine .inr ⟨_, its, n, q, congrArg Value.type (of_decide_eq_true h1), rfl, by rw [h2]; exact Nat.zero_le _, ?_⟩
        rw [e]
        exact .nil
      | _ => cases h
    | _ => cases dt <;> cases h
theorem rpl_emp {K : PySem.W.Frag} : ∀ {as : List Addr}, (∀ a ∈ as, dtB K a = true) → ∀ G, RpL K G (as.map fun _ => D.tup []) (as.map V.ref)
  | [], _, G => by simp [RpL]
  | a :: as, h, G => by
    simp only [List.map_cons, RpL]
    refine ⟨.ref a, _, rfl, ?_, rpl_emp (fun b hb => h b (by simp [hb])) G⟩
    simp only [Rp]
    exact ⟨a, [], rfl, dtB_ok (h a (by simp)) G, by simp [RpL]⟩
theorem funD_kbnQ {K : PySem.W.Frag} {x qual : Str} {params : Arguments} {body : List Stmt} {scope : Scope} {dvs : List V} {kws : List (Str × V)} {f : Addr} {fd : FuncData} {ps : List Str} (F : FunD K x qual params body scope dvs kws f fd) (hd : dvs ≠ []) (n j : Nat) (ks : List Str)
    (h : ∀ (T : Addr) (kV doc pm : Value) (an : Option Addr) (cdv ct : Value) (us its ws : List Value), us.length = n → its.length = dvs.length → ws.length = ks.length →
      ∃ k, bindArgs (PySem.W.fnOf x qual params body scope (.ref T) kV doc pm an cdv ct) ⟨us, ks.zip ws⟩ = seqItems? (.ref T) >>= k ∧ k (some its.toArray) = pure (ps.zip (us ++ ws ++ its.drop j))) :
    ∃ ds : List Value, KBn K fd ps n ks (fun us ws => us ++ ws ++ ds) (fun vs zs => vs ++ zs ++ dvs.drop j) := by
  obtain ⟨oc, od, dV, kV, doc, pm, an, cdv, ct, osl, rfl, lk, hcd, hD, hK⟩ := F.ex
  rcases hD with ⟨e, _⟩ | ⟨_, T, o, its, m, rfl, lT, oT, rT⟩
  · exact absurd e hd
  · refine ⟨its.drop j, fun s us ws X l1 l2 => ?_, fun r1 r2 => (r1.append r2).append (rT.drop j)⟩
    obtain ⟨k, e1, e2⟩ := h T kV doc pm an cdv ct us its ws l1 rT.length.symm l2
    refine BindsTo.of_looks fun M => ?_
    rw [e1]
    exact looks_items X lT oT (.of_pure e2)
structure MakQOk (P : Program) (w : World) (K : PySem.W.Frag) (mg : Str → Option Value) (base : Heap) (k : Nat) (C kn : Str) (dvs : List V) (F : Fn) : Prop where
  at_ : mg C = some (.ref (He.ga K C))
  ex : ∃ f fd ps, ∃ ds : List Value, Mk K (He.ga K C) f ∧ KBn K fd ps 1 [kn] (fun us ws => us ++ ws ++ ds) (fun vs zs => vs ++ zs ++ dvs) ∧ FnOk P w K mg base CX0 k f fd ps (spD K F)
section
variable {X : Cx} {e e1 e2 : Expr} {es : List Expr} {pos p kpos : Pos} {f f1 f2 : Ev} {fs : Av} {C kn : Str} {F : Fn} {k n : Nat} {E : XK} {dds : List D} {dvs : List V}
theorem e_makeQ (h : MakQOk X.prog X.w X.K X.mg X.base k C kn dvs F) (hr : Room (k + 1) X.A) (hd : ∀ G, RpL X.K G dds dvs) (h1 : EM X e1 f1) (hg : Gl X C := by rfl)
    (hall : (backToKw pos (keywordEach [⟨some kn, e1, kpos⟩] X.env)).all (·.1.isSome) = true := by rfl) (hks : (backToKw pos (keywordEach [⟨some kn, e1, kpos⟩] X.env)).filterMap (·.1) = [kn] := by rfl) (hdb : (C == ("__debug__" : Str)) = false := by decide)
    (hpl : ((backTo pos (starEach [] X.env)).any (·.1) || (backToKw pos (keywordEach [⟨some kn, e1, kpos⟩] X.env)).any (·.1.isNone)) = false := by rfl) :
    EM X (.Call (.Name C p) [] [⟨some kn, e1, kpos⟩] pos) (fMake C F dds [none] (fCons f1 fNil)) := by
  obtain ⟨f, fd, ps, ds, z1, z3, z5⟩ := h.ex
  refine (pe_makeK0 (E := E0) z1 z5 hr hg h.at_ z3 pass0 (pk_cons h1 pk_nil) hall hks hdb hpl).wk fun σ H Q => ?_
  rintro ⟨c, G, b, T, r, b', hf, I, q⟩
  unfold fMake at hf
  split at hf
  · rename_i ms b1 e1
    unfold fCons at e1
    split at e1
    · rename_i m1 b0 ef
      simp only [fNil, Option.some.injEq, Prod.mk.injEq] at e1
      obtain ⟨rfl, rfl⟩ := e1
      split at hf
      · rename_i full ks b2 e2
        split at hf
        · rename_i m' os e3
          split at hf
          · rename_i b3 e4
            cases hf
            refine ⟨c, G, b, T, m1, b0, ef, I, fun v1 G1 H1 I1 => ⟨rfl, rfl, fun xx dx hx hdx ne => ?_⟩⟩
            have I2 : Iv X.K c G1 H1 σ b0 (zT [m1] [v1] ++ T) := I1
            have := Iv.make (F := F) (dds := dds) (dvs := dvs) (src := [none]) (ms := [m1]) (us := [v1]) (vs := [v1]) (full := full) (ks := ks) (b2 := b2) (b3 := b') (os := os) (Q := Q) (E := E0) I2 rfl ⟨v1, [], [], rfl, rfl, rfl, rfl⟩ (hd G1) e2 e3 e4 hx hdx ne fun G' H' I' => q _ G' H' I'
            simpa using this
          · cases hf
        · cases hf
      · cases hf
    · cases e1
  · cases hf
end
end PL

namespace Lw
open PySem PySem.Spec PyProof.Rows L2 PL
abbrev N_law_pot : List Str := ["script", "k", "cell"]
theorem sc_law_pot : FnScope N_law_pot ["script", "k"] (defScope s_law_pot) := ⟨rfl, rfl, rfl, by decide +kernel, rfl, by decide +kernel, by decide +kernel⟩
abbrev N_law_dip : List Str := ["pot", "many", "mixed", "found"]
theorem sc_law_dip : FnScope N_law_dip ["pot", "many"] (defScope s_law_dip) := ⟨rfl, rfl, rfl, by decide +kernel, rfl, by decide +kernel, by decide +kernel⟩
abbrev N_law_rule : List Str := ["pot", "most", "some", "k"]
theorem sc_law_rule : FnScope N_law_rule ["pot", "most"] (defScope s_law_rule) := ⟨rfl, rfl, rfl, by decide +kernel, rfl, by decide +kernel, by decide +kernel⟩
abbrev N_law_rules : List Str := ["pot", "most", "found", "k", "some", "row"]
theorem sc_law_rules : FnScope N_law_rules ["pot", "most"] (defScope s_law_rules) := ⟨rfl, rfl, rfl, by decide +kernel, rfl, by decide +kernel, by decide +kernel⟩
abbrev N_is_rule : List Str := ["thing", "action"]
theorem sc_is_rule : FnScope N_is_rule ["thing"] (defScope s_is_rule) := ⟨rfl, rfl, rfl, by decide +kernel, rfl, by decide +kernel, by decide +kernel⟩
abbrev N_Book__init : List Str := ["self", "put", "look", "alter", "back", "pay", "again", "row", "door", "rule"]
theorem sc_Book__init : FnScope N_Book__init ["self", "put", "look", "alter", "back", "pay", "again"] (defScope s_Book__init) := ⟨rfl, rfl, rfl, by decide +kernel, rfl, by decide +kernel, by decide +kernel⟩
abbrev N_is_door : List Str := ["thing"]
theorem sc_is_door : FnScope N_is_door ["thing"] (defScope s_is_door) := ⟨rfl, rfl, rfl, by decide +kernel, rfl, by decide +kernel, by decide +kernel⟩
abbrev N_Book_rule : List Str := ["self", "door"]
theorem sc_Book_rule : FnScope N_Book_rule ["self", "door"] (defScope s_Book_rule) := ⟨rfl, rfl, rfl, by decide +kernel, rfl, by decide +kernel, by decide +kernel⟩
abbrev N_Book_with_rule : List Str := ["self", "door", "rule", "found", "name"]
theorem sc_Book_with_rule : FnScope N_Book_with_rule ["self", "door", "rule"] (defScope s_Book_with_rule) := ⟨rfl, rfl, rfl, by decide +kernel, rfl, by decide +kernel, by decide +kernel⟩
abbrev N_law_book : List Str := ["rules", "found", "doors", "k", "rule"]
theorem sc_law_book : FnScope N_law_book ["rules"] (defScope s_law_book) := ⟨rfl, rfl, rfl, by decide +kernel, rfl, by decide +kernel, by decide +kernel⟩
abbrev N_Standing__init : List Str := ["self", "kept_by", "seen", "now", "is_failed", "deeds"]
theorem sc_Standing__init : FnScope N_Standing__init ["self", "kept_by", "seen", "now", "is_failed", "deeds"] (defScope s_Standing__init) := ⟨rfl, rfl, rfl, by decide +kernel, rfl, by decide +kernel, by decide +kernel⟩
abbrev N_ranks : List Str := ["values", "row", "value"]
theorem sc_ranks : FnScope N_ranks ["values"] (defScope s_ranks) := ⟨rfl, rfl, rfl, by decide +kernel, rfl, by decide +kernel, by decide +kernel⟩
abbrev N_Standing_mark : List Str := ["self"]
theorem sc_Standing_mark : FnScope N_Standing_mark ["self"] (defScope s_Standing_mark) := ⟨rfl, rfl, rfl, by decide +kernel, rfl, by decide +kernel, by decide +kernel⟩
abbrev N_gaps : List Str := ["values", "row", "found", "place"]
theorem sc_gaps : FnScope N_gaps ["values"] (defScope s_gaps) := ⟨rfl, rfl, rfl, by decide +kernel, rfl, by decide +kernel, by decide +kernel⟩
abbrev N_between : List Str := ["values"]
theorem sc_between : FnScope N_between ["values"] (defScope s_between) := ⟨rfl, rfl, rfl, by decide +kernel, rfl, by decide +kernel, by decide +kernel⟩
abbrev N_Standing_priced : List Str := ["self", "known", "found", "now", "value"]
theorem sc_Standing_priced : FnScope N_Standing_priced ["self"] (defScope s_Standing_priced) := ⟨rfl, rfl, rfl, by decide +kernel, rfl, by decide +kernel, by decide +kernel⟩
abbrev N_LineWork_carry_out : List Str := ["self", "action", "now"]
theorem sc_LineWork_carry_out : FnScope N_LineWork_carry_out ["self", "action", "now"] (defScope s_LineWork_carry_out) := ⟨rfl, rfl, rfl, by decide +kernel, rfl, by decide +kernel, by decide +kernel⟩
abbrev N_LineWork__init : List Str := ["self", "rule", "kept", "shown", "now", "action"]
theorem sc_LineWork__init : FnScope N_LineWork__init ["self", "rule", "kept", "shown", "now"] (defScope s_LineWork__init) := ⟨rfl, rfl, rfl, by decide +kernel, rfl, by decide +kernel, by decide +kernel⟩
abbrev N_Standing_behind : List Str := ["self", "rules", "deed", "works", "rule", "stays", "one", "two", "found"]
theorem sc_Standing_behind : FnScope N_Standing_behind ["self", "rules", "deed"] (defScope s_Standing_behind) := ⟨rfl, rfl, rfl, by decide +kernel, rfl, by decide +kernel, by decide +kernel⟩
abbrev N_Standing_persons : List Str := ["self", "books", "found", "door", "deed", "book"]
theorem sc_Standing_persons : FnScope N_Standing_persons ["self", "books"] (defScope s_Standing_persons) := ⟨rfl, rfl, rfl, by decide +kernel, rfl, by decide +kernel, by decide +kernel⟩
abbrev N_with_amount : List Str := ["places", "deed"]
theorem sc_with_amount : FnScope N_with_amount ["places", "deed"] (defScope s_with_amount) := ⟨rfl, rfl, rfl, by decide +kernel, rfl, by decide +kernel, by decide +kernel⟩
abbrev N_with_amounts : List Str := ["prices", "deeds", "places", "item", "amount", "told", "values", "deed"]
theorem sc_with_amounts : FnScope N_with_amounts ["prices", "deeds"] (defScope s_with_amounts) := ⟨rfl, rfl, rfl, by decide +kernel, rfl, by decide +kernel, by decide +kernel⟩
abbrev N_told_apart : List Str := ["book", "other", "books", "start", "known", "layer", "later", "standing", "found"]
theorem sc_told_apart : FnScope N_told_apart ["book", "other"] (defScope s_told_apart) := ⟨rfl, rfl, rfl, by decide +kernel, rfl, by decide +kernel, by decide +kernel⟩
abbrev N_law_right : List Str := ["pot", "rules", "door", "row", "spot", "pairs", "short", "long", "ends", "more", "found", "show", "two", "grown", "k", "pay"]
theorem sc_law_right : FnScope N_law_right ["pot"] (defScope s_law_right) := ⟨rfl, rfl, rfl, by decide +kernel, rfl, by decide +kernel, by decide +kernel⟩
abbrev N_law : List Str := ["script", "k", "pot", "turn"]
theorem sc_law : FnScope N_law ["script"] (defScope s_law) := ⟨rfl, rfl, rfl, by decide +kernel, rfl, by decide +kernel, by decide +kernel⟩
structure Says (K : PySem.W.Frag) (mg : Str → Option Value) : Prop where
  h : ∃ h : Heap, K.In h ∧ h.Ns mainGlobals mg
  c : He.SaysD fa fn K
  m : ex K = true
  p : obsP gets K = valP gets
section
variable {P : Program} {w : World} {K : PySem.W.Frag} {mg : Str → Option Value} {base : Heap}
theorem m_free_len (S : Says K mg) : mg "len" = none := let ⟨_, X, G⟩ := S.h; He.free_ok X G (S.c.fact 0 (f := .free "len") rfl)
theorem m_free_int (S : Says K mg) : mg "int" = none := let ⟨_, X, G⟩ := S.h; He.free_ok X G (S.c.fact 1 (f := .free "int") rfl)
theorem m_free_abs (S : Says K mg) : mg "abs" = none := let ⟨_, X, G⟩ := S.h; He.free_ok X G (S.c.fact 2 (f := .free "abs") rfl)
theorem m_free_max (S : Says K mg) : mg "max" = none := let ⟨_, X, G⟩ := S.h; He.free_ok X G (S.c.fact 3 (f := .free "max") rfl)
theorem m_glo_law_pot (S : Says K mg) : mg "_law_pot" = some (.ref (He.ga K "_law_pot")) := let ⟨_, X, G⟩ := S.h; He.glo_ok X G (S.c.fact 4 (f := .glo "_law_pot") rfl)
theorem m_glo_law_dip (S : Says K mg) : mg "_law_dip" = some (.ref (He.ga K "_law_dip")) := let ⟨_, X, G⟩ := S.h; He.glo_ok X G (S.c.fact 5 (f := .glo "_law_dip") rfl)
theorem m_free_range (S : Says K mg) : mg "range" = none := let ⟨_, X, G⟩ := S.h; He.free_ok X G (S.c.fact 6 (f := .free "range") rfl)
theorem m_free_tuple (S : Says K mg) : mg "tuple" = none := let ⟨_, X, G⟩ := S.h; He.free_ok X G (S.c.fact 7 (f := .free "tuple") rfl)
theorem m_glo_law_rule (S : Says K mg) : mg "_law_rule" = some (.ref (He.ga K "_law_rule")) := let ⟨_, X, G⟩ := S.h; He.glo_ok X G (S.c.fact 8 (f := .glo "_law_rule") rfl)
theorem m_glo_law_rules (S : Says K mg) : mg "_law_rules" = some (.ref (He.ga K "_law_rules")) := let ⟨_, X, G⟩ := S.h; He.glo_ok X G (S.c.fact 9 (f := .glo "_law_rules") rfl)
theorem m_free_isinstance (S : Says K mg) : mg "isinstance" = none := let ⟨_, X, G⟩ := S.h; He.free_ok X G (S.c.fact 10 (f := .free "isinstance") rfl)
theorem m_int_MOST_ACTIONS (S : Says K mg) : ∃ t, mg "MOST_ACTIONS" = some (.int 6 t) := let ⟨_, X, G⟩ := S.h; He.int_ok X G (S.c.fact 11 (f := .int "MOST_ACTIONS" 6) rfl)
theorem m_free_str (S : Says K mg) : mg "str" = none := let ⟨_, X, G⟩ := S.h; He.free_ok X G (S.c.fact 12 (f := .free "str") rfl)
theorem m_glo_ACTIONS (S : Says K mg) : mg "ACTIONS" = some (.ref (He.ga K "ACTIONS")) := let ⟨_, X, G⟩ := S.h; He.glo_ok X G (S.c.fact 13 (f := .glo "ACTIONS") rfl)
theorem m_free_all (S : Says K mg) : mg "all" = none := let ⟨_, X, G⟩ := S.h; He.free_ok X G (S.c.fact 14 (f := .free "all") rfl)
theorem m_glo_is_rule (S : Says K mg) : mg "is_rule" = some (.ref (He.ga K "is_rule")) := let ⟨_, X, G⟩ := S.h; He.glo_ok X G (S.c.fact 15 (f := .glo "is_rule") rfl)
theorem m_glo_DOORS (S : Says K mg) : mg "DOORS" = some (.ref (He.ga K "DOORS")) := let ⟨_, X, G⟩ := S.h; He.glo_ok X G (S.c.fact 16 (f := .glo "DOORS") rfl)
theorem m_free_zip (S : Says K mg) : mg "zip" = none := let ⟨_, X, G⟩ := S.h; He.free_ok X G (S.c.fact 17 (f := .free "zip") rfl)
theorem m_cls_Book (S : Says K mg) : Cls K (He.ga K "Book") := He.cls_ok (S.c.fact 18 (f := .cls "Book") rfl)
theorem m_noat_Book_row (S : Says K mg) : NoAttr K (He.ga K "Book") "row" := He.noat_ok (S.c.fact 19 (f := .noat "Book" "row") rfl)
theorem m_glo_Book (S : Says K mg) : mg "Book" = some (.ref (He.ga K "Book")) := let ⟨_, X, G⟩ := S.h; He.glo_ok X G (S.c.fact 20 (f := .glo "Book") rfl)
theorem m_mkr_Book (S : Says K mg) : Mk K (He.ga K "Book") (He.ma K (He.ga K "Book") "__init__") := He.mkr_ok (S.c.fact 21 (f := .mkr "Book") rfl)
theorem m_glo_is_door (S : Says K mg) : mg "is_door" = some (.ref (He.ga K "is_door")) := let ⟨_, X, G⟩ := S.h; He.glo_ok X G (S.c.fact 22 (f := .glo "is_door") rfl)
theorem m_meth_Book_rule (S : Says K mg) : Meth K (He.ga K "Book") "rule" (He.ma K (He.ga K "Book") "rule") := He.meth_ok (S.c.fact 23 (f := .meth "Book" "rule") rfl)
theorem m_meth_Book_with_rule (S : Says K mg) : Meth K (He.ga K "Book") "with_rule" (He.ma K (He.ga K "Book") "with_rule") := He.meth_ok (S.c.fact 24 (f := .meth "Book" "with_rule") rfl)
theorem m_free_sum (S : Says K mg) : mg "sum" = none := let ⟨_, X, G⟩ := S.h; He.free_ok X G (S.c.fact 25 (f := .free "sum") rfl)
theorem m_glo_law_book (S : Says K mg) : mg "_law_book" = some (.ref (He.ga K "_law_book")) := let ⟨_, X, G⟩ := S.h; He.glo_ok X G (S.c.fact 26 (f := .glo "_law_book") rfl)
theorem m_cls_Standing (S : Says K mg) : Cls K (He.ga K "Standing") := He.cls_ok (S.c.fact 27 (f := .cls "Standing") rfl)
theorem m_noat_Standing_kept_by (S : Says K mg) : NoAttr K (He.ga K "Standing") "kept_by" := He.noat_ok (S.c.fact 28 (f := .noat "Standing" "kept_by") rfl)
theorem m_cls_LineWork (S : Says K mg) : Cls K (He.ga K "LineWork") := He.cls_ok (S.c.fact 29 (f := .cls "LineWork") rfl)
theorem m_noat_LineWork_seen (S : Says K mg) : NoAttr K (He.ga K "LineWork") "seen" := He.noat_ok (S.c.fact 30 (f := .noat "LineWork" "seen") rfl)
theorem m_noat_Standing_seen (S : Says K mg) : NoAttr K (He.ga K "Standing") "seen" := He.noat_ok (S.c.fact 31 (f := .noat "Standing" "seen") rfl)
theorem m_noat_Standing_now (S : Says K mg) : NoAttr K (He.ga K "Standing") "now" := He.noat_ok (S.c.fact 32 (f := .noat "Standing" "now") rfl)
theorem m_noat_Standing_is_failed (S : Says K mg) : NoAttr K (He.ga K "Standing") "is_failed" := He.noat_ok (S.c.fact 33 (f := .noat "Standing" "is_failed") rfl)
theorem m_noat_Standing_deeds (S : Says K mg) : NoAttr K (He.ga K "Standing") "deeds" := He.noat_ok (S.c.fact 34 (f := .noat "Standing" "deeds") rfl)
theorem m_noat_Standing_is_apart (S : Says K mg) : NoAttr K (He.ga K "Standing") "is_apart" := He.noat_ok (S.c.fact 35 (f := .noat "Standing" "is_apart") rfl)
theorem m_glo_Standing (S : Says K mg) : mg "Standing" = some (.ref (He.ga K "Standing")) := let ⟨_, X, G⟩ := S.h; He.glo_ok X G (S.c.fact 36 (f := .glo "Standing") rfl)
theorem m_mkr_Standing (S : Says K mg) : Mk K (He.ga K "Standing") (He.ma K (He.ga K "Standing") "__init__") := He.mkr_ok (S.c.fact 37 (f := .mkr "Standing") rfl)
theorem m_free_sorted (S : Says K mg) : mg "sorted" = none := let ⟨_, X, G⟩ := S.h; He.free_ok X G (S.c.fact 38 (f := .free "sorted") rfl)
theorem m_free_set (S : Says K mg) : mg "set" = none := let ⟨_, X, G⟩ := S.h; He.free_ok X G (S.c.fact 39 (f := .free "set") rfl)
theorem m_glo_ranks (S : Says K mg) : mg "ranks" = some (.ref (He.ga K "ranks")) := let ⟨_, X, G⟩ := S.h; He.glo_ok X G (S.c.fact 40 (f := .glo "ranks") rfl)
theorem m_meth_Standing_mark (S : Says K mg) : Meth K (He.ga K "Standing") "mark" (He.ma K (He.ga K "Standing") "mark") := He.meth_ok (S.c.fact 41 (f := .meth "Standing" "mark") rfl)
theorem m_int_WIDTH (S : Says K mg) : ∃ t, mg "WIDTH" = some (.int 1000000000000000000000000000000 t) := let ⟨_, X, G⟩ := S.h; He.int_ok X G (S.c.fact 42 (f := .int "WIDTH" 1000000000000000000000000000000) rfl)
theorem m_glo_gaps (S : Says K mg) : mg "gaps" = some (.ref (He.ga K "gaps")) := let ⟨_, X, G⟩ := S.h; He.glo_ok X G (S.c.fact 43 (f := .glo "gaps") rfl)
theorem m_glo_between (S : Says K mg) : mg "between" = some (.ref (He.ga K "between")) := let ⟨_, X, G⟩ := S.h; He.glo_ok X G (S.c.fact 44 (f := .glo "between") rfl)
theorem m_str_ITEM (S : Says K mg) : ∃ t, mg "ITEM" = some (.str "a" t) := let ⟨_, X, G⟩ := S.h; He.str_ok X G (S.c.fact 45 (f := .str "ITEM" "a") rfl)
theorem m_meth_Standing_priced (S : Says K mg) : Meth K (He.ga K "Standing") "priced" (He.ma K (He.ga K "Standing") "priced") := He.meth_ok (S.c.fact 46 (f := .meth "Standing" "priced") rfl)
theorem m_noat_LineWork_stays (S : Says K mg) : NoAttr K (He.ga K "LineWork") "stays" := He.noat_ok (S.c.fact 47 (f := .noat "LineWork" "stays") rfl)
theorem m_free_min (S : Says K mg) : mg "min" = none := let ⟨_, X, G⟩ := S.h; He.free_ok X G (S.c.fact 48 (f := .free "min") rfl)
theorem m_noat_LineWork_times (S : Says K mg) : NoAttr K (He.ga K "LineWork") "times" := He.noat_ok (S.c.fact 49 (f := .noat "LineWork" "times") rfl)
theorem m_noat_LineWork_told (S : Says K mg) : NoAttr K (He.ga K "LineWork") "told" := He.noat_ok (S.c.fact 50 (f := .noat "LineWork" "told") rfl)
theorem m_meth_LineWork_carry_out (S : Says K mg) : Meth K (He.ga K "LineWork") "carry_out" (He.ma K (He.ga K "LineWork") "carry_out") := He.meth_ok (S.c.fact 51 (f := .meth "LineWork" "carry_out") rfl)
theorem m_glo_LineWork (S : Says K mg) : mg "LineWork" = some (.ref (He.ga K "LineWork")) := let ⟨_, X, G⟩ := S.h; He.glo_ok X G (S.c.fact 52 (f := .glo "LineWork") rfl)
theorem m_mkr_LineWork (S : Says K mg) : Mk K (He.ga K "LineWork") (He.ma K (He.ga K "LineWork") "__init__") := He.mkr_ok (S.c.fact 53 (f := .mkr "LineWork") rfl)
theorem m_meth_Standing_behind (S : Says K mg) : Meth K (He.ga K "Standing") "behind" (He.ma K (He.ga K "Standing") "behind") := He.meth_ok (S.c.fact 54 (f := .meth "Standing" "behind") rfl)
theorem m_str_OTHER (S : Says K mg) : ∃ t, mg "OTHER" = some (.str "b" t) := let ⟨_, X, G⟩ := S.h; He.str_ok X G (S.c.fact 55 (f := .str "OTHER" "b") rfl)
theorem m_meth_Standing_persons (S : Says K mg) : Meth K (He.ga K "Standing") "persons" (He.ma K (He.ga K "Standing") "persons") := He.meth_ok (S.c.fact 56 (f := .meth "Standing" "persons") rfl)
theorem m_glo_with_amount (S : Says K mg) : mg "with_amount" = some (.ref (He.ga K "with_amount")) := let ⟨_, X, G⟩ := S.h; He.glo_ok X G (S.c.fact 57 (f := .glo "with_amount") rfl)
theorem m_glo_with_amounts (S : Says K mg) : mg "with_amounts" = some (.ref (He.ga K "with_amounts")) := let ⟨_, X, G⟩ := S.h; He.glo_ok X G (S.c.fact 58 (f := .glo "with_amounts") rfl)
theorem m_glo_told_apart (S : Says K mg) : mg "told_apart" = some (.ref (He.ga K "told_apart")) := let ⟨_, X, G⟩ := S.h; He.glo_ok X G (S.c.fact 59 (f := .glo "told_apart") rfl)
theorem m_glo_law_right (S : Says K mg) : mg "_law_right" = some (.ref (He.ga K "_law_right")) := let ⟨_, X, G⟩ := S.h; He.glo_ok X G (S.c.fact 60 (f := .glo "_law_right") rfl)
theorem m_glo_law (S : Says K mg) : mg "law" = some (.ref (He.ga K "law")) := let ⟨_, X, G⟩ := S.h; He.glo_ok X G (S.c.fact 61 (f := .glo "law") rfl)
theorem m_fk_row (S : Says K mg) : FldOk K ("row", ["Book"]) := fun C h => by
  simp only [List.contains_cons, List.contains_nil, Bool.or_false, Bool.or_eq_true, beq_iff_eq] at h
  rcases h with rfl
  · exact ⟨m_cls_Book S, m_noat_Book_row S⟩
theorem m_fk_kept_by (S : Says K mg) : FldOk K ("kept_by", ["Standing"]) := fun C h => by
  simp only [List.contains_cons, List.contains_nil, Bool.or_false, Bool.or_eq_true, beq_iff_eq] at h
  rcases h with rfl
  · exact ⟨m_cls_Standing S, m_noat_Standing_kept_by S⟩
theorem m_fk_seen (S : Says K mg) : FldOk K ("seen", ["LineWork", "Standing"]) := fun C h => by
  simp only [List.contains_cons, List.contains_nil, Bool.or_false, Bool.or_eq_true, beq_iff_eq] at h
  rcases h with rfl | rfl
  · exact ⟨m_cls_LineWork S, m_noat_LineWork_seen S⟩
  · exact ⟨m_cls_Standing S, m_noat_Standing_seen S⟩
theorem m_fk_now (S : Says K mg) : FldOk K ("now", ["Standing"]) := fun C h => by
  simp only [List.contains_cons, List.contains_nil, Bool.or_false, Bool.or_eq_true, beq_iff_eq] at h
  rcases h with rfl
  · exact ⟨m_cls_Standing S, m_noat_Standing_now S⟩
theorem m_fk_is_failed (S : Says K mg) : FldOk K ("is_failed", ["Standing"]) := fun C h => by
  simp only [List.contains_cons, List.contains_nil, Bool.or_false, Bool.or_eq_true, beq_iff_eq] at h
  rcases h with rfl
  · exact ⟨m_cls_Standing S, m_noat_Standing_is_failed S⟩
theorem m_fk_deeds (S : Says K mg) : FldOk K ("deeds", ["Standing"]) := fun C h => by
  simp only [List.contains_cons, List.contains_nil, Bool.or_false, Bool.or_eq_true, beq_iff_eq] at h
  rcases h with rfl
  · exact ⟨m_cls_Standing S, m_noat_Standing_deeds S⟩
theorem m_fk_is_apart (S : Says K mg) : FldOk K ("is_apart", ["Standing"]) := fun C h => by
  simp only [List.contains_cons, List.contains_nil, Bool.or_false, Bool.or_eq_true, beq_iff_eq] at h
  rcases h with rfl
  · exact ⟨m_cls_Standing S, m_noat_Standing_is_apart S⟩
theorem m_fk_stays (S : Says K mg) : FldOk K ("stays", ["LineWork"]) := fun C h => by
  simp only [List.contains_cons, List.contains_nil, Bool.or_false, Bool.or_eq_true, beq_iff_eq] at h
  rcases h with rfl
  · exact ⟨m_cls_LineWork S, m_noat_LineWork_stays S⟩
theorem m_fk_times (S : Says K mg) : FldOk K ("times", ["LineWork"]) := fun C h => by
  simp only [List.contains_cons, List.contains_nil, Bool.or_false, Bool.or_eq_true, beq_iff_eq] at h
  rcases h with rfl
  · exact ⟨m_cls_LineWork S, m_noat_LineWork_times S⟩
theorem m_fk_told (S : Says K mg) : FldOk K ("told", ["LineWork"]) := fun C h => by
  simp only [List.contains_cons, List.contains_nil, Bool.or_false, Bool.or_eq_true, beq_iff_eq] at h
  rcases h with rfl
  · exact ⟨m_cls_LineWork S, m_noat_LineWork_told S⟩
theorem m_tup_ACTIONS (S : Says K mg) : TupG K mg "ACTIONS" tv_ACTIONS := ⟨_, m_glo_ACTIONS S, fun H => by have q := He.tupB_ok (bool_of S.m).1 H; rw [List.map_map] at q; exact q⟩
theorem m_tupx_ACTIONS (S : Says K mg) : TupX K mg "ACTIONS" tv_ACTIONS := ⟨_, m_glo_ACTIONS S, fun H => by have q := He.tupB_ok (bool_of S.m).1 H; rw [List.map_map] at q; exact q, tupN_ok (bool_of (bool_of S.m).2).1⟩
theorem m_tup_DOORS (S : Says K mg) : TupG K mg "DOORS" tv_DOORS := ⟨_, m_glo_DOORS S, fun H => by have q := He.tupB_ok (bool_of (bool_of (bool_of S.m).2).2).1 H; rw [List.map_map] at q; exact q⟩
theorem m_tupx_DOORS (S : Says K mg) : TupX K mg "DOORS" tv_DOORS := ⟨_, m_glo_DOORS S, fun H => by have q := He.tupB_ok (bool_of (bool_of (bool_of S.m).2).2).1 H; rw [List.map_map] at q; exact q, tupN_ok (bool_of (bool_of (bool_of (bool_of S.m).2).2).2).1⟩
theorem m_dfl_Book_init (S : Says K mg) : ∀ G, RpL K G [.tup [], .tup [], .tup [], .tup [], .tup [], .tup []] (d_Book__init.dvs K) := rpl_emp (as := [He.dflAt ("Book", some "__init__") 0 K, He.dflAt ("Book", some "__init__") 1 K, He.dflAt ("Book", some "__init__") 2 K, He.dflAt ("Book", some "__init__") 3 K, He.dflAt ("Book", some "__init__") 4 K, He.dflAt ("Book", some "__init__") 5 K]) (fun a ha => by
  simp only [List.mem_cons, List.not_mem_nil, or_false] at ha
  rcases ha with rfl | rfl | rfl | rfl | rfl | rfl
  · exact (bool_of (bool_of (bool_of (bool_of (bool_of S.m).2).2).2).2).1
  · exact (bool_of (bool_of (bool_of (bool_of (bool_of (bool_of S.m).2).2).2).2).2).1
  · exact (bool_of (bool_of (bool_of (bool_of (bool_of (bool_of (bool_of S.m).2).2).2).2).2).2).1
  · exact (bool_of (bool_of (bool_of (bool_of (bool_of (bool_of (bool_of (bool_of S.m).2).2).2).2).2).2).2).1
  · exact (bool_of (bool_of (bool_of (bool_of (bool_of (bool_of (bool_of (bool_of (bool_of S.m).2).2).2).2).2).2).2).2).1
  · exact (bool_of (bool_of (bool_of (bool_of (bool_of (bool_of (bool_of (bool_of (bool_of (bool_of S.m).2).2).2).2).2).2).2).2).2).1)
def g_law_pot : Sv := (sSeq (sSet 2 (fC (.int 0))) (sSeq (sIf (fT (fOp (g2 gLt) (fVar 1) (fOf (PL.g1 gLen) (fCons (fVar 0) fNil)))) (sSet 2 (fOf (PL.g1 gAbs) (fCons (fOf (PL.g1 gToInt) (fCons (fOp (g2 gIx) (fVar 0) (fVar 1)) fNil)) fNil))) sPass) (sRet (fOf gLst (fCons (fOf (g22 gMax) (fCons (fC (.int 0)) (fCons (fOp (g2 gSub) (fVar 2) (fOp (g2 gPow) (fC (.int 10)) (fC (.int 18)))) fNil))) (fCons (fOp (g2m gAdd) (fOp (g2 gMod) (fOf (PL.g1 gToInt) (fCons (fVar 2) fNil)) (fOp (g2m gAdd) (fOp (g2 gPow) (fC (.int 10)) (fC (.int 33))) (fC (.int 33)))) (fOp (g2m gMul) (fC (.int 524309)) (fVar 1))) (fCons (fC (.int 0)) fNil)))))))
def F_law_pot : Fn := fnF 2 1 g_law_pot
theorem fok_law_pot (S : Says K mg) {a : Addr} {fd : FuncData} (FD : FunD K d_law_pot.name d_law_pot.qual d_law_pot.params d_law_pot.body d_law_pot.scope (d_law_pot.dvs K) [] a fd) : FnOk P w K mg base CX0 1 a fd ["script", "k"] (spD K F_law_pot) := by
  exact fn_ok0 (k := 0) FD sc_law_pot fun cdv A outer s H E hr => by
    unfold g_law_pot
    exact (ss_cons (s_set 2 sc_law_pot.nd e_int) (ss_cons (s_if (t_lt (e_var 1) (e_len (m_free_len S) (a_cons (e_var 0) a_nil))) (ss_one (s_set 2 sc_law_pot.nd (e_abs (m_free_abs S) (a_cons (e_toInt (m_free_int S) (a_cons (e_ix (e_var 0) (e_var 1)) a_nil)) a_nil)))) ss_nil) (ss_one (s_ret (e_lst (a_cons (e_max rfl (m_free_max S) (a_cons e_int (a_cons (e_sub (e_var 2) (e_pow e_int e_int)) a_nil))) (a_cons (e_add (e_mod (e_toInt (m_free_int S) (a_cons (e_var 2) a_nil)) (e_add (e_pow e_int e_int) e_int)) (e_mul e_int (e_var 1))) (a_cons e_int a_nil))))))))
theorem dok_law_pot (S : Says K mg) : DefOk P w K mg base 1 "_law_pot" 2 [] F_law_pot := by
  obtain ⟨fd, FD⟩ := S.c.def_ 0 (d := d_law_pot) rfl
  exact ⟨_, fd, ["script", "k"], [], m_glo_law_pot S, FD.kp, FD.bindsN (fun _ _ _ _ _ _ us hl => match us, hl with | [_, _], _ => rfl), .nil, fok_law_pot S FD⟩

def g_law_dip : Sv := (sSeq (sIf (fT (fOp (g2 gGt) (fIxO 0 (fC (.int 0))) (fC (.int 0)))) (sSeq (sSet 3 (fOp (g2 gMod) (fOf (PL.g1 gToInt) (fCons (fIxO 0 (fC (.int 0))) fNil)) (fVar 1))) (sSeq (sIxO 0 (fOp (g2 gDiv) (fIxO 0 (fC (.int 0))) (fVar 1)) (fC (.int 0))) (sRet (fVar 3)))) sPass) (sSeq (sIxO 0 (fOp (g2m gAdd) (fIxO 0 (fC (.int 2))) (fC (.int 1))) (fC (.int 2))) (sSeq (sSet 2 (fOp (g2 gMod) (fOf (PL.g1 gToInt) (fCons (fOp (g2 gPow) (fOp (g2m gAdd) (fIxO 0 (fC (.int 1))) (fOp (g2m gMul) (fC (.int 86028121)) (fIxO 0 (fC (.int 2))))) (fC (.int 3))) fNil)) (fOp (g2m gAdd) (fOp (g2 gPow) (fC (.int 10)) (fC (.int 41))) (fC (.int 9))))) (sSeq (sSet 2 (fOp (g2 gMod) (fOf (PL.g1 gToInt) (fCons (fOp (g2 gPow) (fOp (g2m gAdd) (fVar 2) (fOp (g2m gMul) (fC (.int 179424673)) (fIxO 0 (fC (.int 2))))) (fC (.int 3))) fNil)) (fOp (g2m gAdd) (fOp (g2 gPow) (fC (.int 10)) (fC (.int 39))) (fC (.int 57))))) (sRet (fOp (g2 gMod) (fOf (PL.g1 gToInt) (fCons (fOp (g2 gDiv) (fVar 2) (fOp (g2 gPow) (fC (.int 10)) (fC (.int 7)))) fNil)) (fVar 1)))))))
def F_law_dip : Fn := fnF 2 2 g_law_dip
theorem fok_law_dip (S : Says K mg) {a : Addr} {fd : FuncData} (FD : FunD K d_law_dip.name d_law_dip.qual d_law_dip.params d_law_dip.body d_law_dip.scope (d_law_dip.dvs K) [] a fd) : FnOk P w K mg base CX0 1 a fd ["pot", "many"] (spD K F_law_dip) := by
  exact fn_ok0 (k := 0) FD sc_law_dip fun cdv A outer s H E hr => by
    unfold g_law_dip
    exact (ss_cons (s_if (t_gt (e_ixO 0 e_int) e_int) (ss_cons (s_set 3 sc_law_dip.nd (e_mod (e_toInt (m_free_int S) (a_cons (e_ixO 0 e_int) a_nil)) (e_var 1))) (ss_cons (s_ixO 0 (e_div (e_ixO 0 e_int) (e_var 1)) e_int) (ss_one (s_ret (e_var 3))))) ss_nil) (ss_cons (s_ixO 0 (e_add (e_ixO 0 e_int) e_int) e_int) (ss_cons (s_set 2 sc_law_dip.nd (e_mod (e_toInt (m_free_int S) (a_cons (e_pow (e_add (e_ixO 0 e_int) (e_mul e_int (e_ixO 0 e_int))) e_int) a_nil)) (e_add (e_pow e_int e_int) e_int))) (ss_cons (s_set 2 sc_law_dip.nd (e_mod (e_toInt (m_free_int S) (a_cons (e_pow (e_add (e_var 2) (e_mul e_int (e_ixO 0 e_int))) e_int) a_nil)) (e_add (e_pow e_int e_int) e_int))) (ss_one (s_ret (e_mod (e_toInt (m_free_int S) (a_cons (e_div (e_var 2) (e_pow e_int e_int)) a_nil)) (e_var 1))))))))
theorem dok_law_dip (S : Says K mg) : DefOk P w K mg base 1 "_law_dip" 2 [] F_law_dip := by
  obtain ⟨fd, FD⟩ := S.c.def_ 1 (d := d_law_dip) rfl
  exact ⟨_, fd, ["pot", "many"], [], m_glo_law_dip S, FD.kp, FD.bindsN (fun _ _ _ _ _ _ us hl => match us, hl with | [_, _], _ => rfl), .nil, fok_law_dip S FD⟩

def g_law_rule : Sv := (sSeq (sSet 2 (fD (fOf gLst (fCons (fC (.str "take")) (fCons (fC (.str "least")) (fCons (fC (.str "last")) (fCons (fC (.str "show")) (fCons (fC (.str "ask")) (fCons (fC (.str "show")) fNil))))))))) (sRet (fOf (g1m gTupOf) (fCons (fD (fLc [3] (lRng (fCons (fD (fCall F_law_dip [] [some 0, none] (fIo 0 (fCons (fOp (g2m gAdd) (fVar 1) (fC (.int 1))) fNil)))) fNil)) (gNm 3) tTrue (fOp (g2 gIx) (fVar 2) (fD (fCall F_law_dip [] [some 0, none] (fIo 0 (fCons (fC (.int 6)) fNil))))))) fNil))))
def F_law_rule : Fn := fnF 2 2 g_law_rule
theorem fok_law_rule (S : Says K mg) {a : Addr} {fd : FuncData} (FD : FunD K d_law_rule.name d_law_rule.qual d_law_rule.params d_law_rule.body d_law_rule.scope (d_law_rule.dvs K) [] a fd) : FnOk P w K mg base CX0 2 a fd ["pot", "most"] (spD K F_law_rule) := by
  have dd_law_dip := dok_law_dip (P := P) (w := w) (base := base) S
  exact fn_ok0 (k := 1) FD sc_law_rule fun cdv A outer s H E hr => by
    unfold g_law_rule
    exact (ss_cons (s_set 2 sc_law_rule.nd (e_d (e_lst (a_cons e_str (a_cons e_str (a_cons e_str (a_cons e_str (a_cons e_str (a_cons e_str a_nil))))))))) (ss_one (s_ret (e_tupOf (m_free_tuple S) (a_cons (e_d (e_lc (own := [("k", 3)]) rfl sc_law_rule.nd (i_rng1 (m_free_range S) (a_cons (e_d (e_call dd_law_dip (hr.mono (by decide)) (fun _ => rpl_nil) (a_io 0 (a_cons (e_add (e_var 1) e_int) a_nil)))) a_nil)) (blkOk_by (own := [("k", 3)]) (N := N_law_rule) (sc := defScope s_law_rule) (by decide +kernel)) (by decide) (fun _ _ _ _ _ => (g_name 3 sc_law_rule.nd)) (fun _ _ _ _ _ => ts_nil) (fun _ _ _ _ _ => (e_ix (e_var 2) (e_d (e_call dd_law_dip (hr.mono (by decide)) (fun _ => rpl_nil) (a_io 0 (a_cons e_int a_nil)))))))) a_nil)))))
theorem dok_law_rule (S : Says K mg) : DefOk P w K mg base 2 "_law_rule" 2 [] F_law_rule := by
  obtain ⟨fd, FD⟩ := S.c.def_ 2 (d := d_law_rule) rfl
  exact ⟨_, fd, ["pot", "most"], [], m_glo_law_rule S, FD.kp, FD.bindsN (fun _ _ _ _ _ _ us hl => match us, hl with | [_, _], _ => rfl), .nil, fok_law_rule S FD⟩

def g_law_rules : Sv := (sSeq (sIf (fT (fOp (g2 gEq) (fD (fCall F_law_dip [] [some 0, none] (fIo 0 (fCons (fC (.int 2)) fNil)))) (fC (.int 0)))) (sRet (fOf (g1m gTupOf) (fCons (fD (fLc [3] (lRng (fCons (fC (.int 6)) fNil)) (gNm 3) tTrue (fD (fCall F_law_rule [] [some 0, none] (fIo 0 (fCons (fVar 1) fNil)))))) fNil))) sPass) (sSeq (sSet 2 (fOf gLst fNil)) (sSeq (sFor (lRng (fCons (fC (.int 6)) fNil)) (gNm 3) (sSeq (sSet 4 (fD (fOf gLst (fCons (fOf PL.gTup (fCons (fC (.str "show")) fNil)) (fCons (fOf PL.gTup (fCons (fC (.str "take")) (fCons (fC (.str "show")) fNil))) (fCons (fOf PL.gTup fNil) (fCons (fOf PL.gTup (fCons (fC (.str "last")) fNil)) (fCons (fOf PL.gTup (fCons (fC (.str "ask")) fNil)) (fCons (fOf PL.gTup (fCons (fC (.str "least")) (fCons (fC (.str "ask")) fNil))) (fCons (fOf PL.gTup (fCons (fC (.str "take")) (fCons (fC (.str "ask")) fNil))) fNil)))))))))) (sSeq (sSet 5 (fOp (g2 gIx) (fVar 4) (fD (fCall F_law_dip [] [some 0, none] (fIo 0 (fCons (fC (.int 7)) fNil)))))) (sApp 2 (fD (fIf (fT (fOp (g2 gGt) (fVar 3) (fC (.int 0)))) (fVar 5) (fOp (g2m gAdd) (fOf PL.gTup (fCons (fC (.str "show")) fNil)) (fVar 5)))))))) (sRet (fOf (g1m gTupOf) (fCons (fFrz 2) fNil))))))
def F_law_rules : Fn := fnF 2 4 g_law_rules
theorem fok_law_rules (S : Says K mg) {a : Addr} {fd : FuncData} (FD : FunD K d_law_rules.name d_law_rules.qual d_law_rules.params d_law_rules.body d_law_rules.scope (d_law_rules.dvs K) [] a fd) : FnOk P w K mg base CX0 3 a fd ["pot", "most"] (spD K F_law_rules) := by
  have dd_law_dip := dok_law_dip (P := P) (w := w) (base := base) S
  have dd_law_rule := dok_law_rule (P := P) (w := w) (base := base) S
  exact fn_ok0 (k := 2) FD sc_law_rules fun cdv A outer s H E hr => by
    unfold g_law_rules
    exact (ss_cons (s_if (t_eq hr (e_d (e_call dd_law_dip (hr.mono (by decide)) (fun _ => rpl_nil) (a_io 0 (a_cons e_int a_nil)))) e_int) (ss_one (s_ret (e_tupOf (m_free_tuple S) (a_cons (e_d (e_lc (own := [("k", 3)]) rfl sc_law_rules.nd (i_rng1 (m_free_range S) (a_cons e_int a_nil)) (blkOk_by (own := [("k", 3)]) (N := N_law_rules) (sc := defScope s_law_rules) (by decide +kernel)) (by decide) (fun _ _ _ _ _ => (g_name 3 sc_law_rules.nd)) (fun _ _ _ _ _ => ts_nil) (fun _ _ _ _ _ => (e_d (e_call dd_law_rule (hr.mono (by decide)) (fun _ => rpl_nil) (a_io 0 (a_cons (e_var 1) a_nil))))))) a_nil)))) ss_nil) (ss_cons (s_set 2 sc_law_rules.nd (e_lst a_nil)) (ss_cons (s_for PassesOwn.never rfl (i_rng1 (m_free_range S) (a_cons e_int a_nil)) (g_name 3 sc_law_rules.nd) (ss_cons (s_set 4 sc_law_rules.nd (e_d (e_lst (a_cons (e_tup (a_cons e_str a_nil)) (a_cons (e_tup (a_cons e_str (a_cons e_str a_nil))) (a_cons (e_tup a_nil) (a_cons (e_tup (a_cons e_str a_nil)) (a_cons (e_tup (a_cons e_str a_nil)) (a_cons (e_tup (a_cons e_str (a_cons e_str a_nil))) (a_cons (e_tup (a_cons e_str (a_cons e_str a_nil))) a_nil)))))))))) (ss_cons (s_set 5 sc_law_rules.nd (e_ix (e_var 4) (e_d (e_call dd_law_dip (hr.mono (by decide)) (fun _ => rpl_nil) (a_io 0 (a_cons e_int a_nil)))))) (ss_one (s_app 2 (e_d (e_if (t_gt (e_var 3) e_int) (e_var 5) (e_add (e_tup (a_cons e_str a_nil)) (e_var 5))))))))) (ss_one (s_ret (e_tupOf (m_free_tuple S) (a_cons (e_frz 2) a_nil)))))))
theorem dok_law_rules (S : Says K mg) : DefOk P w K mg base 3 "_law_rules" 2 [] F_law_rules := by
  obtain ⟨fd, FD⟩ := S.c.def_ 3 (d := d_law_rules) rfl
  exact ⟨_, fd, ["pot", "most"], [], m_glo_law_rules S, FD.kp, FD.bindsN (fun _ _ _ _ _ _ us hl => match us, hl with | [_, _], _ => rfl), .nil, fok_law_rules S FD⟩

def g_is_rule : Sv := (sSeq (sIf (tOrT (tNotT (fT (fOf (g22 gIsi) (fCons (fVar 0) (fCons (fC (.ty "tuple")) fNil))))) (fT (fOp (g2 gGt) (fOf (PL.g1 gLen) (fCons (fVar 0) fNil)) (fC (.int 6))))) (sRet (fC (.bl false))) sPass) (sRet (fOf (PL.g1 gAll) (fCons (fD (fLc [1] (lAny (fVar 0)) (gNm 1) tTrue (fAnd (fOf (g22 gIsi) (fCons (fVar 1) (fCons (fC (.ty "str")) fNil))) (fOp (g2 (gIn false)) (fVar 1) (fC (.tup [.str "take", .str "least", .str "last", .str "show", .str "ask"])))))) fNil))))
def F_is_rule : Fn := fnF 1 1 g_is_rule
theorem fok_is_rule (S : Says K mg) {a : Addr} {fd : FuncData} (FD : FunD K d_is_rule.name d_is_rule.qual d_is_rule.params d_is_rule.body d_is_rule.scope (d_is_rule.dvs K) [] a fd) : FnOk P w K mg base CX0 1 a fd ["thing"] (spD K F_is_rule) := by
  exact fn_ok0 (k := 0) FD sc_is_rule fun cdv A outer s H E hr => by
    unfold g_is_rule
    exact (ss_cons (s_if (t_w (w_or (t_not (t_v (e_isi (m_free_isinstance S) (a_cons (e_var 0) (a_cons (e_ty (m_free_tuple S) boot_tuple') a_nil))))) (w_one (t_gt (e_len (m_free_len S) (a_cons (e_var 0) a_nil)) (e_globI (m_int_MOST_ACTIONS S))) (.inr rfl)))) (ss_one (s_ret e_bl)) ss_nil) (ss_one (s_ret (e_all rfl (m_free_all S) (a_cons (e_d (e_lc (own := [("action", 1)]) rfl sc_is_rule.nd (i_any (e_var 0)) (blkOk_by (own := [("action", 1)]) (N := N_is_rule) (sc := defScope s_is_rule) (by decide +kernel)) (by decide) (fun _ _ _ _ _ => (g_name 1 sc_is_rule.nd)) (fun _ _ _ _ _ => ts_nil) (fun _ _ _ _ _ => (e_and (e_isi (m_free_isinstance S) (a_cons (e_var 1) (a_cons (e_ty (m_free_str S) boot_str') a_nil))) (e_one (e_in (e_var 1) (e_globT (m_tup_ACTIONS S)))))))) a_nil)))))
theorem dok_is_rule (S : Says K mg) : DefOk P w K mg base 1 "is_rule" 1 [] F_is_rule := by
  obtain ⟨fd, FD⟩ := S.c.def_ 4 (d := d_is_rule) rfl
  exact ⟨_, fd, ["thing"], [], m_glo_is_rule S, FD.kp, FD.bindsN (fun _ _ _ _ _ _ us hl => match us, hl with | [_], _ => rfl), .nil, fok_is_rule S FD⟩

def g_Book__init : Sv := (sSeq (sSet 7 (fOf PL.gTup (fCons (fVar 1) (fCons (fVar 2) (fCons (fVar 3) (fCons (fVar 4) (fCons (fVar 5) (fCons (fVar 6) fNil)))))))) (sSeq (sFor (lZip (fCons (fC (.tup [.str "put", .str "look", .str "alter", .str "back", .str "pay", .str "again"])) (fCons (fVar 7) fNil))) (gTu 2 (PL.gCons (gNm 8) (PL.gCons (gNm 9) gsNil))) (sIf (tNotT (fT (fD (fCall F_is_rule [] [none] (fCons (fVar 9) fNil))))) sNever sPass)) (sPut 0 [] ("row", ["Book"]) (fVar 7))))
def F_Book__init : Fn := fnF 7 3 g_Book__init
theorem fok_Book__init (S : Says K mg) {a : Addr} {fd : FuncData} (FD : FunD K d_Book__init.name d_Book__init.qual d_Book__init.params d_Book__init.body d_Book__init.scope (d_Book__init.dvs K) [] a fd) : FnOk P w K mg base CX0 2 a fd ["self", "put", "look", "alter", "back", "pay", "again"] (spD K F_Book__init) := by
  have dd_is_rule := dok_is_rule (P := P) (w := w) (base := base) S
  exact fn_ok0 (k := 1) FD sc_Book__init fun cdv A outer s H E hr => by
    unfold g_Book__init
    exact (ss_cons (s_set 7 sc_Book__init.nd (e_tup (a_cons (e_var 1) (a_cons (e_var 2) (a_cons (e_var 3) (a_cons (e_var 4) (a_cons (e_var 5) (a_cons (e_var 6) a_nil)))))))) (ss_cons (s_for PassesOwn.never rfl (i_zip (m_free_zip S) (a_cons (e_globT (m_tup_DOORS S)) (a_cons (e_var 7) a_nil))) (g_tup rfl (gs_cons (g_name 8 sc_Book__init.nd) (gs_cons (g_name 9 sc_Book__init.nd) gs_nil))) (ss_one (s_if (t_not (t_v (e_d (e_call dd_is_rule (hr.mono (by decide)) (fun _ => rpl_nil) (a_cons (e_var 9) a_nil))))) (ss_one s_never) ss_nil))) (ss_one (s_put (pl_nil 0) (e_var 7) (m_fk_row S)))))
theorem kok_Book__init (S : Says K mg) : MakOk P w K mg base 2 "Book" [] F_Book__init := by
  obtain ⟨fd, FD⟩ := S.c.def_ 5 (d := d_Book__init) rfl
  obtain ⟨ds, hv, hb⟩ := FD.binds1 (ps := ["self", "put", "look", "alter", "back", "pay", "again"]) 7 6 (by simp [d_Book__init, He.DefD.dvs]) rfl (fun T kV doc pm an cdv ct us its h1 h2 => match us, its, h1, h2 with | [_, _, _, _, _, _, _], [_, _, _, _, _, _], _, _ => ⟨_, rfl, rfl⟩)
  exact ⟨m_glo_Book S, _, fd, ["self", "put", "look", "alter", "back", "pay", "again"], ds, m_mkr_Book S, hb, hv, fok_Book__init S FD⟩
theorem kqok_Book__init (S : Says K mg) : MakQOk P w K mg base 2 "Book" "put" ((d_Book__init.dvs K).drop 1) F_Book__init := by
  obtain ⟨fd, FD⟩ := S.c.def_ 5 (d := d_Book__init) rfl
  obtain ⟨ds, hb⟩ := funD_kbnQ (ps := ["self", "put", "look", "alter", "back", "pay", "again"]) FD (by simp [d_Book__init, He.DefD.dvs]) 1 1 ["put"] (fun T kV doc pm an cdv ct us its ws h1 h2 h3 => match us, its, ws, h1, h2, h3 with | [_], [_, _, _, _, _, _], [_], _, _, _ => ⟨_, rfl, rfl⟩)
  exact ⟨m_glo_Book S, _, fd, ["self", "put", "look", "alter", "back", "pay", "again"], ds, m_mkr_Book S, hb, fok_Book__init S FD⟩
theorem k0ok_Book__init (S : Says K mg) : MakOk P w K mg base 2 "Book" (d_Book__init.dvs K) F_Book__init := by
  obtain ⟨fd, FD⟩ := S.c.def_ 5 (d := d_Book__init) rfl
  obtain ⟨ds, hv, hb⟩ := FD.binds1 (ps := ["self", "put", "look", "alter", "back", "pay", "again"]) 1 0 (by simp [d_Book__init, He.DefD.dvs]) rfl (fun T kV doc pm an cdv ct us its h1 h2 => match us, its, h1, h2 with | [_], [_, _, _, _, _, _], _, _ => ⟨_, rfl, rfl⟩)
  exact ⟨m_glo_Book S, _, fd, ["self", "put", "look", "alter", "back", "pay", "again"], ds, m_mkr_Book S, hb, hv, fok_Book__init S FD⟩
def g_is_door : Sv := (sRet (fAnd (fOf (g22 gIsi) (fCons (fVar 0) (fCons (fC (.ty "str")) fNil))) (fOp (g2 (gIn false)) (fVar 0) (fC (.tup [.str "put", .str "look", .str "alter", .str "back", .str "pay", .str "again"])))))
def F_is_door : Fn := fnF 1 0 g_is_door
theorem fok_is_door (S : Says K mg) {a : Addr} {fd : FuncData} (FD : FunD K d_is_door.name d_is_door.qual d_is_door.params d_is_door.body d_is_door.scope (d_is_door.dvs K) [] a fd) : FnOk P w K mg base CX0 1 a fd ["thing"] (spD K F_is_door) := by
  exact fn_ok0 (k := 0) FD sc_is_door fun cdv A outer s H E hr => by
    unfold g_is_door
    exact (ss_one (s_ret (e_and (e_isi (m_free_isinstance S) (a_cons (e_var 0) (a_cons (e_ty (m_free_str S) boot_str') a_nil))) (e_one (e_in (e_var 0) (e_globT (m_tup_DOORS S)))))))
theorem dok_is_door (S : Says K mg) : DefOk P w K mg base 1 "is_door" 1 [] F_is_door := by
  obtain ⟨fd, FD⟩ := S.c.def_ 6 (d := d_is_door) rfl
  exact ⟨_, fd, ["thing"], [], m_glo_is_door S, FD.kp, FD.bindsN (fun _ _ _ _ _ _ us hl => match us, hl with | [_], _ => rfl), .nil, fok_is_door S FD⟩

def g_Book_rule : Sv := (sSeq (sIf (tNotT (fT (fD (fCall F_is_door [] [none] (fCons (fVar 1) fNil))))) sNever sPass) (sRet (fOp (g2 gIx) (fPl 0 [("row", ["Book"])]) (fD (fUnD (gTidx ["put", "look", "alter", "back", "pay", "again"]) (fVar 1))))))
def F_Book_rule : Fn := fnF 2 0 g_Book_rule
theorem fok_Book_rule (S : Says K mg) {a : Addr} {fd : FuncData} (FD : FunD K d_Book_rule.name d_Book_rule.qual d_Book_rule.params d_Book_rule.body d_Book_rule.scope (d_Book_rule.dvs K) [] a fd) : FnOk P w K mg base CX0 2 a fd ["self", "door"] (spD K F_Book_rule) := by
  have dd_is_door := dok_is_door (P := P) (w := w) (base := base) S
  exact fn_ok0 (k := 1) FD sc_Book_rule fun cdv A outer s H E hr => by
    unfold g_Book_rule
    exact (ss_cons (s_if (t_not (t_v (e_d (e_call dd_is_door (hr.mono (by decide)) (fun _ => rpl_nil) (a_cons (e_var 1) a_nil))))) (ss_one s_never) ss_nil) (ss_one (s_ret (e_ix (e_pl (pl_cons (pl_nil 0) (m_fk_row S))) (e_d (e_tidx (m_tupx_DOORS S) (e_var 1)))))))
theorem mok_Book_rule (S : Says K mg) : MetOk P w K mg base 2 "Book" "rule" [] F_Book_rule := by
  obtain ⟨fd, FD⟩ := S.c.def_ 7 (d := d_Book_rule) rfl
  exact ⟨m_cls_Book S, _, fd, ["self", "door"], [], m_meth_Book_rule S, FD.bindsN (fun _ _ _ _ _ _ us hl => match us, hl with | [_, _], _ => rfl), .nil, fok_Book_rule S FD⟩
def g_Book_with_rule : Sv := (sSeq (sIf (tNotT (fT (fD (fCall F_is_door [] [none] (fCons (fVar 1) fNil))))) sNever sPass) (sSeq (sIf (tNotT (fT (fD (fCall F_is_rule [] [none] (fCons (fVar 2) fNil))))) sNever sPass) (sSeq (sFrz 3 (sSet 3 (fLc [4] (lAny (fC (.tup [.str "put", .str "look", .str "alter", .str "back", .str "pay", .str "again"]))) (gNm 4) tTrue (fD (fIf (fT (fOp (g2 gEq) (fVar 4) (fVar 1))) (fVar 2) (fMethO "Book" "rule" F_Book_rule [] 0 [none] (fCons (fVar 4) fNil))))))) (sRet (fMakeS "Book" F_Book__init [] (fVar 3))))))
def F_Book_with_rule : Fn := fnF 3 2 g_Book_with_rule
theorem fok_Book_with_rule (S : Says K mg) {a : Addr} {fd : FuncData} (FD : FunD K d_Book_with_rule.name d_Book_with_rule.qual d_Book_with_rule.params d_Book_with_rule.body d_Book_with_rule.scope (d_Book_with_rule.dvs K) [] a fd) : FnOk P w K mg base CX0 4 a fd ["self", "door", "rule"] (spD K F_Book_with_rule) := by
  have dd_is_door := dok_is_door (P := P) (w := w) (base := base) S
  have dd_is_rule := dok_is_rule (P := P) (w := w) (base := base) S
  have met_Book_rule := mok_Book_rule (P := P) (w := w) (base := base) S
  have mak_Book__init := kok_Book__init (P := P) (w := w) (base := base) S
  exact fn_ok0 (k := 3) FD sc_Book_with_rule fun cdv A outer s H E hr => by
    unfold g_Book_with_rule
    exact (ss_cons (s_if (t_not (t_v (e_d (e_call dd_is_door (hr.mono (by decide)) (fun _ => rpl_nil) (a_cons (e_var 1) a_nil))))) (ss_one s_never) ss_nil) (ss_cons (s_if (t_not (t_v (e_d (e_call dd_is_rule (hr.mono (by decide)) (fun _ => rpl_nil) (a_cons (e_var 2) a_nil))))) (ss_one s_never) ss_nil) (ss_cons (s_frz 3 (s_setLc 3 (own := [("name", 4)]) rfl sc_Book_with_rule.nd (i_any (e_globT (m_tup_DOORS S))) (blkOk_by (own := [("name", 4)]) (N := N_Book_with_rule) (sc := defScope s_Book_with_rule) (by decide +kernel)) (by decide) (fun _ _ _ _ _ => (g_name 4 sc_Book_with_rule.nd)) (fun _ _ _ _ _ => ts_nil) (fun _ _ _ _ _ => (e_d (e_if (t_eq hr (e_var 4) (e_var 1)) (e_var 2) (e_methO 0 met_Book_rule (hr.mono (by decide)) (fun _ => rpl_nil) (a_cons (e_var 4) a_nil))))) (sw_true rfl rfl rfl (by decide +kernel)))) (ss_one (s_ret (e_makeS mak_Book__init (hr.mono (by decide)) (fun _ => rpl_nil) (e_var 3)))))))
theorem mok_Book_with_rule (S : Says K mg) : MetOk P w K mg base 4 "Book" "with_rule" [] F_Book_with_rule := by
  obtain ⟨fd, FD⟩ := S.c.def_ 8 (d := d_Book_with_rule) rfl
  exact ⟨m_cls_Book S, _, fd, ["self", "door", "rule"], [], m_meth_Book_with_rule S, FD.bindsN (fun _ _ _ _ _ _ us hl => match us, hl with | [_, _, _], _ => rfl), .nil, fok_Book_with_rule S FD⟩
def g_law_book : Sv := (sSeq (sIf (fT (fOp (g2 gEq) (fOp (g2 gMod) (fOf (PL.g1 gToInt) (fCons (fOf (PL.g1 gSum) (fCons (fD (fLc [4] (lAny (fVar 0)) (gNm 4) tTrue (fOf (PL.g1 gLen) (fCons (fVar 4) fNil)))) fNil)) fNil)) (fC (.int 2))) (fC (.int 0)))) (sRet (fMake "Book" F_Book__init [] [none, none, none, none, none, none] (fCons (fOp (g2 gIx) (fVar 0) (fC (.int 0))) (fCons (fOp (g2 gIx) (fVar 0) (fC (.int 1))) (fCons (fOp (g2 gIx) (fVar 0) (fC (.int 2))) (fCons (fOp (g2 gIx) (fVar 0) (fC (.int 3))) (fCons (fOp (g2 gIx) (fVar 0) (fC (.int 4))) (fCons (fOp (g2 gIx) (fVar 0) (fC (.int 5))) fNil)))))))) sPass) (sSeq (sPar 1 2 (fCons (fD (fMake "Book" F_Book__init [] [none, none, none, none, none, none] (fCons (fOf PL.gTup (fCons (fC (.str "show")) fNil)) (fCons (fOf PL.gTup (fCons (fC (.str "take")) fNil)) (fCons (fOf PL.gTup fNil) (fCons (fOf PL.gTup (fCons (fC (.str "last")) fNil)) (fCons (fOf PL.gTup (fCons (fC (.str "ask")) fNil)) (fCons (fOf PL.gTup (fCons (fC (.str "least")) fNil)) fNil)))))))) (fCons (fOf PL.gTup (fCons (fC (.str "put")) (fCons (fC (.str "look")) (fCons (fC (.str "alter")) (fCons (fC (.str "back")) fNil))))) fNil))) (sSeq (sSet 2 (fD (fOp (g2m gAdd) (fVar 2) (fOf PL.gTup (fCons (fC (.str "pay")) (fCons (fC (.str "again")) fNil)))))) (sSeq (sFor (lAny (fOf PL.gTup (fCons (fC (.int 3)) (fCons (fC (.int 0)) (fCons (fC (.int 5)) (fCons (fC (.int 1)) (fCons (fC (.int 4)) (fCons (fC (.int 2)) fNil)))))))) (gNm 3) (sSet 1 (fD (fMethO "Book" "with_rule" F_Book_with_rule [] 1 [none, none] (fCons (fOp (g2 gIx) (fVar 2) (fVar 3)) (fCons (fOp (g2 gIx) (fVar 0) (fVar 3)) fNil)))))) (sRet (fVar 1))))))
def F_law_book : Fn := fnF 1 4 g_law_book
theorem fok_law_book (S : Says K mg) {a : Addr} {fd : FuncData} (FD : FunD K d_law_book.name d_law_book.qual d_law_book.params d_law_book.body d_law_book.scope (d_law_book.dvs K) [] a fd) : FnOk P w K mg base CX0 5 a fd ["rules"] (spD K F_law_book) := by
  have mak_Book__init := kok_Book__init (P := P) (w := w) (base := base) S
  have met_Book_with_rule := mok_Book_with_rule (P := P) (w := w) (base := base) S
  exact fn_ok0 (k := 4) FD sc_law_book fun cdv A outer s H E hr => by
    unfold g_law_book
    exact (ss_cons (s_if (t_eq hr (e_mod (e_toInt (m_free_int S) (a_cons (e_sum rfl (m_free_sum S) (a_cons (e_d (e_lc (own := [("rule", 4)]) rfl sc_law_book.nd (i_any (e_var 0)) (blkOk_by (own := [("rule", 4)]) (N := N_law_book) (sc := defScope s_law_book) (by decide +kernel)) (by decide) (fun _ _ _ _ _ => (g_name 4 sc_law_book.nd)) (fun _ _ _ _ _ => ts_nil) (fun _ _ _ _ _ => (e_len (m_free_len S) (a_cons (e_var 4) a_nil))))) a_nil)) a_nil)) e_int) e_int) (ss_one (s_ret (e_make mak_Book__init (hr.mono (by decide)) (fun _ => rpl_nil) (a_cons (e_ix (e_var 0) e_int) (a_cons (e_ix (e_var 0) e_int) (a_cons (e_ix (e_var 0) e_int) (a_cons (e_ix (e_var 0) e_int) (a_cons (e_ix (e_var 0) e_int) (a_cons (e_ix (e_var 0) e_int) a_nil))))))))) ss_nil) (ss_cons (s_par 1 2 rfl sc_law_book.nd (a_cons (e_d (e_make mak_Book__init (hr.mono (by decide)) (fun _ => rpl_nil) (a_cons (e_tup (a_cons e_str a_nil)) (a_cons (e_tup (a_cons e_str a_nil)) (a_cons (e_tup a_nil) (a_cons (e_tup (a_cons e_str a_nil)) (a_cons (e_tup (a_cons e_str a_nil)) (a_cons (e_tup (a_cons e_str a_nil)) a_nil)))))))) (a_cons (e_tup (a_cons e_str (a_cons e_str (a_cons e_str (a_cons e_str a_nil))))) a_nil))) (ss_cons (s_set 2 sc_law_book.nd (e_d (e_add (e_var 2) (e_tup (a_cons e_str (a_cons e_str a_nil)))))) (ss_cons (s_for PassesOwn.never rfl (i_any (e_tup (a_cons e_int (a_cons e_int (a_cons e_int (a_cons e_int (a_cons e_int (a_cons e_int a_nil)))))))) (g_name 3 sc_law_book.nd) (ss_one (s_set 1 sc_law_book.nd (e_d (e_methO 1 met_Book_with_rule (hr.mono (by decide)) (fun _ => rpl_nil) (a_cons (e_ix (e_var 2) (e_var 3)) (a_cons (e_ix (e_var 0) (e_var 3)) a_nil))))))) (ss_one (s_ret (e_var 1)))))))
theorem dok_law_book (S : Says K mg) : DefOk P w K mg base 5 "_law_book" 1 [] F_law_book := by
  obtain ⟨fd, FD⟩ := S.c.def_ 9 (d := d_law_book) rfl
  exact ⟨_, fd, ["rules"], [], m_glo_law_book S, FD.kp, FD.bindsN (fun _ _ _ _ _ _ us hl => match us, hl with | [_], _ => rfl), .nil, fok_law_book S FD⟩

def g_Standing__init : Sv := (sSeq (sPut 0 [] ("kept_by", ["Standing"]) (fVar 1)) (sSeq (sPut 0 [] ("seen", ["LineWork", "Standing"]) (fVar 2)) (sSeq (sPut 0 [] ("now", ["Standing"]) (fVar 3)) (sSeq (sPut 0 [] ("is_failed", ["Standing"]) (fVar 4)) (sSeq (sPut 0 [] ("deeds", ["Standing"]) (fVar 5)) (sPut 0 [] ("is_apart", ["Standing"]) (fC (.bl false))))))))
def F_Standing__init : Fn := fnF 6 0 g_Standing__init
theorem fok_Standing__init (S : Says K mg) {a : Addr} {fd : FuncData} (FD : FunD K d_Standing__init.name d_Standing__init.qual d_Standing__init.params d_Standing__init.body d_Standing__init.scope (d_Standing__init.dvs K) [] a fd) : FnOk P w K mg base CX0 1 a fd ["self", "kept_by", "seen", "now", "is_failed", "deeds"] (spD K F_Standing__init) := by
  exact fn_ok0 (k := 0) FD sc_Standing__init fun cdv A outer s H E hr => by
    unfold g_Standing__init
    exact (ss_cons (s_put (pl_nil 0) (e_var 1) (m_fk_kept_by S)) (ss_cons (s_put (pl_nil 0) (e_var 2) (m_fk_seen S)) (ss_cons (s_put (pl_nil 0) (e_var 3) (m_fk_now S)) (ss_cons (s_put (pl_nil 0) (e_var 4) (m_fk_is_failed S)) (ss_cons (s_put (pl_nil 0) (e_var 5) (m_fk_deeds S)) (ss_one (s_put (pl_nil 0) e_bl (m_fk_is_apart S))))))))
theorem kok_Standing__init (S : Says K mg) : MakOk P w K mg base 1 "Standing" [] F_Standing__init := by
  obtain ⟨fd, FD⟩ := S.c.def_ 10 (d := d_Standing__init) rfl
  exact ⟨m_glo_Standing S, _, fd, ["self", "kept_by", "seen", "now", "is_failed", "deeds"], [], m_mkr_Standing S, FD.bindsN (fun _ _ _ _ _ _ us hl => match us, hl with | [_, _, _, _, _, _], _ => rfl), .nil, fok_Standing__init S FD⟩
def g_ranks : Sv := (sSeq (sSet 1 (fD (fSrt (fD (fLc [2] (lAny (fVar 0)) (gNm 2) (fT (fOp (g2 (gIsN false)) (fVar 2) (fC .non))) (fVar 2)))))) (sRet (fOf (g1m gTupOf) (fCons (fD (fLc [2] (lAny (fVar 0)) (gNm 2) tTrue (fD (fIf (fT (fOp (g2 (gIsN true)) (fVar 2) (fC .non))) (fC .non) (fOp (g2 gLidx) (fVar 1) (fVar 2)))))) fNil))))
def F_ranks : Fn := fnF 1 2 g_ranks
theorem fok_ranks (S : Says K mg) {a : Addr} {fd : FuncData} (FD : FunD K d_ranks.name d_ranks.qual d_ranks.params d_ranks.body d_ranks.scope (d_ranks.dvs K) [] a fd) : FnOk P w K mg base CX0 1 a fd ["values"] (spD K F_ranks) := by
  exact fn_ok0 (k := 0) FD sc_ranks fun cdv A outer s H E hr => by
    unfold g_ranks
    exact (ss_cons (s_set 1 sc_ranks.nd (e_d (e_srt (m_free_sorted S) (m_free_set S) (e_d (e_lc (own := [("value", 2)]) rfl sc_ranks.nd (i_any (e_var 0)) (blkOk_by (own := [("value", 2)]) (N := N_ranks) (sc := defScope s_ranks) (by decide +kernel)) (by decide) (fun _ _ _ _ _ => (g_name 2 sc_ranks.nd)) (fun _ _ _ _ _ => (ts_one (t_notN (e_var 2) e_non))) (fun _ _ _ _ _ => (e_var 2))))))) (ss_one (s_ret (e_tupOf (m_free_tuple S) (a_cons (e_d (e_lc (own := [("value", 2)]) rfl sc_ranks.nd (i_any (e_var 0)) (blkOk_by (own := [("value", 2)]) (N := N_ranks) (sc := defScope s_ranks) (by decide +kernel)) (by decide) (fun _ _ _ _ _ => (g_name 2 sc_ranks.nd)) (fun _ _ _ _ _ => ts_nil) (fun _ _ _ _ _ => (e_d (e_if (t_isN (e_var 2) e_non) e_non (e_lidx (e_var 1) (e_var 2))))))) a_nil)))))
theorem dok_ranks (S : Says K mg) : DefOk P w K mg base 1 "ranks" 1 [] F_ranks := by
  obtain ⟨fd, FD⟩ := S.c.def_ 11 (d := d_ranks) rfl
  exact ⟨_, fd, ["values"], [], m_glo_ranks S, FD.kp, FD.bindsN (fun _ _ _ _ _ _ us hl => match us, hl with | [_], _ => rfl), .nil, fok_ranks S FD⟩

def g_Standing_mark : Sv := (sRet (fOf PL.gTup (fCons (fD (fCall F_ranks [] [none] (fCons (fD (fOf gLst (fStar (fPl 0 [("kept_by", ["Standing"])]) (fCons (fPl 0 [("seen", ["LineWork", "Standing"])]) (fCons (fPl 0 [("now", ["Standing"])]) fNil))))) fNil))) (fCons (fPl 0 [("is_failed", ["Standing"])]) fNil))))
def F_Standing_mark : Fn := fnF 1 0 g_Standing_mark
theorem fok_Standing_mark (S : Says K mg) {a : Addr} {fd : FuncData} (FD : FunD K d_Standing_mark.name d_Standing_mark.qual d_Standing_mark.params d_Standing_mark.body d_Standing_mark.scope (d_Standing_mark.dvs K) [] a fd) : FnOk P w K mg base CX0 2 a fd ["self"] (spD K F_Standing_mark) := by
  have dd_ranks := dok_ranks (P := P) (w := w) (base := base) S
  exact fn_ok0 (k := 1) FD sc_Standing_mark fun cdv A outer s H E hr => by
    unfold g_Standing_mark
    exact (ss_one (s_ret (e_tup (a_cons (e_d (e_call dd_ranks (hr.mono (by decide)) (fun _ => rpl_nil) (a_cons (e_d (e_lstS (as_star (e_pl (pl_cons (pl_nil 0) (m_fk_kept_by S))) (as_cons (e_pl (pl_cons (pl_nil 0) (m_fk_seen S))) (as_cons (e_pl (pl_cons (pl_nil 0) (m_fk_now S))) as_nil))))) a_nil))) (a_cons (e_pl (pl_cons (pl_nil 0) (m_fk_is_failed S))) a_nil)))))
theorem mok_Standing_mark (S : Says K mg) : MetOk P w K mg base 2 "Standing" "mark" [] F_Standing_mark := by
  obtain ⟨fd, FD⟩ := S.c.def_ 12 (d := d_Standing_mark) rfl
  exact ⟨m_cls_Standing S, _, fd, ["self"], [], m_meth_Standing_mark S, FD.bindsN (fun _ _ _ _ _ _ us hl => match us, hl with | [_], _ => rfl), .nil, fok_Standing_mark S FD⟩
def g_gaps : Sv := (sSeq (sSet 1 (fD (fSrt (fVar 0)))) (sSeq (sSet 2 (fOf gLst (fCons (fOp (g2 gSub) (fOp (g2 gIx) (fVar 1) (fC (.int 0))) (fC (.int 1000000000000000000000000000000))) fNil))) (sSeq (sFor (lRng2 (fCons (fC (.int 1)) (fCons (fOf (PL.g1 gLen) (fCons (fVar 1) fNil)) fNil))) (gNm 3) (sApp 2 (fOp (g2 gDiv) (fD (fOp (g2m gAdd) (fOp (g2 gIx) (fVar 1) (fOp (g2 gSub) (fVar 3) (fC (.int 1)))) (fOp (g2 gIx) (fVar 1) (fVar 3)))) (fC (.int 2))))) (sRet (fOf gLst (fStar (fFrz 2) (fCons (fD (fOp (g2m gAdd) (fOp (g2 gIx) (fVar 1) (fUn gNeg (fC (.int 1)))) (fC (.int 1000000000000000000000000000000)))) fNil)))))))
def F_gaps : Fn := fnF 1 3 g_gaps
theorem fok_gaps (S : Says K mg) {a : Addr} {fd : FuncData} (FD : FunD K d_gaps.name d_gaps.qual d_gaps.params d_gaps.body d_gaps.scope (d_gaps.dvs K) [] a fd) : FnOk P w K mg base CX0 1 a fd ["values"] (spD K F_gaps) := by
  exact fn_ok0 (k := 0) FD sc_gaps fun cdv A outer s H E hr => by
    unfold g_gaps
    exact (ss_cons (s_set 1 sc_gaps.nd (e_d (e_srt (m_free_sorted S) (m_free_set S) (e_var 0)))) (ss_cons (s_set 2 sc_gaps.nd (e_lst (a_cons (e_sub (e_ix (e_var 1) e_int) (e_globI (m_int_WIDTH S))) a_nil))) (ss_cons (s_for PassesOwn.never rfl (i_rng2 (m_free_range S) (a_cons e_int (a_cons (e_len (m_free_len S) (a_cons (e_var 1) a_nil)) a_nil))) (g_name 3 sc_gaps.nd) (ss_one (s_app 2 (e_div (e_d (e_add (e_ix (e_var 1) (e_sub (e_var 3) e_int)) (e_ix (e_var 1) (e_var 3)))) e_int)))) (ss_one (s_ret (e_lstS (as_star (e_frz 2) (as_cons (e_d (e_add (e_ix (e_var 1) (e_neg e_int)) (e_globI (m_int_WIDTH S)))) as_nil))))))))
theorem dok_gaps (S : Says K mg) : DefOk P w K mg base 1 "gaps" 1 [] F_gaps := by
  obtain ⟨fd, FD⟩ := S.c.def_ 13 (d := d_gaps) rfl
  exact ⟨_, fd, ["values"], [], m_glo_gaps S, FD.kp, FD.bindsN (fun _ _ _ _ _ _ us hl => match us, hl with | [_], _ => rfl), .nil, fok_gaps S FD⟩

def g_between : Sv := (sRet (fOf gLst (fStar (fD (fSrt (fVar 0))) (fStar (fD (fCall F_gaps [] [none] (fCons (fVar 0) fNil))) fNil))))
def F_between : Fn := fnF 1 0 g_between
theorem fok_between (S : Says K mg) {a : Addr} {fd : FuncData} (FD : FunD K d_between.name d_between.qual d_between.params d_between.body d_between.scope (d_between.dvs K) [] a fd) : FnOk P w K mg base CX0 2 a fd ["values"] (spD K F_between) := by
  have dd_gaps := dok_gaps (P := P) (w := w) (base := base) S
  exact fn_ok0 (k := 1) FD sc_between fun cdv A outer s H E hr => by
    unfold g_between
    exact (ss_one (s_ret (e_lstS (as_star (e_d (e_srt (m_free_sorted S) (m_free_set S) (e_var 0))) (as_star (e_d (e_call dd_gaps (hr.mono (by decide)) (fun _ => rpl_nil) (a_cons (e_var 0) a_nil))) as_nil)))))
theorem dok_between (S : Says K mg) : DefOk P w K mg base 2 "between" 1 [] F_between := by
  obtain ⟨fd, FD⟩ := S.c.def_ 14 (d := d_between) rfl
  exact ⟨_, fd, ["values"], [], m_glo_between S, FD.kp, FD.bindsN (fun _ _ _ _ _ _ us hl => match us, hl with | [_], _ => rfl), .nil, fok_between S FD⟩

def g_Standing_priced : Sv := (sSeq (sFrz 1 (sSet 1 (fLc [4] (lAny (fD (fOf gLst (fStar (fPl 0 [("kept_by", ["Standing"])]) (fCons (fPl 0 [("seen", ["LineWork", "Standing"])]) (fCons (fPl 0 [("now", ["Standing"])]) fNil)))))) (gNm 4) (fT (fOp (g2 (gIsN false)) (fVar 4) (fC .non))) (fVar 4)))) (sSeq (sSet 2 (fOf gLst fNil)) (sSeq (sFor (lAny (fD (fCall F_between [] [none] (fCons (fVar 1) fNil)))) (gNm 3) (sApp 2 (fD (fMake "Standing" F_Standing__init [] [none, none, none, none, none] (fCons (fPl 0 [("kept_by", ["Standing"])]) (fCons (fPl 0 [("seen", ["LineWork", "Standing"])]) (fCons (fVar 3) (fCons (fPl 0 [("is_failed", ["Standing"])]) (fCons (fD (fOf gLst (fStar (fPl 0 [("deeds", ["Standing"])]) (fCons (fOf PL.gTup (fCons (fC (.str "price")) (fCons (fC (.str "a")) (fCons (fVar 3) fNil)))) fNil)))) fNil))))))))) (sRet (fMov 2)))))
def F_Standing_priced : Fn := fnF 1 4 g_Standing_priced
theorem fok_Standing_priced (S : Says K mg) {a : Addr} {fd : FuncData} (FD : FunD K d_Standing_priced.name d_Standing_priced.qual d_Standing_priced.params d_Standing_priced.body d_Standing_priced.scope (d_Standing_priced.dvs K) [] a fd) : FnOk P w K mg base CX0 3 a fd ["self"] (spD K F_Standing_priced) := by
  have dd_between := dok_between (P := P) (w := w) (base := base) S
  have mak_Standing__init := kok_Standing__init (P := P) (w := w) (base := base) S
  exact fn_ok0 (k := 2) FD sc_Standing_priced fun cdv A outer s H E hr => by
    unfold g_Standing_priced
    exact (ss_cons (s_frz 1 (s_setLc 1 (own := [("value", 4)]) rfl sc_Standing_priced.nd (i_any (e_d (e_lstS (as_star (e_pl (pl_cons (pl_nil 0) (m_fk_kept_by S))) (as_cons (e_pl (pl_cons (pl_nil 0) (m_fk_seen S))) (as_cons (e_pl (pl_cons (pl_nil 0) (m_fk_now S))) as_nil)))))) (blkOk_by (own := [("value", 4)]) (N := N_Standing_priced) (sc := defScope s_Standing_priced) (by decide +kernel)) (by decide) (fun _ _ _ _ _ => (g_name 4 sc_Standing_priced.nd)) (fun _ _ _ _ _ => (ts_one (t_notN (e_var 4) e_non))) (fun _ _ _ _ _ => (e_var 4)) (sw_true rfl rfl rfl (by decide +kernel)))) (ss_cons (s_set 2 sc_Standing_priced.nd (e_lst a_nil)) (ss_cons (s_for PassesOwn.never rfl (i_any (e_d (e_call dd_between (hr.mono (by decide)) (fun _ => rpl_nil) (a_cons (e_var 1) a_nil)))) (g_name 3 sc_Standing_priced.nd) (ss_one (s_app 2 (e_d (e_make mak_Standing__init (hr.mono (by decide)) (fun _ => rpl_nil) (a_cons (e_pl (pl_cons (pl_nil 0) (m_fk_kept_by S))) (a_cons (e_pl (pl_cons (pl_nil 0) (m_fk_seen S))) (a_cons (e_var 3) (a_cons (e_pl (pl_cons (pl_nil 0) (m_fk_is_failed S))) (a_cons (e_d (e_lstS (as_star (e_pl (pl_cons (pl_nil 0) (m_fk_deeds S))) (as_cons (e_tup (a_cons e_str (a_cons (e_globS (m_str_ITEM S)) (a_cons (e_var 3) a_nil)))) as_nil)))) a_nil)))))))))) (ss_one (s_ret (e_mov 2))))))
theorem mok_Standing_priced (S : Says K mg) : MetOk P w K mg base 3 "Standing" "priced" [] F_Standing_priced := by
  obtain ⟨fd, FD⟩ := S.c.def_ 15 (d := d_Standing_priced) rfl
  exact ⟨m_cls_Standing S, _, fd, ["self"], [], m_meth_Standing_priced S, FD.bindsN (fun _ _ _ _ _ _ us hl => match us, hl with | [_], _ => rfl), .nil, fok_Standing_priced S FD⟩
def g_LineWork_carry_out : Sv := (sIf (fT (fOp (g2 gEq) (fVar 1) (fC (.str "take")))) (sPut 0 [] ("stays", ["LineWork"]) (fVar 2)) (sIf (fT (fOp (g2 gEq) (fVar 1) (fC (.str "least")))) (sPut 0 [] ("stays", ["LineWork"]) (fOf (g22 gMin) (fCons (fPl 0 [("stays", ["LineWork"])]) (fCons (fVar 2) fNil)))) (sIf (fT (fOp (g2 gEq) (fVar 1) (fC (.str "last")))) (sIf (fT (fOp (g2 (gIsN false)) (fPl 0 [("seen", ["LineWork", "Standing"])]) (fC .non))) (sPut 0 [] ("stays", ["LineWork"]) (fPl 0 [("seen", ["LineWork", "Standing"])])) sPass) (sIf (tOrT (fT (fOp (g2 gEq) (fVar 1) (fC (.str "show")))) (tOrT (fT (fOp (g2 (gIsN true)) (fPl 0 [("seen", ["LineWork", "Standing"])]) (fC .non))) (fT (fOp (g2 gNe) (fPl 0 [("seen", ["LineWork", "Standing"])]) (fPl 0 [("stays", ["LineWork"])]))))) (sSeq (sIf (fT (fOp (g2 gEq) (fVar 1) (fC (.str "ask")))) (sAug 0 ("times", ["LineWork"]) (fC (.int 1))) sPass) (sSeq (sPut 0 [] ("seen", ["LineWork", "Standing"]) (fPl 0 [("stays", ["LineWork"])])) (sAppP 0 [("told", ["LineWork"])] (fPl 0 [("stays", ["LineWork"])])))) sPass))))
def F_LineWork_carry_out : Fn := fnF 3 0 g_LineWork_carry_out
theorem fok_LineWork_carry_out (S : Says K mg) {a : Addr} {fd : FuncData} (FD : FunD K d_LineWork_carry_out.name d_LineWork_carry_out.qual d_LineWork_carry_out.params d_LineWork_carry_out.body d_LineWork_carry_out.scope (d_LineWork_carry_out.dvs K) [] a fd) : FnOk P w K mg base CX0 1 a fd ["self", "action", "now"] (spD K F_LineWork_carry_out) := by
  exact fn_ok0 (k := 0) FD sc_LineWork_carry_out fun cdv A outer s H E hr => by
    unfold g_LineWork_carry_out
    exact (ss_one (s_if (t_eq hr (e_var 1) e_str) (ss_one (s_put (pl_nil 0) (e_var 2) (m_fk_stays S))) (ss_one (s_if (t_eq hr (e_var 1) e_str) (ss_one (s_put (pl_nil 0) (e_min rfl (m_free_min S) (a_cons (e_pl (pl_cons (pl_nil 0) (m_fk_stays S))) (a_cons (e_var 2) a_nil))) (m_fk_stays S))) (ss_one (s_if (t_eq hr (e_var 1) e_str) (ss_one (s_if (t_notN (e_pl (pl_cons (pl_nil 0) (m_fk_seen S))) e_non) (ss_one (s_put (pl_nil 0) (e_pl (pl_cons (pl_nil 0) (m_fk_seen S))) (m_fk_stays S))) ss_nil)) (ss_one (s_if (t_w (w_or (t_eq hr (e_var 1) e_str) (w_or (t_isN (e_pl (pl_cons (pl_nil 0) (m_fk_seen S))) e_non) (w_one (t_ne hr (e_pl (pl_cons (pl_nil 0) (m_fk_seen S))) (e_pl (pl_cons (pl_nil 0) (m_fk_stays S)))) (.inr rfl))))) (ss_cons (s_if (t_eq hr (e_var 1) e_str) (ss_one (s_aug (pl_nil 0) e_int (m_fk_times S))) ss_nil) (ss_cons (s_put (pl_nil 0) (e_pl (pl_cons (pl_nil 0) (m_fk_stays S))) (m_fk_seen S)) (ss_one (s_appP (pl_cons (pl_nil 0) (m_fk_told S)) (k_pl (pl_cons (pl_nil 0) (m_fk_stays S))) kp_pl)))) ss_nil))))))))
theorem mok_LineWork_carry_out (S : Says K mg) : MetOk P w K mg base 1 "LineWork" "carry_out" [] F_LineWork_carry_out := by
  obtain ⟨fd, FD⟩ := S.c.def_ 16 (d := d_LineWork_carry_out) rfl
  exact ⟨m_cls_LineWork S, _, fd, ["self", "action", "now"], [], m_meth_LineWork_carry_out S, FD.bindsN (fun _ _ _ _ _ _ us hl => match us, hl with | [_, _, _], _ => rfl), .nil, fok_LineWork_carry_out S FD⟩
def g_LineWork__init : Sv := (sSeq (sPut 0 [] ("stays", ["LineWork"]) (fVar 2)) (sSeq (sPut 0 [] ("seen", ["LineWork", "Standing"]) (fVar 3)) (sSeq (sPut 0 [] ("told", ["LineWork"]) (fOf gLst fNil)) (sSeq (sPut 0 [] ("times", ["LineWork"]) (fC (.int 0))) (sFor (lAny (fVar 1)) (gNm 5) (sDrop (fMethO "LineWork" "carry_out" F_LineWork_carry_out [] 0 [none, none] (fCons (fVar 5) (fCons (fVar 4) fNil)))))))))
def F_LineWork__init : Fn := fnF 5 1 g_LineWork__init
theorem fok_LineWork__init (S : Says K mg) {a : Addr} {fd : FuncData} (FD : FunD K d_LineWork__init.name d_LineWork__init.qual d_LineWork__init.params d_LineWork__init.body d_LineWork__init.scope (d_LineWork__init.dvs K) [] a fd) : FnOk P w K mg base CX0 2 a fd ["self", "rule", "kept", "shown", "now"] (spD K F_LineWork__init) := by
  have met_LineWork_carry_out := mok_LineWork_carry_out (P := P) (w := w) (base := base) S
  exact fn_ok0 (k := 1) FD sc_LineWork__init fun cdv A outer s H E hr => by
    unfold g_LineWork__init
    exact (ss_cons (s_put (pl_nil 0) (e_var 2) (m_fk_stays S)) (ss_cons (s_put (pl_nil 0) (e_var 3) (m_fk_seen S)) (ss_cons (s_put (pl_nil 0) (e_lst a_nil) (m_fk_told S)) (ss_cons (s_put (pl_nil 0) e_int (m_fk_times S)) (ss_one (s_for PassesOwn.never rfl (i_any (e_var 1)) (g_name 5 sc_LineWork__init.nd) (ss_one (s_expr (e_methO 0 met_LineWork_carry_out (hr.mono (by decide)) (fun _ => rpl_nil) (a_cons (e_var 5) (a_cons (e_var 4) a_nil)))))))))))
theorem kok_LineWork__init (S : Says K mg) : MakOk P w K mg base 2 "LineWork" [] F_LineWork__init := by
  obtain ⟨fd, FD⟩ := S.c.def_ 17 (d := d_LineWork__init) rfl
  exact ⟨m_glo_LineWork S, _, fd, ["self", "rule", "kept", "shown", "now"], [], m_mkr_LineWork S, FD.bindsN (fun _ _ _ _ _ _ us hl => match us, hl with | [_, _, _, _, _], _ => rfl), .nil, fok_LineWork__init S FD⟩
def g_Standing_behind : Sv := (sSeq (sSet 3 (fOf gLst fNil)) (sSeq (sFor (lZipM (fCons (fVar 1) (fCons (fPl 0 [("kept_by", ["Standing"])]) fNil))) (gTu 2 (PL.gCons (gNm 4) (PL.gCons (gNm 5) gsNil))) (sApp 3 (fD (fMake "LineWork" F_LineWork__init [] [none, none, none, none] (fCons (fVar 4) (fCons (fD (fIf (fT (fOp (g2 (gIsN true)) (fVar 5) (fC .non))) (fPl 0 [("now", ["Standing"])]) (fVar 5))) (fCons (fPl 0 [("seen", ["LineWork", "Standing"])]) (fCons (fPl 0 [("now", ["Standing"])]) fNil)))))))) (sSeq (sAsg (fFrz 3) (gLs 2 (PL.gCons (gNm 6) (PL.gCons (gNm 7) gsNil)))) (sSeq (sSet 8 (fMake "Standing" F_Standing__init [] [none, none, none, none, none] (fCons (fOf PL.gTup (fCons (fPl 6 [("stays", ["LineWork"])]) (fCons (fPl 7 [("stays", ["LineWork"])]) fNil))) (fCons (fPl 6 [("seen", ["LineWork", "Standing"])]) (fCons (fPl 0 [("now", ["Standing"])]) (fCons (fOp (g2 gEq) (fVar 2) (fOf PL.gTup (fCons (fC (.str "pay")) (fCons (fC (.bl false)) fNil)))) (fCons (fD (fOf gLst (fStar (fPl 0 [("deeds", ["Standing"])]) (fCons (fVar 2) fNil)))) fNil))))))) (sSeq (sPut 8 [] ("is_apart", ["Standing"]) (fOr (fOp (g2 gNe) (fPl 6 [("seen", ["LineWork", "Standing"])]) (fPl 7 [("seen", ["LineWork", "Standing"])])) (fOp (g2 gNe) (fPl 6 [("times", ["LineWork"])]) (fPl 7 [("times", ["LineWork"])])))) (sSeq (sIf (fT (fOp (g2 gEq) (fVar 2) (fOf PL.gTup (fCons (fC (.str "pay")) (fCons (fC (.bl true)) fNil))))) (sPut 8 [] ("is_apart", ["Standing"]) (fOr (fPl 8 [("is_apart", ["Standing"])]) (fOp (g2 gNe) (fPl 6 [("stays", ["LineWork"])]) (fPl 7 [("stays", ["LineWork"])])))) sPass) (sRet (fMov 8))))))))
def F_Standing_behind : Fn := fnF 3 6 g_Standing_behind
theorem fok_Standing_behind (S : Says K mg) {a : Addr} {fd : FuncData} (FD : FunD K d_Standing_behind.name d_Standing_behind.qual d_Standing_behind.params d_Standing_behind.body d_Standing_behind.scope (d_Standing_behind.dvs K) [] a fd) : FnOk P w K mg base CX0 4 a fd ["self", "rules", "deed"] (spD K F_Standing_behind) := by
  have mak_LineWork__init := kok_LineWork__init (P := P) (w := w) (base := base) S
  have mak_Standing__init := kok_Standing__init (P := P) (w := w) (base := base) S
  exact fn_ok0 (k := 3) FD sc_Standing_behind fun cdv A outer s H E hr => by
    unfold g_Standing_behind
    exact (ss_cons (s_set 3 sc_Standing_behind.nd (e_lst a_nil)) (ss_cons (s_for PassesOwn.never rfl (i_zipM (m_free_zip S) (a_cons (e_var 1) (a_cons (e_pl (pl_cons (pl_nil 0) (m_fk_kept_by S))) a_nil))) (g_tup rfl (gs_cons (g_name 4 sc_Standing_behind.nd) (gs_cons (g_name 5 sc_Standing_behind.nd) gs_nil))) (ss_one (s_app 3 (e_d (e_make mak_LineWork__init (hr.mono (by decide)) (fun _ => rpl_nil) (a_cons (e_var 4) (a_cons (e_d (e_if (t_isN (e_var 5) e_non) (e_pl (pl_cons (pl_nil 0) (m_fk_now S))) (e_var 5))) (a_cons (e_pl (pl_cons (pl_nil 0) (m_fk_seen S))) (a_cons (e_pl (pl_cons (pl_nil 0) (m_fk_now S))) a_nil))))))))) (ss_cons (s_asg (e_frz 3) (g_ls rfl (gs_cons (g_name 6 sc_Standing_behind.nd) (gs_cons (g_name 7 sc_Standing_behind.nd) gs_nil)))) (ss_cons (s_set 8 sc_Standing_behind.nd (e_make mak_Standing__init (hr.mono (by decide)) (fun _ => rpl_nil) (a_cons (e_tup (a_cons (e_pl (pl_cons (pl_nil 6) (m_fk_stays S))) (a_cons (e_pl (pl_cons (pl_nil 7) (m_fk_stays S))) a_nil))) (a_cons (e_pl (pl_cons (pl_nil 6) (m_fk_seen S))) (a_cons (e_pl (pl_cons (pl_nil 0) (m_fk_now S))) (a_cons (e_eq hr (e_var 2) (e_tup (a_cons e_str (a_cons e_bl a_nil)))) (a_cons (e_d (e_lstS (as_star (e_pl (pl_cons (pl_nil 0) (m_fk_deeds S))) (as_cons (e_var 2) as_nil)))) a_nil))))))) (ss_cons (s_put (pl_nil 8) (e_or (e_ne hr (e_pl (pl_cons (pl_nil 6) (m_fk_seen S))) (e_pl (pl_cons (pl_nil 7) (m_fk_seen S)))) (e_one (e_ne hr (e_pl (pl_cons (pl_nil 6) (m_fk_times S))) (e_pl (pl_cons (pl_nil 7) (m_fk_times S)))))) (m_fk_is_apart S)) (ss_cons (s_if (t_eq hr (e_var 2) (e_tup (a_cons e_str (a_cons e_bl a_nil)))) (ss_one (s_put (pl_nil 8) (e_or (e_pl (pl_cons (pl_nil 8) (m_fk_is_apart S))) (e_one (e_ne hr (e_pl (pl_cons (pl_nil 6) (m_fk_stays S))) (e_pl (pl_cons (pl_nil 7) (m_fk_stays S)))))) (m_fk_is_apart S))) ss_nil) (ss_one (s_ret (e_mov 8)))))))))
theorem mok_Standing_behind (S : Says K mg) : MetOk P w K mg base 4 "Standing" "behind" [] F_Standing_behind := by
  obtain ⟨fd, FD⟩ := S.c.def_ 18 (d := d_Standing_behind) rfl
  exact ⟨m_cls_Standing S, _, fd, ["self", "rules", "deed"], [], m_meth_Standing_behind S, FD.bindsN (fun _ _ _ _ _ _ us hl => match us, hl with | [_, _, _], _ => rfl), .nil, fok_Standing_behind S FD⟩
def g_Standing_persons : Sv := (sSeq (sSet 2 (fOf gLst (fCons (fD (fMethO "Standing" "behind" F_Standing_behind [] 0 [none, none] (fCons (fD (fLc [5] (lAny (fVar 1)) (gNm 5) tTrue (fD (fMethO "Book" "rule" F_Book_rule [] 5 [none] (fCons (fC (.str "put")) fNil))))) (fCons (fOf PL.gTup (fCons (fC (.str "put")) (fCons (fC (.str "a")) (fCons (fC (.int 1)) fNil)))) fNil)))) fNil))) (sSeq (sIf (fT (fOp (g2 (gIsN true)) (fOp (g2 gIx) (fPl 0 [("kept_by", ["Standing"])]) (fC (.int 0))) (fC .non))) (sRet (fMov 2)) sPass) (sSeq (sApp 2 (fD (fMethO "Standing" "behind" F_Standing_behind [] 0 [none, none] (fCons (fD (fLc [5] (lAny (fVar 1)) (gNm 5) tTrue (fD (fMethO "Book" "rule" F_Book_rule [] 5 [none] (fCons (fC (.str "look")) fNil))))) (fCons (fOf PL.gTup (fCons (fC (.str "look")) fNil)) fNil))))) (sSeq (sApp 2 (fD (fMethO "Standing" "behind" F_Standing_behind [] 0 [none, none] (fCons (fD (fLc [5] (lAny (fVar 1)) (gNm 5) tTrue (fD (fMethO "Book" "rule" F_Book_rule [] 5 [none] (fCons (fC (.str "alter")) fNil))))) (fCons (fOf PL.gTup (fCons (fC (.str "alter")) (fCons (fC (.str "a")) (fCons (fC (.int 1)) fNil)))) fNil))))) (sSeq (sApp 2 (fD (fMethO "Standing" "behind" F_Standing_behind [] 0 [none, none] (fCons (fD (fLc [5] (lAny (fVar 1)) (gNm 5) tTrue (fD (fMethO "Book" "rule" F_Book_rule [] 5 [none] (fCons (fC (.str "back")) fNil))))) (fCons (fOf PL.gTup (fCons (fC (.str "back")) fNil)) fNil))))) (sSeq (sSet 3 (fD (fIf (fT (fPl 0 [("is_failed", ["Standing"])])) (fC (.str "again")) (fC (.str "pay"))))) (sSeq (sFor (lAny (fOf PL.gTup (fCons (fOf PL.gTup (fCons (fC (.str "pay")) (fCons (fC (.bl true)) fNil))) (fCons (fOf PL.gTup (fCons (fC (.str "pay")) (fCons (fC (.bl false)) fNil))) fNil)))) (gNm 4) (sApp 2 (fD (fMethO "Standing" "behind" F_Standing_behind [] 0 [none, none] (fCons (fD (fLc [5] (lAny (fVar 1)) (gNm 5) tTrue (fD (fMethO "Book" "rule" F_Book_rule [] 5 [none] (fCons (fVar 3) fNil))))) (fCons (fVar 4) fNil)))))) (sSeq (sIf (fT (fPl 0 [("is_failed", ["Standing"])])) (sApp 2 (fD (fMake "Standing" F_Standing__init [] [none, none, none, none, none] (fCons (fPl 0 [("kept_by", ["Standing"])]) (fCons (fPl 0 [("seen", ["LineWork", "Standing"])]) (fCons (fPl 0 [("now", ["Standing"])]) (fCons (fC (.bl false)) (fCons (fD (fOf gLst (fStar (fPl 0 [("deeds", ["Standing"])]) (fCons (fOf PL.gTup (fCons (fC (.str "put")) (fCons (fC (.str "b")) (fCons (fC (.int 1)) fNil)))) fNil)))) fNil)))))))) sPass) (sRet (fMov 2))))))))))
def F_Standing_persons : Fn := fnF 2 4 g_Standing_persons
theorem fok_Standing_persons (S : Says K mg) {a : Addr} {fd : FuncData} (FD : FunD K d_Standing_persons.name d_Standing_persons.qual d_Standing_persons.params d_Standing_persons.body d_Standing_persons.scope (d_Standing_persons.dvs K) [] a fd) : FnOk P w K mg base CX0 5 a fd ["self", "books"] (spD K F_Standing_persons) := by
  have met_Standing_behind := mok_Standing_behind (P := P) (w := w) (base := base) S
  have met_Book_rule := mok_Book_rule (P := P) (w := w) (base := base) S
  have mak_Standing__init := kok_Standing__init (P := P) (w := w) (base := base) S
  exact fn_ok0 (k := 4) FD sc_Standing_persons fun cdv A outer s H E hr => by
    unfold g_Standing_persons
    exact (ss_cons (s_set 2 sc_Standing_persons.nd (e_lst (a_cons (e_d (e_methO 0 met_Standing_behind (hr.mono (by decide)) (fun _ => rpl_nil) (a_cons (e_d (e_lc (own := [("book", 5)]) rfl sc_Standing_persons.nd (i_any (e_var 1)) (blkOk_by (own := [("book", 5)]) (N := N_Standing_persons) (sc := defScope s_Standing_persons) (by decide +kernel)) (by decide) (fun _ _ _ _ _ => (g_name 5 sc_Standing_persons.nd)) (fun _ _ _ _ _ => ts_nil) (fun _ _ _ _ _ => (e_d (e_methO 5 met_Book_rule (hr.mono (by decide)) (fun _ => rpl_nil) (a_cons e_str a_nil)))))) (a_cons (e_tup (a_cons e_str (a_cons (e_globS (m_str_ITEM S)) (a_cons e_int a_nil)))) a_nil)))) a_nil))) (ss_cons (s_if (t_isN (e_ix (e_pl (pl_cons (pl_nil 0) (m_fk_kept_by S))) e_int) e_non) (ss_one (s_ret (e_mov 2))) ss_nil) (ss_cons (s_app 2 (e_d (e_methO 0 met_Standing_behind (hr.mono (by decide)) (fun _ => rpl_nil) (a_cons (e_d (e_lc (own := [("book", 5)]) rfl sc_Standing_persons.nd (i_any (e_var 1)) (blkOk_by (own := [("book", 5)]) (N := N_Standing_persons) (sc := defScope s_Standing_persons) (by decide +kernel)) (by decide) (fun _ _ _ _ _ => (g_name 5 sc_Standing_persons.nd)) (fun _ _ _ _ _ => ts_nil) (fun _ _ _ _ _ => (e_d (e_methO 5 met_Book_rule (hr.mono (by decide)) (fun _ => rpl_nil) (a_cons e_str a_nil)))))) (a_cons (e_tup (a_cons e_str a_nil)) a_nil))))) (ss_cons (s_app 2 (e_d (e_methO 0 met_Standing_behind (hr.mono (by decide)) (fun _ => rpl_nil) (a_cons (e_d (e_lc (own := [("book", 5)]) rfl sc_Standing_persons.nd (i_any (e_var 1)) (blkOk_by (own := [("book", 5)]) (N := N_Standing_persons) (sc := defScope s_Standing_persons) (by decide +kernel)) (by decide) (fun _ _ _ _ _ => (g_name 5 sc_Standing_persons.nd)) (fun _ _ _ _ _ => ts_nil) (fun _ _ _ _ _ => (e_d (e_methO 5 met_Book_rule (hr.mono (by decide)) (fun _ => rpl_nil) (a_cons e_str a_nil)))))) (a_cons (e_tup (a_cons e_str (a_cons (e_globS (m_str_ITEM S)) (a_cons e_int a_nil)))) a_nil))))) (ss_cons (s_app 2 (e_d (e_methO 0 met_Standing_behind (hr.mono (by decide)) (fun _ => rpl_nil) (a_cons (e_d (e_lc (own := [("book", 5)]) rfl sc_Standing_persons.nd (i_any (e_var 1)) (blkOk_by (own := [("book", 5)]) (N := N_Standing_persons) (sc := defScope s_Standing_persons) (by decide +kernel)) (by decide) (fun _ _ _ _ _ => (g_name 5 sc_Standing_persons.nd)) (fun _ _ _ _ _ => ts_nil) (fun _ _ _ _ _ => (e_d (e_methO 5 met_Book_rule (hr.mono (by decide)) (fun _ => rpl_nil) (a_cons e_str a_nil)))))) (a_cons (e_tup (a_cons e_str a_nil)) a_nil))))) (ss_cons (s_set 3 sc_Standing_persons.nd (e_d (e_if (t_v (e_pl (pl_cons (pl_nil 0) (m_fk_is_failed S)))) e_str e_str))) (ss_cons (s_for PassesOwn.never rfl (i_any (e_tup (a_cons (e_tup (a_cons e_str (a_cons e_bl a_nil))) (a_cons (e_tup (a_cons e_str (a_cons e_bl a_nil))) a_nil)))) (g_name 4 sc_Standing_persons.nd) (ss_one (s_app 2 (e_d (e_methO 0 met_Standing_behind (hr.mono (by decide)) (fun _ => rpl_nil) (a_cons (e_d (e_lc (own := [("book", 5)]) rfl sc_Standing_persons.nd (i_any (e_var 1)) (blkOk_by (own := [("book", 5)]) (N := N_Standing_persons) (sc := defScope s_Standing_persons) (by decide +kernel)) (by decide) (fun _ _ _ _ _ => (g_name 5 sc_Standing_persons.nd)) (fun _ _ _ _ _ => ts_nil) (fun _ _ _ _ _ => (e_d (e_methO 5 met_Book_rule (hr.mono (by decide)) (fun _ => rpl_nil) (a_cons (e_var 3) a_nil)))))) (a_cons (e_var 4) a_nil))))))) (ss_cons (s_if (t_v (e_pl (pl_cons (pl_nil 0) (m_fk_is_failed S)))) (ss_one (s_app 2 (e_d (e_make mak_Standing__init (hr.mono (by decide)) (fun _ => rpl_nil) (a_cons (e_pl (pl_cons (pl_nil 0) (m_fk_kept_by S))) (a_cons (e_pl (pl_cons (pl_nil 0) (m_fk_seen S))) (a_cons (e_pl (pl_cons (pl_nil 0) (m_fk_now S))) (a_cons e_bl (a_cons (e_d (e_lstS (as_star (e_pl (pl_cons (pl_nil 0) (m_fk_deeds S))) (as_cons (e_tup (a_cons e_str (a_cons (e_globS (m_str_OTHER S)) (a_cons e_int a_nil)))) as_nil)))) a_nil))))))))) ss_nil) (ss_one (s_ret (e_mov 2)))))))))))
theorem mok_Standing_persons (S : Says K mg) : MetOk P w K mg base 5 "Standing" "persons" [] F_Standing_persons := by
  obtain ⟨fd, FD⟩ := S.c.def_ 19 (d := d_Standing_persons) rfl
  exact ⟨m_cls_Standing S, _, fd, ["self", "books"], [], m_meth_Standing_persons S, FD.bindsN (fun _ _ _ _ _ _ us hl => match us, hl with | [_, _], _ => rfl), .nil, fok_Standing_persons S FD⟩
def g_with_amount : Sv := (sSeq (sIf (fT (fOp (g2 gNe) (fOp (g2 gIx) (fVar 1) (fC (.int 0))) (fC (.str "price")))) (sRet (fVar 1)) sPass) (sRet (fOf PL.gTup (fCons (fC (.str "price")) (fCons (fOp (g2 gIx) (fVar 1) (fC (.int 1))) (fCons (fD (fOp (g2 gLidx) (fOp (g2 gDGet) (fVar 0) (fOp (g2 gIx) (fVar 1) (fC (.int 1)))) (fOp (g2 gIx) (fVar 1) (fC (.int 2))))) fNil))))))
def F_with_amount : Fn := fnF 2 0 g_with_amount
theorem fok_with_amount (S : Says K mg) {a : Addr} {fd : FuncData} (FD : FunD K d_with_amount.name d_with_amount.qual d_with_amount.params d_with_amount.body d_with_amount.scope (d_with_amount.dvs K) [] a fd) : FnOk P w K mg base CX0 1 a fd ["places", "deed"] (spD K F_with_amount) := by
  exact fn_ok0 (k := 0) FD sc_with_amount fun cdv A outer s H E hr => by
    unfold g_with_amount
    exact (ss_cons (s_if (t_ne hr (e_ix (e_var 1) e_int) e_str) (ss_one (s_ret (e_var 1))) ss_nil) (ss_one (s_ret (e_tup (a_cons e_str (a_cons (e_ix (e_var 1) e_int) (a_cons (e_d (e_lidx (e_dget hr (e_var 0) (e_ix (e_var 1) e_int)) (e_ix (e_var 1) e_int))) a_nil)))))))
theorem dok_with_amount (S : Says K mg) : DefOk P w K mg base 1 "with_amount" 2 [] F_with_amount := by
  obtain ⟨fd, FD⟩ := S.c.def_ 20 (d := d_with_amount) rfl
  exact ⟨_, fd, ["places", "deed"], [], m_glo_with_amount S, FD.kp, FD.bindsN (fun _ _ _ _ _ _ us hl => match us, hl with | [_, _], _ => rfl), .nil, fok_with_amount S FD⟩

def g_with_amounts : Sv := (sSeq (sSet 2 (fun b => some (.dic [] [], b))) (sSeq (sFor (lAny (fVar 0)) (gTu 2 (PL.gCons (gNm 3) (PL.gCons (gNm 4) gsNil))) (sSeq (sSet 6 (fD (fOf gLst (fCons (fVar 4) (fStar (fD (fLc [7] (lAny (fVar 1)) (gNm 7) (tAndT (fT (fOp (g2 gEq) (fOp (g2 gIx) (fVar 7) (fC (.int 0))) (fC (.str "price")))) (fT (fOp (g2 gEq) (fOp (g2 gIx) (fVar 7) (fC (.int 1))) (fVar 3)))) (fOp (g2 gIx) (fVar 7) (fC (.int 2))))) fNil))))) (sDPutP 2 [] (fVar 3) (fD (fSrt (fVar 6)))))) (sSeq (sFrz 5 (sSet 5 (fPeek (fLc [3, 4] (lAny (fVar 0)) (gTu 2 (PL.gCons (gNm 3) (PL.gCons (gNm 4) gsNil))) tTrue (fOf PL.gTup (fCons (fVar 3) (fCons (fD (fOp (g2 gLidx) (fOp (g2 gDGet) (fVar 2) (fVar 3)) (fVar 4))) fNil))))))) (sRet (fOf PL.gTup (fCons (fOf (g1m gTupOf) (fCons (fVar 5) fNil)) (fCons (fD (fPeek (fLc [7] (lAny (fVar 1)) (gNm 7) tTrue (fD (fCall F_with_amount [] [none, none] (fCons (fVar 2) (fCons (fVar 7) fNil))))))) fNil)))))))
def F_with_amounts : Fn := fnF 2 6 g_with_amounts
theorem fok_with_amounts (S : Says K mg) {a : Addr} {fd : FuncData} (FD : FunD K d_with_amounts.name d_with_amounts.qual d_with_amounts.params d_with_amounts.body d_with_amounts.scope (d_with_amounts.dvs K) [] a fd) : FnOk P w K mg base CX0 2 a fd ["prices", "deeds"] (spD K F_with_amounts) := by
  have dd_with_amount := dok_with_amount (P := P) (w := w) (base := base) S
  exact fn_ok0 (k := 1) FD sc_with_amounts fun cdv A outer s H E hr => by
    unfold g_with_amounts
    exact (ss_cons (s_set 2 sc_with_amounts.nd e_dic0) (ss_cons (s_for PassesOwn.never rfl (i_any (e_var 0)) (g_tup rfl (gs_cons (g_name 3 sc_with_amounts.nd) (gs_cons (g_name 4 sc_with_amounts.nd) gs_nil))) (ss_cons (s_set 6 sc_with_amounts.nd (e_d (e_lstS (as_cons (e_var 4) (as_star (e_d (e_lc (own := [("deed", 7)]) rfl sc_with_amounts.nd (i_any (e_var 1)) (blkOk_by (own := [("deed", 7)]) (N := N_with_amounts) (sc := defScope s_with_amounts) (by decide +kernel)) (by decide) (fun _ _ _ _ _ => (g_name 7 sc_with_amounts.nd)) (fun _ _ _ _ _ => (ts_one (t_w (w_and (t_eq hr (e_ix (e_var 7) e_int) e_str) (w_one (t_eq hr (e_ix (e_var 7) e_int) (e_var 3)) (.inl rfl)))))) (fun _ _ _ _ _ => (e_ix (e_var 7) e_int)))) as_nil))))) (ss_one (s_dputP hr (pl_nil 2) (k_var 3) kp_var (e_d (e_srt (m_free_sorted S) (m_free_set S) (e_var 6))))))) (ss_cons (s_frz 5 (s_setLcP 5 (own := [("item", 3), ("amount", 4)]) rfl sc_with_amounts.nd (i_any (e_var 0)) (blkOk_by (own := [("item", 3), ("amount", 4)]) (N := N_with_amounts) (sc := defScope s_with_amounts) (by decide +kernel)) (by decide) (fun _ _ _ _ _ => (g_tup rfl (gs_cons (g_name 3 sc_with_amounts.nd) (gs_cons (g_name 4 sc_with_amounts.nd) gs_nil)))) (fun _ _ _ _ _ => ts_nil) (fun _ _ _ _ _ => (e_tup (a_cons (e_var 3) (a_cons (e_d (e_lidx (e_dget hr (e_var 2) (e_var 3)) (e_var 4))) a_nil)))) (sw_true rfl rfl rfl (by decide +kernel)))) (ss_one (s_ret (e_tup (a_cons (e_tupOf (m_free_tuple S) (a_cons (e_var 5) a_nil)) (a_cons (e_d (e_peek (e_lc (own := [("deed", 7)]) rfl sc_with_amounts.nd (i_any (e_var 1)) (blkOk_by (own := [("deed", 7)]) (N := N_with_amounts) (sc := defScope s_with_amounts) (by decide +kernel)) (by decide) (fun _ _ _ _ _ => (g_name 7 sc_with_amounts.nd)) (fun _ _ _ _ _ => ts_nil) (fun _ _ _ _ _ => (e_d (e_call dd_with_amount (hr.mono (by decide)) (fun _ => rpl_nil) (a_cons (e_var 2) (a_cons (e_var 7) a_nil)))))))) a_nil))))))))
theorem dok_with_amounts (S : Says K mg) : DefOk P w K mg base 2 "with_amounts" 2 [] F_with_amounts := by
  obtain ⟨fd, FD⟩ := S.c.def_ 21 (d := d_with_amounts) rfl
  exact ⟨_, fd, ["prices", "deeds"], [], m_glo_with_amounts S, FD.kp, FD.bindsN (fun _ _ _ _ _ _ us hl => match us, hl with | [_, _], _ => rfl), .nil, fok_with_amounts S FD⟩

def g_told_apart : Sv := (sSeq (sSet 2 (fD (fOf gLst (fCons (fVar 0) (fCons (fVar 1) fNil))))) (sSeq (sSet 3 (fD (fMake "Standing" F_Standing__init [] [none, none, none, none, none] (fCons (fOf PL.gTup (fCons (fC .non) (fCons (fC .non) fNil))) (fCons (fC .non) (fCons (fC (.int 0)) (fCons (fC (.bl false)) (fCons (fD (fOf gLst fNil)) fNil)))))))) (sSeq (sSet 4 fSet0) (sSeq (sAddSt 4 (fD (fMethO "Standing" "mark" F_Standing_mark [] 3 [] fNil))) (sSeq (sSet 5 (fD (fOf gLst (fCons (fVar 3) fNil)))) (sSeq (whileN 1000 (fT (fOp (g2 gNeX) (fVar 5) (fD (fOf gLst fNil)))) (sSeq (sSet 6 (fOf gLst fNil)) (sSeq (sFor (lAny (fVar 5)) (gNm 7) (sFor (lAny (fD (fOf gLst (fStar (fD (fMethO "Standing" "persons" F_Standing_persons [] 7 [none] (fCons (fVar 2) fNil))) (fStar (fD (fMethO "Standing" "priced" F_Standing_priced [] 7 [] fNil)) fNil))))) (gNm 8) (sSeq (sIf (fT (fPl 8 [("is_apart", ["Standing"])])) (sRet (fCall F_with_amounts [] [none, none] (fCons (fOf PL.gTup (fCons (fOf PL.gTup (fCons (fC (.str "a")) (fCons (fC (.int 0)) fNil))) (fCons (fOf PL.gTup (fCons (fC (.str "b")) (fCons (fC (.int 0)) fNil))) fNil))) (fCons (fPl 8 [("deeds", ["Standing"])]) fNil)))) sPass) (sIf (tAndT (fT (fOp (g2 gNe) (fOp (g2 gIx) (fPl 8 [("deeds", ["Standing"])]) (fUn gNeg (fC (.int 1)))) (fOf PL.gTup (fCons (fC (.str "pay")) (fCons (fC (.bl true)) fNil))))) (fT (fInSt true (fD (fMethO "Standing" "mark" F_Standing_mark [] 8 [] fNil)) 4))) (sSeq (sAddSt 4 (fD (fMethO "Standing" "mark" F_Standing_mark [] 8 [] fNil))) (sApp 6 (fVar 8))) sPass)))) (sSet 5 (fFrz 6))))) (sRet (fC .non))))))))
def F_told_apart : Fn := fnF 2 7 g_told_apart
theorem fok_told_apart (S : Says K mg) {a : Addr} {fd : FuncData} (FD : FunD K d_told_apart.name d_told_apart.qual d_told_apart.params d_told_apart.body d_told_apart.scope (d_told_apart.dvs K) [] a fd) : FnOk P w K mg base CX0 6 a fd ["book", "other"] (spD K F_told_apart) := by
  have mak_Standing__init := kok_Standing__init (P := P) (w := w) (base := base) S
  have met_Standing_mark := mok_Standing_mark (P := P) (w := w) (base := base) S
  have met_Standing_priced := mok_Standing_priced (P := P) (w := w) (base := base) S
  have met_Standing_persons := mok_Standing_persons (P := P) (w := w) (base := base) S
  have dd_with_amounts := dok_with_amounts (P := P) (w := w) (base := base) S
  exact fn_ok0 (k := 5) FD sc_told_apart fun cdv A outer s H E hr => by
    unfold g_told_apart
    exact (ss_cons (s_set 2 sc_told_apart.nd (e_d (e_lst (a_cons (e_var 0) (a_cons (e_var 1) a_nil))))) (ss_cons (s_set 3 sc_told_apart.nd (e_d (e_make mak_Standing__init (hr.mono (by decide)) (fun _ => rpl_nil) (a_cons (e_tup (a_cons e_non (a_cons e_non a_nil))) (a_cons e_non (a_cons e_int (a_cons e_bl (a_cons (e_d (e_lst a_nil)) a_nil)))))))) (ss_cons (s_set 4 sc_told_apart.nd (e_set0 (m_free_set S))) (ss_cons (s_addSt 4 hr (e_d (e_methO0 3 met_Standing_mark (hr.mono (by decide)) (fun _ => rpl_nil)))) (ss_cons (s_set 5 sc_told_apart.nd (e_d (e_lst (a_cons (e_var 3) a_nil)))) (ss_cons (s_while 1000 PassesOwn.never (t_neX hr (e_var 5) (e_d (e_lst a_nil))) (ss_cons (s_set 6 sc_told_apart.nd (e_lst a_nil)) (ss_cons (s_for PassesOwn.never rfl (i_any (e_var 5)) (g_name 7 sc_told_apart.nd) (ss_one (s_for PassesOwn.never rfl (i_any (e_d (e_lstS (as_star (e_d (e_methO 7 met_Standing_persons (hr.mono (by decide)) (fun _ => rpl_nil) (a_cons (e_var 2) a_nil))) (as_star (e_d (e_methO0 7 met_Standing_priced (hr.mono (by decide)) (fun _ => rpl_nil))) as_nil))))) (g_name 8 sc_told_apart.nd) (ss_cons (s_if (t_v (e_pl (pl_cons (pl_nil 8) (m_fk_is_apart S)))) (ss_one (s_ret (e_call dd_with_amounts (hr.mono (by decide)) (fun _ => rpl_nil) (a_cons (e_tup (a_cons (e_tup (a_cons (e_globS (m_str_ITEM S)) (a_cons e_int a_nil))) (a_cons (e_tup (a_cons (e_globS (m_str_OTHER S)) (a_cons e_int a_nil))) a_nil))) (a_cons (e_pl (pl_cons (pl_nil 8) (m_fk_deeds S))) a_nil))))) ss_nil) (ss_one (s_if (t_w (w_and (t_ne hr (e_ix (e_pl (pl_cons (pl_nil 8) (m_fk_deeds S))) (e_neg e_int)) (e_tup (a_cons e_str (a_cons e_bl a_nil)))) (w_one (t_ninSt 4 hr (e_d (e_methO0 8 met_Standing_mark (hr.mono (by decide)) (fun _ => rpl_nil)))) (.inl rfl)))) (ss_cons (s_addSt 4 hr (e_d (e_methO0 8 met_Standing_mark (hr.mono (by decide)) (fun _ => rpl_nil)))) (ss_one (s_app 6 (e_var 8)))) ss_nil)))))) (ss_one (s_set 5 sc_told_apart.nd (e_frz 6)))))) (ss_one (s_ret e_non))))))))
theorem dok_told_apart (S : Says K mg) : DefOk P w K mg base 6 "told_apart" 2 [] F_told_apart := by
  obtain ⟨fd, FD⟩ := S.c.def_ 22 (d := d_told_apart) rfl
  exact ⟨_, fd, ["book", "other"], [], m_glo_told_apart S, FD.kp, FD.bindsN (fun _ _ _ _ _ _ us hl => match us, hl with | [_, _], _ => rfl), .nil, fok_told_apart S FD⟩

def g_law_right : Sv := (sSeq (sSet 1 (fD (fCall F_law_rules [] [some 0, none] (fIo 0 (fCons (fC (.int 3)) fNil))))) (sSeq (sSet 2 (fD (fCall F_law_dip [] [some 0, none] (fIo 0 (fCons (fC (.int 6)) fNil))))) (sSeq (sFrz 3 (sSet 3 (fLc [14] (lRng (fCons (fOf (PL.g1 gLen) (fCons (fOp (g2 gIx) (fVar 1) (fVar 2)) fNil)) fNil)) (gNm 14) tTrue (fOp (g2 gIx) (fOp (g2 gIx) (fVar 1) (fVar 2)) (fVar 14))))) (sSeq (sSet 4 (fD (fCall F_law_dip [] [some 0, none] (fIo 0 (fCons (fOp (g2m gAdd) (fOf (PL.g1 gLen) (fCons (fVar 3) fNil)) (fC (.int 1))) fNil))))) (sSeq (sSet 5 (fD (fOf gLst (fCons (fOf PL.gTup (fCons (fOf PL.gTup (fCons (fC (.str "take")) fNil)) (fCons (fOf PL.gTup (fCons (fC (.str "take")) (fCons (fC (.str "take")) fNil))) fNil))) (fCons (fOf PL.gTup (fCons (fOf PL.gTup (fCons (fC (.str "show")) fNil)) (fCons (fOf PL.gTup (fCons (fC (.str "show")) (fCons (fC (.str "ask")) fNil))) fNil))) (fCons (fOf PL.gTup (fCons (fOf PL.gTup (fCons (fC (.str "show")) fNil)) (fCons (fOf PL.gTup (fCons (fC (.str "show")) (fCons (fC (.str "last")) fNil))) fNil))) fNil)))))) (sSeq (sSet 5 (fD (fOp (g2m gAdd) (fVar 5) (fD (fOf gLst (fCons (fOf PL.gTup (fCons (fOf PL.gTup (fCons (fC (.str "take")) fNil)) (fCons (fOf PL.gTup (fCons (fC (.str "take")) (fCons (fC (.str "least")) fNil))) fNil))) (fCons (fOf PL.gTup (fCons (fOf PL.gTup (fCons (fC (.str "last")) fNil)) (fCons (fOf PL.gTup (fCons (fC (.str "last")) (fCons (fC (.str "last")) fNil))) fNil))) (fCons (fOf PL.gTup (fCons (fOf PL.gTup (fCons (fC (.str "least")) fNil)) (fCons (fOf PL.gTup (fCons (fC (.str "least")) (fCons (fC (.str "least")) fNil))) fNil))) fNil)))))))) (sSeq (sSet 5 (fD (fOp (g2m gAdd) (fVar 5) (fD (fOf gLst (fCons (fOf PL.gTup (fCons (fOf PL.gTup (fCons (fC (.str "ask")) fNil)) (fCons (fOf PL.gTup (fCons (fC (.str "ask")) (fCons (fC (.str "ask")) fNil))) fNil))) (fCons (fOf PL.gTup (fCons (fOf PL.gTup (fCons (fC (.str "ask")) fNil)) (fCons (fOf PL.gTup (fCons (fC (.str "ask")) (fCons (fC (.str "last")) fNil))) fNil))) (fCons (fOf PL.gTup (fCons (fOf PL.gTup (fCons (fC (.str "show")) fNil)) (fCons (fOf PL.gTup (fCons (fC (.str "show")) (fCons (fC (.str "show")) fNil))) fNil))) fNil)))))))) (sSeq (sAsg (fOp (g2 gIx) (fVar 5) (fD (fCall F_law_dip [] [some 0, none] (fIo 0 (fCons (fC (.int 9)) fNil))))) (gTu 2 (PL.gCons (gNm 6) (PL.gCons (gNm 7) gsNil)))) (sSeq (sSet 8 (fOf gLst fNil)) (sSeq (sFor (lAny (fOf PL.gTup (fCons (fVar 6) (fCons (fVar 7) fNil)))) (gNm 9) (sSeq (sSet 13 (fD (fOp (g2m gAdd) (fD (fOp (g2m gAdd) (fOf (g1m gTupOf) (fCons (fD (fSl (fVar 3) oNone (oSome (fVar 4)))) fNil)) (fVar 9))) (fOf (g1m gTupOf) (fCons (fD (fSl (fVar 3) (oSome (fVar 4)) oNone)) fNil))))) (sApp 8 (fD (fOp (g2m gAdd) (fD (fOp (g2m gAdd) (fD (fSl (fVar 1) oNone (oSome (fVar 2)))) (fOf PL.gTup (fCons (fVar 13) fNil)))) (fD (fSl (fVar 1) (oSome (fOp (g2m gAdd) (fVar 2) (fC (.int 1)))) oNone))))))) (sSeq (sIf (fT (fOp (g2 (gIsN false)) (fD (fCall F_told_apart [] [none, none] (fCons (fD (fCall F_law_book [] [none] (fCons (fIxO 8 (fC (.int 0))) fNil))) (fCons (fD (fCall F_law_book [] [none] (fCons (fIxO 8 (fC (.int 1))) fNil))) fNil)))) (fC .non))) (sRet (fC (.bl false))) sPass) (sSeq (sSet 10 (fD (fCall F_told_apart [] [none, none] (fCons (fD (fMake "Book" F_Book__init [.tup [], .tup [], .tup [], .tup [], .tup []] [none] (fCons (fOf PL.gTup (fCons (fC (.str "show")) fNil)) fNil))) (fCons (fD (fMake "Book" F_Book__init [.tup [], .tup [], .tup [], .tup [], .tup []] [none] (fCons (fOf PL.gTup (fCons (fC (.str "ask")) fNil)) fNil))) fNil))))) (sSeq (sIf (tOrT (fT (fOp (g2 (gIsN true)) (fVar 10) (fC .non))) (fT (fOp (g2 gNe) (fOf (PL.g1 gLen) (fCons (fOp (g2 gIx) (fVar 10) (fC (.int 1))) fNil)) (fC (.int 1))))) (sRet (fC (.bl false))) sPass) (sSeq (sIf (fT (fOp (g2 (gIsN true)) (fD (fCall F_told_apart [] [none, none] (fCons (fD (fMake "Book" F_Book__init [.tup [], .tup [], .tup [], .tup [], .tup []] [none] (fCons (fOf PL.gTup (fCons (fC (.str "show")) fNil)) fNil))) (fCons (fD (fMake "Book" F_Book__init [.tup [], .tup [], .tup [], .tup [], .tup [], .tup []] [] fNil)) fNil)))) (fC .non))) (sRet (fC (.bl false))) sPass) (sSeq (sSet 11 (fOf PL.gTup (fCons (fC (.str "show")) fNil))) (sSeq (sFrz 12 (sSet 12 (fLc [15] (lAny (fOf PL.gTup (fCons (fOf PL.gTup (fCons (fC (.str "ask")) (fCons (fC (.str "take")) fNil))) (fCons (fOf PL.gTup (fCons (fC (.str "take")) fNil)) fNil)))) (gNm 15) tTrue (fD (fMake "Book" F_Book__init [] [none, none, none, none, none, none] (fCons (fVar 11) (fCons (fVar 11) (fCons (fVar 11) (fCons (fVar 11) (fCons (fVar 15) (fCons (fVar 11) fNil))))))))))) (sSeq (sSet 10 (fD (fCall F_told_apart [] [none, none] (fCons (fOp (g2 gIx) (fVar 12) (fC (.int 0))) (fCons (fOp (g2 gIx) (fVar 12) (fC (.int 1))) fNil))))) (sSeq (sIf (tOrT (fT (fOp (g2 (gIsN true)) (fVar 10) (fC .non))) (fT (fOp (g2 gNe) (fOf (PL.g1 gLen) (fCons (fOp (g2 gIx) (fVar 10) (fC (.int 1))) fNil)) (fC (.int 5))))) (sRet (fC (.bl false))) sPass) (sRet (fAnd (fOp (g2 gEq) (fOp (g2 gIx) (fOp (g2 gIx) (fOp (g2 gIx) (fVar 10) (fC (.int 1))) (fC (.int 3))) (fC (.int 0))) (fC (.str "put"))) (fOp (g2 gNe) (fOp (g2 gIx) (fOp (g2 gIx) (fVar 10) (fC (.int 1))) (fC (.int 3))) (fOp (g2 gIx) (fOp (g2 gIx) (fVar 10) (fC (.int 1))) (fC (.int 0))))))))))))))))))))))))
def F_law_right : Fn := fnF 1 15 g_law_right
theorem fok_law_right (S : Says K mg) {a : Addr} {fd : FuncData} (FD : FunD K d_law_right.name d_law_right.qual d_law_right.params d_law_right.body d_law_right.scope (d_law_right.dvs K) [] a fd) : FnOk P w K mg base CX0 7 a fd ["pot"] (spD K F_law_right) := by
  have dd_law_rules := dok_law_rules (P := P) (w := w) (base := base) S
  have dd_law_dip := dok_law_dip (P := P) (w := w) (base := base) S
  have dd_law_book := dok_law_book (P := P) (w := w) (base := base) S
  have dd_told_apart := dok_told_apart (P := P) (w := w) (base := base) S
  have makq_Book__init := kqok_Book__init (P := P) (w := w) (base := base) S
  have mak0d_Book__init := k0ok_Book__init (P := P) (w := w) (base := base) S
  have mak_Book__init := kok_Book__init (P := P) (w := w) (base := base) S
  exact fn_ok0 (k := 6) FD sc_law_right fun cdv A outer s H E hr => by
    unfold g_law_right
    exact (ss_cons (s_set 1 sc_law_right.nd (e_d (e_call dd_law_rules (hr.mono (by decide)) (fun _ => rpl_nil) (a_io 0 (a_cons e_int a_nil))))) (ss_cons (s_set 2 sc_law_right.nd (e_d (e_call dd_law_dip (hr.mono (by decide)) (fun _ => rpl_nil) (a_io 0 (a_cons e_int a_nil))))) (ss_cons (s_frz 3 (s_setLc 3 (own := [("k", 14)]) rfl sc_law_right.nd (i_rng1 (m_free_range S) (a_cons (e_len (m_free_len S) (a_cons (e_ix (e_var 1) (e_var 2)) a_nil)) a_nil)) (blkOk_by (own := [("k", 14)]) (N := N_law_right) (sc := defScope s_law_right) (by decide +kernel)) (by decide) (fun _ _ _ _ _ => (g_name 14 sc_law_right.nd)) (fun _ _ _ _ _ => ts_nil) (fun _ _ _ _ _ => (e_ix (e_ix (e_var 1) (e_var 2)) (e_var 14))) (sw_true rfl rfl rfl (by decide +kernel)))) (ss_cons (s_set 4 sc_law_right.nd (e_d (e_call dd_law_dip (hr.mono (by decide)) (fun _ => rpl_nil) (a_io 0 (a_cons (e_add (e_len (m_free_len S) (a_cons (e_var 3) a_nil)) e_int) a_nil))))) (ss_cons (s_set 5 sc_law_right.nd (e_d (e_lst (a_cons (e_tup (a_cons (e_tup (a_cons e_str a_nil)) (a_cons (e_tup (a_cons e_str (a_cons e_str a_nil))) a_nil))) (a_cons (e_tup (a_cons (e_tup (a_cons e_str a_nil)) (a_cons (e_tup (a_cons e_str (a_cons e_str a_nil))) a_nil))) (a_cons (e_tup (a_cons (e_tup (a_cons e_str a_nil)) (a_cons (e_tup (a_cons e_str (a_cons e_str a_nil))) a_nil))) a_nil)))))) (ss_cons (s_set 5 sc_law_right.nd (e_d (e_add (e_var 5) (e_d (e_lst (a_cons (e_tup (a_cons (e_tup (a_cons e_str a_nil)) (a_cons (e_tup (a_cons e_str (a_cons e_str a_nil))) a_nil))) (a_cons (e_tup (a_cons (e_tup (a_cons e_str a_nil)) (a_cons (e_tup (a_cons e_str (a_cons e_str a_nil))) a_nil))) (a_cons (e_tup (a_cons (e_tup (a_cons e_str a_nil)) (a_cons (e_tup (a_cons e_str (a_cons e_str a_nil))) a_nil))) a_nil)))))))) (ss_cons (s_set 5 sc_law_right.nd (e_d (e_add (e_var 5) (e_d (e_lst (a_cons (e_tup (a_cons (e_tup (a_cons e_str a_nil)) (a_cons (e_tup (a_cons e_str (a_cons e_str a_nil))) a_nil))) (a_cons (e_tup (a_cons (e_tup (a_cons e_str a_nil)) (a_cons (e_tup (a_cons e_str (a_cons e_str a_nil))) a_nil))) (a_cons (e_tup (a_cons (e_tup (a_cons e_str a_nil)) (a_cons (e_tup (a_cons e_str (a_cons e_str a_nil))) a_nil))) a_nil)))))))) (ss_cons (s_asg (e_ix (e_var 5) (e_d (e_call dd_law_dip (hr.mono (by decide)) (fun _ => rpl_nil) (a_io 0 (a_cons e_int a_nil))))) (g_tup rfl (gs_cons (g_name 6 sc_law_right.nd) (gs_cons (g_name 7 sc_law_right.nd) gs_nil)))) (ss_cons (s_set 8 sc_law_right.nd (e_lst a_nil)) (ss_cons (s_for PassesOwn.never rfl (i_any (e_tup (a_cons (e_var 6) (a_cons (e_var 7) a_nil)))) (g_name 9 sc_law_right.nd) (ss_cons (s_set 13 sc_law_right.nd (e_d (e_add (e_d (e_add (e_tupOf (m_free_tuple S) (a_cons (e_d (e_sl (e_var 3) o_none (o_some (e_var 4)))) a_nil)) (e_var 9))) (e_tupOf (m_free_tuple S) (a_cons (e_d (e_sl (e_var 3) (o_some (e_var 4)) o_none)) a_nil))))) (ss_one (s_app 8 (e_d (e_add (e_d (e_add (e_d (e_sl (e_var 1) o_none (o_some (e_var 2)))) (e_tup (a_cons (e_var 13) a_nil)))) (e_d (e_sl (e_var 1) (o_some (e_add (e_var 2) e_int)) o_none)))))))) (ss_cons (s_if (t_notN (e_d (e_call dd_told_apart (hr.mono (by decide)) (fun _ => rpl_nil) (a_cons (e_d (e_call dd_law_book (hr.mono (by decide)) (fun _ => rpl_nil) (a_cons (e_ixO 8 e_int) a_nil))) (a_cons (e_d (e_call dd_law_book (hr.mono (by decide)) (fun _ => rpl_nil) (a_cons (e_ixO 8 e_int) a_nil))) a_nil)))) e_non) (ss_one (s_ret e_bl)) ss_nil) (ss_cons (s_set 10 sc_law_right.nd (e_d (e_call dd_told_apart (hr.mono (by decide)) (fun _ => rpl_nil) (a_cons (e_d (e_makeQ (dds := [.tup [], .tup [], .tup [], .tup [], .tup []]) makq_Book__init (hr.mono (by decide)) (fun G => RpL.drop 1 ((m_dfl_Book_init S) G)) (e_tup (a_cons e_str a_nil)))) (a_cons (e_d (e_makeQ (dds := [.tup [], .tup [], .tup [], .tup [], .tup []]) makq_Book__init (hr.mono (by decide)) (fun G => RpL.drop 1 ((m_dfl_Book_init S) G)) (e_tup (a_cons e_str a_nil)))) a_nil))))) (ss_cons (s_if (t_w (w_or (t_isN (e_var 10) e_non) (w_one (t_ne hr (e_len (m_free_len S) (a_cons (e_ix (e_var 10) e_int) a_nil)) e_int) (.inr rfl)))) (ss_one (s_ret e_bl)) ss_nil) (ss_cons (s_if (t_isN (e_d (e_call dd_told_apart (hr.mono (by decide)) (fun _ => rpl_nil) (a_cons (e_d (e_makeQ (dds := [.tup [], .tup [], .tup [], .tup [], .tup []]) makq_Book__init (hr.mono (by decide)) (fun G => RpL.drop 1 ((m_dfl_Book_init S) G)) (e_tup (a_cons e_str a_nil)))) (a_cons (e_d (e_make0 (dds := [.tup [], .tup [], .tup [], .tup [], .tup [], .tup []]) mak0d_Book__init (hr.mono (by decide)) (m_dfl_Book_init S))) a_nil)))) e_non) (ss_one (s_ret e_bl)) ss_nil) (ss_cons (s_set 11 sc_law_right.nd (e_tup (a_cons e_str a_nil))) (ss_cons (s_frz 12 (s_setLc 12 (own := [("pay", 15)]) rfl sc_law_right.nd (i_any (e_tup (a_cons (e_tup (a_cons e_str (a_cons e_str a_nil))) (a_cons (e_tup (a_cons e_str a_nil)) a_nil)))) (blkOk_by (own := [("pay", 15)]) (N := N_law_right) (sc := defScope s_law_right) (by decide +kernel)) (by decide) (fun _ _ _ _ _ => (g_name 15 sc_law_right.nd)) (fun _ _ _ _ _ => ts_nil) (fun _ _ _ _ _ => (e_d (e_make mak_Book__init (hr.mono (by decide)) (fun _ => rpl_nil) (a_cons (e_var 11) (a_cons (e_var 11) (a_cons (e_var 11) (a_cons (e_var 11) (a_cons (e_var 15) (a_cons (e_var 11) a_nil))))))))) (sw_true rfl rfl rfl (by decide +kernel)))) (ss_cons (s_set 10 sc_law_right.nd (e_d (e_call dd_told_apart (hr.mono (by decide)) (fun _ => rpl_nil) (a_cons (e_ix (e_var 12) e_int) (a_cons (e_ix (e_var 12) e_int) a_nil))))) (ss_cons (s_if (t_w (w_or (t_isN (e_var 10) e_non) (w_one (t_ne hr (e_len (m_free_len S) (a_cons (e_ix (e_var 10) e_int) a_nil)) e_int) (.inr rfl)))) (ss_one (s_ret e_bl)) ss_nil) (ss_one (s_ret (e_and (e_eq hr (e_ix (e_ix (e_ix (e_var 10) e_int) e_int) e_int) e_str) (e_one (e_ne hr (e_ix (e_ix (e_var 10) e_int) e_int) (e_ix (e_ix (e_var 10) e_int) e_int))))))))))))))))))))))))
theorem dok_law_right (S : Says K mg) : DefOk P w K mg base 7 "_law_right" 1 [] F_law_right := by
  obtain ⟨fd, FD⟩ := S.c.def_ 23 (d := d_law_right) rfl
  exact ⟨_, fd, ["pot"], [], m_glo_law_right S, FD.kp, FD.bindsN (fun _ _ _ _ _ _ us hl => match us, hl with | [_], _ => rfl), .nil, fok_law_right S FD⟩

def g_law : Sv := (sSeq (sFor (lRng (fCons (fOf (g22 gMax) (fCons (fC (.int 1)) (fCons (fOf (g22 gMin) (fCons (fC (.int 8)) (fCons (fOf (PL.g1 gLen) (fCons (fVar 0) fNil)) fNil))) fNil))) fNil)) (gNm 1) (sSeq (sSet 2 (fCall F_law_pot [] [none, none] (fCons (fVar 0) (fCons (fVar 1) fNil)))) (sFor (lRng (fCons (fC (.int 3)) fNil)) (gNm 3) (sIf (tNotT (fT (fD (fCall F_law_right [] [some 2] (fIo 2 fNil))))) (sRet (fC (.bl false))) sPass)))) (sRet (fC (.bl true))))
def F_law : Fn := fnF 1 3 g_law
theorem fok_law (S : Says K mg) {a : Addr} {fd : FuncData} (FD : FunD K d_law.name d_law.qual d_law.params d_law.body d_law.scope (d_law.dvs K) [] a fd) : FnOk P w K mg base CX0 8 a fd ["script"] (spD K F_law) := by
  have dd_law_pot := dok_law_pot (P := P) (w := w) (base := base) S
  have dd_law_right := dok_law_right (P := P) (w := w) (base := base) S
  exact fn_ok0 (k := 7) FD sc_law fun cdv A outer s H E hr => by
    unfold g_law
    exact (ss_cons (s_for PassesOwn.never rfl (i_rng1 (m_free_range S) (a_cons (e_max rfl (m_free_max S) (a_cons e_int (a_cons (e_min rfl (m_free_min S) (a_cons e_int (a_cons (e_len (m_free_len S) (a_cons (e_var 0) a_nil)) a_nil))) a_nil))) a_nil)) (g_name 1 sc_law.nd) (ss_cons (s_set 2 sc_law.nd (e_call dd_law_pot (hr.mono (by decide)) (fun _ => rpl_nil) (a_cons (e_var 0) (a_cons (e_var 1) a_nil)))) (ss_one (s_for PassesOwn.never rfl (i_rng1 (m_free_range S) (a_cons e_int a_nil)) (g_name 3 sc_law.nd) (ss_one (s_if (t_not (t_v (e_d (e_call dd_law_right (hr.mono (by decide)) (fun _ => rpl_nil) (a_io 2 a_nil))))) (ss_one (s_ret e_bl)) ss_nil)))))) (ss_one (s_ret e_bl)))
theorem dok_law (S : Says K mg) : DefOk P w K mg base 8 "law" 1 [] F_law := by
  obtain ⟨fd, FD⟩ := S.c.def_ 24 (d := d_law) rfl
  exact ⟨_, fd, ["script"], [], m_glo_law S, FD.kp, FD.bindsN (fun _ _ _ _ _ _ us hl => match us, hl with | [_], _ => rfl), .nil, fok_law S FD⟩
end
end Lw

set_option exponentiation.threshold 100000
namespace Lw
open PySem PySem.Spec PyProof.Rows L2 PL
theorem isDd (x : D) : (M.d x).isD = true := rfl
theorem isDl (x : List M) : (M.lst x).isD = false := rfl
theorem isDo (C : Str) (ns : List Str) (x : List M) : (M.obj C ns x).isD = false := rfl
theorem isDk (ks : List Key) (x : List M) : (M.dic ks x).isD = false := rfl
theorem isDb (a : Addr) (as : List Addr) (x : List M) : (M.box a as x).isD = false := rfl
theorem bq {α : Type} [BEq α] [LawfulBEq α] [DecidableEq α] (a b : α) : (a == b) = decide (a = b) := by
  by_cases h : a = b
  · subst h; simp
  · simp [h]
theorem gEq_ss (a b : Str) (ha : PyData.strOk a = true) (hb : PyData.strOk b = true) : gEq (.str a) (.str b) = some (.bl (decide (a = b))) := by
  simp [gEq, gNe, gCmp, D.py, SeqAt.shaped, PyData.eqv, PyData.canLay0, PyData.depth, bq, *]
theorem gNe_ss (a b : Str) (ha : PyData.strOk a = true) (hb : PyData.strOk b = true) : gNe (.str a) (.str b) = some (.bl (!decide (a = b))) := by
  simp [gEq, gNe, gCmp, D.py, SeqAt.shaped, PyData.eqv, PyData.canLay0, PyData.depth, bq, *]
theorem gEq_ii (a b : Int) : gEq (.int a) (.int b) = some (.bl (decide (a = b))) := by
  simp [gEq, gNe, gCmp, D.py, SeqAt.shaped, PyData.eqv, PyData.canLay0, PyData.depth, bq, *]
theorem gNe_ii (a b : Int) : gNe (.int a) (.int b) = some (.bl (!decide (a = b))) := by
  simp [gEq, gNe, gCmp, D.py, SeqAt.shaped, PyData.eqv, PyData.canLay0, PyData.depth, bq, *]
theorem ok_take : PyData.strOk (Str.ofString "take") = true := by decide +kernel
theorem ok_least : PyData.strOk (Str.ofString "least") = true := by decide +kernel
theorem ok_last : PyData.strOk (Str.ofString "last") = true := by decide +kernel
theorem ok_show : PyData.strOk (Str.ofString "show") = true := by decide +kernel
theorem ok_ask : PyData.strOk (Str.ofString "ask") = true := by decide +kernel
theorem ok_put : PyData.strOk (Str.ofString "put") = true := by decide +kernel
theorem ok_look : PyData.strOk (Str.ofString "look") = true := by decide +kernel
theorem ok_alter : PyData.strOk (Str.ofString "alter") = true := by decide +kernel
theorem ok_back : PyData.strOk (Str.ofString "back") = true := by decide +kernel
theorem ok_pay : PyData.strOk (Str.ofString "pay") = true := by decide +kernel
theorem ok_price : PyData.strOk (Str.ofString "price") = true := by decide +kernel
theorem ok_again : PyData.strOk (Str.ofString "again") = true := by decide +kernel
def lwNs : List Str := ["stays", "seen", "told", "times"]
def oD : Option Int → D
  | none => .non
  | some i => .int i
structure LWk where
  stays : Int
  seen : Option Int
  told : List Int
  times : Int
def LWk.m (w : LWk) : M := .obj "LineWork" lwNs [.d (.int w.stays), .d (oD w.seen), .lst (w.told.map fun i => .d (.int i)), .d (.int w.times)]
def actP (now : Int) (w : LWk) (a : Str) : LWk :=
  if a = "take" then { w with stays := now }
  else if a = "least" then { w with stays := if now < w.stays then now else w.stays }
  else if a = "last" then { w with stays := w.seen.getD w.stays }
  else if a = "show" ∨ w.seen ≠ some w.stays then { stays := w.stays, seen := some w.stays, told := w.told ++ [w.stays], times := if a = "ask" then w.times + 1 else w.times }
  else w
theorem p_lw (w : LWk) (a : Str) (now : Int) (ha : PyData.strOk a = true) (h : w.told.length < 1000000) : F_LineWork_carry_out [w.m, .d (.str a), .d (.int now)] = some (.d .non, [(actP now w a).m]) := by
  obtain ⟨s, z, ts, t⟩ := w
  simp only at h
  unfold actP
  by_cases h1 : a = "take"
  · subst h1
    simp (config := {decide := true}) [F_LineWork_carry_out, g_LineWork_carry_out, fnF, sRet, sRetN, sSeq, sIf, sSet, sPass, sFrz, sDrop, fT, fOp, fVar, fC, fMov, fFrz, fD, startE, M.isD, M.toD, M.toDs, M.toB, fIxO, isO, sIxO, atI, ixN, g2, g2m, fOf, PL.g1, g1m, g22, fCons, fNil, fIo, fCall, PL.fill, putb, M.argOf, M.hole, ownS, fin, finals, tNotT, tAndT, tOrT, fAnd, fOr, fNot, fIf, fChain, fPl, getP, setP, M.cell, M.setCell, M.sub, M.fld, fldI, sPut, M.setF, M.put, sAug, gPut, gTu, PL.gCons, gsNil, sAsg, sPar, fMethO, fMeth, fMake, appF, fLenO, sAppP, sApp, fLc, lcL, wipeB, tTrue, lAny, lRng, gNm, sFor, forL, PL.gLst, PL.gTup, M.datas, fUnD, fMethK, fMake2, fProp, sExt, fPopP, gC, gInt, gInt0, gMod, gDiv, PL.gSub, gAdd, gMul, gLt, gLe, gGt, gGe, gToInt, gAbs, gMax, gMin, gLen, gIsN, gTupOf, gLstOf, bF, tPeek, fPeek, gEq_ss, gNe_ss, gEq_ii, gNe_ii, ok_take, ok_least, ok_last, ok_show, ok_ask, ok_put, ok_look, ok_alter, ok_back, ok_pay, ok_price, ok_again, gEq_ss, LWk.m, lwNs]
  by_cases h2 : a = "least"
  · subst h2
    simp (config := {decide := true}) [F_LineWork_carry_out, g_LineWork_carry_out, fnF, sRet, sRetN, sSeq, sIf, sSet, sPass, sFrz, sDrop, fT, fOp, fVar, fC, fMov, fFrz, fD, startE, M.isD, M.toD, M.toDs, M.toB, fIxO, isO, sIxO, atI, ixN, g2, g2m, fOf, PL.g1, g1m, g22, fCons, fNil, fIo, fCall, PL.fill, putb, M.argOf, M.hole, ownS, fin, finals, tNotT, tAndT, tOrT, fAnd, fOr, fNot, fIf, fChain, fPl, getP, setP, M.cell, M.setCell, M.sub, M.fld, fldI, sPut, M.setF, M.put, sAug, gPut, gTu, PL.gCons, gsNil, sAsg, sPar, fMethO, fMeth, fMake, appF, fLenO, sAppP, sApp, fLc, lcL, wipeB, tTrue, lAny, lRng, gNm, sFor, forL, PL.gLst, PL.gTup, M.datas, fUnD, fMethK, fMake2, fProp, sExt, fPopP, gC, gInt, gInt0, gMod, gDiv, PL.gSub, gAdd, gMul, gLt, gLe, gGt, gGe, gToInt, gAbs, gMax, gMin, gLen, gIsN, gTupOf, gLstOf, bF, tPeek, fPeek, gEq_ss, gNe_ss, gEq_ii, gNe_ii, ok_take, ok_least, ok_last, ok_show, ok_ask, ok_put, ok_look, ok_alter, ok_back, ok_pay, ok_price, ok_again, gEq_ss, LWk.m, lwNs]
  by_cases h3 : a = "last"
  · subst h3
    cases z <;> simp (config := {decide := true}) [F_LineWork_carry_out, g_LineWork_carry_out, fnF, sRet, sRetN, sSeq, sIf, sSet, sPass, sFrz, sDrop, fT, fOp, fVar, fC, fMov, fFrz, fD, startE, M.isD, M.toD, M.toDs, M.toB, fIxO, isO, sIxO, atI, ixN, g2, g2m, fOf, PL.g1, g1m, g22, fCons, fNil, fIo, fCall, PL.fill, putb, M.argOf, M.hole, ownS, fin, finals, tNotT, tAndT, tOrT, fAnd, fOr, fNot, fIf, fChain, fPl, getP, setP, M.cell, M.setCell, M.sub, M.fld, fldI, sPut, M.setF, M.put, sAug, gPut, gTu, PL.gCons, gsNil, sAsg, sPar, fMethO, fMeth, fMake, appF, fLenO, sAppP, sApp, fLc, lcL, wipeB, tTrue, lAny, lRng, gNm, sFor, forL, PL.gLst, PL.gTup, M.datas, fUnD, fMethK, fMake2, fProp, sExt, fPopP, gC, gInt, gInt0, gMod, gDiv, PL.gSub, gAdd, gMul, gLt, gLe, gGt, gGe, gToInt, gAbs, gMax, gMin, gLen, gIsN, gTupOf, gLstOf, bF, tPeek, fPeek, gEq_ss, gNe_ss, gEq_ii, gNe_ii, ok_take, ok_least, ok_last, ok_show, ok_ask, ok_put, ok_look, ok_alter, ok_back, ok_pay, ok_price, ok_again, gEq_ss, LWk.m, lwNs, oD]
  by_cases h4 : a = "show"
  · subst h4
    simp (config := {decide := true}) [F_LineWork_carry_out, g_LineWork_carry_out, fnF, sRet, sRetN, sSeq, sIf, sSet, sPass, sFrz, sDrop, fT, fOp, fVar, fC, fMov, fFrz, fD, startE, M.isD, M.toD, M.toDs, M.toB, fIxO, isO, sIxO, atI, ixN, g2, g2m, fOf, PL.g1, g1m, g22, fCons, fNil, fIo, fCall, PL.fill, putb, M.argOf, M.hole, ownS, fin, finals, tNotT, tAndT, tOrT, fAnd, fOr, fNot, fIf, fChain, fPl, getP, setP, M.cell, M.setCell, M.sub, M.fld, fldI, sPut, M.setF, M.put, sAug, gPut, gTu, PL.gCons, gsNil, sAsg, sPar, fMethO, fMeth, fMake, appF, fLenO, sAppP, sApp, fLc, lcL, wipeB, tTrue, lAny, lRng, gNm, sFor, forL, PL.gLst, PL.gTup, M.datas, fUnD, fMethK, fMake2, fProp, sExt, fPopP, gC, gInt, gInt0, gMod, gDiv, PL.gSub, gAdd, gMul, gLt, gLe, gGt, gGe, gToInt, gAbs, gMax, gMin, gLen, gIsN, gTupOf, gLstOf, bF, tPeek, fPeek, gEq_ss, gNe_ss, gEq_ii, gNe_ii, ok_take, ok_least, ok_last, ok_show, ok_ask, ok_put, ok_look, ok_alter, ok_back, ok_pay, ok_price, ok_again, gEq_ss, LWk.m, lwNs, oD, h]
  cases z with
  | none =>
    by_cases h5 : a = "ask" <;> simp (config := {decide := true}) [F_LineWork_carry_out, g_LineWork_carry_out, fnF, sRet, sRetN, sSeq, sIf, sSet, sPass, sFrz, sDrop, fT, fOp, fVar, fC, fMov, fFrz, fD, startE, M.isD, M.toD, M.toDs, M.toB, fIxO, isO, sIxO, atI, ixN, g2, g2m, fOf, PL.g1, g1m, g22, fCons, fNil, fIo, fCall, PL.fill, putb, M.argOf, M.hole, ownS, fin, finals, tNotT, tAndT, tOrT, fAnd, fOr, fNot, fIf, fChain, fPl, getP, setP, M.cell, M.setCell, M.sub, M.fld, fldI, sPut, M.setF, M.put, sAug, gPut, gTu, PL.gCons, gsNil, sAsg, sPar, fMethO, fMeth, fMake, appF, fLenO, sAppP, sApp, fLc, lcL, wipeB, tTrue, lAny, lRng, gNm, sFor, forL, PL.gLst, PL.gTup, M.datas, fUnD, fMethK, fMake2, fProp, sExt, fPopP, gC, gInt, gInt0, gMod, gDiv, PL.gSub, gAdd, gMul, gLt, gLe, gGt, gGe, gToInt, gAbs, gMax, gMin, gLen, gIsN, gTupOf, gLstOf, bF, tPeek, fPeek, gEq_ss, gNe_ss, gEq_ii, gNe_ii, ok_take, ok_least, ok_last, ok_show, ok_ask, ok_put, ok_look, ok_alter, ok_back, ok_pay, ok_price, ok_again, gEq_ss, LWk.m, lwNs, oD, h, ha, h1, h2, h3, h4, h5]
  | some z =>
    by_cases h6 : z = s
    · subst h6
      simp (config := {decide := true}) [F_LineWork_carry_out, g_LineWork_carry_out, fnF, sRet, sRetN, sSeq, sIf, sSet, sPass, sFrz, sDrop, fT, fOp, fVar, fC, fMov, fFrz, fD, startE, M.isD, M.toD, M.toDs, M.toB, fIxO, isO, sIxO, atI, ixN, g2, g2m, fOf, PL.g1, g1m, g22, fCons, fNil, fIo, fCall, PL.fill, putb, M.argOf, M.hole, ownS, fin, finals, tNotT, tAndT, tOrT, fAnd, fOr, fNot, fIf, fChain, fPl, getP, setP, M.cell, M.setCell, M.sub, M.fld, fldI, sPut, M.setF, M.put, sAug, gPut, gTu, PL.gCons, gsNil, sAsg, sPar, fMethO, fMeth, fMake, appF, fLenO, sAppP, sApp, fLc, lcL, wipeB, tTrue, lAny, lRng, gNm, sFor, forL, PL.gLst, PL.gTup, M.datas, fUnD, fMethK, fMake2, fProp, sExt, fPopP, gC, gInt, gInt0, gMod, gDiv, PL.gSub, gAdd, gMul, gLt, gLe, gGt, gGe, gToInt, gAbs, gMax, gMin, gLen, gIsN, gTupOf, gLstOf, bF, tPeek, fPeek, gEq_ss, gNe_ss, gEq_ii, gNe_ii, ok_take, ok_least, ok_last, ok_show, ok_ask, ok_put, ok_look, ok_alter, ok_back, ok_pay, ok_price, ok_again, gEq_ss, gNe_ii, LWk.m, lwNs, oD, h, ha, h1, h2, h3, h4]
    · by_cases h5 : a = "ask" <;> simp (config := {decide := true}) [F_LineWork_carry_out, g_LineWork_carry_out, fnF, sRet, sRetN, sSeq, sIf, sSet, sPass, sFrz, sDrop, fT, fOp, fVar, fC, fMov, fFrz, fD, startE, M.isD, M.toD, M.toDs, M.toB, fIxO, isO, sIxO, atI, ixN, g2, g2m, fOf, PL.g1, g1m, g22, fCons, fNil, fIo, fCall, PL.fill, putb, M.argOf, M.hole, ownS, fin, finals, tNotT, tAndT, tOrT, fAnd, fOr, fNot, fIf, fChain, fPl, getP, setP, M.cell, M.setCell, M.sub, M.fld, fldI, sPut, M.setF, M.put, sAug, gPut, gTu, PL.gCons, gsNil, sAsg, sPar, fMethO, fMeth, fMake, appF, fLenO, sAppP, sApp, fLc, lcL, wipeB, tTrue, lAny, lRng, gNm, sFor, forL, PL.gLst, PL.gTup, M.datas, fUnD, fMethK, fMake2, fProp, sExt, fPopP, gC, gInt, gInt0, gMod, gDiv, PL.gSub, gAdd, gMul, gLt, gLe, gGt, gGe, gToInt, gAbs, gMax, gMin, gLen, gIsN, gTupOf, gLstOf, bF, tPeek, fPeek, gEq_ss, gNe_ss, gEq_ii, gNe_ii, ok_take, ok_least, ok_last, ok_show, ok_ask, ok_put, ok_look, ok_alter, ok_back, ok_pay, ok_price, ok_again, gEq_ss, gNe_ii, LWk.m, lwNs, oD, h, ha, h1, h2, h3, h4, h5, h6]
def okS (a : Str) : Prop := PyData.strOk a = true
theorem actP_told (now : Int) (w : LWk) (a : Str) : (actP now w a).told.length ≤ w.told.length + 1 := by
  unfold actP
  split
  · simp
  split
  · simp
  split
  · simp
  split
  · simp
  · simp
theorem p_lw_loop (r k s : D) (now : Int) : ∀ (rule : List Str) (w : LWk) (x : B), (∀ a ∈ rule, okS a) → w.told.length + rule.length < 1000000 →
    ∃ x', forL (gNm 5) (sDrop (fMethO "LineWork" "carry_out" F_LineWork_carry_out [] 0 [none, none] (fCons (fVar 5) (fCons (fVar 4) fNil)))) (rule.map .str) [.o (some 0) w.m, .d r, .d k, .d s, .d (.int now), x]
      = some (.nx, [.o (some 0) (rule.foldl (actP now) w).m, .d r, .d k, .d s, .d (.int now), x'])
  | [], w, x, _, _ => ⟨x, rfl⟩
  | a :: rule, w, x, ha, hl => by
    have h1 := p_lw w a now (ha a (by simp)) (by simp at hl; omega)
    have h2 := actP_told now w a
    obtain ⟨x', h3⟩ := p_lw_loop r k s now rule (actP now w a) (.d (.str a)) (fun b hb => ha b (by simp [hb])) (by simp at hl; omega)
    refine ⟨x', ?_⟩
    simp only [List.map_cons, List.foldl_cons]
    rw [← h3]
    conv => lhs; unfold forL
    simp only [LWk.m, lwNs] at h1 ⊢
    simp (config := {decide := true}) [fnF, sRet, sRetN, sSeq, sIf, sSet, sPass, sFrz, sDrop, fT, fOp, fVar, fC, fMov, fFrz, fD, startE, M.isD, M.toD, M.toDs, M.toB, fIxO, isO, sIxO, atI, ixN, g2, g2m, fOf, PL.g1, g1m, g22, fCons, fNil, fIo, fCall, PL.fill, putb, M.argOf, M.hole, ownS, fin, finals, tNotT, tAndT, tOrT, fAnd, fOr, fNot, fIf, fChain, fPl, getP, setP, M.cell, M.setCell, M.sub, M.fld, fldI, sPut, M.setF, M.put, sAug, gPut, gTu, PL.gCons, gsNil, sAsg, sPar, fMethO, fMeth, fMake, appF, fLenO, sAppP, sApp, fLc, lcL, wipeB, tTrue, lAny, lRng, gNm, sFor, forL, PL.gLst, PL.gTup, M.datas, fUnD, fMethK, fMake2, fProp, sExt, fPopP, gC, gInt, gInt0, gMod, gDiv, PL.gSub, gAdd, gMul, gLt, gLe, gGt, gGe, gToInt, gAbs, gMax, gMin, gLen, gIsN, gTupOf, gLstOf, bF, tPeek, fPeek, gEq_ss, gNe_ss, gEq_ii, gNe_ii, ok_take, ok_least, ok_last, ok_show, ok_ask, ok_put, ok_look, ok_alter, ok_back, ok_pay, ok_price, ok_again, h1]
theorem p_lw_init (rule : List Str) (kept : Int) (sh : Option Int) (now : Int) (ha : ∀ a ∈ rule, okS a) (hl : rule.length < 1000) :
    F_LineWork__init [.obj "LineWork" [] [], .d (.tup (rule.map .str)), .d (.int kept), .d (oD sh), .d (.int now)] = some (.d .non, [(rule.foldl (actP now) ⟨kept, sh, [], 0⟩).m]) := by
  obtain ⟨x', h⟩ := p_lw_loop (.tup (rule.map .str)) (.int kept) (oD sh) now rule ⟨kept, sh, [], 0⟩ .no ha (by simp; omega)
  simp only [LWk.m, lwNs, List.map_nil] at h ⊢
  simp (config := {decide := true}) [F_LineWork__init, g_LineWork__init, fnF, sRet, sRetN, sSeq, sIf, sSet, sPass, sFrz, sDrop, fT, fOp, fVar, fC, fMov, fFrz, fD, startE, M.isD, M.toD, M.toDs, M.toB, fIxO, isO, sIxO, atI, ixN, g2, g2m, fOf, PL.g1, g1m, g22, fCons, fNil, fIo, fCall, PL.fill, putb, M.argOf, M.hole, ownS, fin, finals, tNotT, tAndT, tOrT, fAnd, fOr, fNot, fIf, fChain, fPl, getP, setP, M.cell, M.setCell, M.sub, M.fld, fldI, sPut, M.setF, M.put, sAug, gPut, gTu, PL.gCons, gsNil, sAsg, sPar, fMethO, fMeth, fMake, appF, fLenO, sAppP, sApp, fLc, wipeB, tTrue, lAny, lRng, gNm, PL.gLst, PL.gTup, M.datas, fUnD, fMethK, fMake2, fProp, sExt, fPopP, gC, gInt, gInt0, gMod, gDiv, PL.gSub, gAdd, gMul, gLt, gLe, gGt, gGe, gToInt, gAbs, gMax, gMin, gLen, gIsN, gTupOf, gLstOf, bF, tPeek, fPeek, gEq_ss, gNe_ss, gEq_ii, gNe_ii, ok_take, ok_least, ok_last, ok_show, ok_ask, ok_put, ok_look, ok_alter, ok_back, ok_pay, ok_price, ok_again, sFor, h]
def acts5 : List Str := ["take", "least", "last", "show", "ask"]
theorem acts5_ok : ∀ a ∈ acts5, okS a := by
  intro a ha
  simp [acts5] at ha
  rcases ha with rfl | rfl | rfl | rfl | rfl <;> (unfold okS; decide +kernel)
theorem strs_toDs : ∀ acts : List Str, M.toDs (acts.map fun a => M.d (.str a)) = acts.map .str
  | [] => rfl
  | a :: acts => by simp only [List.map_cons, M.toDs, M.toD, strs_toDs acts]
def ruleD (r : List Str) : D := .tup (r.map .str)
def RuleOk (r : List Str) : Prop := r.length ≤ 6 ∧ ∀ a ∈ r, a ∈ acts5
theorem RuleOk.strs {r : List Str} (h : RuleOk r) : ∀ a ∈ r, okS a := fun a ha => acts5_ok a (h.2 a ha)
theorem toDs_rules : ∀ rs : List (List Str), M.toDs (rs.map fun r => M.d (ruleD r)) = rs.map ruleD
  | [] => rfl
  | r :: rs => by simp only [List.map_cons, M.toDs, M.toD, toDs_rules rs]
theorem isrule_loop (d0 : D) : ∀ (r : List Str) (B1 : B), (∀ a ∈ r, a ∈ acts5) → lcL [1] (gNm 1) tTrue (fAnd (fOf (g22 gIsi) (fCons (fVar 1) (fCons (fC (.ty "str")) fNil))) (fOp (g2 (gIn false)) (fVar 1) (fC (.tup [.str "take", .str "least", .str "last", .str "show", .str "ask"])))) (r.map .str) [.d d0, .no]
      = some (r.map fun _ => M.d (.bl true), [.d d0, .no])
  | [], _, _ => rfl
  | a :: r, B1, h => by
    have ih := isrule_loop d0 r B1 fun b hb => h b (by simp [hb])
    have ha := h a (by simp)
    simp [acts5] at ha
    simp only [List.map_cons]
    unfold lcL
    rcases ha with rfl | rfl | rfl | rfl | rfl
    all_goals
      first
        | (rw [show (fAnd (fOf (g22 gIsi) (fCons (fVar 1) (fCons (fC (.ty "str")) fNil))) (fOp (g2 (gIn false)) (fVar 1) (fC (.tup [.str "take", .str "least", .str "last", .str "show", .str "ask"])))) = (fAnd (fOf (g22 gIsi) (fCons (fVar 1) (fCons (fC (.ty "str")) fNil))) (fOp (g2 (gIn false)) (fVar 1) (fC (.tup [.str "take", .str "least", .str "last", .str "show", .str "ask"])))) from rfl]
           simp (config := {decide := true}) [fnF, sRet, sRetN, sSeq, sIf, sSet, sPass, sFrz, sDrop, fT, fOp, fVar, fC, fMov, fFrz, fD, startE, M.toD, M.toDs, M.toB, fIxO, isO, sIxO, atI, ixN, g2, g2m, fOf, PL.g1, g1m, g22, fCons, fNil, fIo, fCall, PL.fill, putb, M.argOf, M.hole, ownS, fin, finals, tNotT, tAndT, tOrT, fAnd, fOr, fNot, fIf, fChain, fPl, getP, setP, M.cell, M.setCell, M.sub, M.fld, fldI, sPut, M.setF, M.put, sAug, gPut, gTu, PL.gCons, gsNil, sAsg, sPar, fMethO, fMeth, fMake, appF, fLenO, sAppP, sApp, fLc, wipeB, tTrue, lAny, lRng, gNm, PL.gLst, PL.gTup, M.datas, fUnD, fMethK, fMake2, fProp, sExt, fPopP, gC, gInt, gInt0, gMod, gDiv, PL.gSub, gAdd, gMul, gLt, gLe, gGt, gGe, gToInt, gAbs, gMax, gMin, gLen, gIsN, gTupOf, gLstOf, bF, tPeek, fPeek, gEq_ss, gNe_ss, gEq_ii, gNe_ii, ok_take, ok_least, ok_last, ok_show, ok_ask, ok_put, ok_look, ok_alter, ok_back, ok_pay, ok_price, ok_again, isDd, isDl, isDo, isDk, isDb, gIsi, tyN, isiB, gIn, D.flat, D.flats, D.items, inV, eqV, ih])
theorem bls_true (r : List Str) : D.bls (M.toDs (r.map fun _ => M.d (.bl true))) = some (r.map fun _ => true) := by
  induction r with
  | nil => rfl
  | cons a r ih => simp only [List.map_cons, M.toDs, M.toD, D.bls, ih]
theorem p_is_rule {r : List Str} (h : RuleOk r) : F_is_rule [.d (ruleD r)] = some (.d (.bl true), []) := by
  have h1 := isrule_loop (ruleD r) r .no h.2
  have h2 := h.1
  have h3 : ¬ (6 < (r.length : Int)) := by omega
  have h4 : r.length ≤ 1000000 := by omega
  have hb := bls_true r
  have ha : (r.map fun _ => true).all id = true := by simp
  unfold ruleD at h1 ⊢
  simp (config := {decide := true}) [F_is_rule, g_is_rule, fnF, sRet, sRetN, sSeq, sIf, sSet, sPass, sFrz, sDrop, fT, fOp, fVar, fC, fMov, fFrz, fD, startE, M.toD, M.toDs, M.toB, fIxO, isO, sIxO, atI, ixN, g2, g2m, fOf, PL.g1, g1m, g22, fCons, fNil, fIo, fCall, PL.fill, putb, M.argOf, M.hole, ownS, fin, finals, tNotT, tAndT, tOrT, fAnd, fOr, fNot, fIf, fChain, fPl, getP, setP, M.cell, M.setCell, M.sub, M.fld, fldI, sPut, M.setF, M.put, sAug, gPut, gTu, PL.gCons, gsNil, sAsg, sPar, fMethO, fMeth, fMake, appF, fLenO, sAppP, sApp, fLc, wipeB, tTrue, lAny, lRng, gNm, PL.gLst, PL.gTup, M.datas, fUnD, fMethK, fMake2, fProp, sExt, fPopP, gC, gInt, gInt0, gMod, gDiv, PL.gSub, gAdd, gMul, gLt, gLe, gGt, gGe, gToInt, gAbs, gMax, gMin, gLen, gIsN, gTupOf, gLstOf, bF, tPeek, fPeek, gEq_ss, gNe_ss, gEq_ii, gNe_ii, ok_take, ok_least, ok_last, ok_show, ok_ask, ok_put, ok_look, ok_alter, ok_back, ok_pay, ok_price, ok_again, isDd, isDl, isDo, isDk, isDb, gIsi, tyN, isiB, h1, h3, h4, gAll, hb, ha]
def bookD (rs : List (List Str)) : D := .obj "Book" ["row"] [.tup (rs.map ruleD)]
def bookM (rs : List (List Str)) : M := .obj "Book" ["row"] [.d (.tup (rs.map ruleD))]
theorem p_book (r1 r2 r3 r4 r5 r6 : List Str) (h : ∀ r ∈ [r1, r2, r3, r4, r5, r6], RuleOk r) :
    F_Book__init [.obj "Book" [] [], .d (ruleD r1), .d (ruleD r2), .d (ruleD r3), .d (ruleD r4), .d (ruleD r5), .d (ruleD r6)] = some (.d .non, [bookM [r1, r2, r3, r4, r5, r6]]) := by
  have h1 := p_is_rule (h r1 (by simp))
  have h2 := p_is_rule (h r2 (by simp))
  have h3 := p_is_rule (h r3 (by simp))
  have h4 := p_is_rule (h r4 (by simp))
  have h5 := p_is_rule (h r5 (by simp))
  have h6 := p_is_rule (h r6 (by simp))
  generalize e1 : ruleD r1 = x1 at *
  generalize e2 : ruleD r2 = x2 at *
  generalize e3 : ruleD r3 = x3 at *
  generalize e4 : ruleD r4 = x4 at *
  generalize e5 : ruleD r5 = x5 at *
  generalize e6 : ruleD r6 = x6 at *
  simp (config := {decide := true}) [F_Book__init, g_Book__init, bookM, e1, e2, e3, e4, e5, e6, fnF, sRet, sRetN, sSeq, sIf, sSet, sPass, sFrz, sDrop, fT, fOp, fVar, fC, fMov, fFrz, fD, startE, M.isD, M.toD, M.toDs, M.toB, fIxO, isO, sIxO, atI, ixN, g2, g2m, fOf, PL.g1, g1m, g22, fCons, fNil, fIo, fCall, PL.fill, putb, M.argOf, M.hole, ownS, fin, finals, tNotT, tAndT, tOrT, fAnd, fOr, fNot, fIf, fChain, fPl, getP, setP, M.cell, M.setCell, M.sub, M.fld, fldI, sPut, M.setF, M.put, sAug, gPut, gTu, PL.gCons, gsNil, sAsg, sPar, fMethO, fMeth, fMake, appF, fLenO, sAppP, sApp, fLc, lcL, wipeB, tTrue, lAny, lRng, gNm, sFor, forL, PL.gLst, PL.gTup, M.datas, fUnD, fMethK, fMake2, fProp, sExt, fPopP, gC, gInt, gInt0, gMod, gDiv, PL.gSub, gAdd, gMul, gLt, gLe, gGt, gGe, gToInt, gAbs, gMax, gMin, gLen, gIsN, gTupOf, gLstOf, bF, tPeek, fPeek, gEq_ss, gNe_ss, gEq_ii, gNe_ii, ok_take, ok_least, ok_last, ok_show, ok_ask, ok_put, ok_look, ok_alter, ok_back, ok_pay, ok_price, ok_again, lZip, zipD, h1, h2, h3, h4, h5, h6]
def doorIx (w : Str) : Nat := (tidx w ["put", "look", "alter", "back", "pay", "again"]).getD 0
theorem p_rule_at {rs : List (List Str)} (h : rs.length = 6) {w : Str} (hw : w ∈ (["put", "look", "alter", "back", "pay", "again"] : List Str)) :
    F_Book_rule [.d (bookD rs), .d (.str w)] = some (.d (ruleD (rs.getD (doorIx w) [])), []) := by
  obtain ⟨r1, r2, r3, r4, r5, r6, rfl⟩ : ∃ r1 r2 r3 r4 r5 r6, rs = [r1, r2, r3, r4, r5, r6] := by
    match rs, h with
    | [r1, r2, r3, r4, r5, r6], _ => exact ⟨r1, r2, r3, r4, r5, r6, rfl⟩
  simp only [List.mem_cons, List.not_mem_nil, or_false] at hw
  rcases hw with rfl | rfl | rfl | rfl | rfl | rfl <;> kernel_rfl

end Lw

set_option exponentiation.threshold 100000
namespace Lw
open PySem PySem.Spec PyProof.Rows L2 PL
/-! ### structure -/
theorem forL_nx {g : Gv} {body : Sv} {d : D} {ds : List D} {b b1 b2 : List B} {r : Option (PL.R × List B)} (h1 : g d b = some b1) (h2 : body b1 = some (.nx, b2)) (h3 : forL g body ds b2 = r) : forL g body (d :: ds) b = r := by
  unfold forL
  rw [h1]
  simp only [h2]
  exact h3
theorem forL_rt {g : Gv} {body : Sv} {d : D} {ds : List D} {b b1 b2 : List B} {m : M} (h1 : g d b = some b1) (h2 : body b1 = some (.rt m, b2)) : forL g body (d :: ds) b = some (.rt m, b2) := by
  unfold forL
  rw [h1]
  simp only [h2]
theorem forL_nil {g : Gv} {body : Sv} {b : List B} : forL g body [] b = some (.nx, b) := rfl
theorem sFor_ok {l : Lv} {g : Gv} {body : Sv} {b b1 : List B} {ds : List D} {r : Option (PL.R × List B)} (h1 : l b = some (ds, b1)) (h2 : forL g body ds b1 = r) : sFor l g body b = r := by
  unfold sFor
  rw [h1]
  exact h2
theorem fnF_rt {np nl : Nat} {g : Sv} {ms os : List M} {b : List B} {m : M} (h : ms.length = np) (hg : g (startE ms 0 ++ List.replicate nl .no) = some (.rt m, b)) (hf : finals ms 0 b = some os) : fnF np nl g ms = some (m, os) := by
  unfold fnF
  rw [if_pos h, hg]
  simp only [fin, hf]
theorem fnF_nx {np nl : Nat} {g : Sv} {ms os : List M} {b : List B} (h : ms.length = np) (hg : g (startE ms 0 ++ List.replicate nl .no) = some (.nx, b)) (hf : finals ms 0 b = some os) : fnF np nl g ms = some (.d .non, os) := by
  unfold fnF
  rw [if_pos h, hg]
  simp only [fin, hf]
theorem sSeq_nx {g1 g2 : Sv} {b b1 : List B} {r : Option (PL.R × List B)} (h1 : g1 b = some (.nx, b1)) (h2 : g2 b1 = r) : sSeq g1 g2 b = r := by
  unfold sSeq
  rw [h1]
  exact h2
theorem sSeq_rt {g1 g2 : Sv} {b b1 : List B} {m : M} (h1 : g1 b = some (.rt m, b1)) : sSeq g1 g2 b = some (.rt m, b1) := by
  unfold sSeq
  rw [h1]
theorem sRet_ok {f : Ev} {b b' : List B} {m : M} (h : f b = some (m, b')) : sRet f b = some (.rt m, b') := by
  unfold sRet
  rw [h]
theorem while_more {n : Nat} {t : Tv} {body : Sv} {b b1 b2 : List B} {r : Option (PL.R × List B)} (h1 : t b = some (true, b1)) (h2 : body b1 = some (.nx, b2)) (h3 : whileN n t body b2 = r) : whileN (n + 1) t body b = r := by
  unfold whileN
  rw [h1]
  simp only [h2]
  exact h3
theorem while_rt {n : Nat} {t : Tv} {body : Sv} {b b1 b2 : List B} {m : M} (h1 : t b = some (true, b1)) (h2 : body b1 = some (.rt m, b2)) : whileN (n + 1) t body b = some (.rt m, b2) := by
  unfold whileN
  rw [h1]
  simp only [h2]
theorem while_end {n : Nat} {t : Tv} {body : Sv} {b b1 : List B} (h1 : t b = some (false, b1)) : whileN (n + 1) t body b = some (.nx, b1) := by
  unfold whileN
  rw [h1]
/-- a comprehension that looks only -/
theorem lc_ok {i : Nat} {t : Tv} {elt : Ev} {b : List B} (hb : b[i]? = some .no) {k : D → Bool} {f : D → M} : ∀ ds : List D, (∀ d ∈ ds, t (b.set i (.d d)) = some (k d, b.set i (.d d)) ∧ (k d = true → elt (b.set i (.d d)) = some (f d, b.set i (.d d)))) →
    lcL [i] (gNm i) t elt ds b = some ((ds.filter k).map f, b)
  | [], _ => rfl
  | d :: ds, h => by
    have ih := lc_ok hb ds fun x hx => h x (by simp [hx])
    obtain ⟨h1, h2⟩ := h d (by simp)
    have hi : i < b.length := (List.getElem?_eq_some_iff.mp hb).1
    have e : wipeB (b.set i (.d d)) [i] = b := by
      simp only [wipeB, List.set_set]
      obtain ⟨_, e⟩ := List.getElem?_eq_some_iff.mp hb
      rw [← e]
      exact List.set_getElem_self hi
    unfold lcL gNm
    rw [if_pos hi]
    simp only [h1]
    cases q : k d with
    | false =>
      simp only [e, List.filter_cons, q, Bool.false_eq_true, if_false]
      exact ih
    | true =>
      simp only [h2 q, e, List.filter_cons, q, if_true]
      have ih2 := ih
      unfold gNm at ih2
      rw [ih2]
      rfl
/-! ### ranks -/
def vals (vs : List (Option Int)) : List Int := vs.filterMap id
def rk1 (row : List Int) : Option Int → D
  | none => .non
  | some i => .int ((ixI i row).getD 0 : Nat)
def rk (vs : List (Option Int)) : List D := vs.map (rk1 (srtU (vals vs)))
def isI : D → Bool
  | .non => false
  | _ => true
theorem filter_oD : ∀ vs : List (Option Int), (vs.map oD).filter isI = (vals vs).map .int
  | [] => rfl
  | none :: vs => by simpa [vals, isI, oD] using filter_oD vs
  | some i :: vs => by
    have := filter_oD vs
    simp only [vals] at this
    simp only [vals, List.map_cons, oD, List.filterMap_cons, id]
    rw [List.filter_cons_of_pos (by rfl), this]
theorem toDs_d : ∀ ds : List D, M.toDs (ds.map .d) = ds
  | [] => rfl
  | d :: ds => by simp only [List.map_cons, M.toDs, M.toD, toDs_d ds]
theorem toDs_f {α : Type} (f : α → D) : ∀ xs : List α, M.toDs (xs.map fun x => .d (f x)) = xs.map f
  | [] => rfl
  | x :: xs => by simp only [List.map_cons, M.toDs, M.toD, toDs_f f xs]
theorem ints_int : ∀ ns : List Int, D.ints (ns.map .int) = some ns
  | [] => rfl
  | n :: ns => by simp only [List.map_cons, D.ints, ints_int ns]
theorem vals_len : ∀ vs : List (Option Int), (vals vs).length ≤ vs.length
  | [] => by simp [vals]
  | none :: vs => by have := vals_len vs; simp [vals] at this ⊢; omega
  | some i :: vs => by have := vals_len vs; simp [vals] at this ⊢; omega
theorem ixI_mem {i : Int} : ∀ {xs : List Int}, i ∈ xs → ∃ j, ixI i xs = some j
  | x :: xs, h => by
    unfold ixI
    by_cases e : x = i
    · exact ⟨0, by simp [e]⟩
    · rw [if_neg e]
      obtain ⟨j, hj⟩ := ixI_mem (xs := xs) (by
        rcases List.mem_cons.mp h with z | z
        · exact absurd z.symm e
        · exact z)
      exact ⟨j + 1, by rw [hj]⟩
theorem mem_vals {vs : List (Option Int)} {i : Int} : i ∈ vals vs ↔ some i ∈ vs := by
  simp [vals]
theorem p_ranks (vs : List (Option Int)) (hl : vs.length < 60) : F_ranks [.d (.lst (vs.map oD))] = some (.d (.tup (rk vs)), []) := by
  have hz := vals_len vs
  have h1 : lcL [2] (gNm 2) (fT (fOp (g2 (gIsN false)) (fVar 2) (fC .non))) (fVar 2) (vs.map oD) [.d (.lst (vs.map oD)), .no, .no] = some (((vals vs).map .int).map M.d, [.d (.lst (vs.map oD)), .no, .no]) := by
    rw [← filter_oD]
    refine lc_ok (k := isI) (f := M.d) rfl _ fun d hd => ?_
    obtain ⟨v, _, rfl⟩ := List.mem_map.mp hd
    cases v <;> exact ⟨rfl, fun _ => rfl⟩
  have h2 : lcL [2] (gNm 2) tTrue (fD (fIf (fT (fOp (g2 (gIsN true)) (fVar 2) (fC .non))) (fC .non) (fOp (g2 gLidx) (fVar 1) (fVar 2)))) (vs.map oD) [.d (.lst (vs.map oD)), .d (.lst ((srtU (vals vs)).map .int)), .no] = some ((rk vs).map M.d, [.d (.lst (vs.map oD)), .d (.lst ((srtU (vals vs)).map .int)), .no]) := by
    have : ∀ us : List (Option Int), (∀ u ∈ us, u ∈ vs) → lcL [2] (gNm 2) tTrue (fD (fIf (fT (fOp (g2 (gIsN true)) (fVar 2) (fC .non))) (fC .non) (fOp (g2 gLidx) (fVar 1) (fVar 2)))) (us.map oD) [.d (.lst (vs.map oD)), .d (.lst ((srtU (vals vs)).map .int)), .no] = some ((us.map (rk1 (srtU (vals vs)))).map M.d, [.d (.lst (vs.map oD)), .d (.lst ((srtU (vals vs)).map .int)), .no]) := by
      intro us
      induction us with
      | nil => intro _; rfl
      | cons u us ih =>
        intro hu
        have ih := ih fun x hx => hu x (by simp [hx])
        simp only [List.map_cons]
        unfold lcL
        cases u with
        | none => simp (config := {decide := true}) [fnF, sRet, sRetN, sSeq, sIf, sSet, sPass, sFrz, sDrop, fT, fOp, fVar, fC, fMov, fFrz, fD, startE, M.toD, M.toDs, M.toB, fIxO, isO, sIxO, atI, ixN, g2, g2m, fOf, PL.g1, g1m, g22, fCons, fNil, fIo, fCall, PL.fill, putb, M.argOf, M.hole, ownS, fin, finals, tNotT, tAndT, tOrT, fAnd, fOr, fNot, fIf, fChain, fPl, getP, setP, M.cell, M.setCell, M.sub, M.fld, fldI, sPut, M.setF, M.put, sAug, gPut, gTu, PL.gCons, gsNil, sAsg, sPar, fMethO, fMeth, fMake, appF, fLenO, sAppP, sApp, fLc, wipeB, tTrue, lAny, lRng, gNm, PL.gLst, PL.gTup, M.datas, fUnD, fMethK, fMake2, fProp, sExt, fPopP, gC, gInt, gInt0, gMod, gDiv, PL.gSub, gAdd, gMul, gLt, gLe, gGt, gGe, gToInt, gAbs, gMax, gMin, gLen, gIsN, gTupOf, gLstOf, bF, tPeek, fPeek, gEq_ss, gNe_ss, gEq_ii, gNe_ii, ok_take, ok_least, ok_last, ok_show, ok_ask, ok_put, ok_look, ok_alter, ok_back, ok_pay, ok_price, ok_again, isDd, isDl, isDo, isDk, isDb, oD, rk1, ih]
        | some i =>
          obtain ⟨j, hj⟩ := ixI_mem (srtU_mem.mpr (mem_vals.mpr (hu (some i) (by simp))))
          simp (config := {decide := true}) [fnF, sRet, sRetN, sSeq, sIf, sSet, sPass, sFrz, sDrop, fT, fOp, fVar, fC, fMov, fFrz, fD, startE, M.toD, M.toDs, M.toB, fIxO, isO, sIxO, atI, ixN, g2, g2m, fOf, PL.g1, g1m, g22, fCons, fNil, fIo, fCall, PL.fill, putb, M.argOf, M.hole, ownS, fin, finals, tNotT, tAndT, tOrT, fAnd, fOr, fNot, fIf, fChain, fPl, getP, setP, M.cell, M.setCell, M.sub, M.fld, fldI, sPut, M.setF, M.put, sAug, gPut, gTu, PL.gCons, gsNil, sAsg, sPar, fMethO, fMeth, fMake, appF, fLenO, sAppP, sApp, fLc, wipeB, tTrue, lAny, lRng, gNm, PL.gLst, PL.gTup, M.datas, fUnD, fMethK, fMake2, fProp, sExt, fPopP, gC, gInt, gInt0, gMod, gDiv, PL.gSub, gAdd, gMul, gLt, gLe, gGt, gGe, gToInt, gAbs, gMax, gMin, gLen, gIsN, gTupOf, gLstOf, bF, tPeek, fPeek, gEq_ss, gNe_ss, gEq_ii, gNe_ii, ok_take, ok_least, ok_last, ok_show, ok_ask, ok_put, ok_look, ok_alter, ok_back, ok_pay, ok_price, ok_again, isDd, isDl, isDo, isDk, isDb, oD, rk1, gLidx, ints_int, hj, ih]
    exact this vs fun _ h => h
  have e1 : vs.length ≤ 1000000 := by omega
  have e2 : (vals vs).length < 64 := by omega
  have e3 := toDs_f D.int (srtU (vals vs))
  simp only [List.map_map, Function.comp_def] at h1
  simp (config := {decide := true}) [F_ranks, g_ranks, fnF, sRet, sRetN, sSeq, sIf, sSet, sPass, sFrz, sDrop, fT, fOp, fVar, fC, fMov, fFrz, fD, startE, M.toD, M.toDs, M.toB, fIxO, isO, sIxO, atI, ixN, g2, g2m, fOf, PL.g1, g1m, g22, fCons, fNil, fIo, fCall, PL.fill, putb, M.argOf, M.hole, ownS, fin, finals, tNotT, tAndT, tOrT, fAnd, fOr, fNot, fIf, fChain, fPl, getP, setP, M.cell, M.setCell, M.sub, M.fld, fldI, sPut, M.setF, M.put, sAug, gPut, gTu, PL.gCons, gsNil, sAsg, sPar, fMethO, fMeth, fMake, appF, fLenO, sAppP, sApp, fLc, wipeB, tTrue, lAny, lRng, gNm, PL.gLst, PL.gTup, M.datas, fUnD, fMethK, fMake2, fProp, sExt, fPopP, gC, gInt, gInt0, gMod, gDiv, PL.gSub, gAdd, gMul, gLt, gLe, gGt, gGe, gToInt, gAbs, gMax, gMin, gLen, gIsN, gTupOf, gLstOf, bF, tPeek, fPeek, gEq_ss, gNe_ss, gEq_ii, gNe_ii, ok_take, ok_least, ok_last, ok_show, ok_ask, ok_put, ok_look, ok_alter, ok_back, ok_pay, ok_price, ok_again, isDd, isDl, isDo, isDk, isDb, e1, h1, h2, fSrt, toDs_d, toDs_f, e2, e3, ints_int]

end Lw

set_option exponentiation.threshold 100000
namespace Lw
open PySem PySem.Spec PyProof.Rows L2 PL
theorem toDs_app1 (dd : List D) (x : D) : M.toDs (dd.map .d ++ [.d x]) = dd ++ [x] := by
  have := toDs_d (dd ++ [x])
  simpa using this
theorem oD_none : oD none = .non := rfl
theorem oD_some (i : Int) : oD (some i) = .int i := rfl
def payR (rs : List (List Str)) (f : Bool) : List Str := rs.getD (if f = true then 5 else 4) []
def payD (b : Bool) : D := .tup [.str "pay", .bl b]
theorem gNe_oo (a b : Option Int) : gNe (oD a) (oD b) = some (.bl (!decide (a = b))) := by
  cases a <;> cases b <;> simp [oD, gNe, gCmp, D.py, SeqAt.shaped, PyData.eqv, PyData.canLay0, PyData.depth, bq]

end Lw

set_option exponentiation.threshold 100000
namespace Lw
open PySem PySem.Spec PyProof.Rows L2 PL
/-! ### prices between prices -/
theorem gIx_int {row : List Int} {k : Nat} (h : k < row.length) : gIx (.lst (row.map .int)) (.int k) = some (.int (row.getD k 0)) := by
  have h1 : (k : Int) < (row.length : Int) := by omega
  have h0 : (0 : Int) ≤ k := by omega
  unfold gIx atI ixN
  simp only [List.length_map, h0, h1, if_true, Option.bind, Int.toNat_natCast, List.getElem?_map, List.getElem?_eq_getElem h, Option.map, List.getD_eq_getElem?_getD, Option.getD]
def WD : Int := 1000000000000000000000000000000
def midAt (row : List Int) (k : Nat) : Int := (row.getD k 0 + row.getD (k + 1) 0) / 2
def gapsP (row : List Int) : List Int := (row.getD 0 0 - WD) :: ((List.range (row.length - 1)).map (midAt row) ++ [row.getD (row.length - 1) 0 + WD])
def bodyG : Sv := (sApp 2 (fOp (g2 gDiv) (fD (fOp (g2m gAdd) (fOp (g2 gIx) (fVar 1) (fOp (g2 gSub) (fVar 3) (fC (.int 1)))) (fOp (g2 gIx) (fVar 1) (fVar 3)))) (fC (.int 2))))
def intsM (xs : List Int) : M := .lst (xs.map fun i => .d (.int i))
theorem p_gap_step {row : List Int} {j : Nat} (h : j + 1 < row.length) (d0 : D) (acc : List Int) (hl : acc.length < 1000) :
    bodyG [.d d0, .d (.lst (row.map .int)), .o none (intsM acc), .d (.int (1 + (j : Int)))] = some (.nx, [.d d0, .d (.lst (row.map .int)), .o none (intsM (acc ++ [midAt row j])), .d (.int (1 + (j : Int)))]) := by
  have a1 := gIx_int (row := row) (k := j) (by omega)
  have a2 := gIx_int (row := row) (k := j + 1) h
  have e1 : (1 + (j : Int) - 1) = (j : Int) := by omega
  have e2 : ((j + 1 : Nat) : Int) = 1 + (j : Int) := by push_cast; omega
  rw [e2] at a2
  have hl2 : acc.length < 1000000 := by omega
  unfold bodyG intsM midAt
  simp (config := {decide := true}) [fnF, sRet, sRetN, sSeq, sIf, sSet, sPass, sFrz, sDrop, fT, fOp, fVar, fC, fMov, fFrz, fD, startE, M.toD, M.toDs, M.toB, fIxO, isO, sIxO, atI, ixN, g2, g2m, fOf, PL.g1, g1m, g22, fCons, fNil, fIo, fCall, PL.fill, putb, M.argOf, M.hole, ownS, fin, finals, tNotT, tAndT, tOrT, fAnd, fOr, fNot, fIf, fChain, fPl, getP, setP, M.cell, M.setCell, M.sub, M.fld, fldI, sPut, M.setF, M.put, sAug, gPut, gTu, PL.gCons, gsNil, sAsg, sPar, fMethO, fMeth, fMake, appF, fLenO, sAppP, sApp, fLc, wipeB, tTrue, lAny, lRng, gNm, PL.gLst, PL.gTup, M.datas, fUnD, fMethK, fMake2, fProp, sExt, fPopP, gC, gInt, gInt0, gMod, gDiv, PL.gSub, gAdd, gMul, gLt, gLe, gGt, gGe, gToInt, gAbs, gMax, gMin, gLen, gIsN, gTupOf, gLstOf, bF, tPeek, fPeek, gEq_ss, gNe_ss, gEq_ii, gNe_ii, ok_take, ok_least, ok_last, ok_show, ok_ask, ok_put, ok_look, ok_alter, ok_back, ok_pay, ok_price, ok_again, isDd, isDl, isDo, isDk, isDb, e1, a1, a2, hl2]
theorem p_gap_loop {row : List Int} (d0 : D) : ∀ (js : List Nat) (acc : List Int) (x : B), (∀ j ∈ js, j + 1 < row.length) → acc.length + js.length < 1000 →
    ∃ x', forL (gNm 3) bodyG (js.map fun (j : Nat) => D.int (1 + (j : Int))) [.d d0, .d (.lst (row.map .int)), .o none (intsM acc), x] = some (.nx, [.d d0, .d (.lst (row.map .int)), .o none (intsM (acc ++ js.map (midAt row))), x'])
  | [], acc, x, _, _ => ⟨x, by simp [forL_nil]⟩
  | j :: js, acc, x, h, hl => by
    simp only [List.length_cons] at hl
    have h1 := p_gap_step (h j (by simp)) d0 acc (by omega)
    obtain ⟨x', h2⟩ := p_gap_loop d0 js (acc ++ [midAt row j]) (.d (.int (1 + (j : Int)))) (fun k hk => h k (by simp [hk])) (by simp; omega)
    refine ⟨x', ?_⟩
    simp only [List.map_cons]
    refine forL_nx (b1 := [.d d0, .d (.lst (row.map .int)), .o none (intsM acc), .d (.int (1 + (j : Int)))]) rfl h1 ?_
    rw [h2]
    simp
theorem insU_ne {i : Int} {xs : List Int} : insU i xs ≠ [] := by
  cases xs with
  | nil => simp [insU]
  | cons x xs => unfold insU; split <;> (try split) <;> simp
theorem srtU_ne {xs : List Int} (h : xs ≠ []) : srtU xs ≠ [] := by
  cases xs with
  | nil => exact absurd rfl h
  | cons x xs => exact insU_ne
theorem insU_len {i : Int} : ∀ {xs : List Int}, (insU i xs).length ≤ xs.length + 1
  | [] => by simp [insU]
  | x :: xs => by
    unfold insU
    split
    · simp
    · split
      · simp
      · simp only [List.length_cons]
        have := insU_len (i := i) (xs := xs)
        omega
theorem srtU_len : ∀ {xs : List Int}, (srtU xs).length ≤ xs.length
  | [] => by simp [srtU]
  | x :: xs => by
    unfold srtU
    have := insU_len (i := x) (xs := srtU xs)
    have := srtU_len (xs := xs)
    simp only [List.length_cons]
    omega
theorem toDs_c {α : Type} (f : α → Int) (xs : List α) : M.toDs (xs.map ((fun i => M.d (D.int i)) ∘ f)) = xs.map (D.int ∘ f) := toDs_f (fun x => D.int (f x)) xs
theorem p_gaps {ns : List Int} (h0 : ns ≠ []) (hl : ns.length < 60) : F_gaps [.d (.lst (ns.map .int))] = some (intsM (gapsP (srtU ns)), []) := by
  have hne := srtU_ne h0
  have hlen := srtU_len (xs := ns)
  have hl64 : ns.length < 64 := by omega
  obtain ⟨row, hrow⟩ : ∃ row, row = srtU ns := ⟨_, rfl⟩
  have hrl : row.length ≤ ns.length := by rw [hrow]; exact hlen
  have hpos : 0 < row.length := by rw [hrow]; exact List.length_pos_iff.mpr hne
  have a0 : gIx (.lst (row.map .int)) (.int 0) = some (.int (row.getD 0 0)) := gIx_int (row := row) (k := 0) hpos
  have a1 : gIx (.lst (row.map .int)) (.int (-1)) = some (.int (row.getD (row.length - 1) 0)) := by
    have h1 : ¬ (0 : Int) ≤ -1 := by decide
    have h2 : -(row.length : Int) ≤ -1 := by omega
    have h3 : (-1 + (row.length : Int)).toNat = row.length - 1 := by omega
    unfold gIx atI ixN
    simp only [List.length_map, h1, h2, h3, if_false, if_true, Option.bind, List.getElem?_map, List.getElem?_eq_getElem (show row.length - 1 < row.length by omega), Option.map, List.getD_eq_getElem?_getD, Option.getD]
  obtain ⟨x', h1⟩ := p_gap_loop (row := row) (.lst (ns.map .int)) (List.range (row.length - 1)) [row.getD 0 0 - WD] .no (fun j hj => by
    have := List.mem_range.mp hj
    omega) (by simp; omega)
  have e1 : rngD 1 (((row.length : Int) - 1).toNat) = (List.range (row.length - 1)).map fun (j : Nat) => D.int (1 + (j : Int)) := by
    unfold rngD
    have : ((row.length : Int) - 1).toNat = row.length - 1 := by omega
    rw [this]
  have e2 : (row.length : Int) ≤ 1000000 := by omega
  have e3 : -1000000 ≤ (row.length : Int) := by omega
  have e5 : row.length ≤ 999999 := by omega
  have t1 := toDs_f D.int row
  have t2 := toDs_f D.int ([row.getD 0 0 - WD] ++ (List.range (row.length - 1)).map (midAt row))
  unfold F_gaps g_gaps
  refine fnF_rt (b := [.d (.lst (ns.map .int)), .d (.lst (row.map .int)), .d (.lst (([row.getD 0 0 - WD] ++ (List.range (row.length - 1)).map (midAt row)).map .int)), x']) rfl (sSeq_nx (b1 := [.d (.lst (ns.map .int)), .d (.lst (row.map .int)), .no, .no]) ?_ (sSeq_nx (b1 := [.d (.lst (ns.map .int)), .d (.lst (row.map .int)), .o none (intsM [row.getD 0 0 - WD]), .no]) ?_
    (sSeq_nx (sFor_ok (b1 := [.d (.lst (ns.map .int)), .d (.lst (row.map .int)), .o none (intsM [row.getD 0 0 - WD]), .no]) ?_ h1) (sRet_ok ?_)))) rfl
  · simp (config := {decide := true}) [fnF, sRet, sRetN, sSeq, sIf, sSet, sPass, sFrz, sDrop, fT, fOp, fVar, fC, fMov, fFrz, fD, startE, M.toD, M.toDs, M.toB, fIxO, isO, sIxO, atI, ixN, g2, g2m, fOf, PL.g1, g1m, g22, fCons, fNil, fIo, fCall, PL.fill, putb, M.argOf, M.hole, ownS, fin, finals, tNotT, tAndT, tOrT, fAnd, fOr, fNot, fIf, fChain, fPl, getP, setP, M.cell, M.setCell, M.sub, M.fld, fldI, sPut, M.setF, M.put, sAug, gPut, gTu, PL.gCons, gsNil, sAsg, sPar, fMethO, fMeth, fMake, appF, fLenO, sAppP, sApp, fLc, wipeB, tTrue, lAny, lRng, gNm, PL.gLst, PL.gTup, M.datas, fUnD, fMethK, fMake2, fProp, sExt, fPopP, gC, gInt, gInt0, PL.gSub, gAdd, gLt, gLe, gGt, gGe, gToInt, gMax, gMin, gLen, gIsN, gTupOf, gLstOf, bF, tPeek, fPeek, gEq_ss, gNe_ss, gEq_ii, gNe_ii, ok_take, ok_least, ok_last, ok_show, ok_ask, ok_put, ok_look, ok_alter, ok_back, ok_pay, ok_price, ok_again, isDd, isDl, isDo, isDk, isDb, fSrt, ints_int, hl64, ← hrow, t1]
  · simp (config := {decide := true}) [fnF, sRet, sRetN, sSeq, sIf, sSet, sPass, sFrz, sDrop, fT, fOp, fVar, fC, fMov, fFrz, fD, startE, M.toD, M.toDs, M.toB, fIxO, isO, sIxO, atI, ixN, g2, g2m, fOf, PL.g1, g1m, g22, fCons, fNil, fIo, fCall, PL.fill, putb, M.argOf, M.hole, ownS, fin, finals, tNotT, tAndT, tOrT, fAnd, fOr, fNot, fIf, fChain, fPl, getP, setP, M.cell, M.setCell, M.sub, M.fld, fldI, sPut, M.setF, M.put, sAug, gPut, gTu, PL.gCons, gsNil, sAsg, sPar, fMethO, fMeth, fMake, appF, fLenO, sAppP, sApp, fLc, wipeB, tTrue, lAny, lRng, gNm, PL.gLst, PL.gTup, M.datas, fUnD, fMethK, fMake2, fProp, sExt, fPopP, gC, gInt, gInt0, PL.gSub, gAdd, gLt, gLe, gGt, gGe, gToInt, gMax, gMin, gLen, gIsN, gTupOf, gLstOf, bF, tPeek, fPeek, gEq_ss, gNe_ss, gEq_ii, gNe_ii, ok_take, ok_least, ok_last, ok_show, ok_ask, ok_put, ok_look, ok_alter, ok_back, ok_pay, ok_price, ok_again, isDd, isDl, isDo, isDk, isDb, a0, intsM, WD]
  · simp (config := {decide := true}) [fnF, sRet, sRetN, sSeq, sIf, sSet, sPass, sFrz, sDrop, fT, fOp, fVar, fC, fMov, fFrz, fD, startE, M.toD, M.toDs, M.toB, fIxO, isO, sIxO, atI, ixN, g2, g2m, fOf, PL.g1, g1m, g22, fCons, fNil, fIo, fCall, PL.fill, putb, M.argOf, M.hole, ownS, fin, finals, tNotT, tAndT, tOrT, fAnd, fOr, fNot, fIf, fChain, fPl, getP, setP, M.cell, M.setCell, M.sub, M.fld, fldI, sPut, M.setF, M.put, sAug, gPut, gTu, PL.gCons, gsNil, sAsg, sPar, fMethO, fMeth, fMake, appF, fLenO, sAppP, sApp, fLc, wipeB, tTrue, lAny, lRng, gNm, PL.gLst, PL.gTup, M.datas, fUnD, fMethK, fMake2, fProp, sExt, fPopP, gC, gInt, gInt0, PL.gSub, gAdd, gLt, gLe, gGt, gGe, gToInt, gMax, gMin, gLen, gIsN, gTupOf, gLstOf, bF, tPeek, fPeek, gEq_ss, gNe_ss, gEq_ii, gNe_ii, ok_take, ok_least, ok_last, ok_show, ok_ask, ok_put, ok_look, ok_alter, ok_back, ok_pay, ok_price, ok_again, isDd, isDl, isDo, isDk, isDb, lRng2, e2, e3]
    rfl
  · rw [← hrow]
    simp (config := {decide := true}) [fnF, sRet, sRetN, sSeq, sIf, sSet, sPass, sFrz, sDrop, fT, fOp, fVar, fC, fMov, fFrz, fD, startE, M.toD, M.toDs, M.toB, fIxO, isO, sIxO, atI, ixN, g2, g2m, fOf, PL.g1, g1m, g22, fCons, fNil, fIo, fCall, PL.fill, putb, M.argOf, M.hole, ownS, fin, finals, tNotT, tAndT, tOrT, fAnd, fOr, fNot, fIf, fChain, fPl, getP, setP, M.cell, M.setCell, M.sub, M.fld, fldI, sPut, M.setF, M.put, sAug, gPut, gTu, PL.gCons, gsNil, sAsg, sPar, fMethO, fMeth, fMake, appF, fLenO, sAppP, sApp, fLc, wipeB, tTrue, lAny, lRng, gNm, PL.gLst, PL.gTup, M.datas, fUnD, fMethK, fMake2, fProp, sExt, fPopP, gC, gInt, gInt0, PL.gSub, gAdd, gLt, gLe, gGt, gGe, gToInt, gMax, gMin, gLen, gIsN, gTupOf, gLstOf, bF, tPeek, fPeek, gEq_ss, gNe_ss, gEq_ii, gNe_ii, ok_take, ok_least, ok_last, ok_show, ok_ask, ok_put, ok_look, ok_alter, ok_back, ok_pay, ok_price, ok_again, isDd, isDl, isDo, isDk, isDb, fStar, fUn, gNeg, D.items, intsM, gapsP, toDs_c, a1, e5, M.toDs, WD]

end Lw

set_option exponentiation.threshold 100000
namespace Lw
open PySem PySem.Spec PyProof.Rows L2 PL
/-! ### new prices -/
def betP (ns : List Int) : List Int := srtU ns ++ gapsP (srtU ns)
theorem gapsP_len (row : List Int) : (gapsP row).length ≤ row.length + 2 := by
  unfold gapsP
  simp only [List.length_cons, List.length_append, List.length_map, List.length_range, List.length_nil]
  omega
theorem betP_len (ns : List Int) : (betP ns).length ≤ 2 * ns.length + 2 := by
  have := srtU_len (xs := ns)
  have := gapsP_len (srtU ns)
  unfold betP
  rw [List.length_append]
  omega
theorem toDs_i (xs : List Int) : M.toDs (xs.map fun i => .d (.int i)) = xs.map .int := toDs_f _ _
theorem p_between {ns : List Int} (h0 : ns ≠ []) (hl : ns.length < 60) : F_between [.d (.lst (ns.map .int))] = some (intsM (betP ns), []) := by
  have h1 := p_gaps h0 hl
  have hz := betP_len ns
  have hl64 : ns.length < 64 := by omega
  have e1 : (srtU ns).length + (gapsP (srtU ns)).length ≤ 1000000 := by
    unfold betP at hz
    simp at hz
    omega
  unfold intsM at h1 ⊢
  have e : betP ns = srtU ns ++ gapsP (srtU ns) := rfl
  generalize gapsP (srtU ns) = gs at *
  unfold F_between g_between
  simp (config := {decide := true}) [fnF, sRet, sRetN, sSeq, sIf, sSet, sPass, sFrz, sDrop, fT, fOp, fVar, fC, fMov, fFrz, fD, startE, M.toD, M.toDs, M.toB, fIxO, isO, sIxO, atI, ixN, g2, g2m, fOf, PL.g1, g1m, g22, fCons, fNil, fIo, fCall, PL.fill, putb, M.argOf, M.hole, ownS, fin, finals, tNotT, tAndT, tOrT, fAnd, fOr, fNot, fIf, fChain, fPl, getP, setP, M.cell, M.setCell, M.sub, M.fld, fldI, sPut, M.setF, M.put, sAug, gPut, gTu, PL.gCons, gsNil, sAsg, sPar, fMethO, fMeth, fMake, appF, fLenO, sAppP, sApp, fLc, wipeB, tTrue, lAny, lRng, gNm, PL.gLst, PL.gTup, M.datas, fUnD, fMethK, fMake2, fProp, sExt, fPopP, gC, gInt, gInt0, gMod, gDiv, PL.gSub, gAdd, gMul, gLt, gLe, gGt, gGe, gToInt, gAbs, gMax, gMin, gLen, gIsN, gTupOf, gLstOf, bF, tPeek, fPeek, gEq_ss, gNe_ss, gEq_ii, gNe_ii, ok_take, ok_least, ok_last, ok_show, ok_ask, ok_put, ok_look, ok_alter, ok_back, ok_pay, ok_price, ok_again, isDd, isDl, isDo, isDk, isDb, fSrt, fStar, D.items, ints_int, hl64, toDs_i, h1, e, e1]
  rfl
/-! ### stands behind a new price -/
def priceD (n : Int) : D := .tup [.str "price", .str "a", .int n]

end Lw

set_option exponentiation.threshold 100000
namespace Lw
open PySem PySem.Spec PyProof.Rows L2 PL
/-! ### stands behind a person's deed -/
def putD : D := .tup [.str "put", .str "a", .int 1]
def lookD : D := .tup [.str "look"]
def alterD : D := .tup [.str "alter", .str "a", .int 1]
def backD : D := .tup [.str "back"]
def putbD : D := .tup [.str "put", .str "b", .int 1]
theorem rule_ok {rs : List (List Str)} (h6 : rs.length = 6) (ho : ∀ r ∈ rs, RuleOk r) (i : Nat) : RuleOk (rs.getD i []) := by
  by_cases h : i < rs.length
  · rw [List.getD_eq_getElem?_getD, List.getElem?_eq_getElem h]
    exact ho _ (List.getElem_mem h)
  · rw [List.getD_eq_getElem?_getD, List.getElem?_eq_none (by omega)]
    exact ⟨by simp, by simp⟩
theorem doorIxs : doorIx "put" = 0 ∧ doorIx "look" = 1 ∧ doorIx "alter" = 2 ∧ doorIx "back" = 3 := ⟨by kernel_rfl, by kernel_rfl, by kernel_rfl, by kernel_rfl⟩

end Lw

set_option exponentiation.threshold 100000
namespace Lw
open PySem PySem.Spec PyProof.Rows L2 PL
/-! ### marks as keys -/
def rkK1 (row : List Int) : Option Int → NestedKey
  | none => .none
  | some i => .num ((ixI i row).getD 0 : Nat)
theorem rk1_nk (row : List Int) (v : Option Int) : (rk1 row v).nk = some (rkK1 row v) := by
  cases v <;> simp [rk1, rkK1, D.nk]
theorem rk_nks (row : List Int) : ∀ vs : List (Option Int), D.nks (vs.map (rk1 row)) = some (vs.map (rkK1 row))
  | [] => rfl
  | v :: vs => by simp only [List.map_cons, D.nks, rk1_nk, rk_nks row vs]
theorem rkK1_depth (row : List Int) (v : Option Int) : (rkK1 row v).depth ≤ 1 := by
  cases v <;> simp [rkK1, NestedKey.depth]

end Lw

set_option exponentiation.threshold 100000
namespace Lw
open PySem PySem.Spec PyProof.Rows L2 PL
/-! ### small amounts -/
def isDeed (d : D) : Prop := (∃ n, d = priceD n) ∨ d = putD ∨ d = lookD ∨ d = alterD ∨ d = backD ∨ d = payD true ∨ d = payD false ∨ d = putbD
def prc : D → Option Int
  | .tup [.str w, .str _, .int n] => if w = "price" then some n else none
  | _ => none
theorem okS_a : PyData.strOk (Str.ofString "a") = true := by decide +kernel
theorem okS_b : PyData.strOk (Str.ofString "b") = true := by decide +kernel
def tsPr : Tv := (tAndT (fT (fOp (g2 gEq) (fOp (g2 gIx) (fVar 7) (fC (.int 0))) (fC (.str "price")))) (fT (fOp (g2 gEq) (fOp (g2 gIx) (fVar 7) (fC (.int 1))) (fVar 3))))
def env1 (pr dd : D) (pl : B) (x : Str) (v4 v6 v7 : B) : List B := [.d pr, .d dd, pl, .d (.str x), v4, .no, v6, v7]
theorem p_tsPr {d : D} (h : isDeed d) (pr dd : D) (pl : B) (x : Str) (hx : x = "a" ∨ x = "b") (v4 v6 : B) : tsPr (env1 pr dd pl x v4 v6 (.d d)) = some ((prc d).isSome && decide (x = "a"), env1 pr dd pl x v4 v6 (.d d)) ∧
    ((prc d).isSome = true → (fOp (g2 gIx) (fVar 7) (fC (.int 2))) (env1 pr dd pl x v4 v6 (.d d)) = some (.d (.int ((prc d).getD 0)), env1 pr dd pl x v4 v6 (.d d))) := by
  unfold env1 tsPr
  rcases h with ⟨n, rfl⟩ | rfl | rfl | rfl | rfl | rfl | rfl | rfl <;> rcases hx with rfl | rfl <;>
    (constructor <;> simp (config := {decide := true}) [fnF, sRet, sRetN, sSeq, sIf, sSet, sPass, sFrz, sDrop, fT, fOp, fVar, fC, fMov, fFrz, fD, startE, M.toD, M.toDs, M.toB, fIxO, isO, sIxO, atI, ixN, g2, g2m, fOf, PL.g1, g1m, g22, fCons, fNil, fIo, fCall, PL.fill, putb, M.argOf, M.hole, ownS, fin, finals, tNotT, tAndT, tOrT, fAnd, fOr, fNot, fIf, fChain, fPl, getP, setP, M.cell, M.setCell, M.sub, M.fld, fldI, sPut, M.setF, M.put, sAug, gPut, gTu, PL.gCons, gsNil, sAsg, sPar, fMethO, fMeth, fMake, appF, fLenO, sAppP, sApp, fLc, wipeB, tTrue, lAny, lRng, gNm, PL.gLst, PL.gTup, M.datas, fUnD, fMethK, fMake2, fProp, sExt, fPopP, gC, gInt, gInt0, gMod, gDiv, PL.gSub, gAdd, gMul, gLt, gLe, gGt, gGe, gToInt, gAbs, gMax, gMin, gLen, gIsN, gTupOf, gLstOf, bF, tPeek, fPeek, gEq_ss, gNe_ss, gEq_ii, gNe_ii, ok_take, ok_least, ok_last, ok_show, ok_ask, ok_put, ok_look, ok_alter, ok_back, ok_pay, ok_price, ok_again, isDd, isDl, isDo, isDk, isDb, gIx, priceD, putD, lookD, alterD, backD, payD, putbD, prc, okS_a, okS_b])
def prices (dd : List D) : List Int := dd.filterMap prc
theorem filt_pr : ∀ dd : List D, (dd.filter fun d => (prc d).isSome && true).map (fun d => M.d (.int ((prc d).getD 0))) = (prices dd).map fun i => .d (.int i)
  | [] => rfl
  | d :: dd => by
    have ih := filt_pr dd
    simp only [prices, Bool.and_true] at ih ⊢
    cases q : prc d with
    | none => simpa [q] using ih
    | some n => simpa [q] using ih
theorem p_lcPr {dd : List D} (h : ∀ d ∈ dd, isDeed d) (pr d1 : D) (pl : B) (x : Str) (hx : x = "a" ∨ x = "b") (v4 v6 : B) :
    lcL [7] (gNm 7) tsPr (fOp (g2 gIx) (fVar 7) (fC (.int 2))) dd (env1 pr d1 pl x v4 v6 .no) = some ((if x = "a" then prices dd else []).map (fun i => .d (.int i)), env1 pr d1 pl x v4 v6 .no) := by
  have := lc_ok (i := 7) (t := tsPr) (elt := fOp (g2 gIx) (fVar 7) (fC (.int 2))) (b := env1 pr d1 pl x v4 v6 .no) rfl (k := fun d => (prc d).isSome && decide (x = "a")) (f := fun d => M.d (.int ((prc d).getD 0))) dd fun d hd => by
    obtain ⟨h1, h2⟩ := p_tsPr (h d hd) pr d1 pl x hx v4 v6
    exact ⟨h1, fun hk => h2 (by simp only [Bool.and_eq_true] at hk; exact hk.1)⟩
  rw [this]
  rcases hx with rfl | rfl
  · simp only [decide_true, if_true]
    rw [filt_pr]
  · have e : ¬ (Str.ofString "b" = Str.ofString "a") := by decide
    simp [e]
def rowA (dd : List D) : List Int := srtU (0 :: prices dd)
def plD (dd : List D) : D := .dic [.inr "a", .inr "b"] [.lst ((rowA dd).map .int), .lst [.int 0]]
def plM (dd : List D) : M := .dic [.inr "a", .inr "b"] [.d (.lst ((rowA dd).map .int)), .d (.lst [.int 0])]
def amt (row : List Int) (d : D) : D := match prc d with
  | some n => priceD ((ixI n row).getD 0 : Nat)
  | none => d
theorem p_amt {d : D} (h : isDeed d) {dd : List D} (hm : ∀ n, prc d = some n → n ∈ prices dd) : F_with_amount [.d (plD dd), .d d] = some (.d (amt (rowA dd) d), []) := by
  rcases h with ⟨n, rfl⟩ | rfl | rfl | rfl | rfl | rfl | rfl | rfl
  · have e : prc (priceD n) = some n := by simp [prc, priceD]
    obtain ⟨j, hj⟩ := ixI_mem (srtU_mem.mpr (show n ∈ 0 :: prices dd from List.mem_cons_of_mem _ (hm n e)))
    have hr : srtU (0 :: prices dd) = rowA dd := rfl
    rw [hr] at hj
    simp (config := {decide := true}) [F_with_amount, g_with_amount, fnF, sRet, sRetN, sSeq, sIf, sSet, sPass, sFrz, sDrop, fT, fOp, fVar, fC, fMov, fFrz, fD, startE, M.toD, M.toDs, M.toB, fIxO, isO, sIxO, atI, ixN, g2, g2m, fOf, PL.g1, g1m, g22, fCons, fNil, fIo, fCall, PL.fill, putb, M.argOf, M.hole, ownS, fin, finals, tNotT, tAndT, tOrT, fAnd, fOr, fNot, fIf, fChain, fPl, getP, setP, M.cell, M.setCell, M.sub, M.fld, fldI, sPut, M.setF, M.put, sAug, gPut, gTu, PL.gCons, gsNil, sAsg, sPar, fMethO, fMeth, fMake, appF, fLenO, sAppP, sApp, fLc, wipeB, tTrue, lAny, lRng, gNm, PL.gLst, PL.gTup, M.datas, fUnD, fMethK, fMake2, fProp, sExt, fPopP, gC, gInt, gInt0, gMod, gDiv, PL.gSub, gAdd, gMul, gLt, gLe, gGt, gGe, gToInt, gAbs, gMax, gMin, gLen, gIsN, gTupOf, gLstOf, bF, tPeek, fPeek, gEq_ss, gNe_ss, gEq_ii, gNe_ii, ok_take, ok_least, ok_last, ok_show, ok_ask, ok_put, ok_look, ok_alter, ok_back, ok_pay, ok_price, ok_again, isDd, isDl, isDo, isDk, isDb, gIx, priceD, plD, gDGet, D.key, keyI, gLidx, ints_int, hj, amt, prc]
  all_goals simp (config := {decide := true}) [F_with_amount, g_with_amount, fnF, sRet, sRetN, sSeq, sIf, sSet, sPass, sFrz, sDrop, fT, fOp, fVar, fC, fMov, fFrz, fD, startE, M.toD, M.toDs, M.toB, fIxO, isO, sIxO, atI, ixN, g2, g2m, fOf, PL.g1, g1m, g22, fCons, fNil, fIo, fCall, PL.fill, putb, M.argOf, M.hole, ownS, fin, finals, tNotT, tAndT, tOrT, fAnd, fOr, fNot, fIf, fChain, fPl, getP, setP, M.cell, M.setCell, M.sub, M.fld, fldI, sPut, M.setF, M.put, sAug, gPut, gTu, PL.gCons, gsNil, sAsg, sPar, fMethO, fMeth, fMake, appF, fLenO, sAppP, sApp, fLc, wipeB, tTrue, lAny, lRng, gNm, PL.gLst, PL.gTup, M.datas, fUnD, fMethK, fMake2, fProp, sExt, fPopP, gC, gInt, gInt0, gMod, gDiv, PL.gSub, gAdd, gMul, gLt, gLe, gGt, gGe, gToInt, gAbs, gMax, gMin, gLen, gIsN, gTupOf, gLstOf, bF, tPeek, fPeek, gEq_ss, gNe_ss, gEq_ii, gNe_ii, ok_take, ok_least, ok_last, ok_show, ok_ask, ok_put, ok_look, ok_alter, ok_back, ok_pay, ok_price, ok_again, isDd, isDl, isDo, isDk, isDb, gIx, putD, lookD, alterD, backD, payD, putbD, amt, prc]
theorem amt_plain {d : D} (h : isDeed d) (row : List Int) : (amt row d).unal = amt row d ∧ (amt row d).safe = true := by
  rcases h with ⟨n, rfl⟩ | rfl | rfl | rfl | rfl | rfl | rfl | rfl
  · have e : prc (priceD n) = some n := by simp [prc, priceD]
    have e2 : amt row (priceD n) = priceD ((ixI n row).getD 0 : Nat) := by unfold amt; rw [e]
    rw [e2]
    simp [priceD, D.unal, D.unals, D.safe, D.safes]
  all_goals simp (config := {decide := true}) [amt, prc, putD, lookD, alterD, backD, payD, putbD, D.unal, D.unals, D.safe, D.safes]
theorem amts_plain (row : List Int) : ∀ {dd : List D}, (∀ d ∈ dd, isDeed d) → M.unals (dd.map fun d => M.d (amt row d)) = dd.map (fun d => M.d (amt row d)) ∧ M.safes (dd.map fun d => M.d (amt row d)) = true
  | [], _ => ⟨rfl, rfl⟩
  | d :: dd, h => by
    obtain ⟨h1, h2⟩ := amt_plain (h d (by simp)) row
    obtain ⟨h3, h4⟩ := amts_plain row (dd := dd) fun x hx => h x (by simp [hx])
    simp [M.unals, M.unal, M.safes, M.safe, h1, h2, h3, h4]
def prsD : D := .tup [.tup [.str "a", .int 0], .tup [.str "b", .int 0]]
def toldA (dd : List D) : List D := [.tup [.str "a", .int ((ixI 0 (rowA dd)).getD 0 : Nat)], .tup [.str "b", .int 0]]
def withA (dd : List D) : D := .tup [.tup (toldA dd), .lst (dd.map (amt (rowA dd)))]
def bodyW : Sv := (sSeq (sSet 6 (fD (fOf gLst (fCons (fVar 4) (fStar (fD (fLc [7] (lAny (fVar 1)) (gNm 7) tsPr (fOp (g2 gIx) (fVar 7) (fC (.int 2))))) fNil))))) (sDPutP 2 [] (fVar 3) (fD (fSrt (fVar 6)))))
theorem p_bodyW {dd : List D} (h : ∀ d ∈ dd, isDeed d) (hl : dd.length < 1000) (hq : (prices dd).length < 60) (pr : D) (ks : List Key) (ms : List M) (x : Str) (hx : x = "a" ∨ x = "b") (hk : keyI (.inr x) ks = none) (hz : ks.length < 1000000) (hn : ks.Nodup) (v6 : B) :
    ∃ v6', bodyW (env1 pr (.lst dd) (.o none (.dic ks ms)) x (.d (.int 0)) v6 .no) = some (.nx, env1 pr (.lst dd) (.o none (.dic (ks ++ [.inr x]) (ms ++ [.d (.lst ((srtU (0 :: (if x = "a" then prices dd else []))).map .int))]))) x (.d (.int 0)) v6' .no) := by
  have h1 := p_lcPr h pr (.lst dd) (.o none (.dic ks ms)) x hx (.d (.int 0)) v6
  obtain ⟨ps, hps⟩ : ∃ ps, ps = (if x = "a" then prices dd else []) := ⟨_, rfl⟩
  rw [← hps] at h1 ⊢
  have hpl2 : ps.length < 60 := by rw [hps]; split <;> first | omega | simp
  have e1 : dd.length ≤ 1000000 := by omega
  have e2 : ps.length + 1 ≤ 1000000 := by omega
  have e3 : ps.length + 1 < 64 := by omega
  have t1 := toDs_i ps
  have t2 := toDs_i (srtU (0 :: ps))
  have t3 : ∀ xs : List Int, M.toDs (xs.map (M.d ∘ D.int)) = xs.map .int := fun xs => toDs_f D.int xs
  have hi : D.ints (D.int 0 :: ps.map .int) = some (0 :: ps) := by simp [D.ints, ints_int]
  refine ⟨.d (.lst (D.int 0 :: ps.map .int)), ?_⟩
  unfold env1 at h1 ⊢
  unfold bodyW
  refine sSeq_nx (b1 := [.d pr, .d (.lst dd), .o none (.dic ks ms), .d (.str x), .d (.int 0), .no, .d (.lst (D.int 0 :: ps.map .int)), .no]) ?_ ?_
  · simp (config := {decide := true}) [fnF, sRet, sRetN, sSeq, sIf, sSet, sPass, sFrz, sDrop, fT, fOp, fVar, fC, fMov, fFrz, fD, startE, M.toD, M.toDs, M.toB, fIxO, isO, sIxO, atI, ixN, g2, g2m, fOf, PL.g1, g1m, g22, fCons, fNil, fIo, fCall, PL.fill, putb, M.argOf, M.hole, ownS, fin, finals, tNotT, tAndT, tOrT, fAnd, fOr, fNot, fIf, fChain, fPl, getP, setP, M.cell, M.setCell, M.sub, M.fld, fldI, sPut, M.setF, M.put, sAug, gPut, gTu, PL.gCons, gsNil, sAsg, sPar, fMethO, fMeth, fMake, appF, fLenO, sAppP, sApp, fLc, wipeB, tTrue, lAny, lRng, gNm, PL.gLst, PL.gTup, M.datas, fUnD, fMethK, fMake2, fProp, sExt, fPopP, gC, gInt, gInt0, gMod, gDiv, PL.gSub, gAdd, gMul, gLt, gLe, gGt, gGe, gToInt, gAbs, gMax, gMin, gLen, gIsN, gTupOf, gLstOf, bF, tPeek, fPeek, gEq_ss, gNe_ss, gEq_ii, gNe_ii, ok_take, ok_least, ok_last, ok_show, ok_ask, ok_put, ok_look, ok_alter, ok_back, ok_pay, ok_price, ok_again, isDd, isDl, isDo, isDk, isDb, fStar, D.items, h1, e1, e2, t1, t3, M.toDs]
  · have d1 : (D.str x).key = some (.inr x) := rfl
    have fz : fSrt (fVar 6) [.d pr, .d (.lst dd), .o none (.dic ks ms), .d (.str x), .d (.int 0), .no, .d (.lst (D.int 0 :: ps.map .int)), .no] = some (.lst ((srtU (0 :: ps)).map fun i => .d (.int i)), [.d pr, .d (.lst dd), .o none (.dic ks ms), .d (.str x), .d (.int 0), .no, .d (.lst (D.int 0 :: ps.map .int)), .no]) := by
      simp [fSrt, fVar, hi, e3]
    have h9 : (fD (fSrt (fVar 6))) [.d pr, .d (.lst dd), .o none (.dic ks ms), .d (.str x), .d (.int 0), .no, .d (.lst (D.int 0 :: ps.map .int)), .no] = some (.d (.lst ((srtU (0 :: ps)).map .int)), [.d pr, .d (.lst dd), .o none (.dic ks ms), .d (.str x), .d (.int 0), .no, .d (.lst (D.int 0 :: ps.map .int)), .no]) := by
      unfold fD
      rw [fz]
      simp only [M.toD, t2]
    generalize fD (fSrt (fVar 6)) = ff at *
    simp (config := {decide := true}) [sDPutP, h9, getP, setP, M.cell, M.setCell, M.sub, ownS, fVar, d1, hk, hz, hn, M.put]
theorem amts_lc {dd : List D} (h : ∀ d ∈ dd, isDeed d) (b : List B) (h7 : b[7]? = some .no) (h2 : b[2]? = some (.d (plD dd))) : lcL [7] (gNm 7) tTrue (fD (fCall F_with_amount [] [none, none] (fCons (fVar 2) (fCons (fVar 7) fNil)))) dd b = some (dd.map (fun d => M.d (amt (rowA dd) d)), b) := by
  have := lc_ok (i := 7) (t := tTrue) (elt := (fD (fCall F_with_amount [] [none, none] (fCons (fVar 2) (fCons (fVar 7) fNil))))) (b := b) h7 (k := fun _ => true) (f := fun d => M.d (amt (rowA dd) d)) dd fun d hd => by
    refine ⟨rfl, fun _ => ?_⟩
    have hp := p_amt (h d hd) (dd := dd) fun n e => List.mem_filterMap.mpr ⟨d, hd, e⟩
    have hi : 7 < b.length := (List.getElem?_eq_some_iff.mp h7).1
    have q2 : (b.set 7 (.d d))[2]? = some (.d (plD dd)) := by rw [List.getElem?_set_ne (by decide)]; exact h2
    have q7 : (b.set 7 (.d d))[7]? = some (.d d) := List.getElem?_set_self hi
    generalize b.set 7 (.d d) = bb at *
    simp (config := {decide := true}) [fD, fCall, fCons, fNil, fVar, appF, PL.fill, putb, q2, q7, hp, M.toD, isDd]
  rw [this, List.filter_eq_self.mpr fun _ _ => rfl]
theorem p_with2 {dd : List D} (h : ∀ d ∈ dd, isDeed d) (hl : dd.length < 1000) (hq : (prices dd).length < 60) : F_with_amounts [.d prsD, .d (.lst dd)] = some (.d (withA dd), []) := by
  obtain ⟨v6, w1⟩ := p_bodyW h hl hq prsD [] [] "a" (.inl rfl) rfl (by simp) (by simp) .no
  obtain ⟨v6', w2⟩ := p_bodyW h hl hq prsD [.inr "a"] [.d (.lst ((rowA dd).map .int))] "b" (.inr rfl) (by decide) (by simp) (by simp) v6
  have nb : ¬ (Str.ofString "b" = Str.ofString "a") := by decide
  have hr : srtU (0 :: prices dd) = rowA dd := rfl
  simp only [if_true, hr] at w1
  simp only [nb, if_false] at w2
  have hs0 : srtU [(0 : Int)] = [0] := rfl
  rw [hs0] at w2
  unfold env1 at w1 w2
  have t1 := toDs_f (amt (rowA dd)) dd
  obtain ⟨j0, hj0⟩ := ixI_mem (srtU_mem.mpr (show (0 : Int) ∈ 0 :: prices dd from by simp))
  rw [hr] at hj0
  have k1 := amts_lc h [.d prsD, .d (.lst dd), .d (plD dd), .d (.str "b"), .d (.int 0), .d (.lst (toldA dd)), bF v6', .no] rfl rfl
  obtain ⟨u1, u2⟩ := amts_plain (rowA dd) h
  have e1 : dd.length ≤ 1000000 := by omega
  unfold F_with_amounts g_with_amounts
  refine fnF_rt (b := [.d prsD, .d (.lst dd), .o none (plM dd), .d (.str "b"), .d (.int 0), .d (.lst (toldA dd)), v6', .no]) rfl (sSeq_nx (b1 := [.d prsD, .d (.lst dd), .o none (.dic [] []), .no, .no, .no, .no, .no]) rfl
    (sSeq_nx (b1 := [.d prsD, .d (.lst dd), .o none (plM dd), .d (.str "b"), .d (.int 0), .no, v6', .no])
      (sFor_ok (b1 := [.d prsD, .d (.lst dd), .o none (.dic [] []), .no, .no, .no, .no, .no]) (ds := [.tup [.str "a", .int 0], .tup [.str "b", .int 0]]) rfl
        (forL_nx (b1 := [.d prsD, .d (.lst dd), .o none (.dic [] []), .d (.str "a"), .d (.int 0), .no, .no, .no]) rfl w1
          (forL_nx (b1 := [.d prsD, .d (.lst dd), .o none (.dic [.inr "a"] [.d (.lst ((rowA dd).map .int))]), .d (.str "b"), .d (.int 0), .no, v6, .no]) rfl w2 rfl)))
      (sSeq_nx (b1 := [.d prsD, .d (.lst dd), .o none (plM dd), .d (.str "b"), .d (.int 0), .d (.lst (toldA dd)), v6', .no]) ?_ (sRet_ok ?_)))) rfl
  · have n1 : keyI (Sum.inr (Str.ofString "a")) [Sum.inr (Str.ofString "a"), Sum.inr (Str.ofString "b")] = some 0 := rfl
    have n2 : keyI (Sum.inr (Str.ofString "b")) [Sum.inr (Str.ofString "a"), Sum.inr (Str.ofString "b")] = some 1 := by kernel_rfl
    have n3 : ixI 0 [0] = some 0 := rfl
    have n4 : D.ints [.int 0] = some [0] := rfl
    simp (config := {decide := true}) [fnF, sRet, sRetN, sSeq, sIf, sSet, sPass, sFrz, sDrop, fT, fOp, fVar, fC, fMov, fFrz, fD, startE, M.toD, M.toDs, M.toB, fIxO, isO, sIxO, atI, ixN, g2, g2m, fOf, PL.g1, g1m, g22, fCons, fNil, fIo, fCall, PL.fill, putb, M.argOf, M.hole, ownS, fin, finals, tNotT, tAndT, tOrT, fAnd, fOr, fNot, fIf, fChain, fPl, getP, setP, M.cell, M.setCell, M.sub, M.fld, fldI, sPut, M.setF, M.put, sAug, gPut, gTu, PL.gCons, gsNil, sAsg, sPar, fMethO, fMeth, fMake, appF, fLenO, sAppP, sApp, fLc, wipeB, tTrue, lAny, lRng, gNm, PL.gLst, PL.gTup, M.datas, fUnD, fMethK, fMake2, fProp, sExt, fPopP, gC, gInt, gInt0, gMod, gDiv, PL.gSub, gAdd, gMul, gLt, gLe, gGt, gGe, gToInt, gAbs, gMax, gMin, gLen, gIsN, gTupOf, gLstOf, bF, tPeek, fPeek, gEq_ss, gNe_ss, gEq_ii, gNe_ii, ok_take, ok_least, ok_last, ok_show, ok_ask, ok_put, ok_look, ok_alter, ok_back, ok_pay, ok_price, ok_again, isDd, isDl, isDo, isDk, isDb, lcL, gIx, prsD, plM, toldA, gDGet, D.key, gLidx, ints_int, hj0, wipeB, n1, n2, n3, n4, M.unal, M.unals, D.unal, D.unals, M.safe, M.safes, D.safe, D.safes, M.toDs]
  · have k2 : (fLc [7] (lAny (fVar 1)) (gNm 7) tTrue (fD (fCall F_with_amount [] [none, none] (fCons (fVar 2) (fCons (fVar 7) fNil))))) [.d prsD, .d (.lst dd), .d (plD dd), .d (.str "b"), .d (.int 0), .d (.lst (toldA dd)), bF v6', .no] = some (.lst (dd.map fun d => M.d (amt (rowA dd) d)), [.d prsD, .d (.lst dd), .d (plD dd), .d (.str "b"), .d (.int 0), .d (.lst (toldA dd)), bF v6', .no]) := by
      have a1 : lAny (fVar 1) [.d prsD, .d (.lst dd), .d (plD dd), .d (.str "b"), .d (.int 0), .d (.lst (toldA dd)), bF v6', .no] = some (dd, [.d prsD, .d (.lst dd), .d (plD dd), .d (.str "b"), .d (.int 0), .d (.lst (toldA dd)), bF v6', .no]) := rfl
      have a2 : wipeB [.d prsD, .d (.lst dd), .d (plD dd), .d (.str "b"), .d (.int 0), .d (.lst (toldA dd)), bF v6', .no] [7] = [.d prsD, .d (.lst dd), .d (plD dd), .d (.str "b"), .d (.int 0), .d (.lst (toldA dd)), bF v6', .no] := rfl
      unfold fLc
      rw [a1]
      simp only [e1, if_true]
      rw [a2, k1]
    have k3 : fPeek (fLc [7] (lAny (fVar 1)) (gNm 7) tTrue (fD (fCall F_with_amount [] [none, none] (fCons (fVar 2) (fCons (fVar 7) fNil))))) [.d prsD, .d (.lst dd), .o none (plM dd), .d (.str "b"), .d (.int 0), .d (.lst (toldA dd)), v6', .no] = some (.lst (dd.map fun d => M.d (amt (rowA dd) d)), [.d prsD, .d (.lst dd), .o none (plM dd), .d (.str "b"), .d (.int 0), .d (.lst (toldA dd)), v6', .no]) := by
      have a3 : ([.d prsD, .d (.lst dd), .o none (plM dd), .d (.str "b"), .d (.int 0), .d (.lst (toldA dd)), v6', .no] : List B).map bF = [.d prsD, .d (.lst dd), .d (plD dd), .d (.str "b"), .d (.int 0), .d (.lst (toldA dd)), bF v6', .no] := rfl
      unfold fPeek
      rw [a3, k2]
      simp only [M.unal, u1, M.safe, u2, if_true]
    generalize fPeek (fLc [7] _ _ _ _) = ff at *
    simp (config := {decide := true}) [fD, fOf, fCons, fNil, fVar, g1m, gTupOf, PL.gTup, M.datas, k3, M.toD, t1, withA]
theorem p_with {dd : List D} (h : ∀ d ∈ dd, isDeed d) (hl : dd.length < 60) : F_with_amounts [.d prsD, .d (.lst dd)] = some (.d (withA dd), []) :=
  p_with2 h (by omega) (by have : (prices dd).length ≤ dd.length := List.length_filterMap_le _ _; omega)

end Lw

set_option exponentiation.threshold 100000
namespace Lw
open PySem PySem.Spec PyProof.Rows L2 PL
/-! ### one stand of a layer -/
theorem nodup_le {α : Type} [DecidableEq α] : ∀ (xs ys : List α), xs.Nodup → (∀ x ∈ xs, x ∈ ys) → xs.length ≤ ys.length
  | [], ys, _, _ => by simp
  | x :: xs, ys, nd, h => by
    have nd2 := List.nodup_cons.mp nd
    have hx := h x (by simp)
    have ih := nodup_le xs (ys.erase x) nd2.2 fun y hy => (List.mem_erase_of_ne (by rintro rfl; exact nd2.1 hy)).mpr (h y (by simp [hy]))
    rw [List.length_erase_of_mem hx] at ih
    have : 0 < ys.length := List.length_pos_of_mem hx
    simp only [List.length_cons]
    omega

end Lw

set_option exponentiation.threshold 100000
namespace Lw
open PySem PySem.Spec PyProof.Rows L2 PL
/-! ### prices by their order alone -/
theorem insU_sorted {i : Int} : ∀ {xs : List Int}, xs.Pairwise (· < ·) → (insU i xs).Pairwise (· < ·)
  | [], _ => by simp [insU]
  | x :: xs, h => by
    have h2 := List.pairwise_cons.mp h
    unfold insU
    split
    · rename_i hi
      refine List.pairwise_cons.mpr ⟨fun y hy => ?_, h⟩
      rcases List.mem_cons.mp hy with z | z
      · rw [z]; exact hi
      · have := h2.1 y z; omega
    · split
      · exact h
      · refine List.pairwise_cons.mpr ⟨fun y hy => ?_, insU_sorted h2.2⟩
        rcases insU_mem.mp hy with z | z
        · rw [z]; omega
        · exact h2.1 y z
theorem srtU_sorted : ∀ xs : List Int, (srtU xs).Pairwise (· < ·)
  | [] => by simp [srtU]
  | x :: xs => insU_sorted (srtU_sorted xs)
def MonoOn (f : Int → Int) (xs : List Int) : Prop := ∀ a ∈ xs, ∀ b ∈ xs, a < b → f a < f b
theorem MonoOn.sub {f : Int → Int} {xs ys : List Int} (h : MonoOn f xs) (s : ∀ y ∈ ys, y ∈ xs) : MonoOn f ys := fun a ha b hb => h a (s a ha) b (s b hb)
theorem MonoOn.lt {f : Int → Int} {xs : List Int} (h : MonoOn f xs) {a b : Int} (ha : a ∈ xs) (hb : b ∈ xs) : f a < f b ↔ a < b := by
  constructor
  · intro q
    by_cases e : a = b
    · subst e; omega
    · by_cases l : b < a
      · have := h b hb a ha l; omega
      · omega
  · exact h a ha b hb
theorem MonoOn.eq {f : Int → Int} {xs : List Int} (h : MonoOn f xs) {a b : Int} (ha : a ∈ xs) (hb : b ∈ xs) : f a = f b ↔ a = b := by
  have h1 := h.lt ha hb
  have h2 := h.lt hb ha
  constructor
  · intro e; omega
  · intro e; rw [e]
theorem insU_map (f : Int → Int) {i : Int} : ∀ {xs : List Int}, MonoOn f (i :: xs) → insU (f i) (xs.map f) = (insU i xs).map f
  | [], _ => rfl
  | x :: xs, h => by
    have h1 := h.lt (a := i) (b := x) (by simp) (by simp)
    have h2 := h.eq (a := i) (b := x) (by simp) (by simp)
    have ih := insU_map f (i := i) (xs := xs) (h.sub fun y hy => by
      rcases List.mem_cons.mp hy with z | z
      · simp [z]
      · simp [z])
    simp only [List.map_cons, insU, h1, h2]
    split
    · rfl
    · split
      · rfl
      · simp only [List.map_cons, ih]
theorem srtU_map (f : Int → Int) : ∀ {xs : List Int}, MonoOn f xs → srtU (xs.map f) = (srtU xs).map f
  | [], _ => rfl
  | x :: xs, h => by
    have ih := srtU_map f (xs := xs) (h.sub fun y hy => by simp [hy])
    simp only [List.map_cons, srtU, ih]
    refine insU_map f (h.sub fun y hy => ?_)
    rcases List.mem_cons.mp hy with z | z
    · simp [z]
    · simp [srtU_mem.mp z]
theorem ixI_map (f : Int → Int) {i : Int} : ∀ {row : List Int}, MonoOn f (i :: row) → ixI (f i) (row.map f) = ixI i row
  | [], _ => rfl
  | x :: row, h => by
    have h2 := h.eq (a := x) (b := i) (by simp) (by simp)
    have ih := ixI_map f (i := i) (row := row) (h.sub fun y hy => by
      rcases List.mem_cons.mp hy with z | z
      · simp [z]
      · simp [z])
    simp only [List.map_cons, ixI, h2, ih]
theorem vals_map (f : Int → Int) : ∀ u : List (Option Int), vals (u.map (Option.map f)) = (vals u).map f
  | [] => rfl
  | none :: u => by simpa [vals] using vals_map f u
  | some a :: u => by simpa [vals] using vals_map f u
def keysOf (u : List (Option Int)) : List NestedKey := u.map (rkK1 (srtU (vals u)))
theorem keys_map {f : Int → Int} {u : List (Option Int)} (h : MonoOn f (vals u)) : keysOf (u.map (Option.map f)) = keysOf u := by
  unfold keysOf
  rw [vals_map, srtU_map f h, List.map_map]
  refine List.map_congr_left fun o ho => ?_
  cases o with
  | none => rfl
  | some a =>
    have ha : a ∈ vals u := mem_vals.mpr ho
    have := ixI_map f (i := a) (row := srtU (vals u)) (h.sub fun y hy => by
      rcases List.mem_cons.mp hy with z | z
      · rw [z]; exact ha
      · exact srtU_mem.mp z)
    simp only [Function.comp, Option.map, rkK1, this]
/-- equal keys: the same order -/
theorem keys_aux (ru rv : List Int) : ∀ u v : List (Option Int), (∀ a ∈ vals u, a ∈ ru) → (∀ b ∈ vals v, b ∈ rv) → u.map (rkK1 ru) = v.map (rkK1 rv) →
    v = u.map (Option.map fun a => rv.getD ((ixI a ru).getD 0) 0) ∧ ∀ a ∈ vals u, ixI (rv.getD ((ixI a ru).getD 0) 0) rv = ixI a ru
  | [], [], _, _, _ => ⟨rfl, by simp [vals]⟩
  | [], _ :: _, _, _, h => by simp at h
  | _ :: _, [], _, _, h => by simp at h
  | o :: u, p :: v, hu, hv, h => by
    simp only [List.map_cons, List.cons.injEq] at h
    obtain ⟨h1, h2⟩ := h
    have hu2 : ∀ a ∈ vals u, a ∈ ru := fun a ha => hu a (mem_vals.mpr (by simp [mem_vals.mp ha]))
    have hv2 : ∀ a ∈ vals v, a ∈ rv := fun a ha => hv a (mem_vals.mpr (by simp [mem_vals.mp ha]))
    obtain ⟨i1, i2⟩ := keys_aux ru rv u v hu2 hv2 h2
    cases o with
    | none =>
      cases p with
      | none =>
        refine ⟨by simp only [List.map_cons, Option.map, ← i1], fun a ha => i2 a ?_⟩
        have := mem_vals.mp ha
        simp at this
        exact mem_vals.mpr this
      | some b => simp [rkK1] at h1
    | some a =>
      cases p with
      | none => simp [rkK1] at h1
      | some b =>
        obtain ⟨i, hi⟩ := ixI_mem (hu a (mem_vals.mpr (by simp)))
        obtain ⟨j, hj⟩ := ixI_mem (hv b (mem_vals.mpr (by simp)))
        simp only [rkK1, hi, hj, Option.getD_some, NestedKey.num.injEq, Int.natCast_inj] at h1
        subst h1
        have e : rv.getD i 0 = b := by
          have := (ixI_ok hj).1
          simp [List.getD_eq_getElem?_getD, this]
        refine ⟨?_, fun c hc => ?_⟩
        · simp only [List.map_cons, Option.map, hi, Option.getD_some, e, ← i1]
        · have := mem_vals.mp hc
          rcases List.mem_cons.mp this with z | z
          · simp only [Option.some.injEq] at z
            subst z
            simp only [hi, Option.getD_some, e, hj]
          · exact i2 c (mem_vals.mpr z)
theorem sorted_get {row : List Int} (h : row.Pairwise (· < ·)) {i j : Nat} {a b : Int} (hi : row[i]? = some a) (hj : row[j]? = some b) (l : i < j) : a < b := by
  obtain ⟨h1, e1⟩ := List.getElem?_eq_some_iff.mp hi
  obtain ⟨h2, e2⟩ := List.getElem?_eq_some_iff.mp hj
  rw [← e1, ← e2]
  exact List.pairwise_iff_getElem.mp h i j h1 h2 l
theorem keys_eq {u v : List (Option Int)} (h : keysOf u = keysOf v) : ∃ f, MonoOn f (vals u) ∧ v = u.map (Option.map f) := by
  unfold keysOf at h
  obtain ⟨h1, h2⟩ := keys_aux (srtU (vals u)) (srtU (vals v)) u v (fun a ha => srtU_mem.mpr ha) (fun b hb => srtU_mem.mpr hb) h
  refine ⟨_, fun a ha b hb l => ?_, h1⟩
  have ea := h2 a ha
  have eb := h2 b hb
  obtain ⟨i, hi⟩ := ixI_mem (srtU_mem.mpr ha)
  obtain ⟨j, hj⟩ := ixI_mem (srtU_mem.mpr hb)
  rw [hi] at ea
  rw [hj] at eb
  have lt : i < j := by
    by_cases q : i < j
    · exact q
    · exfalso
      by_cases e : i = j
      · subst e
        have p1 := (ixI_ok hi).1
        have p2 := (ixI_ok hj).1
        rw [p1] at p2
        cases p2
        omega
      · have := sorted_get (srtU_sorted (vals u)) (ixI_ok hj).1 (ixI_ok hi).1 (by omega)
        omega
  simp only [hi, hj] at ea eb ⊢
  exact sorted_get (srtU_sorted (vals v)) (ixI_ok ea).1 (ixI_ok eb).1 lt
/-- gaps that leave room -/
def Wide (w : Int) (xs : List Int) : Prop := ∀ a ∈ xs, ∀ b ∈ xs, a < b → w ≤ b - a
theorem split_at {row : List Int} (h : row.Pairwise (· < ·)) (a : Int) (ha : a ∉ row) : ∃ j, j ≤ row.length ∧ (∀ (k : Nat) (x : Int), k < j → row[k]? = some x → x < a) ∧ ∀ (k : Nat) (x : Int), j ≤ k → row[k]? = some x → a < x := by
  induction row with
  | nil => exact ⟨0, by simp, by simp, by simp⟩
  | cons y row ih =>
    have h2 := List.pairwise_cons.mp h
    have hy : y ≠ a := fun e => ha (by simp [e])
    by_cases l : a < y
    · refine ⟨0, by simp, by simp, fun k x _ hx => ?_⟩
      have : x ∈ y :: row := List.mem_of_getElem? hx
      rcases List.mem_cons.mp this with z | z
      · rw [z]; exact l
      · have := h2.1 x z; omega
    · obtain ⟨j, h3, h4, h5⟩ := ih h2.2 fun q => ha (by simp [q])
      refine ⟨j + 1, by simp; exact h3, fun k x hk hx => ?_, fun k x hk hx => ?_⟩
      · cases k with
        | zero => simp at hx; omega
        | succ k => exact h4 k x (by omega) (by simpa using hx)
      · cases k with
        | zero => omega
        | succ k => exact h5 k x (by omega) (by simpa using hx)
theorem getD_get {row : List Int} {k : Nat} (h : k < row.length) : row[k]? = some (row.getD k 0) := by
  simp [List.getD_eq_getElem?_getD, List.getElem?_eq_getElem h]
theorem sorted_le {row : List Int} (h : row.Pairwise (· < ·)) {i j : Nat} (hj : j < row.length) (l : i ≤ j) : row.getD i 0 ≤ row.getD j 0 := by
  by_cases e : i = j
  · rw [e]; omega
  · have := sorted_get h (getD_get (show i < row.length by omega)) (getD_get hj) (by omega)
    omega
theorem gap_at {row : List Int} (h : row.Pairwise (· < ·)) (w : Wide 2 row) (hne : row ≠ []) (j : Nat) (hj : j ≤ row.length) : ∃ a ∈ gapsP row, (∀ k, k < j → row.getD k 0 < a) ∧ ∀ k, j ≤ k → k < row.length → a < row.getD k 0 := by
  have hl : 0 < row.length := List.length_pos_iff.mpr hne
  have wd : WD = 1000000000000000000000000000000 := rfl
  by_cases h0 : j = 0
  · refine ⟨row.getD 0 0 - WD, by simp [gapsP], by omega, fun k _ hk => ?_⟩
    have := sorted_le h hk (Nat.zero_le k)
    omega
  · by_cases hn : j = row.length
    · refine ⟨row.getD (row.length - 1) 0 + WD, by simp [gapsP], fun k hk => ?_, by omega⟩
      have := sorted_le h (i := k) (j := row.length - 1) (by omega) (by omega)
      omega
    · refine ⟨midAt row (j - 1), ?_, fun k hk => ?_, fun k hk1 hk2 => ?_⟩
      · simp only [gapsP, List.mem_cons, List.mem_append, List.mem_map, List.mem_range]
        exact .inr (.inl ⟨j - 1, by omega, rfl⟩)
      all_goals
        have e : j - 1 + 1 = j := by omega
        have m1 := getD_get (row := row) (k := j - 1) (by omega)
        have m2 := getD_get (row := row) (k := j) (by omega)
        have l := sorted_get h m1 m2 (by omega)
        have g := w _ (List.mem_of_getElem? m1) _ (List.mem_of_getElem? m2) l
        unfold midAt
        rw [e]
      · have := sorted_le h (i := k) (j := j - 1) (by omega) (by omega)
        omega
      · have := sorted_le h (i := j) (j := k) hk2 hk1
        omega
theorem bet_ext {f : Int → Int} {xs : List Int} (h : MonoOn f xs) (hne : xs ≠ []) (w : Wide 2 (xs.map f)) (a : Int) : ∃ a' ∈ betP (xs.map f), ∃ g : Int → Int, MonoOn g (a :: xs) ∧ g a = a' ∧ ∀ b ∈ xs, g b = f b := by
  by_cases ha : a ∈ xs
  · refine ⟨f a, ?_, f, h.sub fun y hy => ?_, rfl, fun _ _ => rfl⟩
    · unfold betP
      exact List.mem_append_left _ (srtU_mem.mpr (List.mem_map.mpr ⟨a, ha, rfl⟩))
    · rcases List.mem_cons.mp hy with z | z
      · rw [z]; exact ha
      · exact z
  · have so := srtU_sorted xs
    obtain ⟨j, h1, h2, h3⟩ := split_at so a fun q => ha (srtU_mem.mp q)
    have so2 := srtU_sorted (xs.map f)
    have sm := srtU_map f h
    have w2 : Wide 2 (srtU (xs.map f)) := fun x hx y hy => w x (srtU_mem.mp hx) y (srtU_mem.mp hy)
    obtain ⟨a', g1, g2, g3⟩ := gap_at so2 w2 (srtU_ne (by simpa using hne)) j (by rw [sm, List.length_map]; exact h1)
    have key : ∀ b ∈ xs, (b < a → f b < a') ∧ (a < b → a' < f b) := by
      intro b hb
      obtain ⟨k, hk⟩ := List.getElem?_of_mem (srtU_mem.mpr hb)
      have hk2 : (srtU (xs.map f)).getD k 0 = f b := by
        rw [sm, List.getD_eq_getElem?_getD, List.getElem?_map, hk]
        rfl
      have hlt : k < (srtU (xs.map f)).length := by
        rw [sm, List.length_map]
        exact (List.getElem?_eq_some_iff.mp hk).1
      refine ⟨fun l => ?_, fun l => ?_⟩
      · by_cases q : k < j
        · have := g2 k q; omega
        · have := h3 k b (by omega) hk; omega
      · by_cases q : k < j
        · have := h2 k b q hk; omega
        · have := g3 k (by omega) hlt; omega
    refine ⟨a', List.mem_append_right _ g1, fun x => if x = a then a' else f x, fun x hx y hy l => ?_, by simp, fun b hb => by
      have : b ≠ a := fun e => ha (e ▸ hb)
      simp [this]⟩
    rcases List.mem_cons.mp hx with z | z <;> rcases List.mem_cons.mp hy with z' | z'
    · omega
    · subst z
      have e : y ≠ x := by omega
      simp only [if_true, e, if_false]
      exact (key y z').2 l
    · subst z'
      have e : x ≠ y := by omega
      simp only [if_true, e, if_false]
      exact (key x z).1 l
    · have e1 : x ≠ a := fun e => ha (e ▸ z)
      have e2 : y ≠ a := fun e => ha (e ▸ z')
      simp only [e1, e2, if_false]
      exact h x z y z' l
theorem Wide.sub {w : Int} {xs ys : List Int} (h : Wide w xs) (s : ∀ y ∈ ys, y ∈ xs) : Wide w ys := fun a ha b hb => h a (s a ha) b (s b hb)
theorem bet_wide {w n : Int} {xs : List Int} (h0 : xs ≠ []) (hw : 0 < w) (h : Wide (2 * w) xs) (hW : w ≤ WD) (hn : n ∈ betP xs) : Wide w (n :: xs) := by
  have so := srtU_sorted xs
  have hne := srtU_ne h0
  have hl : 0 < (srtU xs).length := List.length_pos_iff.mpr hne
  have key : ∀ b ∈ xs, (b < n → w ≤ n - b) ∧ (n < b → w ≤ b - n) := by
    intro b hb
    have hb' := srtU_mem.mpr hb
    obtain ⟨k, hk⟩ := List.getElem?_of_mem hb'
    have hkl : k < (srtU xs).length := (List.getElem?_eq_some_iff.mp hk).1
    have hkb : (srtU xs).getD k 0 = b := by rw [List.getD_eq_getElem?_getD, hk]; rfl
    unfold betP gapsP at hn
    simp only [List.mem_append, List.mem_cons, List.mem_map, List.mem_range, List.not_mem_nil, or_false] at hn
    rcases hn with z | z | ⟨i, hi, z⟩ | z
    · have z := srtU_mem.mp z
      refine ⟨fun l => ?_, fun l => ?_⟩
      · have := h b hb n z l; omega
      · have := h n z b hb l; omega
    · have := sorted_le so hkl (Nat.zero_le k)
      rw [hkb] at this
      omega
    · have m1 := getD_get (row := srtU xs) (k := i) (by omega)
      have m2 := getD_get (row := srtU xs) (k := i + 1) (by omega)
      have l := sorted_get so m1 m2 (by omega)
      have g := h _ (srtU_mem.mp (List.mem_of_getElem? m1)) _ (srtU_mem.mp (List.mem_of_getElem? m2)) l
      unfold midAt at z
      by_cases q : k ≤ i
      · have := sorted_le so (i := k) (j := i) (by omega) q
        rw [hkb] at this
        omega
      · have := sorted_le so (i := i + 1) (j := k) hkl (by omega)
        rw [hkb] at this
        omega
    · have := sorted_le so (i := k) (j := (srtU xs).length - 1) (by omega) (by omega)
      rw [hkb] at this
      omega
  intro a ha b hb l
  rcases List.mem_cons.mp ha with z | z <;> rcases List.mem_cons.mp hb with z' | z'
  · omega
  · subst z; exact (key b z').2 l
  · subst z'; exact (key a z).1 l
  · have := h a z b z' l; omega

end Lw

set_option exponentiation.threshold 100000
namespace Lw
open PySem PySem.Spec PyProof.Rows L2 PL
/-! ### stands by their order alone -/
def LWk.mp (f : Int → Int) (w : LWk) : LWk := ⟨f w.stays, w.seen.map f, w.told.map f, w.times⟩
structure LwIn (S : List Int) (w : LWk) : Prop where
  st : w.stays ∈ S
  se : ∀ z, w.seen = some z → z ∈ S
theorem actP_in {S : List Int} {now : Int} {w : LWk} (h : LwIn S w) (hn : now ∈ S) (a : Str) : LwIn S (actP now w a) := by
  unfold actP
  split
  · exact ⟨hn, h.se⟩
  split
  · refine ⟨?_, h.se⟩
    simp only
    split
    · exact hn
    · exact h.st
  split
  · refine ⟨?_, h.se⟩
    simp only
    cases q : w.seen with
    | none => exact h.st
    | some z => exact h.se z q
  split
  · exact ⟨h.st, fun z hz => by simp only [Option.some.injEq] at hz; rw [← hz]; exact h.st⟩
  · exact h
theorem actP_mp {f : Int → Int} {S : List Int} (m : MonoOn f S) {now : Int} {w : LWk} (h : LwIn S w) (hn : now ∈ S) (a : Str) : actP (f now) (w.mp f) a = (actP now w a).mp f := by
  unfold actP LWk.mp
  split
  · rfl
  split
  · have := m.lt hn h.st
    simp only [this]
    split <;> rfl
  split
  · cases q : w.seen with
    | none => rfl
    | some z => rfl
  have e : (w.seen.map f = some (f w.stays)) ↔ (w.seen = some w.stays) := by
    cases q : w.seen with
    | none => simp
    | some z =>
      have := m.eq (h.se z q) h.st
      simp only [Option.map_some, Option.some.injEq, this]
  simp only [ne_eq, e]
  split
  · simp only [List.map_append, List.map_cons, List.map_nil, Option.map_some]
  · rfl
theorem acts_mp {f : Int → Int} {S : List Int} (m : MonoOn f S) {now : Int} (hn : now ∈ S) : ∀ (rule : List Str) {w : LWk}, LwIn S w → rule.foldl (actP (f now)) (w.mp f) = (rule.foldl (actP now) w).mp f ∧ LwIn S (rule.foldl (actP now) w)
  | [], _, h => ⟨rfl, h⟩
  | a :: rule, w, h => by
    simp only [List.foldl_cons]
    rw [actP_mp m h hn a]
    exact acts_mp m hn rule (actP_in h hn a)

end Lw

set_option exponentiation.threshold 100000
namespace Lw
open PySem PySem.Spec PyProof.Rows L2 PL
theorem wide_two {n : Nat} (hn : n ≤ 50) {xs : List Int} (h : Wide (2 ^ (90 - n)) xs) : Wide 2 xs := by
  intro a ha b hb l
  have h1 := h a ha b hb l
  have h2 : (2 : Int) ≤ 2 ^ (90 - n) := by
    have h3 : 90 - n = (89 - n) + 1 := by omega
    rw [h3, Int.pow_succ]
    have h4 : (0 : Int) < 2 ^ (89 - n) := Int.pow_pos (by decide)
    omega
  omega
theorem two_pow_le {n : Nat} : ∀ {m : Nat}, n ≤ m → (2 : Int) ^ n ≤ 2 ^ m
  | 0, h => by
    have : n = 0 := by omega
    rw [this]
    exact Int.le_refl _
  | m + 1, h => by
    by_cases e : n = m + 1
    · rw [e]; exact Int.le_refl _
    · have h1 := two_pow_le (n := n) (m := m) (by omega)
      have h2 : (0 : Int) < 2 ^ m := Int.pow_pos (by decide)
      rw [Int.pow_succ]
      omega

end Lw

set_option exponentiation.threshold 100000
namespace Lw
open PySem PySem.Spec PyProof.Rows L2 PL
/-! ### a line's standing by two books -/
structure Sd where
  k1 : Option Int
  k2 : Option Int
  seen : Option Int
  now : Int
  fl : Bool
  dd : List D
  ap : Bool
def sdNs : List Str := ["kept_by", "seen", "now", "is_failed", "deeds", "is_apart"]
def Sd.ds (s : Sd) : List D := [.tup [oD s.k1, oD s.k2], oD s.seen, .int s.now, .bl s.fl, .lst s.dd, .bl s.ap]
def Sd.d (s : Sd) : D := .obj "Standing" sdNs s.ds
def Sd.m (s : Sd) : M := .obj "Standing" sdNs (s.ds.map .d)
theorem Sd.toD (s : Sd) : s.m.toD = s.d := by
  simp only [Sd.m, Sd.d, M.toD, toDs_d]
theorem r_standing (a b c e f : D) : F_Standing__init [.obj "Standing" [] [], .d a, .d b, .d c, .d e, .d f] = some (.d .non, [.obj "Standing" sdNs [.d a, .d b, .d c, .d e, .d f, .d (.bl false)]]) := by
  simp (config := {decide := true}) [F_Standing__init, g_Standing__init, fnF, sRet, sRetN, sSeq, sIf, sSet, sPass, sFrz, sDrop, fT, fOp, fVar, fC, fMov, fFrz, fD, startE, M.toD, M.toDs, M.toB, fIxO, isO, sIxO, atI, ixN, g2, g2m, fOf, PL.g1, g1m, g22, fCons, fNil, fIo, fCall, PL.fill, putb, M.argOf, M.hole, ownS, fin, finals, tNotT, tAndT, tOrT, fAnd, fOr, fNot, fIf, fChain, fPl, getP, setP, M.cell, M.setCell, M.sub, M.fld, fldI, sPut, M.setF, M.put, sAug, gPut, gTu, PL.gCons, gsNil, sAsg, sPar, fMethO, fMeth, fMake, appF, fLenO, sAppP, sApp, fLc, wipeB, tTrue, lAny, lRng, gNm, PL.gLst, PL.gTup, M.datas, fUnD, fMethK, fMake2, fProp, sExt, fPopP, gC, gInt, gInt0, gMod, gDiv, PL.gSub, gAdd, gMul, gLt, gLe, gGt, gGe, gToInt, gAbs, gMax, gMin, gLen, gIsN, gTupOf, gLstOf, bF, tPeek, fPeek, gEq_ss, gNe_ss, gEq_ii, gNe_ii, ok_take, ok_least, ok_last, ok_show, ok_ask, ok_put, ok_look, ok_alter, ok_back, ok_pay, ok_price, ok_again, isDd, isDl, isDo, isDk, isDb, sdNs]
def wk2 (rule : List Str) (k : Option Int) (s : Sd) : LWk := rule.foldl (actP s.now) ⟨k.getD s.now, s.seen, [], 0⟩
def apartW (w1 w2 : LWk) (t : Bool) : Bool := (!decide (w1.seen = w2.seen) || !decide (w1.times = w2.times)) || (t && !decide (w1.stays = w2.stays))
/-- behind each book's rule -/
def Sd.go (s : Sd) (r1 r2 : List Str) (deed : D) (f t : Bool) : Sd := ⟨some (wk2 r1 s.k1 s).stays, some (wk2 r2 s.k2 s).stays, (wk2 r1 s.k1 s).seen, s.now, f, s.dd ++ [deed], apartW (wk2 r1 s.k1 s) (wk2 r2 s.k2 s) t⟩
def LWk.d (w : LWk) : D := .obj "LineWork" lwNs [.int w.stays, oD w.seen, .lst (w.told.map .int), .int w.times]
theorem LWk.toD (w : LWk) : w.m.toD = w.d := by
  have t := toDs_f D.int w.told
  simp only [LWk.m, LWk.d, M.toD, M.toDs, t]
theorem payD_eq : (D.tup [.str "pay", .bl false]) = payD false ∧ (D.tup [.str "pay", .bl true]) = payD true := ⟨rfl, rfl⟩
def bodyZ : Sv := (sApp 3 (fD (fMake "LineWork" F_LineWork__init [] [none, none, none, none] (fCons (fVar 4) (fCons (fD (fIf (fT (fOp (g2 (gIsN true)) (fVar 5) (fC .non))) (fPl 0 [("now", ["Standing"])]) (fVar 5))) (fCons (fPl 0 [("seen", ["LineWork", "Standing"])]) (fCons (fPl 0 [("now", ["Standing"])]) fNil)))))))
theorem p_zip_step (s : Sd) (rule : List Str) (k : Option Int) (ha : RuleOk rule) (d1 d2 : D) (acc : List D) (hl : acc.length < 1000) (x6 x7 x8 : B) :
    bodyZ [.d s.d, .d d1, .d d2, .o none (.lst (acc.map .d)), .d (ruleD rule), .d (oD k), x6, x7, x8] = some (.nx, [.d s.d, .d d1, .d d2, .o none (.lst ((acc ++ [(wk2 rule k s).d]).map .d)), .d (ruleD rule), .d (oD k), x6, x7, x8]) := by
  have h1 := p_lw_init rule (k.getD s.now) s.seen s.now ha.strs (by have := ha.1; omega)
  have hw : wk2 rule k s = rule.foldl (actP s.now) ⟨k.getD s.now, s.seen, [], 0⟩ := rfl
  rw [← hw] at h1
  generalize wk2 rule k s = W at *
  have t := toDs_f D.int W.told
  clear hw
  obtain ⟨a, b, z, n, fl, dd, ap⟩ := s
  have hl2 : acc.length < 1000000 := by omega
  have hl3 : (acc.map M.d).length < 1000000 := by simpa using hl2
  rw [List.map_append]
  generalize acc.map M.d = am at *
  simp only at h1
  unfold ruleD
  simp only [LWk.m, LWk.d, lwNs] at h1 ⊢
  cases k <;> simp only [oD_none, oD_some, Option.getD] at h1 ⊢ <;> simp (config := {decide := true}) [bodyZ, fnF, sRet, sRetN, sSeq, sIf, sSet, sPass, sFrz, sDrop, fT, fOp, fVar, fC, fMov, fFrz, fD, startE, M.toD, M.toDs, M.toB, fIxO, isO, sIxO, atI, ixN, g2, g2m, fOf, PL.g1, g1m, g22, fCons, fNil, fIo, fCall, PL.fill, putb, M.argOf, M.hole, ownS, fin, finals, tNotT, tAndT, tOrT, fAnd, fOr, fNot, fIf, fChain, fPl, getP, setP, M.cell, M.setCell, M.sub, M.fld, fldI, sPut, M.setF, M.put, sAug, gPut, gTu, PL.gCons, gsNil, sAsg, sPar, fMethO, fMeth, fMake, appF, fLenO, sAppP, sApp, fLc, wipeB, tTrue, lAny, lRng, gNm, PL.gLst, PL.gTup, M.datas, fUnD, fMethK, fMake2, fProp, sExt, fPopP, gC, gInt, gInt0, gMod, gDiv, PL.gSub, gAdd, gMul, gLt, gLe, gGt, gGe, gToInt, gAbs, gMax, gMin, gLen, gIsN, gTupOf, gLstOf, bF, tPeek, fPeek, gEq_ss, gNe_ss, gEq_ii, gNe_ii, ok_take, ok_least, ok_last, ok_show, ok_ask, ok_put, ok_look, ok_alter, ok_back, ok_pay, ok_price, ok_again, isDd, isDl, isDo, isDk, isDb, Sd.d, Sd.ds, sdNs, h1, t, hl3]
def sBeh : Sv := (sSeq (sAsg (fFrz 3) (gLs 2 (PL.gCons (gNm 6) (PL.gCons (gNm 7) gsNil)))) (sSeq (sSet 8 (fMake "Standing" F_Standing__init [] [none, none, none, none, none] (fCons (fOf PL.gTup (fCons (fPl 6 [("stays", ["LineWork"])]) (fCons (fPl 7 [("stays", ["LineWork"])]) fNil))) (fCons (fPl 6 [("seen", ["LineWork", "Standing"])]) (fCons (fPl 0 [("now", ["Standing"])]) (fCons (fOp (g2 gEq) (fVar 2) (fOf PL.gTup (fCons (fC (.str "pay")) (fCons (fC (.bl false)) fNil)))) (fCons (fD (fOf gLst (fStar (fPl 0 [("deeds", ["Standing"])]) (fCons (fVar 2) fNil)))) fNil))))))) (sSeq (sPut 8 [] ("is_apart", ["Standing"]) (fOr (fOp (g2 gNe) (fPl 6 [("seen", ["LineWork", "Standing"])]) (fPl 7 [("seen", ["LineWork", "Standing"])])) (fOp (g2 gNe) (fPl 6 [("times", ["LineWork"])]) (fPl 7 [("times", ["LineWork"])])))) (sSeq (sIf (fT (fOp (g2 gEq) (fVar 2) (fOf PL.gTup (fCons (fC (.str "pay")) (fCons (fC (.bl true)) fNil))))) (sPut 8 [] ("is_apart", ["Standing"]) (fOr (fPl 8 [("is_apart", ["Standing"])]) (fOp (g2 gNe) (fPl 6 [("stays", ["LineWork"])]) (fPl 7 [("stays", ["LineWork"])])))) sPass) (sRet (fMov 8))))))
theorem g_beh : g_Standing_behind = (sSeq (sSet 3 (fOf gLst fNil)) (sSeq (sFor (lZipM (fCons (fVar 1) (fCons (fPl 0 [("kept_by", ["Standing"])]) fNil))) (gTu 2 (PL.gCons (gNm 4) (PL.gCons (gNm 5) gsNil))) bodyZ) sBeh)) := rfl
theorem p_sBeh (s : Sd) (w1 w2 : LWk) (deed d1 : D) (f t : Bool) (hf : gEq deed (payD false) = some (.bl f)) (ht : gEq deed (payD true) = some (.bl t)) (hl : s.dd.length < 1000) (x4 x5 : B) :
    ∃ b', sBeh [.d s.d, .d d1, .d deed, .o none (.lst ([w1.d, w2.d].map .d)), x4, x5, .no, .no, .no] = some (.rt (⟨some w1.stays, some w2.stays, w1.seen, s.now, f, s.dd ++ [deed], apartW w1 w2 t⟩ : Sd).m, .d s.d :: .d d1 :: .d deed :: b') := by
  obtain ⟨a, b, z, n, fl, dd, ap⟩ := s
  have hl2 : dd.length + 1 ≤ 1000000 := by simp only at hl; omega
  have e0 := r_standing
  have g1 := gNe_oo w1.seen w2.seen
  obtain ⟨a1, z1, ts1, t1⟩ := w1
  obtain ⟨a2, z2, ts2, t2⟩ := w2
  simp only at g1
  refine ⟨[.d (.lst [LWk.d ⟨a1, z1, ts1, t1⟩, LWk.d ⟨a2, z2, ts2, t2⟩]), x4, x5, .d (LWk.d ⟨a1, z1, ts1, t1⟩), .d (LWk.d ⟨a2, z2, ts2, t2⟩), .no], ?_⟩
  have n1 := gNe_ii t1 t2
  have n2 := gNe_ii a1 a2
  unfold payD at hf ht
  have td := toDs_app1 dd deed
  unfold apartW
  simp only
  generalize decide (z1 = z2) = c1 at *
  generalize decide (t1 = t2) = c2 at *
  generalize decide (a1 = a2) = c3 at *
  cases t <;> cases c1 <;> cases c2 <;> cases c3 <;> simp (config := {decide := true}) [sBeh, fnF, sRet, sRetN, sSeq, sIf, sSet, sPass, sFrz, sDrop, fT, fOp, fVar, fC, fMov, fFrz, fD, startE, M.toD, M.toDs, M.toB, fIxO, isO, sIxO, atI, ixN, g2, g2m, fOf, PL.g1, g1m, g22, fCons, fNil, fIo, fCall, PL.fill, putb, M.argOf, M.hole, ownS, fin, finals, tNotT, tAndT, tOrT, fAnd, fOr, fNot, fIf, fChain, fPl, getP, setP, M.cell, M.setCell, M.sub, M.fld, fldI, sPut, M.setF, M.put, sAug, gPut, gTu, PL.gCons, gsNil, sAsg, sPar, fMethO, fMeth, fMake, appF, fLenO, sAppP, sApp, fLc, wipeB, tTrue, lAny, lRng, gNm, PL.gLst, PL.gTup, M.datas, fUnD, fMethK, fMake2, fProp, sExt, fPopP, gC, gInt, gInt0, gMod, gDiv, PL.gSub, gAdd, gMul, gLt, gLe, gGt, gGe, gToInt, gAbs, gMax, gMin, gLen, gIsN, gTupOf, gLstOf, bF, tPeek, fPeek, gEq_ss, gNe_ss, gEq_ii, gNe_ii, ok_take, ok_least, ok_last, ok_show, ok_ask, ok_put, ok_look, ok_alter, ok_back, ok_pay, ok_price, ok_again, isDd, isDl, isDo, isDk, isDb, gLs, Sd.d, Sd.ds, Sd.m, sdNs, LWk.d, lwNs, fStar, D.items, e0, hf, ht, g1, n1, n2, hl2, td, oD_some]
theorem p_behind2 (s : Sd) (r1 r2 : List Str) (deed : D) (f t : Bool) (hf : gEq deed (payD false) = some (.bl f)) (ht : gEq deed (payD true) = some (.bl t)) (h1 : RuleOk r1) (h2 : RuleOk r2) (hl : s.dd.length < 1000) :
    F_Standing_behind [.d s.d, .d (.lst [ruleD r1, ruleD r2]), .d deed] = some ((s.go r1 r2 deed f t).m, []) := by
  have z1 := p_zip_step s r1 s.k1 h1 (.lst [ruleD r1, ruleD r2]) deed [] (by simp) .no .no .no
  have z2 := p_zip_step s r2 s.k2 h2 (.lst [ruleD r1, ruleD r2]) deed [(wk2 r1 s.k1 s).d] (by simp) .no .no .no
  obtain ⟨b', z3⟩ := p_sBeh s (wk2 r1 s.k1 s) (wk2 r2 s.k2 s) deed (.lst [ruleD r1, ruleD r2]) f t hf ht hl (.d (ruleD r2)) (.d (oD s.k2))
  unfold F_Standing_behind
  rw [g_beh]
  have zl : lZipM (fCons (fVar 1) (fCons (fPl 0 [("kept_by", ["Standing"])]) fNil)) [.d s.d, .d (.lst [ruleD r1, ruleD r2]), .d deed, .o none (.lst []), .no, .no, .no, .no, .no] = some ([.tup [ruleD r1, oD s.k1], .tup [ruleD r2, oD s.k2]], [.d s.d, .d (.lst [ruleD r1, ruleD r2]), .d deed, .o none (.lst []), .no, .no, .no, .no, .no]) := by
    obtain ⟨a, b, z, n, fl, dd, ap⟩ := s
    simp (config := {decide := true}) [fnF, sRet, sRetN, sSeq, sIf, sSet, sPass, sFrz, sDrop, fT, fOp, fVar, fC, fMov, fFrz, fD, startE, M.toD, M.toDs, M.toB, fIxO, isO, sIxO, atI, ixN, g2, g2m, fOf, PL.g1, g1m, g22, fCons, fNil, fIo, fCall, PL.fill, putb, M.argOf, M.hole, ownS, fin, finals, tNotT, tAndT, tOrT, fAnd, fOr, fNot, fIf, fChain, fPl, getP, setP, M.cell, M.setCell, M.sub, M.fld, fldI, sPut, M.setF, M.put, sAug, gPut, gTu, PL.gCons, gsNil, sAsg, sPar, fMethO, fMeth, fMake, appF, fLenO, sAppP, sApp, fLc, wipeB, tTrue, lAny, lRng, gNm, PL.gLst, PL.gTup, M.datas, fUnD, fMethK, fMake2, fProp, sExt, fPopP, gC, gInt, gInt0, gMod, gDiv, PL.gSub, gAdd, gMul, gLt, gLe, gGt, gGe, gToInt, gAbs, gMax, gMin, gLen, gIsN, gTupOf, gLstOf, bF, tPeek, fPeek, gEq_ss, gNe_ss, gEq_ii, gNe_ii, ok_take, ok_least, ok_last, ok_show, ok_ask, ok_put, ok_look, ok_alter, ok_back, ok_pay, ok_price, ok_again, isDd, isDl, isDo, isDk, isDb, lZipM, zipD, Sd.d, Sd.ds, sdNs]
  refine fnF_rt (b := .d s.d :: .d (.lst [ruleD r1, ruleD r2]) :: .d deed :: b') rfl (sSeq_nx (b1 := [.d s.d, .d (.lst [ruleD r1, ruleD r2]), .d deed, .o none (.lst []), .no, .no, .no, .no, .no]) rfl
    (sSeq_nx (sFor_ok zl (forL_nx (b1 := [.d s.d, .d (.lst [ruleD r1, ruleD r2]), .d deed, .o none (.lst []), .d (ruleD r1), .d (oD s.k1), .no, .no, .no]) rfl z1 (forL_nx (b1 := [.d s.d, .d (.lst [ruleD r1, ruleD r2]), .d deed, .o none (.lst ([(wk2 r1 s.k1 s).d].map .d)), .d (ruleD r2), .d (oD s.k2), .no, .no, .no]) rfl z2 rfl))) z3)) rfl

end Lw

set_option exponentiation.threshold 100000
namespace Lw
open PySem PySem.Spec PyProof.Rows L2 PL
/-! ### marks and new prices of standings -/
def Sd.u (s : Sd) : List (Option Int) := [s.k1, s.k2, s.seen, some s.now]
def Sd.known (s : Sd) : List Int := vals s.u
def Sd.mark (s : Sd) : D := .tup [.tup (rk s.u), .bl s.fl]
theorem p_mark2 (s : Sd) : F_Standing_mark [.d s.d] = some (.d s.mark, []) := by
  have h := p_ranks s.u (by simp [Sd.u])
  obtain ⟨a, b, z, m, fl, dd, ap⟩ := s
  simp only [Sd.u, List.map_cons, List.map_nil, oD_some] at h
  simp (config := {decide := true}) [F_Standing_mark, g_Standing_mark, fnF, sRet, sRetN, sSeq, sIf, sSet, sPass, sFrz, sDrop, fT, fOp, fVar, fC, fMov, fFrz, fD, startE, M.toD, M.toDs, M.toB, fIxO, isO, sIxO, atI, ixN, g2, g2m, fOf, PL.g1, g1m, g22, fCons, fNil, fIo, fCall, PL.fill, putb, M.argOf, M.hole, ownS, fin, finals, tNotT, tAndT, tOrT, fAnd, fOr, fNot, fIf, fChain, fPl, getP, setP, M.cell, M.setCell, M.sub, M.fld, fldI, sPut, M.setF, M.put, sAug, gPut, gTu, PL.gCons, gsNil, sAsg, sPar, fMethO, fMeth, fMake, appF, fLenO, sAppP, sApp, fLc, wipeB, tTrue, lAny, lRng, gNm, PL.gLst, PL.gTup, M.datas, fUnD, fMethK, fMake2, fProp, sExt, fPopP, gC, gInt, gInt0, gMod, gDiv, PL.gSub, gAdd, gMul, gLt, gLe, gGt, gGe, gToInt, gAbs, gMax, gMin, gLen, gIsN, gTupOf, gLstOf, bF, tPeek, fPeek, gEq_ss, gNe_ss, gEq_ii, gNe_ii, ok_take, ok_least, ok_last, ok_show, ok_ask, ok_put, ok_look, ok_alter, ok_back, ok_pay, ok_price, ok_again, isDd, isDl, isDo, isDk, isDb, Sd.d, Sd.ds, sdNs, Sd.mark, Sd.u, fStar, D.items, M.toDs, h]
def Sd.at (s : Sd) (n : Int) : Sd := ⟨s.k1, s.k2, s.seen, n, s.fl, s.dd ++ [priceD n], false⟩
def Sd.priced (s : Sd) : List Sd := (betP s.known).map s.at
def sdsM (ss : List Sd) : M := .lst (ss.map fun s => .d s.d)
def bodyPr2 : Sv := (sApp 2 (fD (fMake "Standing" F_Standing__init [] [none, none, none, none, none] (fCons (fPl 0 [("kept_by", ["Standing"])]) (fCons (fPl 0 [("seen", ["LineWork", "Standing"])]) (fCons (fVar 3) (fCons (fPl 0 [("is_failed", ["Standing"])]) (fCons (fD (fOf gLst (fStar (fPl 0 [("deeds", ["Standing"])]) (fCons (fOf PL.gTup (fCons (fC (.str "price")) (fCons (fC (.str "a")) (fCons (fVar 3) fNil)))) fNil)))) fNil))))))))
theorem p_pr2_step (s : Sd) (n : Int) (d1 : D) (acc : List Sd) (hl : s.dd.length < 1000) (ha : acc.length < 1000) :
    bodyPr2 [.d s.d, .d d1, .o none (sdsM acc), .d (.int n), .no] = some (.nx, [.d s.d, .d d1, .o none (sdsM (acc ++ [s.at n])), .d (.int n), .no]) := by
  have e0 := r_standing
  have hl2 : s.dd.length + 1 ≤ 1000000 := by omega
  have ha2 : acc.length < 1000000 := by omega
  have hs : (s.at n).d = .obj "Standing" sdNs [.tup [oD s.k1, oD s.k2], oD s.seen, .int n, .bl s.fl, .lst (s.dd ++ [priceD n]), .bl false] := rfl
  have hm : sdsM (acc ++ [s.at n]) = .lst ((acc.map fun s => .d s.d) ++ [.d (.obj "Standing" sdNs [.tup [oD s.k1, oD s.k2], oD s.seen, .int n, .bl s.fl, .lst (s.dd ++ [priceD n]), .bl false])]) := by
    unfold sdsM
    rw [← hs]
    simp
  rw [hm]
  obtain ⟨a, b, z, m, fl, dd, ap⟩ := s
  unfold bodyPr2 sdsM
  simp only at hl2
  have ham : (acc.map fun s : Sd => M.d s.d).length < 1000000 := by simpa using ha2
  generalize (acc.map fun s : Sd => M.d s.d) = am at *
  have t1 := toDs_app1 dd (priceD n)
  simp only [priceD] at t1 ⊢
  simp (config := {decide := true}) [fnF, sRet, sRetN, sSeq, sIf, sSet, sPass, sFrz, sDrop, fT, fOp, fVar, fC, fMov, fFrz, fD, startE, M.toD, M.toDs, M.toB, fIxO, isO, sIxO, atI, ixN, g2, g2m, fOf, PL.g1, g1m, g22, fCons, fNil, fIo, fCall, PL.fill, putb, M.argOf, M.hole, ownS, fin, finals, tNotT, tAndT, tOrT, fAnd, fOr, fNot, fIf, fChain, fPl, getP, setP, M.cell, M.setCell, M.sub, M.fld, fldI, sPut, M.setF, M.put, sAug, gPut, gTu, PL.gCons, gsNil, sAsg, sPar, fMethO, fMeth, fMake, appF, fLenO, sAppP, sApp, fLc, wipeB, tTrue, lAny, lRng, gNm, PL.gLst, PL.gTup, M.datas, fUnD, fMethK, fMake2, fProp, sExt, fPopP, gC, gInt, gInt0, gMod, gDiv, PL.gSub, gAdd, gMul, gLt, gLe, gGt, gGe, gToInt, gAbs, gMax, gMin, gLen, gIsN, gTupOf, gLstOf, bF, tPeek, fPeek, gEq_ss, gNe_ss, gEq_ii, gNe_ii, ok_take, ok_least, ok_last, ok_show, ok_ask, ok_put, ok_look, ok_alter, ok_back, ok_pay, ok_price, ok_again, isDd, isDl, isDo, isDk, isDb, Sd.d, Sd.ds, sdNs, fStar, D.items, e0, hl2, ham, t1, M.toDs]
theorem p_pr2_loop (s : Sd) (d1 : D) (hl : s.dd.length < 1000) : ∀ (ns : List Int) (acc : List Sd) (x3 : B), acc.length + ns.length < 1000 →
    ∃ x3', forL (gNm 3) bodyPr2 (ns.map .int) [.d s.d, .d d1, .o none (sdsM acc), x3, .no] = some (.nx, [.d s.d, .d d1, .o none (sdsM (acc ++ ns.map s.at)), x3', .no])
  | [], acc, x3, _ => ⟨x3, by simp [forL_nil]⟩
  | n :: ns, acc, x3, h => by
    simp only [List.length_cons] at h
    have h1 := p_pr2_step s n d1 acc hl (by omega)
    obtain ⟨x3', h2⟩ := p_pr2_loop s d1 hl ns (acc ++ [s.at n]) (.d (.int n)) (by simp; omega)
    refine ⟨x3', ?_⟩
    simp only [List.map_cons]
    refine forL_nx (b1 := [.d s.d, .d d1, .o none (sdsM acc), .d (.int n), .no]) rfl h1 ?_
    rw [h2]
    simp
theorem known2_ne (s : Sd) : s.known ≠ [] := by
  intro e
  have : s.now ∈ s.known := mem_vals.mpr (by simp [Sd.u])
  rw [e] at this
  simp at this
theorem known2_len (s : Sd) : s.known.length ≤ 4 := vals_len s.u
theorem p_priced2 (s : Sd) (hl : s.dd.length < 1000) : F_Standing_priced [.d s.d] = some (sdsM s.priced, []) := by
  have h1 := p_between (known2_ne s) (by have := known2_len s; omega)
  have hz := betP_len s.known
  have hk := known2_len s
  obtain ⟨x3', h2⟩ := p_pr2_loop s (.lst (s.known.map .int)) hl (betP s.known) [] .no (by simp; omega)
  have h3 : lcL [4] (gNm 4) (fT (fOp (g2 (gIsN false)) (fVar 4) (fC .non))) (fVar 4) (s.u.map oD) [.d s.d, .no, .no, .no, .no] = some ((s.known.map .int).map M.d, [.d s.d, .no, .no, .no, .no]) := by
    unfold Sd.known
    rw [← filter_oD]
    refine lc_ok (k := isI) (f := M.d) rfl _ fun d hd => ?_
    obtain ⟨v, _, rfl⟩ := List.mem_map.mp hd
    cases v <;> exact ⟨rfl, fun _ => rfl⟩
  unfold F_Standing_priced g_Standing_priced
  have h4 : ([] : List Sd) ++ (betP s.known).map s.at = s.priced := by simp [Sd.priced]
  rw [h4] at h2
  refine fnF_rt (b := [.d s.d, .d (.lst (s.known.map .int)), .no, x3', .no]) rfl (sSeq_nx (b1 := [.d s.d, .d (.lst (s.known.map .int)), .no, .no, .no]) ?_ (sSeq_nx (b1 := [.d s.d, .d (.lst (s.known.map .int)), .o none (sdsM []), .no, .no]) ?_
    (sSeq_nx (sFor_ok (b1 := [.d s.d, .d (.lst (s.known.map .int)), .o none (sdsM []), .no, .no]) (ds := (betP s.known).map .int) ?_ h2) (sRet_ok ?_)))) rfl
  · have t1 : M.toDs (s.known.map (M.d ∘ D.int)) = s.known.map .int := toDs_f D.int _
    simp only [Sd.u, List.map_cons, List.map_nil, oD_some] at h3
    generalize s.known = kn at *
    obtain ⟨a, b, z, m, fl, dd, ap⟩ := s
    simp only [Sd.d, Sd.ds, sdNs] at h3 ⊢
    simp (config := {decide := true}) [fnF, sRet, sRetN, sSeq, sIf, sSet, sPass, sFrz, sDrop, fT, fOp, fVar, fC, fMov, fFrz, fD, startE, M.toD, M.toDs, M.toB, fIxO, isO, sIxO, atI, ixN, g2, g2m, fOf, PL.g1, g1m, g22, fCons, fNil, fIo, fCall, PL.fill, putb, M.argOf, M.hole, ownS, fin, finals, tNotT, tAndT, tOrT, fAnd, fOr, fNot, fIf, fChain, fPl, getP, setP, M.cell, M.setCell, M.sub, M.fld, fldI, sPut, M.setF, M.put, sAug, gPut, gTu, PL.gCons, gsNil, sAsg, sPar, fMethO, fMeth, fMake, appF, fLenO, sAppP, sApp, fLc, wipeB, tTrue, lAny, lRng, gNm, PL.gLst, PL.gTup, M.datas, fUnD, fMethK, fMake2, fProp, sExt, fPopP, gC, gInt, gInt0, PL.gSub, gAdd, gLt, gLe, gGt, gGe, gToInt, gMax, gMin, gLen, gIsN, gTupOf, gLstOf, bF, tPeek, fPeek, gEq_ss, gNe_ss, gEq_ii, gNe_ii, ok_take, ok_least, ok_last, ok_show, ok_ask, ok_put, ok_look, ok_alter, ok_back, ok_pay, ok_price, ok_again, isDd, isDl, isDo, isDk, isDb, fStar, D.items, M.toDs, h3, t1]
  · simp (config := {decide := true}) [fnF, sRet, sRetN, sSeq, sIf, sSet, sPass, sFrz, sDrop, fT, fOp, fVar, fC, fMov, fFrz, fD, startE, M.toD, M.toDs, M.toB, fIxO, isO, sIxO, atI, ixN, g2, g2m, fOf, PL.g1, g1m, g22, fCons, fNil, fIo, fCall, PL.fill, putb, M.argOf, M.hole, ownS, fin, finals, tNotT, tAndT, tOrT, fAnd, fOr, fNot, fIf, fChain, fPl, getP, setP, M.cell, M.setCell, M.sub, M.fld, fldI, sPut, M.setF, M.put, sAug, gPut, gTu, PL.gCons, gsNil, sAsg, sPar, fMethO, fMeth, fMake, appF, fLenO, sAppP, sApp, fLc, wipeB, tTrue, lAny, lRng, gNm, PL.gLst, PL.gTup, M.datas, fUnD, fMethK, fMake2, fProp, sExt, fPopP, gC, gInt, gInt0, PL.gSub, gAdd, gLt, gLe, gGt, gGe, gToInt, gMax, gMin, gLen, gIsN, gTupOf, gLstOf, bF, tPeek, fPeek, gEq_ss, gNe_ss, gEq_ii, gNe_ii, ok_take, ok_least, ok_last, ok_show, ok_ask, ok_put, ok_look, ok_alter, ok_back, ok_pay, ok_price, ok_again, isDd, isDl, isDo, isDk, isDb, sdsM]
  · have t1 := toDs_i (betP s.known)
    unfold intsM at h1
    simp (config := {decide := true}) [fnF, sRet, sRetN, sSeq, sIf, sSet, sPass, sFrz, sDrop, fT, fOp, fVar, fC, fMov, fFrz, fD, startE, M.toD, M.toDs, M.toB, fIxO, isO, sIxO, atI, ixN, g2, g2m, fOf, PL.g1, g1m, g22, fCons, fNil, fIo, fCall, PL.fill, putb, M.argOf, M.hole, ownS, fin, finals, tNotT, tAndT, tOrT, fAnd, fOr, fNot, fIf, fChain, fPl, getP, setP, M.cell, M.setCell, M.sub, M.fld, fldI, sPut, M.setF, M.put, sAug, gPut, gTu, PL.gCons, gsNil, sAsg, sPar, fMethO, fMeth, fMake, appF, fLenO, sAppP, sApp, fLc, wipeB, tTrue, lAny, lRng, gNm, PL.gLst, PL.gTup, M.datas, fUnD, fMethK, fMake2, fProp, sExt, fPopP, gC, gInt, gInt0, PL.gSub, gAdd, gLt, gLe, gGt, gGe, gToInt, gMax, gMin, gLen, gIsN, gTupOf, gLstOf, bF, tPeek, fPeek, gEq_ss, gNe_ss, gEq_ii, gNe_ii, ok_take, ok_least, ok_last, ok_show, ok_ask, ok_put, ok_look, ok_alter, ok_back, ok_pay, ok_price, ok_again, isDd, isDl, isDo, isDk, isDb, h1, t1]
  · simp (config := {decide := true}) [fnF, sRet, sRetN, sSeq, sIf, sSet, sPass, sFrz, sDrop, fT, fOp, fVar, fC, fMov, fFrz, fD, startE, M.toD, M.toDs, M.toB, fIxO, isO, sIxO, atI, ixN, g2, g2m, fOf, PL.g1, g1m, g22, fCons, fNil, fIo, fCall, PL.fill, putb, M.argOf, M.hole, ownS, fin, finals, tNotT, tAndT, tOrT, fAnd, fOr, fNot, fIf, fChain, fPl, getP, setP, M.cell, M.setCell, M.sub, M.fld, fldI, sPut, M.setF, M.put, sAug, gPut, gTu, PL.gCons, gsNil, sAsg, sPar, fMethO, fMeth, fMake, appF, fLenO, sAppP, sApp, fLc, wipeB, tTrue, lAny, lRng, gNm, PL.gLst, PL.gTup, M.datas, fUnD, fMethK, fMake2, fProp, sExt, fPopP, gC, gInt, gInt0, PL.gSub, gAdd, gLt, gLe, gGt, gGe, gToInt, gMax, gMin, gLen, gIsN, gTupOf, gLstOf, bF, tPeek, fPeek, gEq_ss, gNe_ss, gEq_ii, gNe_ii, ok_take, ok_least, ok_last, ok_show, ok_ask, ok_put, ok_look, ok_alter, ok_back, ok_pay, ok_price, ok_again, isDd, isDl, isDo, isDk, isDb, sdsM]

end Lw

set_option exponentiation.threshold 100000
namespace Lw
open PySem PySem.Spec PyProof.Rows L2 PL
/-! ### standings behind a person's deed -/
abbrev Rls := List (List Str)
def Sd.mine (s : Sd) (rs qs : Rls) : List Sd := [s.go (rs.getD 1 []) (qs.getD 1 []) lookD false false, s.go (rs.getD 2 []) (qs.getD 2 []) alterD false false, s.go (rs.getD 3 []) (qs.getD 3 []) backD false false,
  s.go (payR rs s.fl) (payR qs s.fl) (payD true) false true, s.go (payR rs s.fl) (payR qs s.fl) (payD false) true false]
def Sd.calm (s : Sd) : Sd := ⟨s.k1, s.k2, s.seen, s.now, false, s.dd ++ [putbD], false⟩
def Sd.persons (s : Sd) (rs qs : Rls) : List Sd := s.go (rs.getD 0 []) (qs.getD 0 []) putD false false :: (if s.k1 = none then [] else s.mine rs qs ++ (if s.fl = true then [s.calm] else []))
structure Bks (rs : Rls) : Prop where
  h6 : rs.length = 6
  ho : ∀ r ∈ rs, RuleOk r
def booksD (rs qs : Rls) : D := .lst [bookD rs, bookD qs]
def ruE (wordE : Ev) : Ev := (fD (fLc [5] (lAny (fVar 1)) (gNm 5) tTrue (fD (fMethO "Book" "rule" F_Book_rule [] 5 [none] (fCons wordE fNil)))))
theorem p_ruE {rs qs : Rls} (h1 : Bks rs) (h2 : Bks qs) {w : Str} (hw : w ∈ (["put", "look", "alter", "back", "pay", "again"] : List Str)) {wordE : Ev} (b0 b2 b3 b4 : B)
    (he : ∀ d, wordE [b0, .d (booksD rs qs), b2, b3, b4, .d d] = some (.d (.str w), [b0, .d (booksD rs qs), b2, b3, b4, .d d])) :
    ruE wordE [b0, .d (booksD rs qs), b2, b3, b4, .no] = some (.d (.lst [ruleD (rs.getD (doorIx w) []), ruleD (qs.getD (doorIx w) [])]), [b0, .d (booksD rs qs), b2, b3, b4, .no]) := by
  have a1 := p_rule_at h1.h6 hw
  have a2 := p_rule_at h2.h6 hw
  unfold booksD at he ⊢
  generalize ruleD (rs.getD (doorIx w) []) = x1 at *
  generalize ruleD (qs.getD (doorIx w) []) = x2 at *
  have e1 : bookD rs = .obj "Book" ["row"] [.tup (rs.map ruleD)] := rfl
  have e2 : bookD qs = .obj "Book" ["row"] [.tup (qs.map ruleD)] := rfl
  rw [e1] at a1
  rw [e2] at a2
  rw [e1, e2] at he ⊢
  clear e1 e2
  generalize D.tup (rs.map ruleD) = y1 at *
  generalize D.tup (qs.map ruleD) = y2 at *
  simp (config := {decide := true}) [ruE, fnF, sRet, sRetN, sSeq, sIf, sSet, sPass, sFrz, sDrop, fT, fOp, fVar, fC, fMov, fFrz, fD, startE, M.toD, M.toDs, M.toB, fIxO, isO, sIxO, atI, ixN, g2, g2m, fOf, PL.g1, g1m, g22, fCons, fNil, fIo, fCall, PL.fill, putb, M.argOf, M.hole, ownS, fin, finals, tNotT, tAndT, tOrT, fAnd, fOr, fNot, fIf, fChain, fPl, getP, setP, M.cell, M.setCell, M.sub, M.fld, fldI, sPut, M.setF, M.put, sAug, gPut, gTu, PL.gCons, gsNil, sAsg, sPar, fMethO, fMeth, fMake, appF, fLenO, sAppP, sApp, fLc, wipeB, tTrue, lAny, lRng, gNm, PL.gLst, PL.gTup, M.datas, fUnD, fMethK, fMake2, fProp, sExt, fPopP, gC, gInt, gInt0, gMod, gDiv, PL.gSub, gAdd, gMul, gLt, gLe, gGt, gGe, gToInt, gAbs, gMax, gMin, gLen, gIsN, gTupOf, gLstOf, bF, tPeek, fPeek, gEq_ss, gNe_ss, gEq_ii, gNe_ii, ok_take, ok_least, ok_last, ok_show, ok_ask, ok_put, ok_look, ok_alter, ok_back, ok_pay, ok_price, ok_again, isDd, isDl, isDo, isDk, isDb, lcL, he, a1, a2]
def bhE (wordE deedE : Ev) : Ev := (fD (fMethO "Standing" "behind" F_Standing_behind [] 0 [none, none] (fCons (ruE wordE) (fCons deedE fNil))))
theorem p_bhE {rs qs : Rls} (h1 : Bks rs) (h2 : Bks qs) {s : Sd} (hl : s.dd.length < 1000) {w : Str} (hw : w ∈ (["put", "look", "alter", "back", "pay", "again"] : List Str)) {wordE deedE : Ev} {deed : D} {f t : Bool} (hf : gEq deed (payD false) = some (.bl f)) (ht : gEq deed (payD true) = some (.bl t)) (b2 b3 b4 : B)
    (he : ∀ d, wordE [.d s.d, .d (booksD rs qs), b2, b3, b4, .d d] = some (.d (.str w), [.d s.d, .d (booksD rs qs), b2, b3, b4, .d d]))
    (hd : deedE [.d s.d, .d (booksD rs qs), b2, b3, b4, .no] = some (.d deed, [.d s.d, .d (booksD rs qs), b2, b3, b4, .no])) :
    bhE wordE deedE [.d s.d, .d (booksD rs qs), b2, b3, b4, .no] = some (.d (s.go (rs.getD (doorIx w) []) (qs.getD (doorIx w) []) deed f t).d, [.d s.d, .d (booksD rs qs), b2, b3, b4, .no]) := by
  have a1 := p_ruE h1 h2 hw (.d s.d) b2 b3 b4 he
  have a2 := p_behind2 s (rs.getD (doorIx w) []) (qs.getD (doorIx w) []) deed f t hf ht (rule_ok h1.h6 h1.ho _) (rule_ok h2.h6 h2.ho _) hl
  have tt := (s.go (rs.getD (doorIx w) []) (qs.getD (doorIx w) []) deed f t).toD
  generalize s.go (rs.getD (doorIx w) []) (qs.getD (doorIx w) []) deed f t = R at *
  generalize ruleD (rs.getD (doorIx w) []) = x1 at *
  generalize ruleD (qs.getD (doorIx w) []) = x2 at *
  have hs : s.d = .obj "Standing" sdNs s.ds := rfl
  rw [hs] at a1 a2 hd ⊢
  clear hs he
  generalize s.ds = ds at *
  generalize booksD rs qs = bk at *
  unfold bhE
  generalize ruE wordE = re at *
  simp only [sdNs] at a1 a2 hd ⊢
  simp (config := {decide := true}) [bhE, fnF, sRet, sRetN, sSeq, sIf, sSet, sPass, sFrz, sDrop, fT, fOp, fVar, fC, fMov, fFrz, fD, startE, M.toD, M.toDs, M.toB, fIxO, isO, sIxO, atI, ixN, g2, g2m, fOf, PL.g1, g1m, g22, fCons, fNil, fIo, fCall, PL.fill, putb, M.argOf, M.hole, ownS, fin, finals, tNotT, tAndT, tOrT, fAnd, fOr, fNot, fIf, fChain, fPl, getP, setP, M.cell, M.setCell, M.sub, M.fld, fldI, sPut, M.setF, M.put, sAug, gPut, gTu, PL.gCons, gsNil, sAsg, sPar, fMethO, fMeth, fMake, appF, fLenO, sAppP, sApp, fLc, wipeB, tTrue, lAny, lRng, gNm, PL.gLst, PL.gTup, M.datas, fUnD, fMethK, fMake2, fProp, sExt, fPopP, gC, gInt, gInt0, gMod, gDiv, PL.gSub, gAdd, gMul, gLt, gLe, gGt, gGe, gToInt, gAbs, gMax, gMin, gLen, gIsN, gTupOf, gLstOf, bF, tPeek, fPeek, gEq_ss, gNe_ss, gEq_ii, gNe_ii, ok_take, ok_least, ok_last, ok_show, ok_ask, ok_put, ok_look, ok_alter, ok_back, ok_pay, ok_price, ok_again, isDd, isDl, isDo, isDk, isDb, a1, a2, hd, tt]
theorem p_app2 {f : Ev} {b0 b1 b3 b4 : B} {ss : List Sd} {t : Sd} (hl : ss.length < 1000) (h : f [b0, b1, .o none (sdsM ss), b3, b4, .no] = some (.d t.d, [b0, b1, .o none (sdsM ss), b3, b4, .no])) :
    sApp 2 f [b0, b1, .o none (sdsM ss), b3, b4, .no] = some (.nx, [b0, b1, .o none (sdsM (ss ++ [t])), b3, b4, .no]) := by
  have h2 : ss.length < 1000000 := by omega
  unfold sApp sdsM at *
  simp [isO, h, h2]
theorem gEq_deeds : gEq putD (payD false) = some (.bl false) ∧ gEq putD (payD true) = some (.bl false) ∧ gEq lookD (payD false) = some (.bl false) ∧ gEq lookD (payD true) = some (.bl false) ∧ gEq alterD (payD false) = some (.bl false) ∧ gEq alterD (payD true) = some (.bl false) ∧
    gEq backD (payD false) = some (.bl false) ∧ gEq backD (payD true) = some (.bl false) ∧ gEq (payD true) (payD false) = some (.bl false) ∧ gEq (payD true) (payD true) = some (.bl true) ∧ gEq (payD false) (payD false) = some (.bl true) ∧ gEq (payD false) (payD true) = some (.bl false) := by
  refine ⟨?_, ?_, ?_, ?_, ?_, ?_, ?_, ?_, ?_, ?_, ?_, ?_⟩ <;> kernel_rfl
theorem p_persons2 (s : Sd) {rs qs : Rls} (h1 : Bks rs) (h2 : Bks qs) (hl : s.dd.length < 1000) : F_Standing_persons [.d s.d, .d (booksD rs qs)] = some (sdsM (s.persons rs qs), []) := by
  obtain ⟨i0, i1, i2, i3⟩ := doorIxs
  have i4 : doorIx "pay" = 4 := by kernel_rfl
  have i5 : doorIx "again" = 5 := by kernel_rfl
  obtain ⟨e1, e2, e3, e4, e5, e6, e7, e8, e9, e10, e11, e12⟩ := gEq_deeds
  have b0 := fun x2 => p_bhE (s := s) (wordE := fC (.str "put")) (deedE := fOf PL.gTup (fCons (fC (.str "put")) (fCons (fC (.str "a")) (fCons (fC (.int 1)) fNil)))) h1 h2 hl (w := "put") (by simp) e1 e2 x2 .no .no (fun _ => rfl) rfl
  have b1 := fun x2 => p_bhE (s := s) (wordE := fC (.str "look")) (deedE := fOf PL.gTup (fCons (fC (.str "look")) fNil)) h1 h2 hl (w := "look") (by simp) e3 e4 x2 .no .no (fun _ => rfl) rfl
  have b2 := fun x2 => p_bhE (s := s) (wordE := fC (.str "alter")) (deedE := fOf PL.gTup (fCons (fC (.str "alter")) (fCons (fC (.str "a")) (fCons (fC (.int 1)) fNil)))) h1 h2 hl (w := "alter") (by simp) e5 e6 x2 .no .no (fun _ => rfl) rfl
  have b3 := fun x2 => p_bhE (s := s) (wordE := fC (.str "back")) (deedE := fOf PL.gTup (fCons (fC (.str "back")) fNil)) h1 h2 hl (w := "back") (by simp) e7 e8 x2 .no .no (fun _ => rfl) rfl
  have pw : ∀ fl : Bool, (if fl = true then ("again" : Str) else "pay") ∈ (["put", "look", "alter", "back", "pay", "again"] : List Str) := by intro fl; cases fl <;> simp
  have pr : ∀ (zs : Rls), zs.getD (doorIx (if s.fl = true then ("again" : Str) else "pay")) [] = payR zs s.fl := by
    intro zs
    unfold payR
    cases s.fl
    · simp [i4]
    · simp [i5]
  have b4 := fun x2 => p_bhE (s := s) (wordE := fVar 3) (deedE := fVar 4) h1 h2 hl (w := if s.fl = true then ("again" : Str) else "pay") (pw _) e9 e10 x2 (.d (.str (if s.fl = true then ("again" : Str) else "pay"))) (.d (payD true)) (fun _ => rfl) rfl
  have b5 := fun x2 => p_bhE (s := s) (wordE := fVar 3) (deedE := fVar 4) h1 h2 hl (w := if s.fl = true then ("again" : Str) else "pay") (pw _) e11 e12 x2 (.d (.str (if s.fl = true then ("again" : Str) else "pay"))) (.d (payD false)) (fun _ => rfl) rfl
  rw [i0] at b0
  rw [i1] at b1
  rw [i2] at b2
  rw [i3] at b3
  rw [pr, pr] at b4 b5
  have hc : ∀ (ss : List Sd) (x3 x4 : B), ss.length < 1000 → sApp 2 (fD (fMake "Standing" F_Standing__init [] [none, none, none, none, none] (fCons (fPl 0 [("kept_by", ["Standing"])]) (fCons (fPl 0 [("seen", ["LineWork", "Standing"])]) (fCons (fPl 0 [("now", ["Standing"])]) (fCons (fC (.bl false)) (fCons (fD (fOf gLst (fStar (fPl 0 [("deeds", ["Standing"])]) (fCons (fOf PL.gTup (fCons (fC (.str "put")) (fCons (fC (.str "b")) (fCons (fC (.int 1)) fNil)))) fNil)))) fNil))))))) [.d s.d, .d (booksD rs qs), .o none (sdsM ss), x3, x4, .no] = some (.nx, [.d s.d, .d (booksD rs qs), .o none (sdsM (ss ++ [s.calm])), x3, x4, .no]) := by
    intro ss x3 x4 hss
    refine p_app2 hss ?_
    have e0 := r_standing
    have hl2 : s.dd.length + 1 ≤ 1000000 := by omega
    clear b0 b1 b2 b3 b4 b5 pr
    obtain ⟨a, b, z, m, fl, dd, ap⟩ := s
    simp only at hl2
    have t1 := toDs_app1 dd putbD
    simp only [putbD] at t1
    generalize sdsM ss = ssm
    simp (config := {decide := true}) [fnF, sRet, sRetN, sSeq, sIf, sSet, sPass, sFrz, sDrop, fT, fOp, fVar, fC, fMov, fFrz, fD, startE, M.toD, M.toDs, M.toB, fIxO, isO, sIxO, atI, ixN, g2, g2m, fOf, PL.g1, g1m, g22, fCons, fNil, fIo, fCall, PL.fill, putb, M.argOf, M.hole, ownS, fin, finals, tNotT, tAndT, tOrT, fAnd, fOr, fNot, fIf, fChain, fPl, getP, setP, M.cell, M.setCell, M.sub, M.fld, fldI, sPut, M.setF, M.put, sAug, gPut, gTu, PL.gCons, gsNil, sAsg, sPar, fMethO, fMeth, fMake, appF, fLenO, sAppP, sApp, fLc, wipeB, tTrue, lAny, lRng, gNm, PL.gLst, PL.gTup, M.datas, fUnD, fMethK, fMake2, fProp, sExt, fPopP, gC, gInt, gInt0, gMod, gDiv, PL.gSub, gAdd, gMul, gLt, gLe, gGt, gGe, gToInt, gAbs, gMax, gMin, gLen, gIsN, gTupOf, gLstOf, bF, tPeek, fPeek, gEq_ss, gNe_ss, gEq_ii, gNe_ii, ok_take, ok_least, ok_last, ok_show, ok_ask, ok_put, ok_look, ok_alter, ok_back, ok_pay, ok_price, ok_again, isDd, isDl, isDo, isDk, isDb, Sd.d, Sd.ds, sdNs, Sd.calm, putbD, fStar, D.items, e0, hl2, t1, M.toDs]
  have hn : ∀ x, fT (fOp (g2 (gIsN true)) (fOp (g2 gIx) (fPl 0 [("kept_by", ["Standing"])]) (fC (.int 0))) (fC .non)) [.d s.d, .d (booksD rs qs), x, .no, .no, .no] = some (decide (s.k1 = none), [.d s.d, .d (booksD rs qs), x, .no, .no, .no]) := by
    intro x
    clear b0 b1 b2 b3 b4 b5 pr hc
    obtain ⟨a, b, z, m, fl, dd, ap⟩ := s
    cases a <;> simp (config := {decide := true}) [fnF, sRet, sRetN, sSeq, sIf, sSet, sPass, sFrz, sDrop, fT, fOp, fVar, fC, fMov, fFrz, fD, startE, M.toD, M.toDs, M.toB, fIxO, isO, sIxO, atI, ixN, g2, g2m, fOf, PL.g1, g1m, g22, fCons, fNil, fIo, fCall, PL.fill, putb, M.argOf, M.hole, ownS, fin, finals, tNotT, tAndT, tOrT, fAnd, fOr, fNot, fIf, fChain, fPl, getP, setP, M.cell, M.setCell, M.sub, M.fld, fldI, sPut, M.setF, M.put, sAug, gPut, gTu, PL.gCons, gsNil, sAsg, sPar, fMethO, fMeth, fMake, appF, fLenO, sAppP, sApp, fLc, wipeB, tTrue, lAny, lRng, gNm, PL.gLst, PL.gTup, M.datas, fUnD, fMethK, fMake2, fProp, sExt, fPopP, gC, gInt, gInt0, gMod, gDiv, PL.gSub, gAdd, gMul, gLt, gLe, gGt, gGe, gToInt, gAbs, gMax, gMin, gLen, gIsN, gTupOf, gLstOf, bF, tPeek, fPeek, gEq_ss, gNe_ss, gEq_ii, gNe_ii, ok_take, ok_least, ok_last, ok_show, ok_ask, ok_put, ok_look, ok_alter, ok_back, ok_pay, ok_price, ok_again, isDd, isDl, isDo, isDk, isDb, Sd.d, Sd.ds, sdNs, oD, gIx]
  have hf : ∀ x3 x4 x, fT (fPl 0 [("is_failed", ["Standing"])]) [.d s.d, .d (booksD rs qs), x, x3, x4, .no] = some (s.fl, [.d s.d, .d (booksD rs qs), x, x3, x4, .no]) := by
    intro x3 x4 x
    clear b0 b1 b2 b3 b4 b5 pr hc hn
    obtain ⟨a, b, z, m, fl, dd, ap⟩ := s
    simp (config := {decide := true}) [fnF, sRet, sRetN, sSeq, sIf, sSet, sPass, sFrz, sDrop, fT, fOp, fVar, fC, fMov, fFrz, fD, startE, M.toD, M.toDs, M.toB, fIxO, isO, sIxO, atI, ixN, g2, g2m, fOf, PL.g1, g1m, g22, fCons, fNil, fIo, fCall, PL.fill, putb, M.argOf, M.hole, ownS, fin, finals, tNotT, tAndT, tOrT, fAnd, fOr, fNot, fIf, fChain, fPl, getP, setP, M.cell, M.setCell, M.sub, M.fld, fldI, sPut, M.setF, M.put, sAug, gPut, gTu, PL.gCons, gsNil, sAsg, sPar, fMethO, fMeth, fMake, appF, fLenO, sAppP, sApp, fLc, wipeB, tTrue, lAny, lRng, gNm, PL.gLst, PL.gTup, M.datas, fUnD, fMethK, fMake2, fProp, sExt, fPopP, gC, gInt, gInt0, gMod, gDiv, PL.gSub, gAdd, gMul, gLt, gLe, gGt, gGe, gToInt, gAbs, gMax, gMin, gLen, gIsN, gTupOf, gLstOf, bF, tPeek, fPeek, gEq_ss, gNe_ss, gEq_ii, gNe_ii, ok_take, ok_least, ok_last, ok_show, ok_ask, ok_put, ok_look, ok_alter, ok_back, ok_pay, ok_price, ok_again, isDd, isDl, isDo, isDk, isDb, Sd.d, Sd.ds, sdNs]
  have mov : ∀ (zs : List Sd) (x3 x4 : B), sRet (fMov 2) [.d s.d, .d (booksD rs qs), .o none (sdsM zs), x3, x4, .no] = some (.rt (sdsM zs), [.d s.d, .d (booksD rs qs), .no, x3, x4, .no]) := fun zs x3 x4 => rfl
  unfold F_Standing_persons g_Standing_persons
  unfold bhE ruE at b0 b1 b2 b3 b4 b5
  have s0 : sSet 2 (fOf gLst (fCons (fD (fMethO "Standing" "behind" F_Standing_behind [] 0 [none, none] (fCons (fD (fLc [5] (lAny (fVar 1)) (gNm 5) tTrue (fD (fMethO "Book" "rule" F_Book_rule [] 5 [none] (fCons (fC (.str "put")) fNil))))) (fCons (fOf PL.gTup (fCons (fC (.str "put")) (fCons (fC (.str "a")) (fCons (fC (.int 1)) fNil)))) fNil)))) fNil)) [.d s.d, .d (booksD rs qs), .no, .no, .no, .no] = some (.nx, [.d s.d, .d (booksD rs qs), .o none (sdsM [s.go (rs.getD 0 []) (qs.getD 0 []) putD false false]), .no, .no, .no]) := by
    have gen : ∀ f : Ev, f [.d s.d, .d (booksD rs qs), .no, .no, .no, .no] = some (.d (s.go (rs.getD 0 []) (qs.getD 0 []) putD false false).d, [.d s.d, .d (booksD rs qs), .no, .no, .no, .no]) → sSet 2 (fOf gLst (fCons f fNil)) [.d s.d, .d (booksD rs qs), .no, .no, .no, .no] = some (.nx, [.d s.d, .d (booksD rs qs), .o none (sdsM [s.go (rs.getD 0 []) (qs.getD 0 []) putD false false]), .no, .no, .no]) := by
      intro f hf
      unfold sSet fOf fCons
      rw [hf]
      rfl
    exact gen _ (b0 .no)
  by_cases hz : s.k1 = none
  · have e : s.persons rs qs = [s.go (rs.getD 0 []) (qs.getD 0 []) putD false false] := by simp [Sd.persons, hz]
    rw [e]
    refine fnF_rt (b := [.d s.d, .d (booksD rs qs), .no, .no, .no, .no]) rfl (sSeq_nx s0 (sSeq_rt ?_)) rfl
    unfold sIf
    rw [hn]
    simp only [hz, decide_true]
    exact mov _ _ _
  · have e : s.persons rs qs = ([s.go (rs.getD 0 []) (qs.getD 0 []) putD false false] ++ s.mine rs qs) ++ (if s.fl = true then [s.calm] else []) := by simp [Sd.persons, hz]
    rw [e]
    refine fnF_rt (b := [.d s.d, .d (booksD rs qs), .no, .d (.str (if s.fl = true then ("again" : Str) else "pay")), .d (payD false), .no]) rfl (sSeq_nx s0 (sSeq_nx (b1 := [.d s.d, .d (booksD rs qs), .o none (sdsM [s.go (rs.getD 0 []) (qs.getD 0 []) putD false false]), .no, .no, .no]) ?_
      (sSeq_nx (p_app2 (by simp) (b1 _)) (sSeq_nx (p_app2 (by simp) (b2 _)) (sSeq_nx (p_app2 (by simp) (b3 _))
      (sSeq_nx (b1 := [.d s.d, .d (booksD rs qs), .o none (sdsM ([s.go (rs.getD 0 []) (qs.getD 0 []) putD false false] ++ [s.go (rs.getD 1 []) (qs.getD 1 []) lookD false false] ++ [s.go (rs.getD 2 []) (qs.getD 2 []) alterD false false] ++ [s.go (rs.getD 3 []) (qs.getD 3 []) backD false false])), .d (.str (if s.fl = true then ("again" : Str) else "pay")), .no, .no]) ?_
      (sSeq_nx (b1 := [.d s.d, .d (booksD rs qs), .o none (sdsM ([s.go (rs.getD 0 []) (qs.getD 0 []) putD false false] ++ s.mine rs qs)), .d (.str (if s.fl = true then ("again" : Str) else "pay")), .d (payD false), .no])
        (sFor_ok (b1 := [.d s.d, .d (booksD rs qs), .o none (sdsM ([s.go (rs.getD 0 []) (qs.getD 0 []) putD false false] ++ [s.go (rs.getD 1 []) (qs.getD 1 []) lookD false false] ++ [s.go (rs.getD 2 []) (qs.getD 2 []) alterD false false] ++ [s.go (rs.getD 3 []) (qs.getD 3 []) backD false false])), .d (.str (if s.fl = true then ("again" : Str) else "pay")), .no, .no]) (ds := [payD true, payD false]) rfl
          (forL_nx (b1 := [.d s.d, .d (booksD rs qs), .o none (sdsM ([s.go (rs.getD 0 []) (qs.getD 0 []) putD false false] ++ [s.go (rs.getD 1 []) (qs.getD 1 []) lookD false false] ++ [s.go (rs.getD 2 []) (qs.getD 2 []) alterD false false] ++ [s.go (rs.getD 3 []) (qs.getD 3 []) backD false false])), .d (.str (if s.fl = true then ("again" : Str) else "pay")), .d (payD true), .no]) rfl (p_app2 (by simp) (b4 _))
            (forL_nx (b1 := [.d s.d, .d (booksD rs qs), .o none (sdsM ([s.go (rs.getD 0 []) (qs.getD 0 []) putD false false] ++ [s.go (rs.getD 1 []) (qs.getD 1 []) lookD false false] ++ [s.go (rs.getD 2 []) (qs.getD 2 []) alterD false false] ++ [s.go (rs.getD 3 []) (qs.getD 3 []) backD false false] ++ [s.go (payR rs s.fl) (payR qs s.fl) (payD true) false true])), .d (.str (if s.fl = true then ("again" : Str) else "pay")), .d (payD false), .no]) rfl (p_app2 (by simp) (b5 _)) rfl)))
        ?_))))))) rfl
    · unfold sIf
      rw [hn]
      simp only [hz, decide_false]
      rfl
    · have h3 := hf .no .no (.o none (sdsM ([s.go (rs.getD 0 []) (qs.getD 0 []) putD false false] ++ [s.go (rs.getD 1 []) (qs.getD 1 []) lookD false false] ++ [s.go (rs.getD 2 []) (qs.getD 2 []) alterD false false] ++ [s.go (rs.getD 3 []) (qs.getD 3 []) backD false false])))
      generalize sdsM _ = ssm at *
      unfold sSet fD fIf
      rw [h3]
      cases s.fl <;> rfl
    · have h3 := hf (.d (.str (if s.fl = true then ("again" : Str) else "pay"))) (.d (payD false)) (.o none (sdsM ([s.go (rs.getD 0 []) (qs.getD 0 []) putD false false] ++ s.mine rs qs)))
      cases q : s.fl with
      | true =>
        rw [q] at h3
        refine sSeq_nx (b1 := [.d s.d, .d (booksD rs qs), .o none (sdsM (([s.go (rs.getD 0 []) (qs.getD 0 []) putD false false] ++ s.mine rs qs) ++ [s.calm])), .d (.str "again"), .d (payD false), .no]) ?_ (by rw [mov]; rfl)
        unfold sIf
        simp only [if_true] at h3 ⊢
        rw [h3]
        exact hc _ _ _ (by simp [Sd.mine])
      | false =>
        rw [q] at h3
        refine sSeq_nx (b1 := [.d s.d, .d (booksD rs qs), .o none (sdsM ([s.go (rs.getD 0 []) (qs.getD 0 []) putD false false] ++ s.mine rs qs)), .d (.str "pay"), .d (payD false), .no]) ?_ (by rw [mov]; simp)
        unfold sIf
        simp only [Bool.false_eq_true, if_false] at h3 ⊢
        rw [h3]
        rfl

end Lw

set_option exponentiation.threshold 100000
namespace Lw
open PySem PySem.Spec PyProof.Rows L2 PL
/-! ### marks as keys; how many there are -/
def Sd.mkey (s : Sd) : NestedKey := .tup [.tup (keysOf s.u), .num (if s.fl = true then 1 else 0)]
theorem mark_key2 (s : Sd) : s.mark.key8 = some s.mkey := by
  have h1 := rk_nks (srtU (vals s.u)) s.u
  have e : rk s.u = s.u.map (rk1 (srtU (vals s.u))) := rfl
  have d1 := rkK1_depth (srtU (vals s.u)) s.k1
  have d2 := rkK1_depth (srtU (vals s.u)) s.k2
  have d3 := rkK1_depth (srtU (vals s.u)) s.seen
  have d4 := rkK1_depth (srtU (vals s.u)) (some s.now)
  unfold Sd.mark D.key8 Sd.mkey keysOf
  rw [e]
  simp only [D.nk, D.nks, h1]
  have : (NestedKey.tup [.tup (s.u.map (rkK1 (srtU (vals s.u)))), .num (if s.fl = true then 1 else 0)]).depth ≤ 8 := by
    have eu : s.u = [s.k1, s.k2, s.seen, some s.now] := rfl
    generalize srtU (vals s.u) = row at *
    rw [eu]
    simp only [List.map_cons, List.map_nil]
    simp [NestedKey.depth, NestedKey.depthAll]
    omega
  rw [if_pos this]
def natK : Option Nat → NestedKey
  | none => .none
  | some j => .num (j : Int)
def rN (u : List (Option Int)) : List (Option Nat) := u.map (Option.map fun i => (ixI i (srtU (vals u))).getD 0)
theorem keys_rN (u : List (Option Int)) : keysOf u = (rN u).map natK := by
  unfold keysOf rN
  rw [List.map_map]
  refine List.map_congr_left fun o _ => ?_
  cases o <;> rfl
def candsN (m : Nat) : Nat → List (List (Option Nat))
  | 0 => [[]]
  | k + 1 => (candsN m k).flatMap fun l => (none :: (List.range m).map some).map (· :: l)
theorem mem_cands {m : Nat} : ∀ l : List (Option Nat), (∀ o ∈ l, ∀ j, o = some j → j < m) → l ∈ candsN m l.length
  | [], _ => by simp [candsN]
  | o :: l, h => by
    have ih := mem_cands l fun x hx => h x (by simp [hx])
    simp only [List.length_cons, candsN, List.mem_flatMap]
    refine ⟨l, ih, List.mem_map.mpr ⟨o, ?_, rfl⟩⟩
    cases o with
    | none => simp
    | some j => simp [h (some j) (by simp) j rfl]
def dense (l : List (Option Nat)) : Bool := l.all fun o => match o with
  | some (j + 1) => l.contains (some j)
  | _ => true
theorem ix_sorted {row : List Int} (h : row.Pairwise (· < ·)) {j : Nat} {v : Int} (e : row[j]? = some v) : ixI v row = some j := by
  obtain ⟨k, hk⟩ := ixI_mem (List.mem_of_getElem? e)
  have e2 := (ixI_ok hk).1
  have : k = j := by
    by_cases l : k < j
    · have := sorted_get h e2 e l; omega
    · by_cases l2 : j < k
      · have := sorted_get h e e2 l2; omega
      · omega
  rw [hk, this]
theorem rN_dense (u : List (Option Int)) : dense (rN u) = true := by
  unfold dense
  rw [List.all_eq_true]
  intro o ho
  cases o with
  | none => rfl
  | some j =>
    cases j with
    | zero => rfl
    | succ j =>
      obtain ⟨p, hp, e⟩ := List.mem_map.mp ho
      cases p with
      | none => cases e
      | some i =>
        obtain ⟨k, hk⟩ := ixI_mem (srtU_mem.mpr (mem_vals.mpr hp))
        simp only [Option.map_some, hk, Option.getD_some, Option.some.injEq] at e
        subst e
        have hl := (List.getElem?_eq_some_iff.mp (ixI_ok hk).1).1
        have hj : j < (srtU (vals u)).length := by omega
        have e1 := getD_get hj
        have e2 := ix_sorted (srtU_sorted _) e1
        have hm := mem_vals.mp (srtU_mem.mp (List.mem_of_getElem? e1))
        simp only [List.contains_iff_mem]
        exact List.mem_map.mpr ⟨_, hm, by rw [Option.map_some, e2]; rfl⟩
theorem rN_cands (u : List (Option Int)) : rN u ∈ (candsN u.length u.length).filter dense := by
  rw [List.mem_filter]
  refine ⟨?_, rN_dense u⟩
  have hl : (rN u).length = u.length := by simp [rN]
  have := mem_cands (m := u.length) (rN u) fun o ho j e => by
    obtain ⟨p, hp, e'⟩ := List.mem_map.mp ho
    cases p with
    | none => rw [e] at e'; cases e'
    | some i =>
      obtain ⟨k, hk⟩ := ixI_mem (srtU_mem.mpr (mem_vals.mpr hp))
      rw [e] at e'
      simp only [Option.map_some, hk, Option.getD_some, Option.some.injEq] at e'
      subst e'
      have h1 := (List.getElem?_eq_some_iff.mp (ixI_ok hk).1).1
      have h2 := srtU_len (xs := vals u)
      have h3 := vals_len u
      omega
  rw [hl] at this
  exact this
def lastS : List (Option Nat) → Bool
  | [_, _, _, some _] => true
  | _ => false
def U124 : List (List (Option Nat)) := ((candsN 4 4).filter dense).filter lastS
def U26 : List (List (Option Nat)) := (candsN 3 3).filter dense
theorem U124_len : U124.length = 124 := by decide +kernel
theorem U26_len : U26.length = 26 := by decide +kernel
def U248 : List NestedKey := U124.map (fun r => .tup [.tup (r.map natK), .num 0]) ++ U124.map (fun r => .tup [.tup (r.map natK), .num 1])
theorem mem_U248 (s : Sd) : s.mkey ∈ U248 := by
  have h : rN s.u ∈ U124 := List.mem_filter.mpr ⟨rN_cands s.u, rfl⟩
  unfold Sd.mkey U248
  rw [keys_rN]
  cases s.fl
  · exact List.mem_append_left _ (List.mem_map.mpr ⟨_, h, by simp⟩)
  · exact List.mem_append_right _ (List.mem_map.mpr ⟨_, h, by simp⟩)
structure KOk2 (known : List NestedKey) : Prop where
  nd : known.Nodup
  u : ∀ k ∈ known, k ∈ U248
theorem KOk2.len {known : List NestedKey} (h : KOk2 known) : known.length ≤ 248 := by
  have h1 := nodup_le known U248 h.nd h.u
  have h2 : U248.length = 248 := by simp [U248, U124_len]
  omega
/-- a standing but for the shop's price -/
def Sd.cls (s : Sd) : List (Option Nat) × Bool := (rN [s.k1, s.k2, s.seen], s.fl)
def U52 : List (List (Option Nat) × Bool) := U26.map (fun r => (r, false)) ++ U26.map (fun r => (r, true))
theorem mem_U52 (s : Sd) : s.cls ∈ U52 := by
  have h : rN [s.k1, s.k2, s.seen] ∈ U26 := rN_cands _
  unfold Sd.cls U52
  cases s.fl
  · exact List.mem_append_left _ (List.mem_map.mpr ⟨_, h, rfl⟩)
  · exact List.mem_append_right _ (List.mem_map.mpr ⟨_, h, rfl⟩)
theorem U52_le {cs : List (List (Option Nat) × Bool)} (h : cs.Nodup) (hu : ∀ c ∈ cs, c ∈ U52) : cs.length ≤ 52 := by
  have h1 := nodup_le cs U52 h hu
  have h2 : U52.length = 52 := by simp [U52, U26_len]
  omega

end Lw

set_option exponentiation.threshold 100000
namespace Lw
open PySem PySem.Spec PyProof.Rows L2 PL
/-! ### standings by their order alone -/
def Sd.mp (f : Int → Int) (s : Sd) : Sd := ⟨s.k1.map f, s.k2.map f, s.seen.map f, f s.now, s.fl, s.dd, s.ap⟩
def Sd.wd (s : Sd) (dd : List D) (ap : Bool) : Sd := ⟨s.k1, s.k2, s.seen, s.now, s.fl, dd, ap⟩
theorem mem_known2 {s : Sd} {a : Int} : a ∈ s.known ↔ s.k1 = some a ∨ s.k2 = some a ∨ s.seen = some a ∨ s.now = a := by
  unfold Sd.known
  rw [mem_vals]
  simp only [Sd.u, List.mem_cons, Option.some.injEq, List.not_mem_nil, or_false]
  constructor
  · rintro (h | h | h | h)
    · exact .inl h.symm
    · exact .inr (.inl h.symm)
    · exact .inr (.inr (.inl h.symm))
    · exact .inr (.inr (.inr h.symm))
  · rintro (h | h | h | h)
    · exact .inl h.symm
    · exact .inr (.inl h.symm)
    · exact .inr (.inr (.inl h.symm))
    · exact .inr (.inr (.inr h.symm))
theorem now2_in (s : Sd) : s.now ∈ s.known := mem_known2.mpr (.inr (.inr (.inr rfl)))
theorem wk2_in (s : Sd) {k : Option Int} (hk : ∀ x, k = some x → x ∈ s.known) : LwIn s.known ⟨k.getD s.now, s.seen, [], 0⟩ := by
  refine ⟨?_, fun z hz => mem_known2.mpr (.inr (.inr (.inl hz)))⟩
  cases k with
  | none => exact now2_in s
  | some z => exact hk z rfl
theorem wk2_mp {f : Int → Int} {s : Sd} (m : MonoOn f s.known) (rule : List Str) {k : Option Int} (hk : ∀ x, k = some x → x ∈ s.known) : wk2 rule (k.map f) (s.mp f) = (wk2 rule k s).mp f ∧ LwIn s.known (wk2 rule k s) := by
  have h := acts_mp m (now2_in s) rule (wk2_in s hk)
  unfold wk2
  have e : (⟨(k.map f).getD (s.mp f).now, (s.mp f).seen, [], 0⟩ : LWk) = LWk.mp f ⟨k.getD s.now, s.seen, [], 0⟩ := by
    unfold Sd.mp LWk.mp
    cases k <;> rfl
  rw [e]
  exact h
theorem k1_in (s : Sd) : ∀ x, s.k1 = some x → x ∈ s.known := fun x h => mem_known2.mpr (.inl h)
theorem k2_in (s : Sd) : ∀ x, s.k2 = some x → x ∈ s.known := fun x h => mem_known2.mpr (.inr (.inl h))
theorem opt_eq {f : Int → Int} {S : List Int} (m : MonoOn f S) {a b : Option Int} (ha : ∀ x, a = some x → x ∈ S) (hb : ∀ x, b = some x → x ∈ S) : a.map f = b.map f ↔ a = b := by
  cases a with
  | none => cases b <;> simp
  | some x =>
    cases b with
    | none => simp
    | some y =>
      have := m.eq (ha x rfl) (hb y rfl)
      simp [this]
theorem apart_mp {f : Int → Int} {S : List Int} (m : MonoOn f S) {w1 w2 : LWk} (h1 : LwIn S w1) (h2 : LwIn S w2) (t : Bool) : apartW (w1.mp f) (w2.mp f) t = apartW w1 w2 t := by
  have e1 := opt_eq m h1.se h2.se
  have e2 := m.eq h1.st h2.st
  unfold apartW LWk.mp
  simp only [e1, e2]
theorem go2_mp {f : Int → Int} {s : Sd} (m : MonoOn f s.known) (r1 r2 : List Str) (deed : D) (b t : Bool) : (s.mp f).go r1 r2 deed b t = (s.go r1 r2 deed b t).mp f := by
  have h1 := wk2_mp m r1 (k1_in s)
  have h2 := wk2_mp m r2 (k2_in s)
  have h3 := apart_mp m h1.2 h2.2 t
  unfold Sd.go
  have e1 : (s.mp f).k1 = s.k1.map f := rfl
  have e2 : (s.mp f).k2 = s.k2.map f := rfl
  rw [e1, e2, h1.1, h2.1, h3]
  rfl
theorem go2_known {s : Sd} (r1 r2 : List Str) (deed : D) (b t : Bool) : ∀ a ∈ (s.go r1 r2 deed b t).known, a ∈ s.known := by
  intro a ha
  have m : MonoOn id s.known := fun a _ b _ l => l
  have h1 := (wk2_mp m r1 (k1_in s)).2
  have h2 := (wk2_mp m r2 (k2_in s)).2
  rcases mem_known2.mp ha with z | z | z | z
  · simp only [Sd.go, Option.some.injEq] at z
    rw [← z]; exact h1.st
  · simp only [Sd.go, Option.some.injEq] at z
    rw [← z]; exact h2.st
  · exact h1.se a z
  · rw [← z]; exact now2_in s
theorem mkey_eq2 {s t : Sd} : s.mkey = t.mkey ↔ keysOf s.u = keysOf t.u ∧ s.fl = t.fl := by
  unfold Sd.mkey
  constructor
  · intro h
    injection h with h
    simp only [List.cons.injEq, and_true] at h
    obtain ⟨h1, h2⟩ := h
    injection h1 with h1
    injection h2 with h2
    refine ⟨h1, ?_⟩
    revert h2
    cases s.fl <;> cases t.fl <;> simp
  · rintro ⟨h1, h2⟩
    rw [h1, h2]
theorem mkey_wd2 (s : Sd) (dd : List D) (ap : Bool) : (s.wd dd ap).mkey = s.mkey := rfl
theorem mkey_mp2 {f : Int → Int} {s : Sd} (m : MonoOn f s.known) : (s.mp f).mkey = s.mkey := by
  refine mkey_eq2.mpr ⟨?_, rfl⟩
  exact keys_map (u := s.u) m
theorem mkey_pat2 {s t : Sd} (h : s.mkey = t.mkey) : ∃ f, MonoOn f s.known ∧ t = (s.mp f).wd t.dd t.ap := by
  obtain ⟨h1, h2⟩ := mkey_eq2.mp h
  obtain ⟨f, m, e⟩ := keys_eq h1
  refine ⟨f, m, ?_⟩
  simp only [Sd.u, List.map_cons, List.map_nil, List.cons.injEq, and_true, Option.map_some, Option.some.injEq] at e
  obtain ⟨e1, e2, e3, e4⟩ := e
  obtain ⟨a, b, c, d, z, dd, ap⟩ := t
  simp only [Sd.wd, Sd.mp] at *
  rw [e1, e2, e3, e4, h2]
/-- moves of a person -/
inductive Mv2 where
  | rule (i : Nat) | pay (b : Bool) | calm
def Mv2.kept : Mv2 → Bool
  | .pay b => !b
  | _ => true
def Sd.mv (rs qs : Rls) (s : Sd) : Mv2 → Option Sd
  | .rule i => if i < 4 ∧ (i = 0 ∨ s.k1 ≠ none) then some (s.go (rs.getD i []) (qs.getD i []) ([putD, lookD, alterD, backD].getD i putD) false false) else none
  | .pay b => if s.k1 ≠ none then some (s.go (payR rs s.fl) (payR qs s.fl) (payD b) (!b) b) else none
  | .calm => if s.k1 ≠ none ∧ s.fl = true then some s.calm else none
theorem persons_mv2 {rs qs : Rls} {s t : Sd} : t ∈ s.persons rs qs ↔ ∃ m, s.mv rs qs m = some t := by
  constructor
  · intro h
    unfold Sd.persons at h
    rcases List.mem_cons.mp h with z | z
    · exact ⟨.rule 0, by simp [Sd.mv, z]⟩
    · split at z
      · simp at z
      · rename_i hz
        rcases List.mem_append.mp z with z | z
        · simp only [Sd.mine, List.mem_cons, List.not_mem_nil, or_false] at z
          rcases z with z | z | z | z | z
          · exact ⟨.rule 1, by simp [Sd.mv, z, hz]⟩
          · exact ⟨.rule 2, by simp [Sd.mv, z, hz]⟩
          · exact ⟨.rule 3, by simp [Sd.mv, z, hz]⟩
          · exact ⟨.pay true, by simp [Sd.mv, z, hz]⟩
          · exact ⟨.pay false, by simp [Sd.mv, z, hz]⟩
        · split at z
          · rename_i hf
            exact ⟨.calm, by simp [Sd.mv, hz, hf, List.mem_singleton.mp z]⟩
          · simp at z
  · rintro ⟨m, h⟩
    unfold Sd.persons
    cases m with
    | rule i =>
      simp only [Sd.mv] at h
      split at h
      · rename_i hi
        obtain ⟨i1, i2⟩ := hi
        cases h
        rcases i2 with rfl | i2
        · simp
        · have : i = 0 ∨ i = 1 ∨ i = 2 ∨ i = 3 := by omega
          rcases this with rfl | rfl | rfl | rfl <;> simp [Sd.mine, i2]
      · cases h
    | pay b =>
      simp only [Sd.mv] at h
      split at h
      · rename_i hz
        cases h
        cases b <;> simp [Sd.mine, hz]
      · cases h
    | calm =>
      simp only [Sd.mv] at h
      split at h
      · rename_i hz
        cases h
        simp [hz.1, hz.2]
      · cases h
def lastPay (s : Sd) : Bool := match s.dd.getLast? with
  | some (.tup [.str w, .bl true]) => decide (w = "pay")
  | _ => false
theorem mv_last {rs qs : Rls} {s t : Sd} {v : Mv2} (h : s.mv rs qs v = some t) : lastPay t = !v.kept ∧ ∃ d, isDeed d ∧ prc d = none ∧ t.dd = s.dd ++ [d] := by
  cases v with
  | rule i =>
    simp only [Sd.mv] at h
    split at h
    · rename_i hi
      cases h
      have : i = 0 ∨ i = 1 ∨ i = 2 ∨ i = 3 := by omega
      rcases this with rfl | rfl | rfl | rfl
      · exact ⟨by simp [lastPay, Sd.go, putD, Mv2.kept], putD, by unfold isDeed; simp, rfl, rfl⟩
      · exact ⟨by simp [lastPay, Sd.go, lookD, Mv2.kept], lookD, by unfold isDeed; simp, rfl, rfl⟩
      · exact ⟨by simp [lastPay, Sd.go, alterD, Mv2.kept], alterD, by unfold isDeed; simp, rfl, rfl⟩
      · exact ⟨by simp [lastPay, Sd.go, backD, Mv2.kept], backD, by unfold isDeed; simp, rfl, rfl⟩
    · cases h
  | pay b =>
    simp only [Sd.mv] at h
    split at h
    · cases h
      cases b
      · exact ⟨by simp [lastPay, Sd.go, payD, Mv2.kept], payD false, by unfold isDeed; simp, rfl, rfl⟩
      · exact ⟨by simp [lastPay, Sd.go, payD, Mv2.kept], payD true, by unfold isDeed; simp, rfl, rfl⟩
    · cases h
  | calm =>
    simp only [Sd.mv] at h
    split at h
    · cases h
      exact ⟨by simp [lastPay, Sd.calm, putbD, Mv2.kept], putbD, by unfold isDeed; simp, rfl, rfl⟩
    · cases h
theorem at_last (s : Sd) (n : Int) : lastPay (s.at n) = false := by
  simp [lastPay, Sd.at, priceD]
theorem mv_mp2 {f : Int → Int} {rs qs : Rls} {s t : Sd} (m : MonoOn f s.known) {v : Mv2} (h : s.mv rs qs v = some t) : (s.mp f).mv rs qs v = some (t.mp f) ∧ ∀ a ∈ t.known, a ∈ s.known := by
  have hs : (s.mp f).k1 = none ↔ s.k1 = none := by
    show s.k1.map f = none ↔ _
    simp
  cases v with
  | rule i =>
    simp only [Sd.mv] at h ⊢
    split at h
    · rename_i hi
      cases h
      have hi2 : i < 4 ∧ (i = 0 ∨ (s.mp f).k1 ≠ none) := ⟨hi.1, hi.2.imp id fun q => by rw [ne_eq, hs]; exact q⟩
      rw [if_pos hi2, go2_mp m]
      exact ⟨rfl, go2_known _ _ _ _ _⟩
    · cases h
  | pay b =>
    simp only [Sd.mv] at h ⊢
    split at h
    · rename_i hz
      cases h
      have hz2 : (s.mp f).k1 ≠ none := by rw [ne_eq, hs]; exact hz
      rw [if_pos hz2]
      have := go2_mp m (payR rs s.fl) (payR qs s.fl) (payD b) (!b) b
      exact ⟨congrArg some this, go2_known _ _ _ _ _⟩
    · cases h
  | calm =>
    simp only [Sd.mv] at h ⊢
    split at h
    · rename_i hz
      cases h
      have hz2 : (s.mp f).k1 ≠ none ∧ (s.mp f).fl = true := ⟨by rw [ne_eq, hs]; exact hz.1, hz.2⟩
      rw [if_pos hz2]
      exact ⟨rfl, fun a ha => ha⟩
    · cases h
theorem mv_wd2 {rs qs : Rls} {s t : Sd} {v : Mv2} (dd : List D) (ap : Bool) (h : s.mv rs qs v = some t) : ∃ dd', (s.wd dd ap).mv rs qs v = some (t.wd dd' t.ap) := by
  cases v with
  | rule i =>
    simp only [Sd.mv] at h ⊢
    split at h
    · rename_i hi
      cases h
      exact ⟨_, by rw [if_pos (show i < 4 ∧ (i = 0 ∨ (s.wd dd ap).k1 ≠ none) from hi)]; rfl⟩
    · cases h
  | pay b =>
    simp only [Sd.mv] at h ⊢
    split at h
    · rename_i hz
      cases h
      exact ⟨_, by rw [if_pos (show (s.wd dd ap).k1 ≠ none from hz)]; rfl⟩
    · cases h
  | calm =>
    simp only [Sd.mv] at h ⊢
    split at h
    · rename_i hz
      cases h
      exact ⟨_, by rw [if_pos (show (s.wd dd ap).k1 ≠ none ∧ (s.wd dd ap).fl = true from hz)]; rfl⟩
    · cases h
theorem mv_key {rs qs : Rls} {s s' t : Sd} {v : Mv2} (h : s.mkey = s'.mkey) (hv : s.mv rs qs v = some t) : ∃ t', s'.mv rs qs v = some t' ∧ t'.mkey = t.mkey ∧ t'.ap = t.ap := by
  obtain ⟨f, m, e⟩ := mkey_pat2 h
  obtain ⟨h1, h2⟩ := mv_mp2 m hv
  obtain ⟨dd', h3⟩ := mv_wd2 s'.dd s'.ap h1
  rw [← e] at h3
  exact ⟨_, h3, mkey_mp2 (m.sub h2), rfl⟩
theorem priced_key2 {s s' : Sd} (h : s.mkey = s'.mkey) (w : Wide 2 s'.known) (a : Int) (dd : List D) (ap : Bool) : ∃ t' ∈ s'.priced, t'.mkey = (⟨s.k1, s.k2, s.seen, a, s.fl, dd, ap⟩ : Sd).mkey := by
  obtain ⟨f, m, e⟩ := mkey_pat2 h
  have ek : s'.known = s.known.map f := by
    rw [e]
    exact vals_map f s.u
  rw [ek] at w
  obtain ⟨a', h1, g, h2, h3, h4⟩ := bet_ext m (known2_ne s) w a
  rw [← ek] at h1
  refine ⟨s'.at a', List.mem_map.mpr ⟨a', h1, rfl⟩, ?_⟩
  have hz : (⟨s.k1, s.k2, s.seen, a, s.fl, dd, ap⟩ : Sd).mp g = (s'.at a').wd dd ap := by
    have hg : ∀ o : Option Int, (∀ x, o = some x → x ∈ s.known) → o.map g = o.map f := fun o ho => by
      cases o with
      | none => rfl
      | some x => simp [h4 x (ho x rfl)]
    have g1 := hg s.k1 (k1_in s)
    have g2 := hg s.k2 (k2_in s)
    have g3 := hg s.seen fun x hx => mem_known2.mpr (.inr (.inr (.inl hx)))
    have e1 : s'.k1 = s.k1.map f := by rw [e]; rfl
    have e2 : s'.k2 = s.k2.map f := by rw [e]; rfl
    have e3 : s'.seen = s.seen.map f := by rw [e]; rfl
    have e4 : s'.fl = s.fl := by rw [e]; rfl
    simp only [Sd.mp, Sd.wd, Sd.at, g1, g2, g3, h3, e1, e2, e3, e4]
  rw [← mkey_wd2 (s'.at a') dd ap, ← hz]
  refine mkey_mp2 (h2.sub fun x hx => ?_)
  rcases mem_known2.mp hx with z | z | z | z
  · exact List.mem_cons_of_mem _ (mem_known2.mpr (.inl z))
  · exact List.mem_cons_of_mem _ (mem_known2.mpr (.inr (.inl z)))
  · exact List.mem_cons_of_mem _ (mem_known2.mpr (.inr (.inr (.inl z))))
  · rw [← z]; simp
theorem rN_keys {u v : List (Option Int)} (h : rN u = rN v) : keysOf u = keysOf v := by
  rw [keys_rN, keys_rN, h]
/-- all standings but for the price -/
theorem cls_key {t s : Sd} (h : t.cls = s.cls) (w : Wide 2 s.known) : ∃ t' ∈ s.priced, t'.mkey = t.mkey := by
  obtain ⟨h1, h2⟩ := Prod.mk.injEq .. ▸ h
  have h1 := rN_keys h1
  obtain ⟨f, m, e⟩ := keys_eq h1
  simp only [List.map_cons, List.map_nil, List.cons.injEq, and_true] at e
  obtain ⟨e1, e2, e3⟩ := e
  obtain ⟨xs, hxs⟩ : ∃ xs, xs = vals [t.k1, t.k2, t.seen] := ⟨_, rfl⟩
  have key : ∃ b : Int, (⟨s.k1, s.k2, s.seen, b, s.fl, t.dd, t.ap⟩ : Sd).mkey = t.mkey := by
    by_cases hz : xs = []
    · have hn : ∀ o ∈ [t.k1, t.k2, t.seen], o = none := by
        intro o ho
        cases o with
        | none => rfl
        | some a =>
          have : a ∈ xs := by rw [hxs]; exact mem_vals.mpr ho
          rw [hz] at this
          simp at this
      have z1 := hn t.k1 (by simp)
      have z2 := hn t.k2 (by simp)
      have z3 := hn t.seen (by simp)
      refine ⟨t.now, ?_⟩
      rw [e1, e2, e3, ← h2, z1, z2, z3]
      obtain ⟨a, b, c, d, z, dd, ap⟩ := t
      simp only at z1 z2 z3 ⊢
      rw [z1, z2, z3]
      rfl
    · rw [← hxs] at m
      have hsub : ∀ y ∈ xs.map f, y ∈ s.known := by
        intro y hy
        obtain ⟨x, hx, rfl⟩ := List.mem_map.mp hy
        rw [hxs] at hx
        have hx := mem_vals.mp hx
        simp only [List.mem_cons, List.not_mem_nil, or_false] at hx
        rcases hx with z | z | z
        · exact mem_known2.mpr (.inl (by rw [e1, ← z]; rfl))
        · exact mem_known2.mpr (.inr (.inl (by rw [e2, ← z]; rfl)))
        · exact mem_known2.mpr (.inr (.inr (.inl (by rw [e3, ← z]; rfl))))
      obtain ⟨b, _, g, g1, g2, g3⟩ := bet_ext m hz (w.sub hsub) t.now
      refine ⟨b, ?_⟩
      have hg : ∀ o : Option Int, o ∈ [t.k1, t.k2, t.seen] → o.map g = o.map f := fun o ho => by
        cases o with
        | none => rfl
        | some x => simp [g3 x (by rw [hxs]; exact mem_vals.mpr ho)]
      have hm : t.mp g = ⟨s.k1, s.k2, s.seen, b, s.fl, t.dd, t.ap⟩ := by
        have i1 := hg t.k1 (by simp)
        have i2 := hg t.k2 (by simp)
        have i3 := hg t.seen (by simp)
        simp only [Sd.mp, i1, i2, i3, g2, e1, e2, e3, h2]
      rw [← hm]
      refine mkey_mp2 (g1.sub fun x hx => ?_)
      rcases mem_known2.mp hx with z | z | z | z
      · exact List.mem_cons_of_mem _ (by rw [hxs]; exact mem_vals.mpr (by simp [z]))
      · exact List.mem_cons_of_mem _ (by rw [hxs]; exact mem_vals.mpr (by simp [z]))
      · exact List.mem_cons_of_mem _ (by rw [hxs]; exact mem_vals.mpr (by simp [z]))
      · rw [← z]; simp
  obtain ⟨b, hb⟩ := key
  rw [← hb]
  exact priced_key2 (s := s) rfl w b t.dd t.ap
/-- room -/
theorem mv_wide {rs qs : Rls} {s t : Sd} {w : Int} {v : Mv2} (h : Wide w s.known) (hv : s.mv rs qs v = some t) : Wide w t.known :=
  h.sub (mv_mp2 (f := id) (fun a _ b _ l => l) hv).2
theorem at_wide {s : Sd} {n w : Int} (hw : 0 < w) (hW : w ≤ WD) (h : Wide (2 * w) s.known) (hn : n ∈ betP s.known) : Wide w (s.at n).known := by
  refine (bet_wide (known2_ne s) hw h hW hn).sub fun x hx => ?_
  rcases mem_known2.mp hx with z | z | z | z
  · exact List.mem_cons_of_mem _ (mem_known2.mpr (.inl z))
  · exact List.mem_cons_of_mem _ (mem_known2.mpr (.inr (.inl z)))
  · exact List.mem_cons_of_mem _ (mem_known2.mpr (.inr (.inr (.inl z))))
  · rw [← z]; exact List.mem_cons_self

end Lw

set_option exponentiation.threshold 100000
namespace Lw
open PySem PySem.Spec PyProof.Rows L2 PL
/-! ### the search through standings -/
abbrev Kl2 := List NestedKey × List Sd
def see2 (kl : Kl2) (o : Sd) : Kl2 := if lastPay o = true ∨ o.mkey ∈ kl.1 then kl else (o.mkey :: kl.1, kl.2 ++ [o])
def stepL : List Sd → Kl2 → Sd ⊕ Kl2
  | [], kl => .inr kl
  | o :: os, kl => if o.ap = true then .inl o else stepL os (see2 kl o)
def Sd.next (s : Sd) (rs qs : Rls) : List Sd := s.persons rs qs ++ s.priced
def walk2 (rs qs : Rls) : List Sd → Kl2 → Sd ⊕ Kl2
  | [], kl => .inr kl
  | s :: ss, kl => match stepL (s.next rs qs) kl with
    | .inl p => .inl p
    | .inr kl' => walk2 rs qs ss kl'
def bfs2 (rs qs : Rls) : Nat → List Sd → List NestedKey → Option (Option Sd)
  | 0, _, _ => none
  | n + 1, layer, known => match layer with
    | [] => some none
    | s :: ss => match walk2 rs qs (s :: ss) (known, []) with
      | .inl p => some (some p)
      | .inr kl => bfs2 rs qs n kl.2 kl.1
def sd0 : Sd := ⟨none, none, none, 0, false, [], false⟩
def apartS (rs qs : Rls) : Option (Option Sd) := bfs2 rs qs 1000 [sd0] [sd0.mkey]
/-- what a run over found ones leaves -/
structure Gr (F : List Sd) (kl kl' : Kl2) : Prop where
  ko : KOk2 kl.1 → KOk2 kl'.1
  gr : kl'.1.length + kl.2.length = kl.1.length + kl'.2.length
  sub : ∀ k ∈ kl.1, k ∈ kl'.1
  all : ∀ t ∈ F, t.ap = false ∧ (lastPay t = false → t.mkey ∈ kl'.1)
  mem : ∀ t ∈ kl'.2, t ∈ kl.2 ∨ (t ∈ F ∧ t.mkey ∉ kl.1 ∧ lastPay t = false)
  pre : ∀ t ∈ kl.2, t ∈ kl'.2
  rep : ∀ k ∈ kl'.1, k ∈ kl.1 ∨ ∃ t ∈ kl'.2, t.mkey = k
theorem Gr.nil (kl : Kl2) : Gr [] kl kl := ⟨id, rfl, fun _ h => h, by simp, fun _ h => .inl h, fun _ h => h, fun _ h => .inl h⟩
theorem Gr.comp {F1 F2 : List Sd} {a b c : Kl2} (h1 : Gr F1 a b) (h2 : Gr F2 b c) : Gr (F1 ++ F2) a c where
  ko := fun h => h2.ko (h1.ko h)
  gr := by have := h1.gr; have := h2.gr; omega
  sub := fun k h => h2.sub k (h1.sub k h)
  all := fun t ht => by
    rcases List.mem_append.mp ht with z | z
    · exact ⟨(h1.all t z).1, fun q => h2.sub _ ((h1.all t z).2 q)⟩
    · exact h2.all t z
  mem := fun t ht => by
    rcases h2.mem t ht with z | ⟨z1, z2, z3⟩
    · rcases h1.mem t z with w | ⟨w1, w2, w3⟩
      · exact .inl w
      · exact .inr ⟨List.mem_append_left _ w1, w2, w3⟩
    · exact .inr ⟨List.mem_append_right _ z1, fun q => z2 (h1.sub _ q), z3⟩
  pre := fun t h => h2.pre t (h1.pre t h)
  rep := fun k hk => by
    rcases h2.rep k hk with z | z
    · rcases h1.rep k z with w | ⟨t, ht, w⟩
      · exact .inl w
      · exact .inr ⟨t, h2.pre t ht, w⟩
    · exact .inr z
theorem see2_gr {o : Sd} (h : o.ap = false) (kl : Kl2) : Gr [o] kl (see2 kl o) := by
  unfold see2
  split
  · rename_i q
    refine ⟨id, rfl, fun _ h => h, fun t ht => ?_, fun _ h => .inl h, fun _ h => h, fun _ h => .inl h⟩
    rw [List.mem_singleton.mp ht]
    refine ⟨h, fun z => ?_⟩
    rcases q with q | q
    · rw [q] at z; cases z
    · exact q
  · rename_i q
    have q1 : lastPay o = false := by
      cases z : lastPay o with
      | false => rfl
      | true => exact absurd (.inl z) q
    have q2 : o.mkey ∉ kl.1 := fun z => q (.inr z)
    refine ⟨fun hk => ⟨List.nodup_cons.mpr ⟨q2, hk.nd⟩, fun k hk2 => ?_⟩, by simp; omega, fun k hk => by simp [hk], fun t ht => ?_, fun t ht => ?_, fun t ht => by simp [ht], fun k hk => ?_⟩
    · rcases List.mem_cons.mp hk2 with z | z
      · rw [z]; exact mem_U248 o
      · exact hk.u k z
    · rw [List.mem_singleton.mp ht]
      exact ⟨h, fun _ => by simp⟩
    · rcases List.mem_append.mp ht with z | z
      · exact .inl z
      · rw [List.mem_singleton.mp z]
        exact .inr ⟨by simp, q2, q1⟩
    · rcases List.mem_cons.mp hk with z | z
      · exact .inr ⟨o, by simp, z.symm⟩
      · exact .inl z
theorem step_inr : ∀ {os : List Sd} {kl kl' : Kl2}, stepL os kl = .inr kl' → Gr os kl kl'
  | [], kl, kl', h => by
    simp only [stepL, Sum.inr.injEq] at h
    subst h
    exact Gr.nil _
  | o :: os, kl, kl', h => by
    unfold stepL at h
    split at h
    · cases h
    · rename_i q
      exact (see2_gr (by simpa using q) kl).comp (step_inr h)
theorem step_inl : ∀ {os : List Sd} {kl : Kl2} {p : Sd}, stepL os kl = .inl p → p ∈ os ∧ p.ap = true
  | [], kl, p, h => by simp [stepL] at h
  | o :: os, kl, p, h => by
    unfold stepL at h
    split at h
    · rename_i q
      simp only [Sum.inl.injEq] at h
      subst h
      exact ⟨by simp, q⟩
    · obtain ⟨h1, h2⟩ := step_inl h
      exact ⟨by simp [h1], h2⟩
theorem walk2_inr {rs qs : Rls} : ∀ {ss : List Sd} {kl kl' : Kl2}, walk2 rs qs ss kl = .inr kl' → Gr (ss.flatMap fun s => s.next rs qs) kl kl'
  | [], kl, kl', h => by
    simp only [walk2, Sum.inr.injEq] at h
    subst h
    exact Gr.nil _
  | s :: ss, kl, kl', h => by
    unfold walk2 at h
    split at h
    · cases h
    · rename_i kl1 q
      exact (step_inr q).comp (walk2_inr h)
theorem walk2_inl {rs qs : Rls} : ∀ {ss : List Sd} {kl : Kl2} {p : Sd}, walk2 rs qs ss kl = .inl p → ∃ s ∈ ss, p ∈ s.next rs qs ∧ p.ap = true
  | [], kl, p, h => by simp [walk2] at h
  | s :: ss, kl, p, h => by
    unfold walk2 at h
    split at h
    · rename_i p' q
      simp only [Sum.inl.injEq] at h
      subst h
      exact ⟨s, by simp, step_inl q⟩
    · obtain ⟨t, h1, h2⟩ := walk2_inl h
      exact ⟨t, by simp [h1], h2⟩
inductive CR (rs qs : Rls) : Nat → Sd → Prop where
  | zero (n : Nat) (x : Int) (dd : List D) (ap : Bool) : CR rs qs n ⟨none, none, none, x, false, dd, ap⟩
  | person {n : Nat} {s t : Sd} {v : Mv2} (dd : List D) (ap : Bool) (h : CR rs qs n s) (m : s.mv rs qs v = some t) (k : v.kept = true) : CR rs qs (n + 1) (t.wd dd ap)
  | price {n : Nat} {s : Sd} (a : Int) (dd : List D) (ap : Bool) (h : CR rs qs n s) : CR rs qs (n + 1) ⟨s.k1, s.k2, s.seen, a, s.fl, dd, ap⟩
  | stay {n : Nat} {s : Sd} (dd : List D) (ap : Bool) (h : CR rs qs n s) : CR rs qs (n + 1) (s.wd dd ap)
theorem CR.mono {rs qs : Rls} {n m : Nat} {s : Sd} (h : CR rs qs n s) (l : n ≤ m) : CR rs qs m s := by
  induction m with
  | zero =>
    have : n = 0 := by omega
    subst this
    exact h
  | succ m ih =>
    by_cases e : n = m + 1
    · subst e; exact h
    · exact (ih (by omega)).stay s.dd s.ap
inductive Path2 (rs qs : Rls) : Sd → Prop where
  | zero : Path2 rs qs sd0
  | next {s t : Sd} (h : Path2 rs qs s) (m : t ∈ s.next rs qs) (k : lastPay t = false) : Path2 rs qs t
abbrev Cl := List (Option Nat) × Bool
structure Lay (rs qs : Rls) (known : List NestedKey) (n : Nat) (s : Sd) : Prop where
  dl : s.dd.length = n
  deeds : ∀ d ∈ s.dd, isDeed d
  cs : ∃ cs : List Cl, cs.Nodup ∧ cs.length = (prices s.dd).length ∧ (∀ c ∈ cs, c ∈ U52) ∧ ∀ c ∈ cs, ∀ t : Sd, t.cls = c → t.mkey ∈ known
  wide : Wide (2 ^ (90 - (prices s.dd).length)) s.known
  pa : Path2 rs qs s
theorem Lay.p52 {rs qs : Rls} {known : List NestedKey} {n : Nat} {s : Sd} (h : Lay rs qs known n s) : (prices s.dd).length ≤ 52 := by
  obtain ⟨cs, h1, h2, h3, _⟩ := h.cs
  have := U52_le h1 h3
  omega
theorem wide_few {p : Nat} (hn : p ≤ 52) {xs : List Int} (h : Wide (2 ^ (90 - p)) xs) : Wide 2 xs := by
  intro a ha b hb l
  have h1 := h a ha b hb l
  have h2 : (2 : Int) ≤ 2 ^ (90 - p) := by
    have h3 : 90 - p = (89 - p) + 1 := by omega
    rw [h3, Int.pow_succ]
    have h4 : (0 : Int) < 2 ^ (89 - p) := Int.pow_pos (by decide)
    omega
  omega
theorem Lay.wide2 {rs qs : Rls} {known : List NestedKey} {n : Nat} {s : Sd} (h : Lay rs qs known n s) : Wide 2 s.known := wide_few h.p52 h.wide
theorem prices_app (dd : List D) (d : D) : prices (dd ++ [d]) = prices dd ++ (match prc d with
  | some n => [n]
  | none => []) := by
  unfold prices
  rw [List.filterMap_append]
  congr 1
  cases q : prc d <;> simp [q]
/-- behind one more deed -/
theorem lay_next {rs qs : Rls} {known known' : List NestedKey} {n : Nat} {s t : Sd} (h : Lay rs qs known n s) (sub : ∀ k ∈ known, k ∈ known') (ht : t ∈ s.next rs qs) (hn : t.mkey ∉ known) (hk : lastPay t = false) (hp : ∀ t ∈ s.priced, t.mkey ∈ known') : Lay rs qs known' (n + 1) t := by
  obtain ⟨cs, c1, c2, c3, c4⟩ := h.cs
  have h52 := h.p52
  rcases List.mem_append.mp ht with z | z
  · obtain ⟨v, hv⟩ := persons_mv2.mp z
    obtain ⟨_, d, d1, d2, d3⟩ := mv_last hv
    have e : prices t.dd = prices s.dd := by
      rw [d3, prices_app, d2]
      simp
    refine ⟨by rw [d3]; simp [h.dl], fun x hx => ?_, ⟨cs, c1, by rw [e]; exact c2, c3, fun c hc t ht => sub _ (c4 c hc t ht)⟩, by rw [e]; exact mv_wide h.wide hv, .next h.pa ht hk⟩
    rw [d3] at hx
    rcases List.mem_append.mp hx with w | w
    · exact h.deeds x w
    · rw [List.mem_singleton.mp w]; exact d1
  · obtain ⟨m, hm, rfl⟩ := List.mem_map.mp z
    have e : prices (s.at m).dd = prices s.dd ++ [m] := prices_app s.dd (priceD m)
    have el : (prices (s.at m).dd).length = (prices s.dd).length + 1 := by rw [e]; simp
    have hc : s.cls ∉ cs := fun q => hn (c4 _ q (s.at m) rfl)
    refine ⟨by simp [Sd.at, h.dl], fun x hx => ?_, ⟨s.cls :: cs, List.nodup_cons.mpr ⟨hc, c1⟩, by rw [el]; simp [c2], fun c hc2 => ?_, fun c hc2 t ht2 => ?_⟩, ?_, .next h.pa ht hk⟩
    · rcases List.mem_append.mp hx with w | w
      · exact h.deeds x w
      · rw [List.mem_singleton.mp w]; exact .inl ⟨m, rfl⟩
    · rcases List.mem_cons.mp hc2 with w | w
      · rw [w]; exact mem_U52 s
      · exact c3 c w
    · rcases List.mem_cons.mp hc2 with w | w
      · obtain ⟨t', h1, h2⟩ := cls_key (ht2.trans w) h.wide2
        rw [← h2]
        exact hp t' h1
      · exact sub _ (c4 c w t ht2)
    · rw [el]
      have h3 : 90 - (prices s.dd).length = (90 - ((prices s.dd).length + 1)) + 1 := by omega
      have h5 := h.wide
      rw [h3, Int.pow_succ, Int.mul_comm] at h5
      refine at_wide (Int.pow_pos (by decide)) ?_ h5 hm
      have h6 := two_pow_le (show 90 - ((prices s.dd).length + 1) ≤ 90 by omega)
      have h7 : (2 : Int) ^ 90 ≤ WD := by decide
      omega
structure Inv2 (rs qs : Rls) (n : Nat) (layer : List Sd) (known : List NestedKey) : Prop where
  ko : KOk2 known
  lay : ∀ s ∈ layer, Lay rs qs known n s
  old : ∀ k ∈ known, (∃ s ∈ layer, s.mkey = k) ∨ ∃ s : Sd, s.mkey = k ∧ Wide 2 s.known ∧ ∀ t ∈ s.next rs qs, t.ap = false ∧ (lastPay t = false → t.mkey ∈ known)
  reach : ∀ j, j ≤ n → ∀ c, CR rs qs j c → c.mkey ∈ known
  good : ∀ j, j < n → ∀ c, CR rs qs j c → ∀ v t, c.mv rs qs v = some t → t.ap = false
  nl : layer ≠ [] → n + 1 ≤ known.length
/-- a step from what is like a standing -/
theorem step_key2 {rs qs : Rls} {known known' : List NestedKey} (rep : ∀ k ∈ known, ∃ s : Sd, s.mkey = k ∧ Wide 2 s.known ∧ ∀ t ∈ s.next rs qs, t.ap = false ∧ (lastPay t = false → t.mkey ∈ known'))
    (z0 : ∀ (x : Int) (dd : List D) (ap : Bool), (⟨none, none, none, x, false, dd, ap⟩ : Sd).mkey ∈ known') (sub : ∀ k ∈ known, k ∈ known') {n : Nat} (ih : ∀ c, CR rs qs n c → c.mkey ∈ known) {c : Sd} (h : CR rs qs (n + 1) c) : c.mkey ∈ known' := by
  cases h with
  | zero n x dd ap => exact z0 x dd ap
  | person dd ap h m k =>
    obtain ⟨s', h1, h2, h3⟩ := rep _ (ih _ h)
    obtain ⟨t', h4, h5, _⟩ := mv_key h1.symm m
    rw [mkey_wd2, ← h5]
    refine (h3 t' (List.mem_append_left _ (persons_mv2.mpr ⟨_, h4⟩))).2 ?_
    rw [(mv_last h4).1, k]
    rfl
  | price a dd ap h =>
    obtain ⟨s', h1, h2, h3⟩ := rep _ (ih _ h)
    obtain ⟨t', h4, h5⟩ := priced_key2 h1.symm h2 a dd ap
    rw [← h5]
    refine (h3 t' (List.mem_append_right _ h4)).2 ?_
    obtain ⟨m, _, rfl⟩ := List.mem_map.mp h4
    exact at_last _ _
  | stay dd ap h =>
    rw [mkey_wd2]
    exact sub _ (ih _ h)
theorem good_key {rs qs : Rls} {known known' : List NestedKey} (rep : ∀ k ∈ known, ∃ s : Sd, s.mkey = k ∧ Wide 2 s.known ∧ ∀ t ∈ s.next rs qs, t.ap = false ∧ (lastPay t = false → t.mkey ∈ known')) {c t : Sd} {v : Mv2} (hc : c.mkey ∈ known) (h : c.mv rs qs v = some t) : t.ap = false := by
  obtain ⟨s', h1, h2, h3⟩ := rep _ hc
  obtain ⟨t', h4, _, h6⟩ := mv_key h1.symm h
  rw [← h6]
  exact (h3 t' (List.mem_append_left _ (persons_mv2.mpr ⟨_, h4⟩))).1
theorem inv_step {rs qs : Rls} {n : Nat} {layer later : List Sd} {known known' : List NestedKey} (I : Inv2 rs qs n layer known) (q : walk2 rs qs layer (known, []) = .inr (known', later)) : Inv2 rs qs (n + 1) later known' := by
  have g := walk2_inr q
  have sub : ∀ k ∈ known, k ∈ known' := g.sub
  have rep : ∀ k ∈ known, ∃ s : Sd, s.mkey = k ∧ Wide 2 s.known ∧ ∀ t ∈ s.next rs qs, t.ap = false ∧ (lastPay t = false → t.mkey ∈ known') := fun k hk => by
    rcases I.old k hk with ⟨s, hs, e⟩ | ⟨s, h1, h2, h3⟩
    · exact ⟨s, e, (I.lay s hs).wide2, fun t ht => g.all t (List.mem_flatMap.mpr ⟨s, hs, ht⟩)⟩
    · exact ⟨s, h1, h2, fun t ht => ⟨(h3 t ht).1, fun z => sub _ ((h3 t ht).2 z)⟩⟩
  refine ⟨g.ko I.ko, fun t ht => ?_, fun k hk => ?_, fun j hj c hc => ?_, fun j hj c hc v t hv => ?_, fun hne => ?_⟩
  · rcases g.mem t ht with z | ⟨z1, z2, z3⟩
    · simp at z
    · obtain ⟨s, hs, z1⟩ := List.mem_flatMap.mp z1
      refine lay_next (I.lay s hs) sub z1 z2 z3 fun u hu => (g.all u (List.mem_flatMap.mpr ⟨s, hs, List.mem_append_right _ hu⟩)).2 ?_
      obtain ⟨m, _, rfl⟩ := List.mem_map.mp hu
      exact at_last _ _
  · rcases g.rep k hk with z | ⟨t, ht, e⟩
    · exact .inr (rep k z)
    · exact .inl ⟨t, ht, e⟩
  · by_cases e : j ≤ n
    · exact sub _ (I.reach j e c hc)
    · have : j = n + 1 := by omega
      subst this
      exact step_key2 rep (fun x dd ap => sub _ (I.reach 0 (Nat.zero_le _) _ (.zero 0 x dd ap))) sub (fun c hc => I.reach n (Nat.le_refl _) c hc) hc
  · by_cases e : j < n
    · exact I.good j e c hc v t hv
    · have : j = n := by omega
      subst this
      exact good_key rep (I.reach j (Nat.le_refl _) c hc) hv
  · have := g.gr
    have h2 : 0 < later.length := List.length_pos_iff.mpr hne
    by_cases e : layer = []
    · subst e
      simp only [walk2, Sum.inr.injEq, Prod.mk.injEq] at q
      exact absurd q.2.symm hne
    · have := I.nl e
      simp only [List.length_nil, Nat.add_zero] at *
      omega
theorem bfs2_inv {rs qs : Rls} : ∀ (m n : Nat) (layer : List Sd) (known : List NestedKey), Inv2 rs qs n layer known → ∀ r, bfs2 rs qs m layer known = some r → match r with
    | none => ∀ j c, CR rs qs j c → ∀ v t, c.mv rs qs v = some t → t.ap = false
    | some p => ∃ (k : Nat) (s : Sd), Path2 rs qs s ∧ s.dd.length = k ∧ p ∈ s.next rs qs ∧ p.ap = true ∧ ∀ j, j < k → ∀ c, CR rs qs j c → ∀ v t, c.mv rs qs v = some t → t.ap = false
  | 0, _, _, _, _, r, h => by simp [bfs2] at h
  | m + 1, n, layer, known, I, r, h => by
    unfold bfs2 at h
    split at h
    · cases h
      have rep : ∀ k ∈ known, ∃ s : Sd, s.mkey = k ∧ Wide 2 s.known ∧ ∀ t ∈ s.next rs qs, t.ap = false ∧ (lastPay t = false → t.mkey ∈ known) := fun k hk => by
        rcases I.old k hk with ⟨s, hs, _⟩ | z
        · simp at hs
        · exact z
      have all : ∀ j c, CR rs qs j c → c.mkey ∈ known := by
        intro j
        induction j with
        | zero => exact fun c hc => I.reach 0 (Nat.zero_le _) c hc
        | succ j ih => exact fun c hc => step_key2 rep (fun x dd ap => I.reach 0 (Nat.zero_le _) _ (.zero 0 x dd ap)) (fun _ h => h) ih hc
      exact fun j c hc v t hv => good_key rep (all j c hc) hv
    · rename_i s ss
      split at h
      · rename_i p q
        cases h
        obtain ⟨s', h1, h2, h3⟩ := walk2_inl q
        exact ⟨n, s', (I.lay s' h1).pa, (I.lay s' h1).dl, h2, h3, I.good⟩
      · rename_i kl q
        exact bfs2_inv m (n + 1) kl.2 kl.1 (inv_step I q) r h
theorem zero_key2 (x : Int) (dd : List D) (ap : Bool) : (⟨none, none, none, x, false, dd, ap⟩ : Sd).mkey = sd0.mkey := by
  refine mkey_eq2.mpr ⟨?_, rfl⟩
  have := keys_map (f := fun _ => x) (u := [none, none, none, some (0 : Int)]) (fun a ha b hb l => by
    simp [vals] at ha hb
    omega)
  simpa [Sd.u, sd0] using this
theorem inv_start2 (rs qs : Rls) : Inv2 rs qs 0 [sd0] [sd0.mkey] where
  ko := ⟨by simp, fun k hk => by rw [List.mem_singleton.mp hk]; exact mem_U248 sd0⟩
  lay := fun s hs => by
    rw [List.mem_singleton.mp hs]
    refine ⟨rfl, by simp [sd0], ⟨[], by simp, rfl, by simp, by simp⟩, ?_, .zero⟩
    intro a ha b hb l
    rcases mem_known2.mp ha with z | z | z | z <;> rcases mem_known2.mp hb with z' | z' | z' | z' <;> simp [sd0] at z z' <;> omega
  old := fun k hk => .inl ⟨sd0, by simp, (List.mem_singleton.mp hk).symm⟩
  reach := fun j hj c hc => by
    have : j = 0 := by omega
    subst this
    cases hc with
    | zero n x dd ap => rw [zero_key2]; simp
  good := fun j hj => by omega
  nl := fun _ => by simp
theorem apart_none {rs qs : Rls} (h : apartS rs qs = some none) : ∀ j c, CR rs qs j c → ∀ v t, c.mv rs qs v = some t → t.ap = false := bfs2_inv 1000 0 [sd0] [sd0.mkey] (inv_start2 rs qs) none h
theorem apart_least {rs qs : Rls} {p : Sd} (h : apartS rs qs = some (some p)) : ∃ (k : Nat) (s : Sd), Path2 rs qs s ∧ s.dd.length = k ∧ p ∈ s.next rs qs ∧ p.ap = true ∧ ∀ j, j < k → ∀ c, CR rs qs j c → ∀ v t, c.mv rs qs v = some t → t.ap = false := bfs2_inv 1000 0 [sd0] [sd0.mkey] (inv_start2 rs qs) (some p) h

end Lw

set_option exponentiation.threshold 100000
namespace Lw
open PySem PySem.Spec PyProof.Rows L2 PL
/-! ### the loops of told_apart -/
def env2 (rs qs : Rls) (b3 : B) (kl : Kl2) (b5 b7 b8 : B) : List B := [.d (bookD rs), .d (bookD qs), .d (booksD rs qs), b3, .o none (.st kl.1), b5, .o none (sdsM kl.2), b7, b8]
def bodyF : Sv := (sSeq (sIf (fT (fPl 8 [("is_apart", ["Standing"])])) (sRet (fCall F_with_amounts [] [none, none] (fCons (fOf PL.gTup (fCons (fOf PL.gTup (fCons (fC (.str "a")) (fCons (fC (.int 0)) fNil))) (fCons (fOf PL.gTup (fCons (fC (.str "b")) (fCons (fC (.int 0)) fNil))) fNil))) (fCons (fPl 8 [("deeds", ["Standing"])]) fNil)))) sPass) (sIf (tAndT (fT (fOp (g2 gNe) (fOp (g2 gIx) (fPl 8 [("deeds", ["Standing"])]) (fUn gNeg (fC (.int 1)))) (fOf PL.gTup (fCons (fC (.str "pay")) (fCons (fC (.bl true)) fNil))))) (fT (fInSt true (fD (fMethO "Standing" "mark" F_Standing_mark [] 8 [] fNil)) 4))) (sSeq (sAddSt 4 (fD (fMethO "Standing" "mark" F_Standing_mark [] 8 [] fNil))) (sApp 6 (fVar 8))) sPass))
structure Fd (o : Sd) : Prop where
  deeds : ∀ d ∈ o.dd, isDeed d
  ne : o.dd ≠ []
  len : o.dd.length < 1000
  pr : (prices o.dd).length < 60
def lastD (d : D) : Bool := match d with
  | .tup [.str w, .bl true] => decide (w = "pay")
  | _ => false
theorem ne_pay {d : D} (h : isDeed d) : gNe d (payD true) = some (.bl (!lastD d)) := by
  rcases h with ⟨n, rfl⟩ | rfl | rfl | rfl | rfl | rfl | rfl | rfl
  · simp (config := {decide := true}) [gNe, gCmp, D.py, D.pys, SeqAt.shaped, PyData.eqv, PyData.eqvAll, PyData.canLay0, PyData.canLayAll0, PyData.depthAll, PyData.depth, lastD, priceD, payD, ok_price, ok_pay, okS_a]
  all_goals kernel_rfl
theorem p_markE2 (o : Sd) (b0 b1 b2 b3 b4 b5 b6 b7 : B) : (fD (fMethO "Standing" "mark" F_Standing_mark [] 8 [] fNil)) [b0, b1, b2, b3, b4, b5, b6, b7, .d o.d] = some (.d o.mark, [b0, b1, b2, b3, b4, b5, b6, b7, .d o.d]) := by
  have h := p_mark2 o
  have hs : o.d = .obj "Standing" sdNs o.ds := rfl
  rw [hs] at h ⊢
  clear hs
  generalize o.ds = ds at *
  simp only [sdNs] at h ⊢
  simp (config := {decide := true}) [fnF, sRet, sRetN, sSeq, sIf, sSet, sPass, sFrz, sDrop, fT, fOp, fVar, fC, fMov, fFrz, fD, startE, M.toD, M.toDs, M.toB, fIxO, isO, sIxO, atI, ixN, g2, g2m, fOf, PL.g1, g1m, g22, fCons, fNil, fIo, fCall, PL.fill, putb, M.argOf, M.hole, ownS, fin, finals, tNotT, tAndT, tOrT, fAnd, fOr, fNot, fIf, fChain, fPl, getP, setP, M.cell, M.setCell, M.sub, M.fld, fldI, sPut, M.setF, M.put, sAug, gPut, gTu, PL.gCons, gsNil, sAsg, sPar, fMethO, fMeth, fMake, appF, fLenO, sAppP, sApp, fLc, wipeB, tTrue, lAny, lRng, gNm, PL.gLst, PL.gTup, M.datas, fUnD, fMethK, fMake2, fProp, sExt, fPopP, gC, gInt, gInt0, gMod, gDiv, PL.gSub, gAdd, gMul, gLt, gLe, gGt, gGe, gToInt, gAbs, gMax, gMin, gLen, gIsN, gTupOf, gLstOf, bF, tPeek, fPeek, gEq_ss, gNe_ss, gEq_ii, gNe_ii, ok_take, ok_least, ok_last, ok_show, ok_ask, ok_put, ok_look, ok_alter, ok_back, ok_pay, ok_price, ok_again, isDd, isDl, isDo, isDk, isDb, h]
theorem p_apE (o : Sd) (b0 b1 b2 b3 b4 b5 b6 b7 : B) : fT (fPl 8 [("is_apart", ["Standing"])]) [b0, b1, b2, b3, b4, b5, b6, b7, .d o.d] = some (o.ap, [b0, b1, b2, b3, b4, b5, b6, b7, .d o.d]) := by
  obtain ⟨a, b, z, m, fl, dd, ap⟩ := o
  cases ap <;> simp (config := {decide := true}) [fnF, sRet, sRetN, sSeq, sIf, sSet, sPass, sFrz, sDrop, fT, fOp, fVar, fC, fMov, fFrz, fD, startE, M.toD, M.toDs, M.toB, fIxO, isO, sIxO, atI, ixN, g2, g2m, fOf, PL.g1, g1m, g22, fCons, fNil, fIo, fCall, PL.fill, putb, M.argOf, M.hole, ownS, fin, finals, tNotT, tAndT, tOrT, fAnd, fOr, fNot, fIf, fChain, fPl, getP, setP, M.cell, M.setCell, M.sub, M.fld, fldI, sPut, M.setF, M.put, sAug, gPut, gTu, PL.gCons, gsNil, sAsg, sPar, fMethO, fMeth, fMake, appF, fLenO, sAppP, sApp, fLc, wipeB, tTrue, lAny, lRng, gNm, PL.gLst, PL.gTup, M.datas, fUnD, fMethK, fMake2, fProp, sExt, fPopP, gC, gInt, gInt0, gMod, gDiv, PL.gSub, gAdd, gMul, gLt, gLe, gGt, gGe, gToInt, gAbs, gMax, gMin, gLen, gIsN, gTupOf, gLstOf, bF, tPeek, fPeek, gEq_ss, gNe_ss, gEq_ii, gNe_ii, ok_take, ok_least, ok_last, ok_show, ok_ask, ok_put, ok_look, ok_alter, ok_back, ok_pay, ok_price, ok_again, isDd, isDl, isDo, isDk, isDb, Sd.d, Sd.ds, sdNs]
theorem p_ddE (o : Sd) (b0 b1 b2 b3 b4 b5 b6 b7 : B) : fPl 8 [("deeds", ["Standing"])] [b0, b1, b2, b3, b4, b5, b6, b7, .d o.d] = some (.d (.lst o.dd), [b0, b1, b2, b3, b4, b5, b6, b7, .d o.d]) := by
  obtain ⟨a, b, z, m, fl, dd, ap⟩ := o
  simp (config := {decide := true}) [fnF, sRet, sRetN, sSeq, sIf, sSet, sPass, sFrz, sDrop, fT, fOp, fVar, fC, fMov, fFrz, fD, startE, M.toD, M.toDs, M.toB, fIxO, isO, sIxO, atI, ixN, g2, g2m, fOf, PL.g1, g1m, g22, fCons, fNil, fIo, fCall, PL.fill, putb, M.argOf, M.hole, ownS, fin, finals, tNotT, tAndT, tOrT, fAnd, fOr, fNot, fIf, fChain, fPl, getP, setP, M.cell, M.setCell, M.sub, M.fld, fldI, sPut, M.setF, M.put, sAug, gPut, gTu, PL.gCons, gsNil, sAsg, sPar, fMethO, fMeth, fMake, appF, fLenO, sAppP, sApp, fLc, wipeB, tTrue, lAny, lRng, gNm, PL.gLst, PL.gTup, M.datas, fUnD, fMethK, fMake2, fProp, sExt, fPopP, gC, gInt, gInt0, gMod, gDiv, PL.gSub, gAdd, gMul, gLt, gLe, gGt, gGe, gToInt, gAbs, gMax, gMin, gLen, gIsN, gTupOf, gLstOf, bF, tPeek, fPeek, gEq_ss, gNe_ss, gEq_ii, gNe_ii, ok_take, ok_least, ok_last, ok_show, ok_ask, ok_put, ok_look, ok_alter, ok_back, ok_pay, ok_price, ok_again, isDd, isDl, isDo, isDk, isDb, Sd.d, Sd.ds, sdNs]
theorem gIx_last (xs : List D) (d : D) : gIx (.lst (xs ++ [d])) (.int (-1)) = some d := by
  have h1 : ¬ (0 : Int) ≤ -1 := by decide
  have h2 : -((xs.length + 1 : Nat) : Int) ≤ -1 := by omega
  have h3 : (-1 + ((xs.length + 1 : Nat) : Int)).toNat = xs.length := by omega
  unfold gIx atI ixN
  simp only [List.length_append, List.length_cons, List.length_nil, Nat.zero_add, h1, h2, h3, if_false, if_true, Option.bind]
  simp
theorem p_lastE {o : Sd} (h : Fd o) (b0 b1 b2 b3 b4 b5 b6 b7 : B) : fT (fOp (g2 gNe) (fOp (g2 gIx) (fPl 8 [("deeds", ["Standing"])]) (fUn gNeg (fC (.int 1)))) (fOf PL.gTup (fCons (fC (.str "pay")) (fCons (fC (.bl true)) fNil)))) [b0, b1, b2, b3, b4, b5, b6, b7, .d o.d] = some (!lastPay o, [b0, b1, b2, b3, b4, b5, b6, b7, .d o.d]) := by
  have h1 := p_ddE o b0 b1 b2 b3 b4 b5 b6 b7
  obtain ⟨xs, d, e⟩ : ∃ xs d, o.dd = xs ++ [d] := ⟨_, _, (List.dropLast_concat_getLast h.ne).symm⟩
  have hd : isDeed d := h.deeds d (by rw [e]; simp)
  have h2 := gIx_last xs d
  have h3 := ne_pay hd
  have h4 : lastPay o = lastD d := by
    unfold lastPay
    rw [e, List.getLast?_concat]
    rcases hd with ⟨n, rfl⟩ | rfl | rfl | rfl | rfl | rfl | rfl | rfl <;> rfl
  rw [e] at h1
  rw [h4]
  unfold payD at h3
  generalize fPl 8 [("deeds", ["Standing"])] = ff at *
  generalize lastD d = c at *
  cases c <;> simp (config := {decide := true}) [fnF, sRet, sRetN, sSeq, sIf, sSet, sPass, sFrz, sDrop, fT, fOp, fVar, fC, fMov, fFrz, fD, startE, M.toD, M.toDs, M.toB, fIxO, isO, sIxO, atI, ixN, g2, g2m, fOf, PL.g1, g1m, g22, fCons, fNil, fIo, fCall, PL.fill, putb, M.argOf, M.hole, ownS, fin, finals, tNotT, tAndT, tOrT, fAnd, fOr, fNot, fIf, fChain, fPl, getP, setP, M.cell, M.setCell, M.sub, M.fld, fldI, sPut, M.setF, M.put, sAug, gPut, gTu, PL.gCons, gsNil, sAsg, sPar, fMethO, fMeth, fMake, appF, fLenO, sAppP, sApp, fLc, wipeB, tTrue, lAny, lRng, gNm, PL.gLst, PL.gTup, M.datas, fUnD, fMethK, fMake2, fProp, sExt, fPopP, gC, gInt, gInt0, gMod, gDiv, PL.gSub, gAdd, gMul, gLt, gLe, gGt, gGe, gToInt, gAbs, gMax, gMin, gLen, gIsN, gTupOf, gLstOf, bF, tPeek, fPeek, gEq_ss, gNe_ss, gEq_ii, gNe_ii, ok_take, ok_least, ok_last, ok_show, ok_ask, ok_put, ok_look, ok_alter, ok_back, ok_pay, ok_price, ok_again, isDd, isDl, isDo, isDk, isDb, fUn, gNeg, h1, h2, h3]
section
variable {rs qs : Rls} {b3 b5 b7 : B} {kl : Kl2} {o : Sd}
theorem p_found (h : Fd o) (h1 : kl.1.length + 1 ≤ 300) (h2 : kl.2.length < 1000000) :
    (o.ap = true → bodyF (env2 rs qs b3 kl b5 b7 (.d o.d)) = some (.rt (.d (withA o.dd)), env2 rs qs b3 kl b5 b7 (.d o.d))) ∧
    (o.ap = false → bodyF (env2 rs qs b3 kl b5 b7 (.d o.d)) = some (.nx, env2 rs qs b3 (see2 kl o) b5 b7 (.d o.d))) := by
  obtain ⟨ks, later⟩ := kl
  have a1 := p_apE o (.d (bookD rs)) (.d (bookD qs)) (.d (booksD rs qs)) b3 (.o none (.st ks)) b5 (.o none (sdsM later)) b7
  have a2 := p_ddE o (.d (bookD rs)) (.d (bookD qs)) (.d (booksD rs qs)) b3 (.o none (.st ks)) b5 (.o none (sdsM later)) b7
  have a3 := p_lastE h (.d (bookD rs)) (.d (bookD qs)) (.d (booksD rs qs)) b3 (.o none (.st ks)) b5 (.o none (sdsM later)) b7
  have hm := p_markE2 o
  have hk := mark_key2 o
  simp only at h1 h2
  refine ⟨fun q => ?_, fun q => ?_⟩
  · have h5 := p_with2 h.deeds h.len h.pr
    unfold prsD at h5
    rw [q] at a1
    unfold bodyF
    refine sSeq_rt ?_
    unfold sIf
    unfold env2
    simp only
    rw [a1]
    generalize fPl 8 [("deeds", ["Standing"])] = ff at *
    simp (config := {decide := true}) [sRet, fCall, fCons, fNil, fOf, fC, PL.gTup, M.datas, appF, PL.fill, putb, isDd, a2, h5]
  · rw [q] at a1
    unfold bodyF
    refine sSeq_nx (b1 := env2 rs qs b3 (ks, later) b5 b7 (.d o.d)) ?_ ?_
    · unfold sIf
      unfold env2
      simp only
      rw [a1]
      rfl
    have ht : (fT (fInSt true (fD (fMethO "Standing" "mark" F_Standing_mark [] 8 [] fNil)) 4)) (env2 rs qs b3 (ks, later) b5 b7 (.d o.d)) = some (!decide (o.mkey ∈ ks), env2 rs qs b3 (ks, later) b5 b7 (.d o.d)) := by
      unfold fT fInSt env2
      rw [hm]
      simp [hk]
    have ha : sAddSt 4 (fD (fMethO "Standing" "mark" F_Standing_mark [] 8 [] fNil)) (env2 rs qs b3 (ks, later) b5 b7 (.d o.d)) = some (.nx, env2 rs qs b3 (gAddK o.mkey ks, later) b5 b7 (.d o.d)) := by
      unfold sAddSt env2
      rw [hm]
      simp [hk, isO, h1]
    have hp : ∀ ks', sApp 6 (fVar 8) (env2 rs qs b3 (ks', later) b5 b7 (.d o.d)) = some (.nx, env2 rs qs b3 (ks', later ++ [o]) b5 b7 (.d o.d)) := by
      intro ks'
      unfold sApp env2 fVar sdsM
      simp [isO, h2]
    have a3' : (fT (fOp (g2 gNe) (fOp (g2 gIx) (fPl 8 [("deeds", ["Standing"])]) (fUn gNeg (fC (.int 1)))) (fOf PL.gTup (fCons (fC (.str "pay")) (fCons (fC (.bl true)) fNil))))) (env2 rs qs b3 (ks, later) b5 b7 (.d o.d)) = some (!lastPay o, env2 rs qs b3 (ks, later) b5 b7 (.d o.d)) := a3
    generalize (fT (fOp (g2 gNe) (fOp (g2 gIx) (fPl 8 [("deeds", ["Standing"])]) (fUn gNeg (fC (.int 1)))) (fOf PL.gTup (fCons (fC (.str "pay")) (fCons (fC (.bl true)) fNil))))) = t1 at *
    generalize (fT (fInSt true (fD (fMethO "Standing" "mark" F_Standing_mark [] 8 [] fNil)) 4)) = t2 at *
    have hand : tAndT t1 t2 (env2 rs qs b3 (ks, later) b5 b7 (.d o.d)) = some (!lastPay o && !decide (o.mkey ∈ ks), env2 rs qs b3 (ks, later) b5 b7 (.d o.d)) := by
      unfold tAndT
      rw [a3']
      cases lastPay o
      · simp [ht]
      · simp
    unfold sIf
    rw [hand]
    unfold see2
    by_cases c : lastPay o = true ∨ o.mkey ∈ ks
    · have e : (!lastPay o && !decide (o.mkey ∈ ks)) = false := by
        rcases c with c | c
        · simp [c]
        · simp [c]
      rw [e, if_pos c]
      rfl
    · have e : (!lastPay o && !decide (o.mkey ∈ ks)) = true := by
        have c1 : lastPay o = false := by
          cases z : lastPay o with
          | false => rfl
          | true => exact absurd (.inl z) c
        have c2 : o.mkey ∉ ks := fun z => c (.inr z)
        simp [c1, c2]
      rw [e, if_neg c]
      have e2 : gAddK o.mkey ks = o.mkey :: ks := by unfold gAddK; rw [if_neg fun z => c (.inr z)]
      rw [e2] at ha
      exact sSeq_nx ha (hp _)
end
theorem p_found_loop {rs qs : Rls} (b3 b5 b7 : B) : ∀ (os : List Sd) (kl : Kl2) (x : B), (∀ o ∈ os, Fd o) → KOk2 kl.1 → kl.2.length + os.length < 1000000 →
    match stepL os kl with
    | .inr kl' => ∃ x', forL (gNm 8) bodyF (os.map Sd.d) (env2 rs qs b3 kl b5 b7 x) = some (.nx, env2 rs qs b3 kl' b5 b7 x')
    | .inl p => ∃ b', forL (gNm 8) bodyF (os.map Sd.d) (env2 rs qs b3 kl b5 b7 x) = some (.rt (.d (withA p.dd)), .d (bookD rs) :: .d (bookD qs) :: b')
  | [], kl, x, _, _, _ => ⟨x, rfl⟩
  | o :: os, kl, x, ho, hk, hl => by
    simp only [List.length_cons] at hl
    have h248 := hk.len
    obtain ⟨h1, h2⟩ := p_found (rs := rs) (qs := qs) (b3 := b3) (b5 := b5) (b7 := b7) (kl := kl) (ho o (by simp)) (by omega) (by omega)
    unfold stepL
    cases q : o.ap with
    | true =>
      simp only [if_true, List.map_cons]
      exact ⟨_, forL_rt (b1 := env2 rs qs b3 kl b5 b7 (.d o.d)) rfl (h1 q)⟩
    | false =>
      have g := see2_gr q kl
      have hz : (see2 kl o).2.length ≤ kl.2.length + 1 := by unfold see2; split <;> simp
      have ih := p_found_loop (rs := rs) (qs := qs) b3 b5 b7 os (see2 kl o) (.d o.d) (fun t ht => ho t (by simp [ht])) (g.ko hk) (by omega)
      simp only [Bool.false_eq_true, if_false, List.map_cons]
      have step : forL (gNm 8) bodyF (o.d :: os.map Sd.d) (env2 rs qs b3 kl b5 b7 x) = forL (gNm 8) bodyF (os.map Sd.d) (env2 rs qs b3 (see2 kl o) b5 b7 (.d o.d)) :=
        forL_nx (b1 := env2 rs qs b3 kl b5 b7 (.d o.d)) rfl (h2 q) rfl
      rw [step]
      exact ih
def nextE2 : Lv := (lAny (fD (fOf gLst (fStar (fD (fMethO "Standing" "persons" F_Standing_persons [] 7 [none] (fCons (fVar 2) fNil))) (fStar (fD (fMethO "Standing" "priced" F_Standing_priced [] 7 [] fNil)) fNil)))))
theorem next_len2 (s : Sd) (rs qs : Rls) : (s.next rs qs).length ≤ 20 := by
  have h1 := betP_len s.known
  have h2 := known2_len s
  unfold Sd.next Sd.persons Sd.priced Sd.mine
  split
  · simp; omega
  · split <;> simp <;> omega
theorem p_nextE2 {rs qs : Rls} {s : Sd} {kl : Kl2} {b3 b5 b8 : B} (h1 : Bks rs) (h2 : Bks qs) (hl : s.dd.length < 1000) : nextE2 (env2 rs qs b3 kl b5 (.d s.d) b8) = some ((s.next rs qs).map Sd.d, env2 rs qs b3 kl b5 (.d s.d) b8) := by
  have a1 := p_persons2 s h1 h2 hl
  have a2 := p_priced2 s hl
  have hz := next_len2 s rs qs
  unfold Sd.next at hz ⊢
  rw [List.length_append] at hz
  generalize s.persons rs qs = ps at *
  generalize s.priced = qs' at *
  have e : s.d = .obj "Standing" sdNs s.ds := rfl
  rw [e] at a1 a2 ⊢
  clear e
  generalize s.ds = ds at *
  unfold env2 nextE2
  generalize booksD rs qs = bk at *
  have t1 := toDs_f Sd.d ps
  have t2 := toDs_f Sd.d qs'
  have e1 : ps.length + qs'.length ≤ 1000000 := by omega
  unfold sdsM at a1 a2
  simp only [sdNs] at a1 a2 ⊢
  generalize M.st kl.1 = u1
  generalize sdsM kl.2 = u2
  simp (config := {decide := true}) [fnF, sRet, sRetN, sSeq, sIf, sSet, sPass, sFrz, sDrop, fT, fOp, fVar, fC, fMov, fFrz, fD, startE, M.toD, M.toDs, M.toB, fIxO, isO, sIxO, atI, ixN, g2, g2m, fOf, PL.g1, g1m, g22, fCons, fNil, fIo, fCall, PL.fill, putb, M.argOf, M.hole, ownS, fin, finals, tNotT, tAndT, tOrT, fAnd, fOr, fNot, fIf, fChain, fPl, getP, setP, M.cell, M.setCell, M.sub, M.fld, fldI, sPut, M.setF, M.put, sAug, gPut, gTu, PL.gCons, gsNil, sAsg, sPar, fMethO, fMeth, fMake, appF, fLenO, sAppP, sApp, fLc, wipeB, tTrue, lAny, lRng, gNm, PL.gLst, PL.gTup, M.datas, fUnD, fMethK, fMake2, fProp, sExt, fPopP, gC, gInt, gInt0, gMod, gDiv, PL.gSub, gAdd, gMul, gLt, gLe, gGt, gGe, gToInt, gAbs, gMax, gMin, gLen, gIsN, gTupOf, gLstOf, bF, tPeek, fPeek, gEq_ss, gNe_ss, gEq_ii, gNe_ii, ok_take, ok_least, ok_last, ok_show, ok_ask, ok_put, ok_look, ok_alter, ok_back, ok_pay, ok_price, ok_again, isDd, isDl, isDo, isDk, isDb, fStar, D.items, a1, a2, t1, t2, e1]
  rw [← List.map_append, ← List.map_append]
  exact toDs_f Sd.d _

end Lw

set_option exponentiation.threshold 100000
namespace Lw
open PySem PySem.Spec PyProof.Rows L2 PL
/-! ### told_apart -/
def bodyS2 : Sv := (sFor nextE2 (gNm 8) bodyF)
theorem next_fd {rs qs : Rls} {known : List NestedKey} {n : Nat} {s t : Sd} (h : Lay rs qs known n s) (hn : n ≤ 300) (ht : t ∈ s.next rs qs) : Fd t := by
  have h52 := h.p52
  have hl := h.dl
  rcases List.mem_append.mp ht with z | z
  · obtain ⟨v, hv⟩ := persons_mv2.mp z
    obtain ⟨_, d, d1, d2, d3⟩ := mv_last hv
    have e : prices t.dd = prices s.dd := by
      rw [d3, prices_app, d2]
      simp
    refine ⟨fun x hx => ?_, by rw [d3]; simp, by rw [d3, List.length_append]; simp; omega, by rw [e]; omega⟩
    rw [d3] at hx
    rcases List.mem_append.mp hx with w | w
    · exact h.deeds x w
    · rw [List.mem_singleton.mp w]; exact d1
  · obtain ⟨m, hm, rfl⟩ := List.mem_map.mp z
    have e : prices (s.at m).dd = prices s.dd ++ [m] := prices_app s.dd (priceD m)
    refine ⟨fun x hx => ?_, by simp [Sd.at], by simp [Sd.at]; omega, by rw [e]; simp; omega⟩
    rcases List.mem_append.mp hx with w | w
    · exact h.deeds x w
    · rw [List.mem_singleton.mp w]; exact .inl ⟨m, rfl⟩
theorem p_layer2 {rs qs : Rls} {known : List NestedKey} {n : Nat} (k1 : Bks rs) (k2 : Bks qs) (hn : n ≤ 300) (b3 b5 : B) : ∀ (ss : List Sd) (kl : Kl2) (x7 x8 : B), (∀ s ∈ ss, Lay rs qs known n s) → KOk2 kl.1 → kl.2.length ≤ kl.1.length →
    match walk2 rs qs ss kl with
    | .inr kl' => ∃ x7' x8', forL (gNm 7) bodyS2 (ss.map Sd.d) (env2 rs qs b3 kl b5 x7 x8) = some (.nx, env2 rs qs b3 kl' b5 x7' x8')
    | .inl p => ∃ b', forL (gNm 7) bodyS2 (ss.map Sd.d) (env2 rs qs b3 kl b5 x7 x8) = some (.rt (.d (withA p.dd)), .d (bookD rs) :: .d (bookD qs) :: b')
  | [], kl, x7, x8, _, _, _ => ⟨x7, x8, rfl⟩
  | s :: ss, kl, x7, x8, hs, hk, hl => by
    have h248 := hk.len
    have hL := hs s (by simp)
    have hdl := hL.dl
    have h1 := p_nextE2 (rs := rs) (qs := qs) (s := s) (kl := kl) (b3 := b3) (b5 := b5) (b8 := x8) k1 k2 (by omega)
    have h2 := next_len2 s rs qs
    have h3 := p_found_loop (rs := rs) (qs := qs) b3 b5 (.d s.d) (s.next rs qs) kl x8 (fun o ho => next_fd hL hn ho) hk (by omega)
    unfold walk2
    cases q : stepL (s.next rs qs) kl with
    | inl p =>
      rw [q] at h3
      obtain ⟨b', h3⟩ := h3
      simp only [List.map_cons]
      exact ⟨b', forL_rt (b1 := env2 rs qs b3 kl b5 (.d s.d) x8) rfl (sFor_ok h1 h3)⟩
    | inr kl' =>
      rw [q] at h3
      obtain ⟨x8', h3⟩ := h3
      have g := step_inr q
      have hg := g.gr
      have ih := p_layer2 (known := known) k1 k2 hn b3 b5 ss kl' (.d s.d) x8' (fun t ht => hs t (by simp [ht])) (g.ko hk) (by omega)
      simp only [List.map_cons]
      have step : forL (gNm 7) bodyS2 (s.d :: ss.map Sd.d) (env2 rs qs b3 kl b5 x7 x8) = forL (gNm 7) bodyS2 (ss.map Sd.d) (env2 rs qs b3 kl' b5 (.d s.d) x8') :=
        forL_nx (b1 := env2 rs qs b3 kl b5 (.d s.d) x8) rfl (sFor_ok h1 h3) rfl
      rw [step]
      exact ih
def tL2 : Tv := (fT (fOp (g2 gNeX) (fVar 5) (fD (fOf gLst fNil))))
def bodyL2 : Sv := (sSeq (sSet 6 (fOf gLst fNil)) (sSeq (sFor (lAny (fVar 5)) (gNm 7) bodyS2) (sSet 5 (fFrz 6))))
theorem gNe_nil3 : gNe (.lst []) (.lst []) = some (.bl false) := by kernel_rfl
theorem p_tL2 (layer : List Sd) (b0 b1 b2 b3 b4 b6 b7 b8 : B) : tL2 [b0, b1, b2, b3, b4, .d (.lst (layer.map Sd.d)), b6, b7, b8] = some (!decide (layer = []), [b0, b1, b2, b3, b4, .d (.lst (layer.map Sd.d)), b6, b7, b8]) := by
  cases layer with
  | nil => simp [tL2, fT, fOp, fVar, fD, fOf, fNil, PL.gLst, PL.g2, gNeX, gNe_nil3, M.toD, M.toDs]
  | cons s ss => simp [tL2, fT, fOp, fVar, fD, fOf, fNil, PL.gLst, PL.g2, gNeX, M.toD, M.toDs]
theorem p_while2 {rs qs : Rls} (k1 : Bks rs) (k2 : Bks qs) (b3 : B) : ∀ (m n : Nat) (layer : List Sd) (known : List NestedKey) (x6 x7 x8 : B), Inv2 rs qs n layer known → (layer ≠ [] → 250 ≤ m + known.length) → 1 ≤ m →
    ∃ r, bfs2 rs qs m layer known = some r ∧ ∃ b', whileN m tL2 bodyL2 [.d (bookD rs), .d (bookD qs), .d (booksD rs qs), b3, .o none (.st known), .d (.lst (layer.map Sd.d)), x6, x7, x8] = some ((match r with
      | none => .nx
      | some p => .rt (.d (withA p.dd))), .d (bookD rs) :: .d (bookD qs) :: b')
  | 0, _, _, _, _, _, _, _, _, h => by omega
  | m + 1, n, layer, known, x6, x7, x8, I, hl, _ => by
    have ht := p_tL2 layer (.d (bookD rs)) (.d (bookD qs)) (.d (booksD rs qs)) b3 (.o none (.st known)) x6 x7 x8
    cases layer with
    | nil =>
      refine ⟨none, by simp [bfs2], _, while_end (b1 := [.d (bookD rs), .d (bookD qs), .d (booksD rs qs), b3, .o none (.st known), .d (.lst (([] : List Sd).map Sd.d)), x6, x7, x8]) ?_⟩
      rw [ht]
      rfl
    | cons s0 ss0 =>
      obtain ⟨layer, hlay⟩ : ∃ layer, layer = s0 :: ss0 := ⟨_, rfl⟩
      have hz : layer ≠ [] := by rw [hlay]; simp
      have eb : bfs2 rs qs (m + 1) (s0 :: ss0) known = (match walk2 rs qs (s0 :: ss0) (known, []) with
        | .inl p => some (some p)
        | .inr kl => bfs2 rs qs m kl.2 kl.1) := rfl
      rw [← hlay] at eb I hl ht ⊢
      have l2 := hl hz
      have l1 := I.nl hz
      have h248 := I.ko.len
      have ht' : tL2 [.d (bookD rs), .d (bookD qs), .d (booksD rs qs), b3, .o none (.st known), .d (.lst (layer.map Sd.d)), x6, x7, x8] = some (true, [.d (bookD rs), .d (bookD qs), .d (booksD rs qs), b3, .o none (.st known), .d (.lst (layer.map Sd.d)), x6, x7, x8]) := by rw [ht]; simp [hz]
      have hp := p_layer2 (known := known) k1 k2 (show n ≤ 300 by omega) b3 (.d (.lst (layer.map Sd.d))) layer (known, []) x7 x8 I.lay I.ko (by simp)
      have s6 : sSet 6 (fOf gLst fNil) [.d (bookD rs), .d (bookD qs), .d (booksD rs qs), b3, .o none (.st known), .d (.lst (layer.map Sd.d)), x6, x7, x8] = some (.nx, env2 rs qs b3 (known, []) (.d (.lst (layer.map Sd.d))) x7 x8) := rfl
      have sl : lAny (fVar 5) (env2 rs qs b3 (known, []) (.d (.lst (layer.map Sd.d))) x7 x8) = some (layer.map Sd.d, env2 rs qs b3 (known, []) (.d (.lst (layer.map Sd.d))) x7 x8) := rfl
      rw [eb]
      cases q : walk2 rs qs layer (known, []) with
      | inl p =>
        rw [q] at hp
        obtain ⟨b', h3⟩ := hp
        exact ⟨some p, rfl, b', while_rt ht' (sSeq_nx s6 (sSeq_rt (sFor_ok sl h3)))⟩
      | inr kl' =>
        rw [q] at hp
        obtain ⟨x7', x8', h3⟩ := hp
        obtain ⟨known', later⟩ := kl'
        have I2 := inv_step I q
        have g1 := (walk2_inr q).gr
        simp only [List.length_nil, Nat.add_zero] at g1
        have s3 : sSet 5 (fFrz 6) (env2 rs qs b3 (known', later) (.d (.lst (layer.map Sd.d))) x7' x8') = some (.nx, [.d (bookD rs), .d (bookD qs), .d (booksD rs qs), b3, .o none (.st known'), .d (.lst (later.map Sd.d)), .d (.lst (later.map Sd.d)), x7', x8']) := by
          have t := toDs_f Sd.d later
          unfold env2 sdsM
          simp [sSet, fFrz, M.toD, M.toB, t]
        obtain ⟨r, r1, b', r2⟩ := p_while2 k1 k2 b3 m (n + 1) later known' (.d (.lst (later.map Sd.d))) x7' x8' I2 (fun hne => by
          have : 0 < later.length := List.length_pos_iff.mpr hne
          omega) (by omega)
        exact ⟨r, r1, b', while_more ht' (sSeq_nx s6 (sSeq_nx (sFor_ok sl h3) s3)) r2⟩
def apartD : Option (Option Sd) → D
  | some (some p) => withA p.dd
  | _ => .non
theorem apart_some {rs qs : Rls} (k1 : Bks rs) (k2 : Bks qs) : ∃ r, apartS rs qs = some r := by
  obtain ⟨r, h, _⟩ := p_while2 k1 k2 .no 1000 0 [sd0] [sd0.mkey] .no .no .no (inv_start2 rs qs) (fun _ => by simp) (by decide)
  exact ⟨r, h⟩
theorem p_told_apart {rs qs : Rls} (k1 : Bks rs) (k2 : Bks qs) : F_told_apart [.d (bookD rs), .d (bookD qs)] = some (.d (apartD (apartS rs qs)), []) := by
  obtain ⟨r, h1, b', h2⟩ := p_while2 k1 k2 (.d sd0.d) 1000 0 [sd0] [sd0.mkey] .no .no .no (inv_start2 rs qs) (fun _ => by simp) (by decide)
  have hs : apartS rs qs = some r := h1
  rw [hs]
  have a1 : sSet 3 (fD (fMake "Standing" F_Standing__init [] [none, none, none, none, none] (fCons (fOf PL.gTup (fCons (fC .non) (fCons (fC .non) fNil))) (fCons (fC .non) (fCons (fC (.int 0)) (fCons (fC (.bl false)) (fCons (fD (fOf gLst fNil)) fNil))))))) [.d (bookD rs), .d (bookD qs), .d (booksD rs qs), .no, .no, .no, .no, .no, .no] = some (.nx, [.d (bookD rs), .d (bookD qs), .d (booksD rs qs), .d sd0.d, .no, .no, .no, .no, .no]) := by
    have e0 := r_standing
    generalize booksD rs qs = bk
    generalize bookD rs = bk1
    generalize bookD qs = bk2
    simp (config := {decide := true}) [fnF, sRet, sRetN, sSeq, sIf, sSet, sPass, sFrz, sDrop, fT, fOp, fVar, fC, fMov, fFrz, fD, startE, M.toD, M.toDs, M.toB, fIxO, isO, sIxO, atI, ixN, g2, g2m, fOf, PL.g1, g1m, g22, fCons, fNil, fIo, fCall, PL.fill, putb, M.argOf, M.hole, ownS, fin, finals, tNotT, tAndT, tOrT, fAnd, fOr, fNot, fIf, fChain, fPl, getP, setP, M.cell, M.setCell, M.sub, M.fld, fldI, sPut, M.setF, M.put, sAug, gPut, gTu, PL.gCons, gsNil, sAsg, sPar, fMethO, fMeth, fMake, appF, fLenO, sAppP, sApp, fLc, wipeB, tTrue, lAny, lRng, gNm, PL.gLst, PL.gTup, M.datas, fUnD, fMethK, fMake2, fProp, sExt, fPopP, gC, gInt, gInt0, gMod, gDiv, PL.gSub, gAdd, gMul, gLt, gLe, gGt, gGe, gToInt, gAbs, gMax, gMin, gLen, gIsN, gTupOf, gLstOf, bF, tPeek, fPeek, gEq_ss, gNe_ss, gEq_ii, gNe_ii, ok_take, ok_least, ok_last, ok_show, ok_ask, ok_put, ok_look, ok_alter, ok_back, ok_pay, ok_price, ok_again, isDd, isDl, isDo, isDk, isDb, e0, sd0, Sd.d, Sd.ds, M.toDs, oD]
  have a3 : sAddSt 4 (fD (fMethO "Standing" "mark" F_Standing_mark [] 3 [] fNil)) [.d (bookD rs), .d (bookD qs), .d (booksD rs qs), .d sd0.d, .o none (.st []), .no, .no, .no, .no] = some (.nx, [.d (bookD rs), .d (bookD qs), .d (booksD rs qs), .d sd0.d, .o none (.st [sd0.mkey]), .no, .no, .no, .no]) := by
    have hm := p_mark2 sd0
    have hk := mark_key2 sd0
    generalize sd0.mark = mk at *
    generalize sd0.mkey = ky at *
    have e : sd0.d = .obj "Standing" sdNs sd0.ds := rfl
    rw [e] at hm ⊢
    clear e
    generalize sd0.ds = ds at *
    generalize booksD rs qs = bk
    generalize bookD rs = bk1
    generalize bookD qs = bk2
    simp only [sdNs] at hm ⊢
    simp (config := {decide := true}) [fnF, sRet, sRetN, sSeq, sIf, sSet, sPass, sFrz, sDrop, fT, fOp, fVar, fC, fMov, fFrz, fD, startE, M.toD, M.toDs, M.toB, fIxO, isO, sIxO, atI, ixN, g2, g2m, fOf, PL.g1, g1m, g22, fCons, fNil, fIo, fCall, PL.fill, putb, M.argOf, M.hole, ownS, fin, finals, tNotT, tAndT, tOrT, fAnd, fOr, fNot, fIf, fChain, fPl, getP, setP, M.cell, M.setCell, M.sub, M.fld, fldI, sPut, M.setF, M.put, sAug, gPut, gTu, PL.gCons, gsNil, sAsg, sPar, fMethO, fMeth, fMake, appF, fLenO, sAppP, sApp, fLc, wipeB, tTrue, lAny, lRng, gNm, PL.gLst, PL.gTup, M.datas, fUnD, fMethK, fMake2, fProp, sExt, fPopP, gC, gInt, gInt0, gMod, gDiv, PL.gSub, gAdd, gMul, gLt, gLe, gGt, gGe, gToInt, gAbs, gMax, gMin, gLen, gIsN, gTupOf, gLstOf, bF, tPeek, fPeek, gEq_ss, gNe_ss, gEq_ii, gNe_ii, ok_take, ok_least, ok_last, ok_show, ok_ask, ok_put, ok_look, ok_alter, ok_back, ok_pay, ok_price, ok_again, isDd, isDl, isDo, isDk, isDb, sAddSt, hm, hk, gAddK]
  have a4 : sSet 5 (fD (fOf gLst (fCons (fVar 3) fNil))) [.d (bookD rs), .d (bookD qs), .d (booksD rs qs), .d sd0.d, .o none (.st [sd0.mkey]), .no, .no, .no, .no] = some (.nx, [.d (bookD rs), .d (bookD qs), .d (booksD rs qs), .d sd0.d, .o none (.st [sd0.mkey]), .d (.lst ([sd0].map Sd.d)), .no, .no, .no]) := rfl
  unfold F_told_apart g_told_apart
  cases r with
  | none => exact fnF_rt (b := .d (bookD rs) :: .d (bookD qs) :: b') rfl (sSeq_nx (b1 := [.d (bookD rs), .d (bookD qs), .d (booksD rs qs), .no, .no, .no, .no, .no, .no]) rfl (sSeq_nx a1 (sSeq_nx (b1 := [.d (bookD rs), .d (bookD qs), .d (booksD rs qs), .d sd0.d, .o none (.st []), .no, .no, .no, .no]) rfl (sSeq_nx a3 (sSeq_nx a4 (sSeq_nx h2 rfl)))))) rfl
  | some p => exact fnF_rt (b := .d (bookD rs) :: .d (bookD qs) :: b') rfl (sSeq_nx (b1 := [.d (bookD rs), .d (bookD qs), .d (booksD rs qs), .no, .no, .no, .no, .no, .no]) rfl (sSeq_nx a1 (sSeq_nx (b1 := [.d (bookD rs), .d (bookD qs), .d (booksD rs qs), .d sd0.d, .o none (.st []), .no, .no, .no, .no]) rfl (sSeq_nx a3 (sSeq_nx a4 (sSeq_rt h2)))))) rfl

end Lw

set_option exponentiation.threshold 100000
namespace Lw
open PySem PySem.Spec PyProof.Rows L2 PL
/-! ### books that are alike by their rules -/
theorem path_inv {rs qs : Rls} (P : Sd → Prop) (h0 : P sd0) (hn : ∀ s, P s → ∀ t ∈ s.next rs qs, P t) {s : Sd} (h : Path2 rs qs s) : P s := by
  induction h with
  | zero => exact h0
  | next h m k ih => exact hn _ ih _ m
theorem alike_inv {rs qs : Rls} (k1 : Bks rs) (k2 : Bks qs) (P : Sd → Prop) (h0 : P sd0) (hn : ∀ s, P s → ∀ t ∈ s.next rs qs, P t ∧ t.ap = false) : apartS rs qs = some none := by
  obtain ⟨r, hr⟩ := apart_some k1 k2
  cases r with
  | none => exact hr
  | some p =>
    obtain ⟨_, s, h1, _, h2, h3, _⟩ := apart_least hr
    have := path_inv P h0 (fun s hs t ht => (hn s hs t ht).1) h1
    rw [(hn s this p h2).2] at h3
    cases h3
def LWk.core (w : LWk) : Int × Option Int × Int := (w.stays, w.seen, w.times)
theorem core_eq {w v : LWk} : w.core = v.core ↔ w.stays = v.stays ∧ w.seen = v.seen ∧ w.times = v.times := by
  unfold LWk.core
  simp
theorem act_core {now : Int} {w v : LWk} (h : w.core = v.core) (a : Str) : (actP now w a).core = (actP now v a).core := by
  obtain ⟨h1, h2, h3⟩ := core_eq.mp h
  unfold actP
  rw [h1, h2, h3]
  split
  · exact core_eq.mpr ⟨rfl, rfl, rfl⟩
  split
  · exact core_eq.mpr ⟨rfl, rfl, rfl⟩
  split
  · exact core_eq.mpr ⟨rfl, rfl, rfl⟩
  split
  · exact core_eq.mpr ⟨rfl, rfl, rfl⟩
  · exact h
theorem fold_core {now : Int} : ∀ (r : List Str) {w v : LWk}, w.core = v.core → (r.foldl (actP now) w).core = (r.foldl (actP now) v).core
  | [], _, _, h => h
  | a :: r, _, _, h => by
    simp only [List.foldl_cons]
    exact fold_core r (act_core h a)
def EqR (r q : List Str) : Prop := ∀ (now : Int) (w : LWk), (r.foldl (actP now) w).core = (q.foldl (actP now) w).core
theorem EqR.refl (r : List Str) : EqR r r := fun _ _ => rfl
theorem EqR.within {r q : List Str} (h : EqR r q) (a b : List Str) : EqR (a ++ r ++ b) (a ++ q ++ b) := by
  intro now w
  simp only [List.foldl_append]
  exact fold_core b (h now _)
theorem go_alike {s : Sd} {r q : List Str} (h : EqR r q) (e : s.k1 = s.k2) (deed : D) (f t : Bool) : (s.go r q deed f t).k1 = (s.go r q deed f t).k2 ∧ (s.go r q deed f t).ap = false := by
  have h1 : (wk2 r s.k1 s).core = (wk2 q s.k2 s).core := by
    rw [e]
    exact h s.now _
  obtain ⟨c1, c2, c3⟩ := core_eq.mp h1
  refine ⟨congrArg some c1, ?_⟩
  show apartW _ _ _ = false
  unfold apartW
  rw [c1, c2, c3]
  simp
theorem alike_rules {rs qs : Rls} (k1 : Bks rs) (k2 : Bks qs) (h : ∀ i, EqR (rs.getD i []) (qs.getD i [])) : apartS rs qs = some none := by
  refine alike_inv k1 k2 (fun s => s.k1 = s.k2) rfl fun s hs t ht => ?_
  rcases List.mem_append.mp ht with z | z
  · obtain ⟨v, hv⟩ := persons_mv2.mp z
    cases v with
    | rule i =>
      simp only [Sd.mv] at hv
      split at hv
      · cases hv
        exact go_alike (h i) hs _ _ _
      · cases hv
    | pay b =>
      simp only [Sd.mv] at hv
      split at hv
      · cases hv
        exact go_alike (h _) hs _ _ _
      · cases hv
    | calm =>
      simp only [Sd.mv] at hv
      split at hv
      · cases hv
        exact ⟨hs, rfl⟩
      · cases hv
  · obtain ⟨m, _, rfl⟩ := List.mem_map.mp z
    exact ⟨hs, rfl⟩
theorem eqr_1 : EqR ["take"] ["take", "take"] := fun now w => by simp (config := {decide := true}) [actP, LWk.core]
theorem eqr_2 : EqR ["show"] ["show", "ask"] := fun now w => by simp (config := {decide := true}) [actP, LWk.core]
theorem eqr_3 : EqR ["show"] ["show", "last"] := fun now w => by simp (config := {decide := true}) [actP, LWk.core]
theorem eqr_4 : EqR ["take"] ["take", "least"] := fun now w => by simp (config := {decide := true}) [actP, LWk.core]
theorem eqr_5 : EqR ["last"] ["last", "last"] := fun now w => by
  cases h : w.seen <;> simp (config := {decide := true}) [actP, LWk.core, h]
theorem eqr_6 : EqR ["least"] ["least", "least"] := fun now w => by
  by_cases h : now < w.stays <;> simp (config := {decide := true}) [actP, LWk.core, h]
theorem eqr_7 : EqR ["ask"] ["ask", "ask"] := fun now w => by
  by_cases h : w.seen = some w.stays <;> simp (config := {decide := true}) [actP, LWk.core, h]
theorem eqr_8 : EqR ["ask"] ["ask", "last"] := fun now w => by
  by_cases h : w.seen = some w.stays <;> simp (config := {decide := true}) [actP, LWk.core, h]
theorem eqr_9 : EqR ["show"] ["show", "show"] := fun now w => by simp (config := {decide := true}) [actP, LWk.core]

end Lw

set_option exponentiation.threshold 100000
namespace Lw
open PySem PySem.Spec PyProof.Rows L2 PL
/-! ### draws out of a pot -/
def jarM (x y z : Int) : M := .lst [.d (.int x), .d (.int y), .d (.int z)]
theorem gPow_ok (i j : Int) (h : i.natAbs < 10 ^ 60) (h0 : 0 ≤ j) (h1 : j ≤ 64) : gPow (.int i) (.int j) = some (.int (i ^ j.toNat)) := by
  have h2 : i.natAbs < 2 ^ 20000 := Nat.lt_of_lt_of_le h (by decide +kernel)
  unfold gPow gInt
  simp only [h0, h1, h2, and_self, decide_true, if_true]
theorem gDiv_ok (i j : Int) (h : 0 < j) (h0 : j.natAbs < 10 ^ 60) : gDiv (.int i) (.int j) = some (.int (i / j)) := by
  have h2 : j.natAbs < 2 ^ 8000 := Nat.lt_of_lt_of_le h0 (by decide +kernel)
  unfold gDiv gInt
  simp only [h, h2, and_self, decide_true, if_true]
theorem gMod_ok (i j : Int) (h : 0 < j) : gMod (.int i) (.int j) = some (.int (i % j)) := by
  unfold gMod gInt
  simp only [h, decide_true, if_true]
theorem gMul_ok (i j : Int) (h : i.natAbs < 2 ^ 60) : gMul (.int i) (.int j) = some (.d (.int (i * j))) := by
  unfold gMul
  simp only [h, true_or, if_true]
/-- a pot behind at most n draws -/
def PotOk (n : Nat) (J : M) : Prop := ∃ x y z, J = jarM x y z ∧ 0 ≤ x ∧ 0 ≤ y ∧ y < 10 ^ 37 ∧ 0 ≤ z ∧ z ≤ n
theorem PotOk.isD {n : Nat} {J : M} (h : PotOk n J) : J.isD = false := by
  obtain ⟨x, y, z, rfl, _⟩ := h
  rfl
theorem PotOk.mono {n k : Nat} {J : M} (h : PotOk n J) (hk : n ≤ k) : PotOk k J := by
  obtain ⟨x, y, z, e, h1, h2, h3, h4, h5⟩ := h
  exact ⟨x, y, z, e, h1, h2, h3, h4, by omega⟩
theorem p_dip {n : Nat} {J : M} {m : Int} (h : PotOk n J) (hn : n < 1000000) (hm : 0 < m) (hm2 : m ≤ 10 ^ 13) : ∃ r J', F_law_dip [J, .d (.int m)] = some (.d (.int r), [J']) ∧ 0 ≤ r ∧ r < m ∧ PotOk (n + 1) J' := by
  obtain ⟨x, y, z, rfl, hx, hy, hy2, hz, hz2⟩ := h
  by_cases h0 : 0 < x
  · have hm3 : m.natAbs < 2 ^ 8000 := by
      have : m.natAbs ≤ 10 ^ 13 := by omega
      exact Nat.lt_of_le_of_lt this (by decide +kernel)
    refine ⟨x % m, jarM (x / m) y z, ?_, Int.emod_nonneg _ (by omega), Int.emod_lt_of_pos _ hm, x / m, y, z, rfl, Int.ediv_nonneg hx (by omega), hy, hy2, hz, by push_cast; omega⟩
    simp (config := {decide := true}) [F_law_dip, g_law_dip, jarM, fnF, sRet, sRetN, sSeq, sIf, sSet, sPass, sFrz, sDrop, fT, fOp, fVar, fC, fMov, fFrz, fD, startE, M.isD, M.toD, M.toDs, M.toB, fIxO, isO, sIxO, atI, ixN, g2, g2m, fOf, PL.g1, g1m, g22, fCons, fNil, fIo, fCall, PL.fill, putb, M.argOf, M.hole, ownS, fin, finals, tNotT, tAndT, tOrT, fAnd, fOr, fNot, fIf, fChain, fPl, getP, setP, M.cell, M.setCell, M.sub, M.fld, fldI, sPut, M.setF, M.put, sAug, gPut, gTu, PL.gCons, gsNil, sAsg, sPar, fMethO, fMeth, fMake, appF, fLenO, sAppP, sApp, fLc, lcL, wipeB, tTrue, lAny, lRng, gNm, sFor, forL, PL.gLst, PL.gTup, M.datas, fUnD, fMethK, fMake2, fProp, sExt, fPopP, gC, gInt, gInt0, gMod, gDiv, PL.gSub, gAdd, gMul, gLt, gLe, gGt, gGe, gToInt, gAbs, gMax, gMin, gLen, gIsN, gTupOf, gLstOf, bF, tPeek, fPeek, gEq_ss, gNe_ss, gEq_ii, gNe_ii, ok_take, ok_least, ok_last, ok_show, ok_ask, ok_put, ok_look, ok_alter, ok_back, ok_pay, ok_price, ok_again, h0, hm, hm3]
  · have hx0 : x = 0 := by omega
    subst hx0
    have a1 : gMul (.int 86028121) (.int (z + 1)) = some (.d (.int (86028121 * (z + 1)))) := gMul_ok _ _ (by decide)
    have a2 : gPow (.int (y + 86028121 * (z + 1))) (.int 3) = some (.int ((y + 86028121 * (z + 1)) ^ 3)) := gPow_ok _ _ (by omega) (by decide) (by decide)
    have a4 : gPow (.int 10) (.int 41) = some (.int (10 ^ 41)) := gPow_ok _ _ (by decide) (by decide) (by decide)
    have a5 : gMod (.int ((y + 86028121 * (z + 1)) ^ 3)) (.int (10 ^ 41 + 9)) = some (.int (((y + 86028121 * (z + 1)) ^ 3) % (10 ^ 41 + 9))) := gMod_ok _ _ (by decide)
    obtain ⟨u, hu⟩ : ∃ u, u = ((y + 86028121 * (z + 1)) ^ 3) % (10 ^ 41 + 9) := ⟨_, rfl⟩
    have u0 : 0 ≤ u := by rw [hu]; exact Int.emod_nonneg _ (by decide)
    have u1 : u < 10 ^ 41 + 9 := by rw [hu]; exact Int.emod_lt_of_pos _ (by decide)
    rw [← hu] at a5
    have b1 : gMul (.int 179424673) (.int (z + 1)) = some (.d (.int (179424673 * (z + 1)))) := gMul_ok _ _ (by decide)
    have b2 : gPow (.int (u + 179424673 * (z + 1))) (.int 3) = some (.int ((u + 179424673 * (z + 1)) ^ 3)) := gPow_ok _ _ (by omega) (by decide) (by decide)
    have b4 : gPow (.int 10) (.int 39) = some (.int (10 ^ 39)) := gPow_ok _ _ (by decide) (by decide) (by decide)
    have b5 : gMod (.int ((u + 179424673 * (z + 1)) ^ 3)) (.int (10 ^ 39 + 57)) = some (.int (((u + 179424673 * (z + 1)) ^ 3) % (10 ^ 39 + 57))) := gMod_ok _ _ (by decide)
    obtain ⟨t, ht⟩ : ∃ t, t = ((u + 179424673 * (z + 1)) ^ 3) % (10 ^ 39 + 57) := ⟨_, rfl⟩
    rw [← ht] at b5
    have c1 : gPow (.int 10) (.int 7) = some (.int (10 ^ 7)) := gPow_ok _ _ (by decide) (by decide) (by decide)
    have c2 : gDiv (.int t) (.int (10 ^ 7)) = some (.int (t / 10 ^ 7)) := gDiv_ok _ _ (by decide) (by decide)
    have c3 : gMod (.int (t / 10 ^ 7)) (.int m) = some (.int (t / 10 ^ 7 % m)) := gMod_ok _ _ hm
    refine ⟨t / 10 ^ 7 % m, jarM 0 y (z + 1), ?_, Int.emod_nonneg _ (by omega), Int.emod_lt_of_pos _ hm, 0, y, z + 1, rfl, by omega, hy, hy2, by omega, by push_cast; omega⟩
    generalize hA : (10 : Int) ^ 41 = A at *
    generalize hB : (10 : Int) ^ 39 = B at *
    generalize hC : (10 : Int) ^ 7 = C at *
    simp (config := {decide := true}) [F_law_dip, g_law_dip, jarM, fnF, sRet, sRetN, sSeq, sIf, sSet, sPass, sFrz, sDrop, fT, fOp, fVar, fC, fMov, fFrz, fD, startE, M.isD, M.toD, M.toDs, M.toB, fIxO, isO, sIxO, atI, ixN, g2, g2m, fOf, PL.g1, g1m, g22, fCons, fNil, fIo, fCall, PL.fill, putb, M.argOf, M.hole, ownS, fin, finals, tNotT, tAndT, tOrT, fAnd, fOr, fNot, fIf, fChain, fPl, getP, setP, M.cell, M.setCell, M.sub, M.fld, fldI, sPut, M.setF, M.put, sAug, gPut, gTu, PL.gCons, gsNil, sAsg, sPar, fMethO, fMeth, fMake, appF, fLenO, sAppP, sApp, fLc, wipeB, tTrue, lAny, lRng, gNm, PL.gLst, PL.gTup, M.datas, fUnD, fMethK, fMake2, fProp, sExt, fPopP, gC, gInt, gInt0, PL.gSub, gAdd, gLt, gLe, gGt, gGe, gToInt, gAbs, gMax, gMin, gLen, gIsN, gTupOf, gLstOf, bF, tPeek, fPeek, gEq_ss, gNe_ss, gEq_ii, gNe_ii, ok_take, ok_least, ok_last, ok_show, ok_ask, ok_put, ok_look, ok_alter, ok_back, ok_pay, ok_price, ok_again, a1, a2, a4, a5, b1, b2, b4, b5, c1, c2, c3]

end Lw

set_option exponentiation.threshold 100000
namespace Lw
open PySem PySem.Spec PyProof.Rows L2 PL
/-! ### a rule drawn -/
theorem act6_at {r : Int} (h0 : 0 ≤ r) (h1 : r < 6) : ∃ a, a ∈ acts5 ∧ gIx (.lst [.str "take", .str "least", .str "last", .str "show", .str "ask", .str "show"]) (.int r) = some (.str a) := by
  have : r = 0 ∨ r = 1 ∨ r = 2 ∨ r = 3 ∨ r = 4 ∨ r = 5 := by omega
  rcases this with rfl | rfl | rfl | rfl | rfl | rfl
  · exact ⟨"take", by simp [acts5], rfl⟩
  · exact ⟨"least", by simp [acts5], rfl⟩
  · exact ⟨"last", by simp [acts5], rfl⟩
  · exact ⟨"show", by simp [acts5], rfl⟩
  · exact ⟨"ask", by simp [acts5], rfl⟩
  · exact ⟨"show", by simp [acts5], rfl⟩
theorem p_rule_loop (most : D) : ∀ (ds : List D) (n : Nat) (J : M), PotOk n J → n + ds.length < 1000000 → ∃ (acts : List Str) (J' : M), lcL [3] (gNm 3) tTrue (fOp (g2 gIx) (fVar 2) (fD (fCall F_law_dip [] [some 0, none] (fIo 0 (fCons (fC (.int 6)) fNil))))) ds
      [.o (some 0) J, .d most, .d (.lst [.str "take", .str "least", .str "last", .str "show", .str "ask", .str "show"]), .no] = some (acts.map (fun a => M.d (.str a)), [.o (some 0) J', .d most, .d (.lst [.str "take", .str "least", .str "last", .str "show", .str "ask", .str "show"]), .no]) ∧ acts.length = ds.length ∧ (∀ a ∈ acts, a ∈ acts5) ∧ PotOk (n + ds.length) J'
  | [], n, J, h, _ => ⟨[], J, rfl, rfl, by simp, h⟩
  | d :: ds, n, J, h, hn => by
    obtain ⟨r, J1, h1, r0, r1, h2⟩ := p_dip h (by simp at hn; omega) (m := 6) (by decide) (by decide)
    obtain ⟨a, ha, hg⟩ := act6_at r0 r1
    obtain ⟨acts, J', q1, q2, q3, q4⟩ := p_rule_loop most ds (n + 1) J1 h2 (by simp at hn; omega)
    have e1 := h.isD
    have e2 := h2.isD
    refine ⟨a :: acts, J', ?_, by simp [q2], fun b hb => by
      rcases List.mem_cons.mp hb with rfl | hb
      · exact ha
      · exact q3 b hb, by simp only [List.length_cons]; exact q4.mono (by omega)⟩
    unfold lcL
    simp (config := {decide := true}) [fnF, sRet, sRetN, sSeq, sIf, sSet, sPass, sFrz, sDrop, fT, fOp, fVar, fC, fMov, fFrz, fD, startE, M.toD, M.toDs, M.toB, fIxO, isO, sIxO, atI, ixN, g2, g2m, fOf, PL.g1, g1m, g22, fCons, fNil, fIo, fCall, PL.fill, putb, M.argOf, M.hole, ownS, fin, finals, tNotT, tAndT, tOrT, fAnd, fOr, fNot, fIf, fChain, fPl, getP, setP, M.cell, M.setCell, M.sub, M.fld, fldI, sPut, M.setF, M.put, sAug, gPut, gTu, PL.gCons, gsNil, sAsg, sPar, fMethO, fMeth, fMake, appF, fLenO, sAppP, sApp, fLc, wipeB, tTrue, lAny, lRng, gNm, PL.gLst, PL.gTup, M.datas, fUnD, fMethK, fMake2, fProp, sExt, fPopP, gC, gInt, gInt0, gMod, gDiv, PL.gSub, gAdd, gMul, gLt, gLe, gGt, gGe, gToInt, gAbs, gMax, gMin, gLen, gIsN, gTupOf, gLstOf, bF, tPeek, fPeek, gEq_ss, gNe_ss, gEq_ii, gNe_ii, ok_take, ok_least, ok_last, ok_show, ok_ask, ok_put, ok_look, ok_alter, ok_back, ok_pay, ok_price, ok_again, isDd, isDl, isDo, isDk, isDb, h1, e1, e2, hg, q1]
theorem p_rule_draw {n : Nat} {J : M} {most : Int} (h : PotOk n J) (hn : n < 100000) (h0 : 0 ≤ most) (h6 : most ≤ 5) : ∃ (acts : List Str) (J' : M), F_law_rule [J, .d (.int most)] = some (.d (ruleD acts), [J']) ∧ acts.length ≤ most.toNat ∧ (∀ a ∈ acts, a ∈ acts5) ∧ PotOk (n + 7) J' := by
  obtain ⟨r, J1, h1, r0, r1, h2⟩ := p_dip h (by omega) (m := most + 1) (by omega) (by omega)
  have hl : (rngD 0 r.toNat).length = r.toNat := by simp [rngD]
  obtain ⟨acts, J', q1, q2, q3, q4⟩ := p_rule_loop (.int most) (rngD 0 r.toNat) (n + 1) J1 h2 (by rw [hl]; omega)
  rw [hl] at q2 q4
  have e1 := h.isD
  have e2 := h2.isD
  have r2 : -1000000 ≤ r := by omega
  have r3 : r ≤ 1000000 := by omega
  have r4 : r.toNat ≤ 1000000 := by omega
  refine ⟨acts, J', ?_, by omega, q3, q4.mono (by omega)⟩
  unfold ruleD
  simp (config := {decide := true}) [F_law_rule, g_law_rule, fnF, sRet, sRetN, sSeq, sIf, sSet, sPass, sFrz, sDrop, fT, fOp, fVar, fC, fMov, fFrz, fD, startE, M.toD, M.toDs, M.toB, fIxO, isO, sIxO, atI, ixN, g2, g2m, fOf, PL.g1, g1m, g22, fCons, fNil, fIo, fCall, PL.fill, putb, M.argOf, M.hole, ownS, fin, finals, tNotT, tAndT, tOrT, fAnd, fOr, fNot, fIf, fChain, fPl, getP, setP, M.cell, M.setCell, M.sub, M.fld, fldI, sPut, M.setF, M.put, sAug, gPut, gTu, PL.gCons, gsNil, sAsg, sPar, fMethO, fMeth, fMake, appF, fLenO, sAppP, sApp, fLc, wipeB, tTrue, lAny, lRng, gNm, PL.gLst, PL.gTup, M.datas, fUnD, fMethK, fMake2, fProp, sExt, fPopP, gC, gInt, gInt0, gMod, gDiv, PL.gSub, gAdd, gMul, gLt, gLe, gGt, gGe, gToInt, gAbs, gMax, gMin, gLen, gIsN, gTupOf, gLstOf, bF, tPeek, fPeek, gEq_ss, gNe_ss, gEq_ii, gNe_ii, ok_take, ok_least, ok_last, ok_show, ok_ask, ok_put, ok_look, ok_alter, ok_back, ok_pay, ok_price, ok_again, isDd, isDl, isDo, isDk, isDb, h1, e1, e2, r2, r3, r4, hl, q1, strs_toDs]
/-! ### another rule at a door -/
theorem p_is_door {w : Str} (hw : w ∈ (["put", "look", "alter", "back", "pay", "again"] : List Str)) : F_is_door [.d (.str w)] = some (.d (.bl true), []) := by
  simp only [List.mem_cons, List.not_mem_nil, or_false] at hw
  rcases hw with rfl | rfl | rfl | rfl | rfl | rfl <;> kernel_rfl
theorem bookM_toD (rs : List (List Str)) : (bookM rs).toD = bookD rs := rfl
def doors : List Str := ["put", "look", "alter", "back", "pay", "again"]
theorem door_ok {w : Str} (hw : w ∈ doors) : PyData.strOk w = true := by
  simp only [doors, List.mem_cons, List.not_mem_nil, or_false] at hw
  rcases hw with rfl | rfl | rfl | rfl | rfl | rfl
  · exact ok_put
  · exact ok_look
  · exact ok_alter
  · exact ok_back
  · exact ok_pay
  · exact ok_again
def newR (rs : List (List Str)) (w : Str) (r : List Str) : D → M
  | .str z => .d (if z = w then ruleD r else ruleD (rs.getD (doorIx z) []))
  | _ => .d .non
theorem p_newR {rs : List (List Str)} (h6 : rs.length = 6) {w z : Str} (hw : w ∈ doors) (hz : z ∈ doors) (r : List Str) (x3 : B) :
    (fD (fIf (fT (fOp (g2 gEq) (fVar 4) (fVar 1))) (fVar 2) (fMethO "Book" "rule" F_Book_rule [] 0 [none] (fCons (fVar 4) fNil)))) [.d (bookD rs), .d (.str w), .d (ruleD r), x3, .d (.str z)] = some (newR rs w r (.str z), [.d (bookD rs), .d (.str w), .d (ruleD r), x3, .d (.str z)]) := by
  have h1 := p_rule_at h6 hz
  have h2 := gEq_ss z w (door_ok hz) (door_ok hw)
  have hb : bookD rs = .obj "Book" ["row"] [.tup (rs.map ruleD)] := rfl
  rw [hb] at h1 ⊢
  unfold newR
  by_cases e : z = w
  · subst e
    simp (config := {decide := true}) [fD, fIf, fT, fOp, fVar, PL.g2, h2, M.toD]
  · simp (config := {decide := true}) [fD, fIf, fT, fOp, fVar, PL.g2, h2, e, M.toD, fMethO, fldI, fCons, fNil, appF, PL.fill, putb, isDd, h1]
theorem p_with_rule {rs : List (List Str)} (h6 : rs.length = 6) (ho : ∀ r ∈ rs, RuleOk r) {w : Str} (hw : w ∈ doors) {r : List Str} (hr : RuleOk r) :
    F_Book_with_rule [.d (bookD rs), .d (.str w), .d (ruleD r)] = some (bookM (rs.set (doorIx w) r), []) := by
  have hd := p_is_door hw
  have hq := p_is_rule hr
  have lc := lc_ok (i := 4) (t := tTrue) (elt := (fD (fIf (fT (fOp (g2 gEq) (fVar 4) (fVar 1))) (fVar 2) (fMethO "Book" "rule" F_Book_rule [] 0 [none] (fCons (fVar 4) fNil))))) (b := [.d (bookD rs), .d (.str w), .d (ruleD r), .no, .no]) rfl (k := fun _ => true) (f := newR rs w r) (doors.map .str) fun d hdd => by
    obtain ⟨z, hz, rfl⟩ := List.mem_map.mp hdd
    exact ⟨rfl, fun _ => p_newR h6 hw hz r .no⟩
  rw [List.filter_eq_self.mpr fun _ _ => rfl] at lc
  have el : (doors.map D.str).map (newR rs w r) = ((rs.set (doorIx w) r).map ruleD).map .d := by
    obtain ⟨r1, r2, r3, r4, r5, r6, rfl⟩ : ∃ r1 r2 r3 r4 r5 r6, rs = [r1, r2, r3, r4, r5, r6] := by
      match rs, h6 with
      | [r1, r2, r3, r4, r5, r6], _ => exact ⟨r1, r2, r3, r4, r5, r6, rfl⟩
    simp only [doors, List.mem_cons, List.not_mem_nil, or_false] at hw
    rcases hw with rfl | rfl | rfl | rfl | rfl | rfl <;> rfl
  rw [el] at lc
  have hz6 : (rs.set (doorIx w) r).length = 6 := by rw [List.length_set]; exact h6
  have hro : ∀ x ∈ rs.set (doorIx w) r, RuleOk x := fun x hx => by
    rcases List.mem_or_eq_of_mem_set hx with z | z
    · exact ho x z
    · rw [z]; exact hr
  generalize rs.set (doorIx w) r = qs at *
  obtain ⟨r1, r2, r3, r4, r5, r6, rfl⟩ : ∃ r1 r2 r3 r4 r5 r6, qs = [r1, r2, r3, r4, r5, r6] := by
    match qs, hz6 with
    | [r1, r2, r3, r4, r5, r6], _ => exact ⟨r1, r2, r3, r4, r5, r6, rfl⟩
  have hb := p_book r1 r2 r3 r4 r5 r6 hro
  simp only [doors, List.map_cons, List.map_nil] at lc hb
  simp (config := {decide := true}) [F_Book_with_rule, g_Book_with_rule, fnF, sRet, sRetN, sSeq, sIf, sSet, sPass, sFrz, sDrop, fT, fOp, fVar, fC, fMov, fFrz, fD, startE, M.toD, M.toDs, M.toB, fIxO, isO, sIxO, atI, ixN, g2, g2m, fOf, PL.g1, g1m, g22, fCons, fNil, fIo, fCall, PL.fill, putb, M.argOf, M.hole, ownS, fin, finals, tNotT, tAndT, tOrT, fAnd, fOr, fNot, fIf, fChain, fPl, getP, setP, M.cell, M.setCell, M.sub, M.fld, fldI, sPut, M.setF, M.put, sAug, gPut, gTu, PL.gCons, gsNil, sAsg, sPar, fMethO, fMeth, fMake, appF, fLenO, sAppP, sApp, fLc, wipeB, tTrue, lAny, lRng, gNm, PL.gLst, PL.gTup, M.datas, fUnD, fMethK, fMake2, fProp, sExt, fPopP, gC, gInt, gInt0, gMod, gDiv, PL.gSub, gAdd, gMul, gLt, gLe, gGt, gGe, gToInt, gAbs, gMax, gMin, gLen, gIsN, gTupOf, gLstOf, bF, tPeek, fPeek, gEq_ss, gNe_ss, gEq_ii, gNe_ii, ok_take, ok_least, ok_last, ok_show, ok_ask, ok_put, ok_look, ok_alter, ok_back, ok_pay, ok_price, ok_again, isDd, isDl, isDo, isDk, isDb, fMakeS, D.items, hd, hq, lc, hb, M.toDs, wipeB]

end Lw

set_option exponentiation.threshold 100000
namespace Lw
open PySem PySem.Spec PyProof.Rows L2 PL
/-! ### books out of tuples of rules -/
def door (k : Nat) : Str := doors.getD k ""
theorem doorIx_at {k : Nat} (h : k < 6) : door k ∈ doors ∧ doorIx (door k) = k := by
  have : k = 0 ∨ k = 1 ∨ k = 2 ∨ k = 3 ∨ k = 4 ∨ k = 5 := by omega
  rcases this with rfl | rfl | rfl | rfl | rfl | rfl
  all_goals exact ⟨by simp [door, doors], by kernel_rfl⟩
theorem six_of {α : Type} {rs : List α} (h : rs.length = 6) : ∃ r1 r2 r3 r4 r5 r6, rs = [r1, r2, r3, r4, r5, r6] := by
  match rs, h with
  | [r1, r2, r3, r4, r5, r6], _ => exact ⟨r1, r2, r3, r4, r5, r6, rfl⟩
theorem gIx_rule {rs : List (List Str)} (h6 : rs.length = 6) {k : Nat} (h : k < 6) : gIx (.tup (rs.map ruleD)) (.int k) = some (ruleD (rs.getD k [])) := by
  have h1 : (k : Int) < (rs.length : Int) := by omega
  have h0 : (0 : Int) ≤ k := by omega
  have h2 : k < rs.length := by omega
  unfold gIx atI ixN
  simp only [List.length_map, h0, h1, if_true, Option.bind, Int.toNat_natCast, List.getElem?_map, List.getElem?_eq_getElem h2, Option.map, List.getD_eq_getElem?_getD, Option.getD]
theorem gIx_door {k : Nat} (h : k < 6) : gIx (.tup (doors.map .str)) (.int k) = some (.str (door k)) := by
  have : k = 0 ∨ k = 1 ∨ k = 2 ∨ k = 3 ∨ k = 4 ∨ k = 5 := by omega
  rcases this with rfl | rfl | rfl | rfl | rfl | rfl <;> rfl
def bodyB : Sv := (sSet 1 (fD (fMethO "Book" "with_rule" F_Book_with_rule [] 1 [none, none] (fCons (fOp (g2 gIx) (fVar 2) (fVar 3)) (fCons (fOp (g2 gIx) (fVar 0) (fVar 3)) fNil)))))
theorem p_bodyB {rs bs : List (List Str)} (h6 : rs.length = 6) (ho : ∀ r ∈ rs, RuleOk r) (hb6 : bs.length = 6) (hbo : ∀ r ∈ bs, RuleOk r) {k : Nat} (h : k < 6) :
    bodyB [.d (.tup (rs.map ruleD)), .d (bookD bs), .d (.tup (doors.map .str)), .d (.int k), .no] = some (.nx, [.d (.tup (rs.map ruleD)), .d (bookD (bs.set k (rs.getD k []))), .d (.tup (doors.map .str)), .d (.int k), .no]) := by
  obtain ⟨d1, d2⟩ := doorIx_at h
  have h1 := p_with_rule hb6 hbo d1 (rule_ok h6 ho k)
  have h2 := gIx_rule h6 h
  have h3 := gIx_door h
  rw [d2] at h1
  have t := bookM_toD (bs.set k (rs.getD k []))
  generalize bs.set k (rs.getD k []) = cs at *
  generalize rs.getD k [] = r at *
  generalize door k = w at *
  have hb : bookD bs = .obj "Book" ["row"] [.tup (bs.map ruleD)] := rfl
  rw [hb] at h1 ⊢
  generalize D.tup (rs.map ruleD) = rl at *
  generalize D.tup (doors.map .str) = dl at *
  simp (config := {decide := true}) [bodyB, fnF, sRet, sRetN, sSeq, sIf, sSet, sPass, sFrz, sDrop, fT, fOp, fVar, fC, fMov, fFrz, fD, startE, M.toD, M.toDs, M.toB, fIxO, isO, sIxO, atI, ixN, g2, g2m, fOf, PL.g1, g1m, g22, fCons, fNil, fIo, fCall, PL.fill, putb, M.argOf, M.hole, ownS, fin, finals, tNotT, tAndT, tOrT, fAnd, fOr, fNot, fIf, fChain, fPl, getP, setP, M.cell, M.setCell, M.sub, M.fld, fldI, sPut, M.setF, M.put, sAug, gPut, gTu, PL.gCons, gsNil, sAsg, sPar, fMethO, fMeth, fMake, appF, fLenO, sAppP, sApp, fLc, wipeB, tTrue, lAny, lRng, gNm, PL.gLst, PL.gTup, M.datas, fUnD, fMethK, fMake2, fProp, sExt, fPopP, gC, gInt, gInt0, gMod, gDiv, PL.gSub, gAdd, gMul, gLt, gLe, gGt, gGe, gToInt, gAbs, gMax, gMin, gLen, gIsN, gTupOf, gLstOf, bF, tPeek, fPeek, gEq_ss, gNe_ss, gEq_ii, gNe_ii, ok_take, ok_least, ok_last, ok_show, ok_ask, ok_put, ok_look, ok_alter, ok_back, ok_pay, ok_price, ok_again, isDd, isDl, isDo, isDk, isDb, h1, h2, h3, t]
theorem set_ok {rs bs : List (List Str)} (h6 : rs.length = 6) (ho : ∀ r ∈ rs, RuleOk r) (hbo : ∀ r ∈ bs, RuleOk r) (k : Nat) : ∀ r ∈ bs.set k (rs.getD k []), RuleOk r := fun x hx => by
  rcases List.mem_or_eq_of_mem_set hx with z | z
  · exact hbo x z
  · rw [z]; exact rule_ok h6 ho k
theorem p_bookLoop {rs : List (List Str)} (h6 : rs.length = 6) (ho : ∀ r ∈ rs, RuleOk r) : ∀ (ks : List Nat) (bs : List (List Str)) (x : B), bs.length = 6 → (∀ r ∈ bs, RuleOk r) → (∀ k ∈ ks, k < 6) →
    ∃ x', forL (gNm 3) bodyB (ks.map fun (k : Nat) => D.int k) [.d (.tup (rs.map ruleD)), .d (bookD bs), .d (.tup (doors.map .str)), x, .no] = some (.nx, [.d (.tup (rs.map ruleD)), .d (bookD (ks.foldl (fun b k => b.set k (rs.getD k [])) bs)), .d (.tup (doors.map .str)), x', .no])
  | [], bs, x, _, _, _ => ⟨x, rfl⟩
  | k :: ks, bs, x, hb, hbo, hk => by
    have h1 := p_bodyB h6 ho hb hbo (hk k (by simp))
    obtain ⟨x', h2⟩ := p_bookLoop h6 ho ks (bs.set k (rs.getD k [])) (.d (.int k)) (by rw [List.length_set]; exact hb) (set_ok h6 ho hbo k) fun z hz => hk z (by simp [hz])
    refine ⟨x', ?_⟩
    simp only [List.map_cons, List.foldl_cons]
    exact forL_nx (b1 := [.d (.tup (rs.map ruleD)), .d (bookD bs), .d (.tup (doors.map .str)), .d (.int k), .no]) rfl h1 h2
def lensD (rs : List (List Str)) : List D := rs.map fun r => D.int r.length
theorem ints_lens : ∀ rs : List (List Str), D.ints (lensD rs) = some (rs.map fun r => (r.length : Int))
  | [] => rfl
  | r :: rs => by
    have := ints_lens rs
    unfold lensD at this ⊢
    simp only [List.map_cons, D.ints, this]
def b0R : List (List Str) := [["show"], ["take"], [], ["last"], ["ask"], ["least"]]
theorem b0R_ok : ∀ r ∈ b0R, RuleOk r := by
  intro r hr
  simp only [b0R, List.mem_cons, List.not_mem_nil, or_false] at hr
  rcases hr with rfl | rfl | rfl | rfl | rfl | rfl <;> exact ⟨by simp, by simp [acts5]⟩
theorem p_law_book {rs : List (List Str)} (h6 : rs.length = 6) (ho : ∀ r ∈ rs, RuleOk r) : ∃ m, F_law_book [.d (.tup (rs.map ruleD))] = some (m, []) ∧ m.toD = bookD rs := by
  have lc := lc_ok (i := 4) (t := tTrue) (elt := (fOf (PL.g1 gLen) (fCons (fVar 4) fNil))) (b := [.d (.tup (rs.map ruleD)), .no, .no, .no, .no]) rfl (k := fun _ => true) (f := fun d => match d with | .tup ds => .d (.int ds.length) | _ => .d .non) (rs.map ruleD) fun d hd => by
    obtain ⟨r, _, rfl⟩ := List.mem_map.mp hd
    exact ⟨rfl, fun _ => rfl⟩
  rw [List.filter_eq_self.mpr fun _ _ => rfl] at lc
  have el : (rs.map ruleD).map (fun d => match d with | .tup ds => M.d (.int ds.length) | _ => .d .non) = (lensD rs).map .d := by
    unfold lensD
    simp [ruleD]
  rw [el] at lc
  have hi := ints_lens rs
  have hl : (lensD rs).length ≤ 1000000 := by simp [lensD, h6]
  have t1 := toDs_d (lensD rs)
  obtain ⟨q, hq⟩ : ∃ q : Bool, decide ((rs.map fun r => (r.length : Int)).sum % 2 = 0) = q := ⟨_, rfl⟩
  generalize lensD rs = ld at *
  have test : (fT (fOp (g2 gEq) (fOp (g2 gMod) (fOf (PL.g1 gToInt) (fCons (fOf (PL.g1 gSum) (fCons (fD (fLc [4] (lAny (fVar 0)) (gNm 4) tTrue (fOf (PL.g1 gLen) (fCons (fVar 4) fNil)))) fNil)) fNil)) (fC (.int 2))) (fC (.int 0)))) [.d (.tup (rs.map ruleD)), .no, .no, .no, .no] = some (q, [.d (.tup (rs.map ruleD)), .no, .no, .no, .no]) := by
    have hz : rs.length ≤ 1000000 := by omega
    simp (config := {decide := true}) [fnF, sRet, sRetN, sSeq, sIf, sSet, sPass, sFrz, sDrop, fT, fOp, fVar, fC, fMov, fFrz, fD, startE, M.toD, M.toDs, M.toB, fIxO, isO, sIxO, atI, ixN, g2, g2m, fOf, PL.g1, g1m, g22, fCons, fNil, fIo, fCall, PL.fill, putb, M.argOf, M.hole, ownS, fin, finals, tNotT, tAndT, tOrT, fAnd, fOr, fNot, fIf, fChain, fPl, getP, setP, M.cell, M.setCell, M.sub, M.fld, fldI, sPut, M.setF, M.put, sAug, gPut, gTu, PL.gCons, gsNil, sAsg, sPar, fMethO, fMeth, fMake, appF, fLenO, sAppP, sApp, fLc, wipeB, tTrue, lAny, lRng, gNm, PL.gLst, PL.gTup, M.datas, fUnD, fMethK, fMake2, fProp, sExt, fPopP, gC, gInt, gInt0, gMod, gDiv, PL.gSub, gAdd, gMul, gLt, gLe, gGt, gGe, gToInt, gAbs, gMax, gMin, gLen, gIsN, gTupOf, gLstOf, bF, tPeek, fPeek, gEq_ss, gNe_ss, gEq_ii, gNe_ii, ok_take, ok_least, ok_last, ok_show, ok_ask, ok_put, ok_look, ok_alter, ok_back, ok_pay, ok_price, ok_again, isDd, isDl, isDo, isDk, isDb, lc, hi, gSum, t1, hq, hz]
  unfold F_law_book g_law_book
  have i0 := gIx_rule h6 (k := 0) (by decide)
  have i1 := gIx_rule h6 (k := 1) (by decide)
  have i2 := gIx_rule h6 (k := 2) (by decide)
  have i3 := gIx_rule h6 (k := 3) (by decide)
  have i4 := gIx_rule h6 (k := 4) (by decide)
  have i5 := gIx_rule h6 (k := 5) (by decide)
  cases q with
  | true =>
    refine ⟨bookM rs, fnF_rt (b := [.d (.tup (rs.map ruleD)), .no, .no, .no, .no]) rfl (sSeq_rt ?_) rfl, bookM_toD rs⟩
    unfold sIf
    rw [show startE [M.d (.tup (rs.map ruleD))] 0 ++ List.replicate 4 B.no = [.d (.tup (rs.map ruleD)), .no, .no, .no, .no] from rfl, test]
    simp only
    obtain ⟨r1, r2, r3, r4, r5, r6, rfl⟩ := six_of h6
    have hb := p_book r1 r2 r3 r4 r5 r6 ho
    simp only [List.getD_cons_zero, List.getD_cons_succ] at i0 i1 i2 i3 i4 i5
    generalize D.tup (List.map ruleD _) = dl at *
    clear test lc
    simp (config := {decide := true}) [fnF, sRet, sRetN, sSeq, sIf, sSet, sPass, sFrz, sDrop, fT, fOp, fVar, fC, fMov, fFrz, fD, startE, M.toD, M.toDs, M.toB, fIxO, isO, sIxO, atI, ixN, g2, g2m, fOf, PL.g1, g1m, g22, fCons, fNil, fIo, fCall, PL.fill, putb, M.argOf, M.hole, ownS, fin, finals, tNotT, tAndT, tOrT, fAnd, fOr, fNot, fIf, fChain, fPl, getP, setP, M.cell, M.setCell, M.sub, M.fld, fldI, sPut, M.setF, M.put, sAug, gPut, gTu, PL.gCons, gsNil, sAsg, sPar, fMethO, fMeth, fMake, appF, fLenO, sAppP, sApp, fLc, wipeB, tTrue, lAny, lRng, gNm, PL.gLst, PL.gTup, M.datas, fUnD, fMethK, fMake2, fProp, sExt, fPopP, gC, gInt, gInt0, gMod, gDiv, PL.gSub, gAdd, gMul, gLt, gLe, gGt, gGe, gToInt, gAbs, gMax, gMin, gLen, gIsN, gTupOf, gLstOf, bF, tPeek, fPeek, gEq_ss, gNe_ss, gEq_ii, gNe_ii, ok_take, ok_least, ok_last, ok_show, ok_ask, ok_put, ok_look, ok_alter, ok_back, ok_pay, ok_price, ok_again, isDd, isDl, isDo, isDk, isDb, hb, i0, i1, i2, i3, i4, i5] at i0 i1 i2 i3 i4 i5 ⊢
  | false =>
    obtain ⟨x', h1⟩ := p_bookLoop h6 ho [3, 0, 5, 1, 4, 2] b0R .no rfl b0R_ok (by decide)
    have ef : [3, 0, 5, 1, 4, 2].foldl (fun b k => b.set k (rs.getD k [])) b0R = rs := by
      obtain ⟨r1, r2, r3, r4, r5, r6, rfl⟩ := six_of h6
      rfl
    rw [ef] at h1
    have hb := p_book ["show"] ["take"] [] ["last"] ["ask"] ["least"] b0R_ok
    refine ⟨.d (bookD rs), fnF_rt (b := [.d (.tup (rs.map ruleD)), .d (bookD rs), .d (.tup (doors.map .str)), x', .no]) rfl (sSeq_nx (b1 := [.d (.tup (rs.map ruleD)), .no, .no, .no, .no]) ?_ (sSeq_nx (b1 := [.d (.tup (rs.map ruleD)), .d (bookD b0R), .d (.tup [.str "put", .str "look", .str "alter", .str "back"]), .no, .no]) ?_
      (sSeq_nx (b1 := [.d (.tup (rs.map ruleD)), .d (bookD b0R), .d (.tup (doors.map .str)), .no, .no]) ?_ (sSeq_nx (sFor_ok (b1 := [.d (.tup (rs.map ruleD)), .d (bookD b0R), .d (.tup (doors.map .str)), .no, .no]) rfl h1) ?_)))) rfl, rfl⟩
    · unfold sIf
      rw [show startE [M.d (.tup (rs.map ruleD))] 0 ++ List.replicate 4 B.no = [.d (.tup (rs.map ruleD)), .no, .no, .no, .no] from rfl, test]
      rfl
    · clear test lc h1
      generalize D.tup (rs.map ruleD) = dl at *
      have hb2 : ruleD ["show"] = .tup [.str "show"] ∧ ruleD ["take"] = .tup [.str "take"] ∧ ruleD [] = .tup [] ∧ ruleD ["last"] = .tup [.str "last"] ∧ ruleD ["ask"] = .tup [.str "ask"] ∧ ruleD ["least"] = .tup [.str "least"] := ⟨rfl, rfl, rfl, rfl, rfl, rfl⟩
      obtain ⟨u1, u2, u3, u4, u5, u6⟩ := hb2
      rw [u1, u2, u3, u4, u5, u6] at hb
      have t := bookM_toD b0R
      have bb : bookM [["show"], ["take"], [], ["last"], ["ask"], ["least"]] = bookM b0R := rfl
      rw [bb] at hb
      simp (config := {decide := true}) [fnF, sRet, sRetN, sSeq, sIf, sSet, sPass, sFrz, sDrop, fT, fOp, fVar, fC, fMov, fFrz, fD, startE, M.toD, M.toDs, M.toB, fIxO, isO, sIxO, atI, ixN, g2, g2m, fOf, PL.g1, g1m, g22, fCons, fNil, fIo, fCall, PL.fill, putb, M.argOf, M.hole, ownS, fin, finals, tNotT, tAndT, tOrT, fAnd, fOr, fNot, fIf, fChain, fPl, getP, setP, M.cell, M.setCell, M.sub, M.fld, fldI, sPut, M.setF, M.put, sAug, gPut, gTu, PL.gCons, gsNil, sAsg, sPar, fMethO, fMeth, fMake, appF, fLenO, sAppP, sApp, fLc, wipeB, tTrue, lAny, lRng, gNm, PL.gLst, PL.gTup, M.datas, fUnD, fMethK, fMake2, fProp, sExt, fPopP, gC, gInt, gInt0, gMod, gDiv, PL.gSub, gAdd, gMul, gLt, gLe, gGt, gGe, gToInt, gAbs, gMax, gMin, gLen, gIsN, gTupOf, gLstOf, bF, tPeek, fPeek, gEq_ss, gNe_ss, gEq_ii, gNe_ii, ok_take, ok_least, ok_last, ok_show, ok_ask, ok_put, ok_look, ok_alter, ok_back, ok_pay, ok_price, ok_again, isDd, isDl, isDo, isDk, isDb, hb, t]
    · generalize D.tup (rs.map ruleD) = dl at *
      generalize bookD b0R = bd at *
      simp (config := {decide := true}) [fnF, sRet, sRetN, sSeq, sIf, sSet, sPass, sFrz, sDrop, fT, fOp, fVar, fC, fMov, fFrz, fD, startE, M.toD, M.toDs, M.toB, fIxO, isO, sIxO, atI, ixN, g2, g2m, fOf, PL.g1, g1m, g22, fCons, fNil, fIo, fCall, PL.fill, putb, M.argOf, M.hole, ownS, fin, finals, tNotT, tAndT, tOrT, fAnd, fOr, fNot, fIf, fChain, fPl, getP, setP, M.cell, M.setCell, M.sub, M.fld, fldI, sPut, M.setF, M.put, sAug, gPut, gTu, PL.gCons, gsNil, sAsg, sPar, fMethO, fMeth, fMake, appF, fLenO, sAppP, sApp, fLc, wipeB, tTrue, lAny, lRng, gNm, PL.gLst, PL.gTup, M.datas, fUnD, fMethK, fMake2, fProp, sExt, fPopP, gC, gInt, gInt0, gMod, gDiv, PL.gSub, gAdd, gMul, gLt, gLe, gGt, gGe, gToInt, gAbs, gMax, gMin, gLen, gIsN, gTupOf, gLstOf, bF, tPeek, fPeek, gEq_ss, gNe_ss, gEq_ii, gNe_ii, ok_take, ok_least, ok_last, ok_show, ok_ask, ok_put, ok_look, ok_alter, ok_back, ok_pay, ok_price, ok_again, isDd, isDl, isDo, isDk, isDb, doors]
    · rfl

end Lw

set_option exponentiation.threshold 100000
namespace Lw
open PySem PySem.Spec PyProof.Rows L2 PL
/-! ### six rules drawn -/
theorem p_rule_draw6 {n : Nat} {J : M} {most : Int} (h : PotOk n J) (hn : n < 100000) (h0 : 0 ≤ most) (h6 : most ≤ 6) : ∃ (acts : List Str) (J' : M), F_law_rule [J, .d (.int most)] = some (.d (ruleD acts), [J']) ∧ acts.length ≤ most.toNat ∧ (∀ a ∈ acts, a ∈ acts5) ∧ PotOk (n + 7) J' := by
  obtain ⟨r, J1, h1, r0, r1, h2⟩ := p_dip h (by omega) (m := most + 1) (by omega) (by omega)
  have hl : (rngD 0 r.toNat).length = r.toNat := by simp [rngD]
  obtain ⟨acts, J', q1, q2, q3, q4⟩ := p_rule_loop (.int most) (rngD 0 r.toNat) (n + 1) J1 h2 (by rw [hl]; omega)
  rw [hl] at q2 q4
  have e1 := h.isD
  have e2 := h2.isD
  have r2 : -1000000 ≤ r := by omega
  have r3 : r ≤ 1000000 := by omega
  have r4 : r.toNat ≤ 1000000 := by omega
  refine ⟨acts, J', ?_, by omega, q3, q4.mono (by omega)⟩
  unfold ruleD
  simp (config := {decide := true}) [F_law_rule, g_law_rule, fnF, sRet, sRetN, sSeq, sIf, sSet, sPass, sFrz, sDrop, fT, fOp, fVar, fC, fMov, fFrz, fD, startE, M.toD, M.toDs, M.toB, fIxO, isO, sIxO, atI, ixN, g2, g2m, fOf, PL.g1, g1m, g22, fCons, fNil, fIo, fCall, PL.fill, putb, M.argOf, M.hole, ownS, fin, finals, tNotT, tAndT, tOrT, fAnd, fOr, fNot, fIf, fChain, fPl, getP, setP, M.cell, M.setCell, M.sub, M.fld, fldI, sPut, M.setF, M.put, sAug, gPut, gTu, PL.gCons, gsNil, sAsg, sPar, fMethO, fMeth, fMake, appF, fLenO, sAppP, sApp, fLc, wipeB, tTrue, lAny, lRng, gNm, PL.gLst, PL.gTup, M.datas, fUnD, fMethK, fMake2, fProp, sExt, fPopP, gC, gInt, gInt0, gMod, gDiv, PL.gSub, gAdd, gMul, gLt, gLe, gGt, gGe, gToInt, gAbs, gMax, gMin, gLen, gIsN, gTupOf, gLstOf, bF, tPeek, fPeek, gEq_ss, gNe_ss, gEq_ii, gNe_ii, ok_take, ok_least, ok_last, ok_show, ok_ask, ok_put, ok_look, ok_alter, ok_back, ok_pay, ok_price, ok_again, isDd, isDl, isDo, isDk, isDb, h1, e1, e2, r2, r3, r4, hl, q1, strs_toDs]
/-- a rule of up to so many actions -/
def RuleM (m : Nat) (r : List Str) : Prop := r.length ≤ m ∧ ∀ a ∈ r, a ∈ acts5
theorem RuleM.ok {m : Nat} {r : List Str} (h : RuleM m r) (hm : m ≤ 6) : RuleOk r := ⟨Nat.le_trans h.1 hm, h.2⟩
theorem p_rules_loopM {most : Int} (h0 : 0 ≤ most) (h6 : most ≤ 6) : ∀ (ds : List D) (n : Nat) (J : M), PotOk n J → n + 7 * ds.length < 90000 →
    ∃ (rs : List (List Str)) (J' : M), lcL [3] (gNm 3) tTrue (fD (fCall F_law_rule [] [some 0, none] (fIo 0 (fCons (fVar 1) fNil)))) ds [.o (some 0) J, .d (.int most), .no, .no, .no, .no] = some (rs.map fun r => M.d (ruleD r), [.o (some 0) J', .d (.int most), .no, .no, .no, .no]) ∧ rs.length = ds.length ∧ (∀ r ∈ rs, RuleM most.toNat r) ∧ PotOk (n + 7 * ds.length) J'
  | [], n, J, h, _ => ⟨[], J, rfl, rfl, by simp, h⟩
  | d :: ds, n, J, h, hn => by
    simp only [List.length_cons] at hn
    obtain ⟨r, J1, h1, r0, r1, h2⟩ := p_rule_draw6 h (by omega) h0 h6
    obtain ⟨rs, J', q1, q2, q3, q4⟩ := p_rules_loopM h0 h6 ds (n + 7) J1 h2 (by omega)
    have e1 := h.isD
    have e2 := h2.isD
    refine ⟨r :: rs, J', ?_, by simp [q2], fun b hb => by
      rcases List.mem_cons.mp hb with rfl | hb
      · exact ⟨r0, r1⟩
      · exact q3 b hb, by simp only [List.length_cons]; exact q4.mono (by omega)⟩
    unfold lcL
    simp (config := {decide := true}) [fnF, sRet, sRetN, sSeq, sIf, sSet, sPass, sFrz, sDrop, fT, fOp, fVar, fC, fMov, fFrz, fD, startE, M.toD, M.toDs, M.toB, fIxO, isO, sIxO, atI, ixN, g2, g2m, fOf, PL.g1, g1m, g22, fCons, fNil, fIo, fCall, PL.fill, putb, M.argOf, M.hole, ownS, fin, finals, tNotT, tAndT, tOrT, fAnd, fOr, fNot, fIf, fChain, fPl, getP, setP, M.cell, M.setCell, M.sub, M.fld, fldI, sPut, M.setF, M.put, sAug, gPut, gTu, PL.gCons, gsNil, sAsg, sPar, fMethO, fMeth, fMake, appF, fLenO, sAppP, sApp, fLc, wipeB, tTrue, lAny, lRng, gNm, PL.gLst, PL.gTup, M.datas, fUnD, fMethK, fMake2, fProp, sExt, fPopP, gC, gInt, gInt0, gMod, gDiv, PL.gSub, gAdd, gMul, gLt, gLe, gGt, gGe, gToInt, gAbs, gMax, gMin, gLen, gIsN, gTupOf, gLstOf, bF, tPeek, fPeek, gEq_ss, gNe_ss, gEq_ii, gNe_ii, ok_take, ok_least, ok_last, ok_show, ok_ask, ok_put, ok_look, ok_alter, ok_back, ok_pay, ok_price, ok_again, isDd, isDl, isDo, isDk, isDb, h1, e1, e2, q1]
def some7 : List (List Str) := [["show"], ["take", "show"], [], ["last"], ["ask"], ["least", "ask"], ["take", "ask"]]
theorem some7_at {r : Int} (h0 : 0 ≤ r) (h1 : r < 7) : ∃ row : List Str, gIx (.lst (some7.map ruleD)) (.int r) = some (ruleD row) ∧ row.length ≤ 2 ∧ ∀ a ∈ row, a ∈ acts5 := by
  have : r = 0 ∨ r = 1 ∨ r = 2 ∨ r = 3 ∨ r = 4 ∨ r = 5 ∨ r = 6 := by omega
  rcases this with rfl | rfl | rfl | rfl | rfl | rfl | rfl
  · exact ⟨["show"], rfl, by decide, by simp [acts5]⟩
  · exact ⟨["take", "show"], rfl, by decide, by simp [acts5]⟩
  · exact ⟨[], rfl, by decide, by simp⟩
  · exact ⟨["last"], rfl, by decide, by simp [acts5]⟩
  · exact ⟨["ask"], rfl, by decide, by simp [acts5]⟩
  · exact ⟨["least", "ask"], rfl, by decide, by simp [acts5]⟩
  · exact ⟨["take", "ask"], rfl, by decide, by simp [acts5]⟩
def rls (rs : List (List Str)) : M := .lst (rs.map fun r => .d (ruleD r))
def bodyRu : Sv := (sSeq (sSet 4 (fD (fOf gLst (fCons (fOf PL.gTup (fCons (fC (.str "show")) fNil)) (fCons (fOf PL.gTup (fCons (fC (.str "take")) (fCons (fC (.str "show")) fNil))) (fCons (fOf PL.gTup fNil) (fCons (fOf PL.gTup (fCons (fC (.str "last")) fNil)) (fCons (fOf PL.gTup (fCons (fC (.str "ask")) fNil)) (fCons (fOf PL.gTup (fCons (fC (.str "least")) (fCons (fC (.str "ask")) fNil))) (fCons (fOf PL.gTup (fCons (fC (.str "take")) (fCons (fC (.str "ask")) fNil))) fNil)))))))))) (sSeq (sSet 5 (fOp (g2 gIx) (fVar 4) (fD (fCall F_law_dip [] [some 0, none] (fIo 0 (fCons (fC (.int 7)) fNil)))))) (sApp 2 (fD (fIf (fT (fOp (g2 gGt) (fVar 3) (fC (.int 0)))) (fVar 5) (fOp (g2m gAdd) (fOf PL.gTup (fCons (fC (.str "show")) fNil)) (fVar 5)))))))
theorem p_ru_step {n : Nat} {J : M} (h : PotOk n J) (hn : n < 90000) (m : D) {acc : List (List Str)} (hl : acc.length < 1000) (k : Nat) (x4 x5 : B) :
    ∃ (row : List Str) (J' : M) (x4' x5' : B), bodyRu [.o (some 0) J, .d m, .o none (rls acc), .d (.int k), x4, x5] = some (.nx, [.o (some 0) J', .d m, .o none (rls (acc ++ [row])), .d (.int k), x4', x5']) ∧ RuleM 3 row ∧ PotOk (n + 1) J' := by
  obtain ⟨r, J1, h1, r0, r1, h2⟩ := p_dip h (by omega) (m := 7) (by decide) (by decide)
  obtain ⟨row, g1, g2', g3⟩ := some7_at r0 r1
  have e1 := h.isD
  have e2 := h2.isD
  have hl2 : acc.length < 1000000 := by omega
  have s7 : D.lst (some7.map ruleD) = .lst [.tup [.str "show"], .tup [.str "take", .str "show"], .tup [], .tup [.str "last"], .tup [.str "ask"], .tup [.str "least", .str "ask"], .tup [.str "take", .str "ask"]] := rfl
  rw [s7] at g1
  by_cases q : 0 < k
  · have e6 : rls (acc ++ [row]) = .lst ((acc.map fun r => M.d (ruleD r)) ++ [M.d (ruleD row)]) := by simp [rls]
    refine ⟨row, J1, .d (.lst (some7.map ruleD)), .d (ruleD row), ?_, ⟨by omega, g3⟩, h2⟩
    rw [e6, s7]
    unfold rls
    generalize ruleD row = rd at *
    simp (config := {decide := true}) [bodyRu, fnF, sRet, sRetN, sSeq, sIf, sSet, sPass, sFrz, sDrop, fT, fOp, fVar, fC, fMov, fFrz, fD, startE, M.toD, M.toDs, M.toB, fIxO, isO, sIxO, atI, ixN, g2, g2m, fOf, PL.g1, g1m, g22, fCons, fNil, fIo, fCall, PL.fill, putb, M.argOf, M.hole, ownS, fin, finals, tNotT, tAndT, tOrT, fAnd, fOr, fNot, fIf, fChain, fPl, getP, setP, M.cell, M.setCell, M.sub, M.fld, fldI, sPut, M.setF, M.put, sAug, gPut, gTu, PL.gCons, gsNil, sAsg, sPar, fMethO, fMeth, fMake, appF, fLenO, sAppP, sApp, fLc, wipeB, tTrue, lAny, lRng, gNm, PL.gLst, PL.gTup, M.datas, fUnD, fMethK, fMake2, fProp, sExt, fPopP, gC, gInt, gInt0, gMod, gDiv, PL.gSub, gAdd, gMul, gLt, gLe, gGt, gGe, gToInt, gAbs, gMax, gMin, gLen, gIsN, gTupOf, gLstOf, bF, tPeek, fPeek, gEq_ss, gNe_ss, gEq_ii, gNe_ii, ok_take, ok_least, ok_last, ok_show, ok_ask, ok_put, ok_look, ok_alter, ok_back, ok_pay, ok_price, ok_again, isDd, isDl, isDo, isDk, isDb, h1, e1, e2, g1, q, hl2]
  · have e6 : rls (acc ++ [("show" : Str) :: row]) = .lst ((acc.map fun r => M.d (ruleD r)) ++ [M.d (.tup (.str "show" :: row.map .str))]) := by simp [rls, ruleD]
    refine ⟨("show" : Str) :: row, J1, .d (.lst (some7.map ruleD)), .d (ruleD row), ?_, ⟨by simp; omega, fun a ha => by
      rcases List.mem_cons.mp ha with z | z
      · rw [z]; simp [acts5]
      · exact g3 a z⟩, h2⟩
    have hr2 : row.length + 1 ≤ 1000000 := by omega
    have hr3 : 1 + row.length ≤ 1000000 := by omega
    rw [e6, s7]
    unfold rls
    unfold ruleD at g1 ⊢
    simp (config := {decide := true}) [bodyRu, fnF, sRet, sRetN, sSeq, sIf, sSet, sPass, sFrz, sDrop, fT, fOp, fVar, fC, fMov, fFrz, fD, startE, M.toD, M.toDs, M.toB, fIxO, isO, sIxO, atI, ixN, g2, g2m, fOf, PL.g1, g1m, g22, fCons, fNil, fIo, fCall, PL.fill, putb, M.argOf, M.hole, ownS, fin, finals, tNotT, tAndT, tOrT, fAnd, fOr, fNot, fIf, fChain, fPl, getP, setP, M.cell, M.setCell, M.sub, M.fld, fldI, sPut, M.setF, M.put, sAug, gPut, gTu, PL.gCons, gsNil, sAsg, sPar, fMethO, fMeth, fMake, appF, fLenO, sAppP, sApp, fLc, wipeB, tTrue, lAny, lRng, gNm, PL.gLst, PL.gTup, M.datas, fUnD, fMethK, fMake2, fProp, sExt, fPopP, gC, gInt, gInt0, gMod, gDiv, PL.gSub, gAdd, gMul, gLt, gLe, gGt, gGe, gToInt, gAbs, gMax, gMin, gLen, gIsN, gTupOf, gLstOf, bF, tPeek, fPeek, gEq_ss, gNe_ss, gEq_ii, gNe_ii, ok_take, ok_least, ok_last, ok_show, ok_ask, ok_put, ok_look, ok_alter, ok_back, ok_pay, ok_price, ok_again, isDd, isDl, isDo, isDk, isDb, h1, e1, e2, g1, q, hl2, hr2, hr3]
theorem p_ru_loop (m : D) : ∀ (ks : List Nat) (n : Nat) (J : M) (acc : List (List Str)) (x3 x4 x5 : B), PotOk n J → n + ks.length < 90000 → acc.length + ks.length < 1000 → (∀ r ∈ acc, RuleM 3 r) →
    ∃ (rs : List (List Str)) (J' : M) (x3' x4' x5' : B), forL (gNm 3) bodyRu (ks.map fun (k : Nat) => D.int k) [.o (some 0) J, .d m, .o none (rls acc), x3, x4, x5] = some (.nx, [.o (some 0) J', .d m, .o none (rls rs), x3', x4', x5']) ∧ rs.length = acc.length + ks.length ∧ (∀ r ∈ rs, RuleM 3 r) ∧ PotOk (n + ks.length) J'
  | [], n, J, acc, x3, x4, x5, h, _, _, ha => ⟨acc, J, x3, x4, x5, rfl, rfl, ha, h⟩
  | k :: ks, n, J, acc, x3, x4, x5, h, hn, hl, ha => by
    simp only [List.length_cons] at hn hl
    obtain ⟨row, J1, y4, y5, h1, h2, h3⟩ := p_ru_step h (by omega) m (acc := acc) (by omega) k x4 x5
    obtain ⟨rs, J', x3', x4', x5', q1, q2, q3, q4⟩ := p_ru_loop m ks (n + 1) J1 (acc ++ [row]) (.d (.int k)) y4 y5 h3 (by omega) (by simp; omega) fun r hr => by
      rcases List.mem_append.mp hr with z | z
      · exact ha r z
      · rw [List.mem_singleton.mp z]; exact h2
    refine ⟨rs, J', x3', x4', x5', ?_, by simp at q2 ⊢; omega, q3, by simp only [List.length_cons]; exact q4.mono (by omega)⟩
    simp only [List.map_cons]
    exact forL_nx (b1 := [.o (some 0) J, .d m, .o none (rls acc), .d (.int k), x4, x5]) rfl h1 q1
theorem p_rules_draw {n : Nat} {J : M} {most : Int} (h : PotOk n J) (hn : n < 80000) (h0 : 0 ≤ most) (h6 : most ≤ 6) : ∃ (rs : List (List Str)) (J' : M), F_law_rules [J, .d (.int most)] = some (.d (.tup (rs.map ruleD)), [J']) ∧ rs.length = 6 ∧ (∀ r ∈ rs, RuleM (max 3 most.toNat) r) ∧ PotOk (n + 50) J' := by
  obtain ⟨r, J1, h1, r0, r1, h2⟩ := p_dip h (by omega) (m := 2) (by decide) (by decide)
  have e1 := h.isD
  have e2 := h2.isD
  have e7 : rngD 0 6 = [D.int 0, D.int 1, D.int 2, D.int 3, D.int 4, D.int 5] := rfl
  by_cases hr : r = 0
  · subst hr
    obtain ⟨rs, J', q1, q2, q3, q4⟩ := p_rules_loopM h0 h6 (rngD 0 6) (n + 1) J1 h2 (by rw [e7]; simp; omega)
    have e3 := q4.isD
    rw [e7] at q1 q2 q4
    have t := toDs_rules rs
    refine ⟨rs, J', ?_, by simpa using q2, fun r hr => ⟨Nat.le_trans (q3 r hr).1 (Nat.le_max_right _ _), (q3 r hr).2⟩, q4.mono (by simp)⟩
    simp (config := {decide := true}) [F_law_rules, g_law_rules, fnF, sRet, sRetN, sSeq, sIf, sSet, sPass, sFrz, sDrop, fT, fOp, fVar, fC, fMov, fFrz, fD, startE, M.toD, M.toDs, M.toB, fIxO, isO, sIxO, atI, ixN, g2, g2m, fOf, PL.g1, g1m, g22, fCons, fNil, fIo, fCall, PL.fill, putb, M.argOf, M.hole, ownS, fin, finals, tNotT, tAndT, tOrT, fAnd, fOr, fNot, fIf, fChain, fPl, getP, setP, M.cell, M.setCell, M.sub, M.fld, fldI, sPut, M.setF, M.put, sAug, gPut, gTu, PL.gCons, gsNil, sAsg, sPar, fMethO, fMeth, fMake, appF, fLenO, sAppP, sApp, fLc, wipeB, tTrue, lAny, lRng, gNm, PL.gLst, PL.gTup, M.datas, fUnD, fMethK, fMake2, fProp, sExt, fPopP, gC, gInt, gInt0, gMod, gDiv, PL.gSub, gAdd, gMul, gLt, gLe, gGt, gGe, gToInt, gAbs, gMax, gMin, gLen, gIsN, gTupOf, gLstOf, bF, tPeek, fPeek, gEq_ss, gNe_ss, gEq_ii, gNe_ii, ok_take, ok_least, ok_last, ok_show, ok_ask, ok_put, ok_look, ok_alter, ok_back, ok_pay, ok_price, ok_again, isDd, isDl, isDo, isDk, isDb, h1, e1, e2, e3, e7, q1, t]
  · obtain ⟨rs, J', x3', x4', x5', q1, q2, q3, q4⟩ := p_ru_loop (.int most) [0, 1, 2, 3, 4, 5] (n + 1) J1 [] .no .no .no h2 (by simp; omega) (by simp) (by simp)
    have e3 := q4.isD
    have t := toDs_f ruleD rs
    refine ⟨rs, J', ?_, by simpa using q2, fun r hr => ⟨Nat.le_trans (q3 r hr).1 (Nat.le_max_left _ _), (q3 r hr).2⟩, q4.mono (by simp)⟩
    have test : fT (fOp (g2 gEq) (fD (fCall F_law_dip [] [some 0, none] (fIo 0 (fCons (fC (.int 2)) fNil)))) (fC (.int 0))) [.o (some 0) J, .d (.int most), .no, .no, .no, .no] = some (false, [.o (some 0) J1, .d (.int most), .no, .no, .no, .no]) := by
      simp (config := {decide := true}) [fnF, sRet, sRetN, sSeq, sIf, sSet, sPass, sFrz, sDrop, fT, fOp, fVar, fC, fMov, fFrz, fD, startE, M.toD, M.toDs, M.toB, fIxO, isO, sIxO, atI, ixN, g2, g2m, fOf, PL.g1, g1m, g22, fCons, fNil, fIo, fCall, PL.fill, putb, M.argOf, M.hole, ownS, fin, finals, tNotT, tAndT, tOrT, fAnd, fOr, fNot, fIf, fChain, fPl, getP, setP, M.cell, M.setCell, M.sub, M.fld, fldI, sPut, M.setF, M.put, sAug, gPut, gTu, PL.gCons, gsNil, sAsg, sPar, fMethO, fMeth, fMake, appF, fLenO, sAppP, sApp, fLc, wipeB, tTrue, lAny, lRng, gNm, PL.gLst, PL.gTup, M.datas, fUnD, fMethK, fMake2, fProp, sExt, fPopP, gC, gInt, gInt0, gMod, gDiv, PL.gSub, gAdd, gMul, gLt, gLe, gGt, gGe, gToInt, gAbs, gMax, gMin, gLen, gIsN, gTupOf, gLstOf, bF, tPeek, fPeek, gEq_ss, gNe_ss, gEq_ii, gNe_ii, ok_take, ok_least, ok_last, ok_show, ok_ask, ok_put, ok_look, ok_alter, ok_back, ok_pay, ok_price, ok_again, isDd, isDl, isDo, isDk, isDb, h1, e1, e2, hr]
    have st : startE [J, .d (.int most)] 0 ++ List.replicate 4 .no = [.o (some 0) J, .d (.int most), .no, .no, .no, .no] := by
      simp [startE, e1, isDd, M.toD, List.replicate]
    unfold F_law_rules g_law_rules
    refine fnF_rt (b := [.o (some 0) J', .d (.int most), .d (.lst (rs.map ruleD)), x3', x4', x5']) rfl ?_ (by simp [finals, e1, isDd])
    rw [st]
    refine sSeq_nx (b1 := [.o (some 0) J1, .d (.int most), .no, .no, .no, .no]) ?_ (sSeq_nx (b1 := [.o (some 0) J1, .d (.int most), .o none (rls []), .no, .no, .no]) rfl (sSeq_nx (sFor_ok (b1 := [.o (some 0) J1, .d (.int most), .o none (rls []), .no, .no, .no]) rfl q1) ?_))
    · unfold sIf
      rw [test]
      rfl
    · unfold rls
      simp (config := {decide := true}) [sRet, fOf, fCons, fNil, fFrz, M.toD, t, g1m, gTupOf]

end Lw

set_option exponentiation.threshold 100000
namespace Lw
open PySem PySem.Spec PyProof.Rows L2 PL
/-! ### the law of k50 -/
def st0 : Sv := (sSet 1 (fD (fCall F_law_rules [] [some 0, none] (fIo 0 (fCons (fC (.int 3)) fNil)))))
def st1 : Sv := (sSet 2 (fD (fCall F_law_dip [] [some 0, none] (fIo 0 (fCons (fC (.int 6)) fNil)))))
def st2 : Sv := (sFrz 3 (sSet 3 (fLc [14] (lRng (fCons (fOf (PL.g1 gLen) (fCons (fOp (g2 gIx) (fVar 1) (fVar 2)) fNil)) fNil)) (gNm 14) tTrue (fOp (g2 gIx) (fOp (g2 gIx) (fVar 1) (fVar 2)) (fVar 14)))))
def st3 : Sv := (sSet 4 (fD (fCall F_law_dip [] [some 0, none] (fIo 0 (fCons (fOp (g2m gAdd) (fOf (PL.g1 gLen) (fCons (fVar 3) fNil)) (fC (.int 1))) fNil)))))
def st4 : Sv := (sSet 5 (fD (fOf gLst (fCons (fOf PL.gTup (fCons (fOf PL.gTup (fCons (fC (.str "take")) fNil)) (fCons (fOf PL.gTup (fCons (fC (.str "take")) (fCons (fC (.str "take")) fNil))) fNil))) (fCons (fOf PL.gTup (fCons (fOf PL.gTup (fCons (fC (.str "show")) fNil)) (fCons (fOf PL.gTup (fCons (fC (.str "show")) (fCons (fC (.str "ask")) fNil))) fNil))) (fCons (fOf PL.gTup (fCons (fOf PL.gTup (fCons (fC (.str "show")) fNil)) (fCons (fOf PL.gTup (fCons (fC (.str "show")) (fCons (fC (.str "last")) fNil))) fNil))) fNil))))))
def st5 : Sv := (sSet 5 (fD (fOp (g2m gAdd) (fVar 5) (fD (fOf gLst (fCons (fOf PL.gTup (fCons (fOf PL.gTup (fCons (fC (.str "take")) fNil)) (fCons (fOf PL.gTup (fCons (fC (.str "take")) (fCons (fC (.str "least")) fNil))) fNil))) (fCons (fOf PL.gTup (fCons (fOf PL.gTup (fCons (fC (.str "last")) fNil)) (fCons (fOf PL.gTup (fCons (fC (.str "last")) (fCons (fC (.str "last")) fNil))) fNil))) (fCons (fOf PL.gTup (fCons (fOf PL.gTup (fCons (fC (.str "least")) fNil)) (fCons (fOf PL.gTup (fCons (fC (.str "least")) (fCons (fC (.str "least")) fNil))) fNil))) fNil))))))))
def st6 : Sv := (sSet 5 (fD (fOp (g2m gAdd) (fVar 5) (fD (fOf gLst (fCons (fOf PL.gTup (fCons (fOf PL.gTup (fCons (fC (.str "ask")) fNil)) (fCons (fOf PL.gTup (fCons (fC (.str "ask")) (fCons (fC (.str "ask")) fNil))) fNil))) (fCons (fOf PL.gTup (fCons (fOf PL.gTup (fCons (fC (.str "ask")) fNil)) (fCons (fOf PL.gTup (fCons (fC (.str "ask")) (fCons (fC (.str "last")) fNil))) fNil))) (fCons (fOf PL.gTup (fCons (fOf PL.gTup (fCons (fC (.str "show")) fNil)) (fCons (fOf PL.gTup (fCons (fC (.str "show")) (fCons (fC (.str "show")) fNil))) fNil))) fNil))))))))
def st7 : Sv := (sAsg (fOp (g2 gIx) (fVar 5) (fD (fCall F_law_dip [] [some 0, none] (fIo 0 (fCons (fC (.int 9)) fNil))))) (gTu 2 (PL.gCons (gNm 6) (PL.gCons (gNm 7) gsNil))))
def st8 : Sv := (sSet 8 (fOf gLst fNil))
def st9 : Sv := (sFor (lAny (fOf PL.gTup (fCons (fVar 6) (fCons (fVar 7) fNil)))) (gNm 9) (sSeq (sSet 13 (fD (fOp (g2m gAdd) (fD (fOp (g2m gAdd) (fOf (g1m gTupOf) (fCons (fD (fSl (fVar 3) oNone (oSome (fVar 4)))) fNil)) (fVar 9))) (fOf (g1m gTupOf) (fCons (fD (fSl (fVar 3) (oSome (fVar 4)) oNone)) fNil))))) (sApp 8 (fD (fOp (g2m gAdd) (fD (fOp (g2m gAdd) (fD (fSl (fVar 1) oNone (oSome (fVar 2)))) (fOf PL.gTup (fCons (fVar 13) fNil)))) (fD (fSl (fVar 1) (oSome (fOp (g2m gAdd) (fVar 2) (fC (.int 1)))) oNone)))))))
def st10 : Sv := (sIf (fT (fOp (g2 (gIsN false)) (fD (fCall F_told_apart [] [none, none] (fCons (fD (fCall F_law_book [] [none] (fCons (fIxO 8 (fC (.int 0))) fNil))) (fCons (fD (fCall F_law_book [] [none] (fCons (fIxO 8 (fC (.int 1))) fNil))) fNil)))) (fC .non))) (sRet (fC (.bl false))) sPass)
def st11 : Sv := (sSet 10 (fD (fCall F_told_apart [] [none, none] (fCons (fD (fMake "Book" F_Book__init [.tup [], .tup [], .tup [], .tup [], .tup []] [none] (fCons (fOf PL.gTup (fCons (fC (.str "show")) fNil)) fNil))) (fCons (fD (fMake "Book" F_Book__init [.tup [], .tup [], .tup [], .tup [], .tup []] [none] (fCons (fOf PL.gTup (fCons (fC (.str "ask")) fNil)) fNil))) fNil)))))
def st12 : Sv := (sIf (tOrT (fT (fOp (g2 (gIsN true)) (fVar 10) (fC .non))) (fT (fOp (g2 gNe) (fOf (PL.g1 gLen) (fCons (fOp (g2 gIx) (fVar 10) (fC (.int 1))) fNil)) (fC (.int 1))))) (sRet (fC (.bl false))) sPass)
def st13 : Sv := (sIf (fT (fOp (g2 (gIsN true)) (fD (fCall F_told_apart [] [none, none] (fCons (fD (fMake "Book" F_Book__init [.tup [], .tup [], .tup [], .tup [], .tup []] [none] (fCons (fOf PL.gTup (fCons (fC (.str "show")) fNil)) fNil))) (fCons (fD (fMake "Book" F_Book__init [.tup [], .tup [], .tup [], .tup [], .tup [], .tup []] [] fNil)) fNil)))) (fC .non))) (sRet (fC (.bl false))) sPass)
def st14 : Sv := (sSet 11 (fOf PL.gTup (fCons (fC (.str "show")) fNil)))
def st15 : Sv := (sFrz 12 (sSet 12 (fLc [15] (lAny (fOf PL.gTup (fCons (fOf PL.gTup (fCons (fC (.str "ask")) (fCons (fC (.str "take")) fNil))) (fCons (fOf PL.gTup (fCons (fC (.str "take")) fNil)) fNil)))) (gNm 15) tTrue (fD (fMake "Book" F_Book__init [] [none, none, none, none, none, none] (fCons (fVar 11) (fCons (fVar 11) (fCons (fVar 11) (fCons (fVar 11) (fCons (fVar 15) (fCons (fVar 11) fNil)))))))))))
def st16 : Sv := (sSet 10 (fD (fCall F_told_apart [] [none, none] (fCons (fOp (g2 gIx) (fVar 12) (fC (.int 0))) (fCons (fOp (g2 gIx) (fVar 12) (fC (.int 1))) fNil)))))
def st17 : Sv := (sIf (tOrT (fT (fOp (g2 (gIsN true)) (fVar 10) (fC .non))) (fT (fOp (g2 gNe) (fOf (PL.g1 gLen) (fCons (fOp (g2 gIx) (fVar 10) (fC (.int 1))) fNil)) (fC (.int 5))))) (sRet (fC (.bl false))) sPass)
def st18 : Sv := (sRet (fAnd (fOp (g2 gEq) (fOp (g2 gIx) (fOp (g2 gIx) (fOp (g2 gIx) (fVar 10) (fC (.int 1))) (fC (.int 3))) (fC (.int 0))) (fC (.str "put"))) (fOp (g2 gNe) (fOp (g2 gIx) (fOp (g2 gIx) (fVar 10) (fC (.int 1))) (fC (.int 3))) (fOp (g2 gIx) (fOp (g2 gIx) (fVar 10) (fC (.int 1))) (fC (.int 0))))))
theorem g_right : g_law_right = sSeq st0 (sSeq st1 (sSeq st2 (sSeq st3 (sSeq st4 (sSeq st5 (sSeq st6 (sSeq st7 (sSeq st8 (sSeq st9 (sSeq st10 (sSeq st11 (sSeq st12 (sSeq st13 (sSeq st14 (sSeq st15 (sSeq st16 (sSeq st17 (st18)))))))))))))))))) := rfl
theorem cut_to (ds : List D) (k : Nat) : PL.cutD ds none (some (k : Int)) = ds.take k := by
  unfold PL.cutD
  have e1 : HT.sIx ds.length 0 none = 0 := rfl
  have e2 : HT.sIx ds.length ds.length (some (k : Int)) = min k ds.length := by
    show (if (k : Int) < 0 then ((k : Int) + (ds.length : Int)).toNat else min (k : Int).toNat ds.length) = min k ds.length
    rw [if_neg (by omega), Int.toNat_natCast]
  rw [e1, e2]
  simp only [List.drop_zero, Nat.sub_zero]
  by_cases q : k ≤ ds.length
  · rw [Nat.min_eq_left q]
  · rw [Nat.min_eq_right (by omega), List.take_of_length_le (Nat.le_refl _), List.take_of_length_le (by omega)]
theorem cut_from (ds : List D) (k : Nat) : PL.cutD ds (some (k : Int)) none = ds.drop k := by
  unfold PL.cutD
  have e1 : HT.sIx ds.length ds.length none = ds.length := rfl
  have e2 : HT.sIx ds.length 0 (some (k : Int)) = min k ds.length := by
    show (if (k : Int) < 0 then ((k : Int) + (ds.length : Int)).toNat else min (k : Int).toNat ds.length) = min k ds.length
    rw [if_neg (by omega), Int.toNat_natCast]
  rw [e1, e2, List.take_of_length_le (by rw [List.length_drop]; omega)]
  by_cases q : k ≤ ds.length
  · rw [Nat.min_eq_left q]
  · rw [Nat.min_eq_right (by omega), List.drop_of_length_le (Nat.le_refl _), List.drop_of_length_le (by omega)]
theorem sl_tT (ds : List D) (k : Nat) : gSl (.tup ds) none (some (k : Int)) = some (.d (.tup (ds.take k))) := by
  show some (M.d (.tup (PL.cutD ds none (some (k : Int))))) = _
  rw [cut_to]
theorem sl_fT (ds : List D) (k : Nat) : gSl (.tup ds) (some (k : Int)) none = some (.d (.tup (ds.drop k))) := by
  show some (M.d (.tup (PL.cutD ds (some (k : Int)) none))) = _
  rw [cut_from]
theorem sl_tL (ds : List D) (k : Nat) : gSl (.lst ds) none (some (k : Int)) = some (.lst ((ds.take k).map .d)) := by
  show some (M.lst ((PL.cutD ds none (some (k : Int))).map .d)) = _
  rw [cut_to]
theorem sl_fL (ds : List D) (k : Nat) : gSl (.lst ds) (some (k : Int)) none = some (.lst ((ds.drop k).map .d)) := by
  show some (M.lst ((PL.cutD ds (some (k : Int)) none).map .d)) = _
  rw [cut_from]
theorem gAdd_tt {a b : List D} (h : a.length + b.length ≤ 1000000) : gAdd (.tup a) (.tup b) = some (.d (.tup (a ++ b))) := by
  simp only [gAdd, h, if_true]
theorem gAdd_ii (i j : Int) : gAdd (.int i) (.int j) = some (.d (.int (i + j))) := rfl
/-- the pairs -/
def pairs9 : List (List Str × List Str) := [(["take"], ["take", "take"]), (["show"], ["show", "ask"]), (["show"], ["show", "last"]), (["take"], ["take", "least"]), (["last"], ["last", "last"]), (["least"], ["least", "least"]), (["ask"], ["ask", "ask"]), (["ask"], ["ask", "last"]), (["show"], ["show", "show"])]
def pairD (p : List Str × List Str) : D := .tup [ruleD p.1, ruleD p.2]
def pairsD : D := .lst (pairs9.map pairD)
theorem pair_at {r : Int} (h0 : 0 ≤ r) (h1 : r < 9) : ∃ a b : List Str, gIx pairsD (.int r) = some (.tup [ruleD a, ruleD b]) ∧ EqR a b ∧ a.length = 1 ∧ b.length = 2 ∧ (∀ x ∈ a, x ∈ acts5) ∧ ∀ x ∈ b, x ∈ acts5 := by
  have : r = 0 ∨ r = 1 ∨ r = 2 ∨ r = 3 ∨ r = 4 ∨ r = 5 ∨ r = 6 ∨ r = 7 ∨ r = 8 := by omega
  rcases this with rfl | rfl | rfl | rfl | rfl | rfl | rfl | rfl | rfl
  · exact ⟨["take"], ["take", "take"], rfl, eqr_1, rfl, rfl, by simp [acts5], by simp [acts5]⟩
  · exact ⟨["show"], ["show", "ask"], rfl, eqr_2, rfl, rfl, by simp [acts5], by simp [acts5]⟩
  · exact ⟨["show"], ["show", "last"], rfl, eqr_3, rfl, rfl, by simp [acts5], by simp [acts5]⟩
  · exact ⟨["take"], ["take", "least"], rfl, eqr_4, rfl, rfl, by simp [acts5], by simp [acts5]⟩
  · exact ⟨["last"], ["last", "last"], rfl, eqr_5, rfl, rfl, by simp [acts5], by simp [acts5]⟩
  · exact ⟨["least"], ["least", "least"], rfl, eqr_6, rfl, rfl, by simp [acts5], by simp [acts5]⟩
  · exact ⟨["ask"], ["ask", "ask"], rfl, eqr_7, rfl, rfl, by simp [acts5], by simp [acts5]⟩
  · exact ⟨["ask"], ["ask", "last"], rfl, eqr_8, rfl, rfl, by simp [acts5], by simp [acts5]⟩
  · exact ⟨["show"], ["show", "show"], rfl, eqr_9, rfl, rfl, by simp [acts5], by simp [acts5]⟩
theorem s_pairs (b : List B) (h : b.length = 16) : sSeq st4 (sSeq st5 st6) b = some (.nx, b.set 5 (.d pairsD)) := by
  obtain ⟨b0, b1, b2, b3, b4, b5, b6, b7, b8, b9, b10, b11, b12, b13, b14, b15, rfl⟩ : ∃ b0 b1 b2 b3 b4 b5 b6 b7 b8 b9 b10 b11 b12 b13 b14 b15, b = [b0, b1, b2, b3, b4, b5, b6, b7, b8, b9, b10, b11, b12, b13, b14, b15] := by
    match b, h with
    | [b0, b1, b2, b3, b4, b5, b6, b7, b8, b9, b10, b11, b12, b13, b14, b15], _ => exact ⟨_, _, _, _, _, _, _, _, _, _, _, _, _, _, _, _, rfl⟩
  rfl
/-- a rule grown -/
def grow (rs : Rls) (d sp : Nat) (a : List Str) : Rls := rs.set d ((rs.getD d []).take sp ++ a ++ (rs.getD d []).drop sp)
theorem grow_cut {rs : Rls} {d : Nat} (h : d < rs.length) (x : List Str) : rs.take d ++ [x] ++ rs.drop (d + 1) = rs.set d x := by
  rw [List.set_eq_take_append_cons_drop, if_pos h]
  simp
theorem grow_bks {rs : Rls} {d sp : Nat} {a : List Str} (h6 : rs.length = 6) (ho : ∀ r ∈ rs, RuleM 3 r) (ha : a.length ≤ 2) (hx : ∀ x ∈ a, x ∈ acts5) : Bks (grow rs d sp a) := by
  refine ⟨by unfold grow; rw [List.length_set]; exact h6, fun r hr => ?_⟩
  have hrow : RuleM 3 (rs.getD d []) := by
    by_cases hd : d < rs.length
    · rw [List.getD_eq_getElem?_getD, List.getElem?_eq_getElem hd]
      exact ho _ (List.getElem_mem hd)
    · rw [List.getD_eq_getElem?_getD, List.getElem?_eq_none (by omega)]
      exact ⟨by simp, by simp⟩
  rcases List.mem_or_eq_of_mem_set hr with z | z
  · exact (ho r z).ok (by decide)
  · rw [z]
    refine ⟨?_, fun x hx2 => ?_⟩
    · have := hrow.1
      simp only [List.length_append, List.length_take, List.length_drop]
      omega
    · simp only [List.mem_append] at hx2
      rcases hx2 with (q | q) | q
      · exact hrow.2 x (List.mem_of_mem_take q)
      · exact hx x q
      · exact hrow.2 x (List.mem_of_mem_drop q)
theorem grow_eq {rs : Rls} {d sp : Nat} {a b : List Str} (hd : d < rs.length) (h : EqR a b) (i : Nat) : EqR ((grow rs d sp a).getD i []) ((grow rs d sp b).getD i []) := by
  unfold grow
  simp only [List.getD_eq_getElem?_getD, List.getElem?_set]
  by_cases e : d = i
  · subst e
    simp only [if_true, hd, Option.getD_some]
    exact h.within _ _
  · simp only [e, if_false]
    exact EqR.refl _
def bodyE : Sv := (sSeq (sSet 13 (fD (fOp (g2m gAdd) (fD (fOp (g2m gAdd) (fOf (g1m gTupOf) (fCons (fD (fSl (fVar 3) oNone (oSome (fVar 4)))) fNil)) (fVar 9))) (fOf (g1m gTupOf) (fCons (fD (fSl (fVar 3) (oSome (fVar 4)) oNone)) fNil))))) (sApp 8 (fD (fOp (g2m gAdd) (fD (fOp (g2m gAdd) (fD (fSl (fVar 1) oNone (oSome (fVar 2)))) (fOf PL.gTup (fCons (fVar 13) fNil)))) (fD (fSl (fVar 1) (oSome (fOp (g2m gAdd) (fVar 2) (fC (.int 1)))) oNone))))))
def rlsM (xs : List Rls) : M := .lst (xs.map fun rs => .d (.tup (rs.map ruleD)))
theorem p_end {rs : Rls} {d sp : Nat} (h6 : rs.length = 6) (hd : d < 6) (hrow : (rs.getD d []).length ≤ 6) (acc : List Rls) (hacc : acc.length < 1000) {a : List Str} (ha : a.length ≤ 2) (J : M) (x5 x6 x7 x10 x11 x12 x13 x14 x15 : B) :
    bodyE [.o (some 0) J, .d (.tup (rs.map ruleD)), .d (.int d), .d (.lst ((rs.getD d []).map .str)), .d (.int sp), x5, x6, x7, .o none (rlsM acc), .d (ruleD a), x10, x11, x12, x13, x14, x15] = some (.nx, [.o (some 0) J, .d (.tup (rs.map ruleD)), .d (.int d), .d (.lst ((rs.getD d []).map .str)), .d (.int sp), x5, x6, x7, .o none (rlsM (acc ++ [grow rs d sp a])), .d (ruleD a), x10, x11, x12, .d (ruleD ((rs.getD d []).take sp ++ a ++ (rs.getD d []).drop sp)), x14, x15]) := by
  have hg := grow_cut (rs := rs) (d := d) (by omega) ((rs.getD d []).take sp ++ a ++ (rs.getD d []).drop sp)
  have e8 : rlsM (acc ++ [grow rs d sp a]) = .lst ((acc.map fun rs => M.d (.tup (rs.map ruleD))) ++ [.d (.tup ((rs.take d ++ [(rs.getD d []).take sp ++ a ++ (rs.getD d []).drop sp] ++ rs.drop (d + 1)).map ruleD))]) := by
    rw [hg]
    simp [rlsM, grow]
  rw [e8]
  clear e8 hg
  generalize rs.getD d [] = row at *
  have hacc2 : (acc.map fun rs => M.d (D.tup (rs.map ruleD))).length < 1000000 := by rw [List.length_map]; omega
  unfold rlsM
  generalize (acc.map fun rs => M.d (D.tup (rs.map ruleD))) = am at *
  have t1 := sl_tL (row.map .str) sp
  have t2 := sl_fL (row.map .str) sp
  have t3 := sl_tT (rs.map ruleD) d
  have t4 := sl_fT (rs.map ruleD) (d + 1)
  have ez : ((d : Int) + 1) = ((d + 1 : Nat) : Int) := by omega
  rw [← ez] at t4
  have u1 : M.toDs (((row.map D.str).take sp).map M.d) = (row.take sp).map .str := by rw [toDs_d, List.map_take]
  have u2 : M.toDs (((row.map D.str).drop sp).map M.d) = (row.drop sp).map .str := by rw [toDs_d, List.map_drop]
  have u1' : M.toDs (((row.map D.str).map M.d).take sp) = (row.take sp).map .str := by rw [← List.map_take]; exact u1
  have u2' : M.toDs (((row.map D.str).map M.d).drop sp) = (row.drop sp).map .str := by rw [← List.map_drop]; exact u2
  have p1 := gAdd_tt (a := (row.take sp).map .str) (b := a.map .str) (by simp only [List.length_map, List.length_take]; omega)
  have p2 := gAdd_tt (a := (row.take sp).map .str ++ a.map .str) (b := (row.drop sp).map .str) (by simp only [List.length_append, List.length_map, List.length_take, List.length_drop]; omega)
  have e1 : ruleD (row.take sp ++ a ++ row.drop sp) = .tup ((row.take sp).map .str ++ a.map .str ++ (row.drop sp).map .str) := by simp [ruleD]
  have hl6 : rs.length = 6 := h6
  have p3 := gAdd_tt (a := (rs.take d).map ruleD) (b := [ruleD (row.take sp ++ a ++ row.drop sp)]) (by simp only [List.length_map, List.length_take, List.length_cons, List.length_nil]; omega)
  have p4 := gAdd_tt (a := (rs.take d).map ruleD ++ [ruleD (row.take sp ++ a ++ row.drop sp)]) (b := (rs.drop (d + 1)).map ruleD) (by simp only [List.length_append, List.length_map, List.length_take, List.length_drop, List.length_cons, List.length_nil]; omega)
  have e2 : (rs.take d ++ [row.take sp ++ a ++ row.drop sp] ++ rs.drop (d + 1)).map ruleD = (rs.take d).map ruleD ++ [ruleD (row.take sp ++ a ++ row.drop sp)] ++ (rs.drop (d + 1)).map ruleD := by simp
  rw [e2]
  rw [← List.map_take] at t3
  rw [← List.map_drop] at t4
  have hra : ruleD a = .tup (a.map .str) := rfl
  refine sSeq_nx (b1 := [.o (some 0) J, .d (.tup (rs.map ruleD)), .d (.int d), .d (.lst (row.map .str)), .d (.int sp), x5, x6, x7, .o none (.lst am), .d (ruleD a), x10, x11, x12, .d (ruleD (row.take sp ++ a ++ row.drop sp)), x14, x15]) ?_ ?_
  · rw [e1, hra]
    have z1 : ((row.take sp).map D.str).length ≤ 1000000 := by simp only [List.length_map, List.length_take]; omega
    have z2 : ((row.drop sp).map D.str).length ≤ 1000000 := by simp only [List.length_map, List.length_drop]; omega
    generalize (row.take sp).map D.str = v1 at *
    generalize (row.drop sp).map D.str = v2 at *
    generalize row.map D.str = v0 at *
    generalize a.map D.str = va at *
    simp (config := {decide := true}) [sSet, fD, fOp, g2m, fOf, g1m, gTupOf, fCons, fNil, fVar, fSl, oNone, oSome, t1, t2, u1, u2, u1', u2', M.toD, p1, p2, M.toB, M.datas, z1, z2]
  · generalize ruleD (row.take sp ++ a ++ row.drop sp) = gr at *
    generalize (rs.take d).map ruleD = w1 at *
    generalize (rs.drop (d + 1)).map ruleD = w2 at *
    generalize rs.map ruleD = w0 at *
    simp (config := {decide := true}) [sApp, fD, fOp, g2m, fOf, PL.gTup, fCons, fNil, fVar, fC, fSl, oNone, oSome, gAdd_ii, t3, t4, M.toD, p3, p4, M.datas, isO, hacc2]
/-! the told ones of a few books -/
def bk1 (r : List Str) : Rls := [r, [], [], [], [], []]
def bk5 (r : List Str) : Rls := [["show"], ["show"], ["show"], ["show"], r, ["show"]]
theorem bk1_ok {r : List Str} (h : RuleOk r) : Bks (bk1 r) := ⟨rfl, by
  intro x hx
  simp only [bk1, List.mem_cons, List.not_mem_nil, or_false] at hx
  rcases hx with rfl | rfl | rfl | rfl | rfl | rfl
  · exact h
  all_goals exact ⟨by simp, by simp⟩⟩
theorem show_ok : RuleOk ["show"] := ⟨by simp, by simp [acts5]⟩
theorem bk5_ok {r : List Str} (h : RuleOk r) : Bks (bk5 r) := ⟨rfl, by
  intro x hx
  simp only [bk5, List.mem_cons, List.not_mem_nil, or_false] at hx
  rcases hx with rfl | rfl | rfl | rfl | rfl | rfl
  · exact show_ok
  · exact show_ok
  · exact show_ok
  · exact show_ok
  · exact h
  · exact show_ok⟩
def lenA (r : Option (Option Sd)) : Nat := match r with
  | some (some p) => p.dd.length
  | _ => 0
def isPutB (x : Str) (d : D) : Bool := match d with
  | .tup [.str w, .str y, .int n] => (decide (w = "put") && decide (y = x)) && decide (n = 1)
  | _ => false
theorem isPutB_ok {x : Str} {d : D} (h : isPutB x d = true) : d = .tup [.str "put", .str x, .int 1] := by
  unfold isPutB at h
  split at h
  · simp only [Bool.and_eq_true, decide_eq_true_eq] at h
    obtain ⟨⟨h1, h2⟩, h3⟩ := h
    rw [h1, h2, h3]
  · cases h
def fiveA (r : Option (Option Sd)) : Bool := match r with
  | some (some p) => (match p.dd with
    | [a, _, _, d, _] => isPutB "a" a && isPutB "b" d
    | _ => false)
  | _ => false
theorem ev1 : lenA (apartS (bk1 ["show"]) (bk1 ["ask"])) = 1 := by decide +kernel
theorem ev2 : lenA (apartS (bk1 ["show"]) (bk1 [])) ≠ 0 := by decide +kernel
theorem ev3 : fiveA (apartS (bk5 ["ask", "take"]) (bk5 ["take"])) = true := by decide +kernel

end Lw

set_option exponentiation.threshold 100000
namespace Lw
open PySem PySem.Spec PyProof.Rows L2 PL
def rowF (row : List Str) : D → M
  | .int j => .d (.str (row.getD j.toNat ""))
  | _ => .d .non
theorem rowF_map (row : List Str) : (rngD 0 row.length).map (rowF row) = (row.map D.str).map M.d := by
  unfold rngD
  apply List.ext_getElem?
  intro j
  simp only [List.getElem?_map]
  by_cases h : j < row.length
  · rw [List.getElem?_range h, List.getElem?_eq_getElem h]
    simp [rowF, List.getD_eq_getElem?_getD, List.getElem?_eq_getElem h]
  · rw [List.getElem?_eq_none (by simp; omega), List.getElem?_eq_none (by omega)]
    rfl
theorem s_row {rs : Rls} {d : Nat} (h6 : rs.length = 6) (hd : d < 6) (hrow : (rs.getD d []).length ≤ 6) (b0 b4 b5 b6 b7 b8 b9 b10 b11 b12 b13 b15 : B) :
    st2 [b0, .d (.tup (rs.map ruleD)), .d (.int d), .no, b4, b5, b6, b7, b8, b9, b10, b11, b12, b13, .no, b15] = some (.nx, [b0, .d (.tup (rs.map ruleD)), .d (.int d), .d (.lst ((rs.getD d []).map .str)), b4, b5, b6, b7, b8, b9, b10, b11, b12, b13, .no, b15]) := by
  have g1 := gIx_rule h6 hd
  generalize rs.getD d [] = row at *
  generalize D.tup (rs.map ruleD) = rt at *
  have lc := lc_ok (i := 14) (t := tTrue) (elt := fOp (g2 gIx) (fOp (g2 gIx) (fVar 1) (fVar 2)) (fVar 14)) (b := [b0, .d rt, .d (.int d), .no, b4, b5, b6, b7, b8, b9, b10, b11, b12, b13, .no, b15]) rfl (k := fun _ => true) (f := rowF row) (rngD 0 row.length) fun x hx => by
    obtain ⟨j, hj, rfl⟩ := List.mem_map.mp hx
    have hj := List.mem_range.mp hj
    refine ⟨rfl, fun _ => ?_⟩
    have g2' : gIx (ruleD row) (.int (j : Int)) = some (.str (row.getD j "")) := by
      have h1 : (j : Int) < (row.length : Int) := by omega
      have h0 : (0 : Int) ≤ (j : Int) := by omega
      have hz : (j : Int).toNat = j := by omega
      unfold ruleD gIx atI ixN
      simp only [List.length_map, h0, h1, if_true, Option.bind, hz, List.getElem?_map, List.getElem?_eq_getElem hj, Option.map, List.getD_eq_getElem?_getD, Option.getD]
    have hz : (0 + (j : Int)) = j := by omega
    rw [hz]
    simp [fOp, fVar, PL.g2, g1, g2', rowF]
  rw [List.filter_eq_self.mpr fun _ _ => rfl, rowF_map] at lc
  have gl : gLen (ruleD row) = some (.int row.length) := by
    unfold ruleD gLen
    simp
  have hz : (rngD 0 row.length).length ≤ 1000000 := by simp [rngD]; omega
  have t := toDs_d (row.map D.str)
  have hm : (row.length : Int) ≤ 1000000 := by omega
  have hm2 : -1000000 ≤ (row.length : Int) := by omega
  generalize row.map D.str = ro at *
  have a1 : lRng (fCons (fOf (PL.g1 gLen) (fCons (fOp (g2 gIx) (fVar 1) (fVar 2)) fNil)) fNil) [b0, .d rt, .d (.int d), .no, b4, b5, b6, b7, b8, b9, b10, b11, b12, b13, .no, b15] = some (rngD 0 row.length, [b0, .d rt, .d (.int d), .no, b4, b5, b6, b7, b8, b9, b10, b11, b12, b13, .no, b15]) := by
    simp [lRng, fCons, fNil, fOf, fOp, fVar, PL.g2, PL.g1, g1, gl, hm, hm2]
  unfold st2 sFrz sSet fLc
  rw [a1]
  simp only [hz, if_true]
  have a2 : wipeB [b0, .d rt, .d (.int d), .no, b4, b5, b6, b7, b8, b9, b10, b11, b12, b13, .no, b15] [14] = [b0, .d rt, .d (.int d), .no, b4, b5, b6, b7, b8, b9, b10, b11, b12, b13, .no, b15] := rfl
  rw [a2, lc]
  simp [M.toB, M.toD, t]
theorem m_book1 {r : List Str} (h : RuleOk r) : F_Book__init [.obj "Book" [] [], .d (ruleD r), .d (.tup []), .d (.tup []), .d (.tup []), .d (.tup []), .d (.tup [])] = some (.d .non, [bookM (bk1 r)]) := p_book r [] [] [] [] [] fun x hx => (bk1_ok h).ho x hx
theorem m_book0 : F_Book__init [.obj "Book" [] [], .d (.tup []), .d (.tup []), .d (.tup []), .d (.tup []), .d (.tup []), .d (.tup [])] = some (.d .non, [bookM (bk1 [])]) := p_book [] [] [] [] [] [] fun x hx => (bk1_ok ⟨by simp, by simp⟩).ho x hx
theorem m_book5 {r : List Str} (h : RuleOk r) : F_Book__init [.obj "Book" [] [], .d (ruleD ["show"]), .d (ruleD ["show"]), .d (ruleD ["show"]), .d (ruleD ["show"]), .d (ruleD r), .d (ruleD ["show"])] = some (.d .non, [bookM (bk5 r)]) := p_book ["show"] ["show"] ["show"] ["show"] r ["show"] fun x hx => (bk5_ok h).ho x hx
theorem ask_ok : RuleOk ["ask"] := ⟨by simp, by simp [acts5]⟩
theorem nil_ok : RuleOk [] := ⟨by simp, by simp⟩
theorem at_ok : RuleOk ["ask", "take"] := ⟨by simp, by simp [acts5]⟩
theorem ta_ok : RuleOk ["take"] := ⟨by simp, by simp [acts5]⟩
def fnd (r : Option (Option Sd)) : D := apartD r
theorem fnd_len {r : Option (Option Sd)} {n : Nat} (h : lenA r = n + 1) : ∃ t fs, fnd r = .tup [t, .lst fs] ∧ fs.length = n + 1 := by
  unfold lenA at h
  split at h
  · rename_i p
    exact ⟨_, _, rfl, by rw [List.length_map]; exact h⟩
  · omega
theorem fnd_five {r : Option (Option Sd)} (h : fiveA r = true) : ∃ t b c e, fnd r = .tup [t, .lst [putD, b, c, putbD, e]] := by
  unfold fiveA at h
  split at h
  · rename_i p
    split at h
    · rename_i a b c d e hz
      obtain ⟨h1, h2⟩ := bool_of h
      have h1 := isPutB_ok h1
      have h2 := isPutB_ok h2
      have e1 : ∀ row, amt row putD = putD := fun row => rfl
      have e2 : ∀ row, amt row putbD = putbD := fun row => rfl
      refine ⟨.tup (toldA p.dd), amt (rowA p.dd) b, amt (rowA p.dd) c, amt (rowA p.dd) e, ?_⟩
      show withA p.dd = _
      unfold withA
      have h1' : a = putD := h1
      have h2' : d = putbD := h2
      rw [hz]
      simp only [List.map_cons, List.map_nil, h1', h2', e1, e2]
    · cases h
  · cases h
section
variable (J : M) (b1 b2 b3 b4 b5 b6 b7 b8 b9 b13 b14 b15 : B)
theorem s_11 (b10 b11 b12 : B) : st11 [.o (some 0) J, b1, b2, b3, b4, b5, b6, b7, b8, b9, b10, b11, b12, b13, b14, b15] = some (.nx, [.o (some 0) J, b1, b2, b3, b4, b5, b6, b7, b8, b9, .d (fnd (apartS (bk1 ["show"]) (bk1 ["ask"]))), b11, b12, b13, b14, b15]) := by
  have m1 := m_book1 show_ok
  have m2 := m_book1 ask_ok
  have t := p_told_apart (bk1_ok show_ok) (bk1_ok ask_ok)
  have u1 := bookM_toD (bk1 ["show"])
  have u2 := bookM_toD (bk1 ["ask"])
  unfold fnd
  generalize apartD (apartS (bk1 ["show"]) (bk1 ["ask"])) = fd at *
  generalize bookM (bk1 ["show"]) = x1 at *
  generalize bookM (bk1 ["ask"]) = x2 at *
  generalize bookD (bk1 ["show"]) = y1 at *
  generalize bookD (bk1 ["ask"]) = y2 at *
  have r1 : ruleD ["show"] = .tup [.str "show"] := rfl
  have r2 : ruleD ["ask"] = .tup [.str "ask"] := rfl
  rw [r1] at m1
  rw [r2] at m2
  simp (config := {decide := true}) [st11, sSet, fD, fCall, fMake, fOf, fCons, fNil, fC, PL.gTup, M.datas, PL.fill, putb, appF, m1, m2, u1, u2, t, isDd, M.toD, M.toB]
theorem s_12 (b11 b12 : B) : st12 [.o (some 0) J, b1, b2, b3, b4, b5, b6, b7, b8, b9, .d (fnd (apartS (bk1 ["show"]) (bk1 ["ask"]))), b11, b12, b13, b14, b15] = some (.nx, [.o (some 0) J, b1, b2, b3, b4, b5, b6, b7, b8, b9, .d (fnd (apartS (bk1 ["show"]) (bk1 ["ask"]))), b11, b12, b13, b14, b15]) := by
  obtain ⟨t, fs, e, hl⟩ := fnd_len (n := 0) ev1
  rw [e]
  have hl2 : (fs.length : Int) = 1 := by omega
  simp (config := {decide := true}) [st12, fnF, sRet, sRetN, sSeq, sIf, sSet, sPass, sFrz, sDrop, fT, fOp, fVar, fC, fMov, fFrz, fD, startE, M.toD, M.toDs, M.toB, fIxO, isO, sIxO, atI, ixN, g2, g2m, fOf, PL.g1, g1m, g22, fCons, fNil, fIo, fCall, PL.fill, putb, M.argOf, M.hole, ownS, fin, finals, tNotT, tAndT, tOrT, fAnd, fOr, fNot, fIf, fChain, fPl, getP, setP, M.cell, M.setCell, M.sub, M.fld, fldI, sPut, M.setF, M.put, sAug, gPut, gTu, PL.gCons, gsNil, sAsg, sPar, fMethO, fMeth, fMake, appF, fLenO, sAppP, sApp, fLc, wipeB, tTrue, lAny, lRng, gNm, PL.gLst, PL.gTup, M.datas, fUnD, fMethK, fMake2, fProp, sExt, fPopP, gC, gInt, gInt0, gMod, gDiv, PL.gSub, gAdd, gMul, gLt, gLe, gGt, gGe, gToInt, gAbs, gMax, gMin, gLen, gIsN, gTupOf, gLstOf, bF, tPeek, fPeek, gEq_ss, gNe_ss, gEq_ii, gNe_ii, ok_take, ok_least, ok_last, ok_show, ok_ask, ok_put, ok_look, ok_alter, ok_back, ok_pay, ok_price, ok_again, isDd, isDl, isDo, isDk, isDb, gIx, hl2]
theorem s_13 (b10 b11 b12 : B) : st13 [.o (some 0) J, b1, b2, b3, b4, b5, b6, b7, b8, b9, b10, b11, b12, b13, b14, b15] = some (.nx, [.o (some 0) J, b1, b2, b3, b4, b5, b6, b7, b8, b9, b10, b11, b12, b13, b14, b15]) := by
  have m1 := m_book1 show_ok
  have m2 := m_book0
  have t := p_told_apart (bk1_ok show_ok) (bk1_ok nil_ok)
  have u1 := bookM_toD (bk1 ["show"])
  have u2 := bookM_toD (bk1 [])
  obtain ⟨n, hn⟩ : ∃ n, lenA (apartS (bk1 ["show"]) (bk1 [])) = n + 1 := ⟨lenA (apartS (bk1 ["show"]) (bk1 [])) - 1, by have := ev2; omega⟩
  obtain ⟨t0, fs, e, _⟩ := fnd_len hn
  have e : apartD (apartS (bk1 ["show"]) (bk1 [])) = .tup [t0, .lst fs] := e
  rw [e] at t
  clear e hn
  generalize bookM (bk1 ["show"]) = x1 at *
  generalize bookM (bk1 []) = x2 at *
  generalize bookD (bk1 ["show"]) = y1 at *
  generalize bookD (bk1 []) = y2 at *
  have r1 : ruleD ["show"] = .tup [.str "show"] := rfl
  rw [r1] at m1
  simp (config := {decide := true}) [st13, sIf, sPass, fT, fOp, PL.g2, gIsN, fD, fCall, fMake, fOf, fCons, fNil, fC, PL.gTup, M.datas, PL.fill, putb, appF, m1, m2, u1, u2, t, isDd, M.toD, M.toB]
theorem s_15 (b10 : B) : st15 [.o (some 0) J, b1, b2, b3, b4, b5, b6, b7, b8, b9, b10, .d (ruleD ["show"]), .no, b13, b14, .no] = some (.nx, [.o (some 0) J, b1, b2, b3, b4, b5, b6, b7, b8, b9, b10, .d (ruleD ["show"]), .d (.lst [bookD (bk5 ["ask", "take"]), bookD (bk5 ["take"])]), b13, b14, .no]) := by
  have m1 := m_book5 at_ok
  have m2 := m_book5 ta_ok
  have u1 := bookM_toD (bk5 ["ask", "take"])
  have u2 := bookM_toD (bk5 ["take"])
  generalize bookM (bk5 ["ask", "take"]) = x1 at *
  generalize bookM (bk5 ["take"]) = x2 at *
  generalize bookD (bk5 ["ask", "take"]) = y1 at *
  generalize bookD (bk5 ["take"]) = y2 at *
  have r1 : ruleD ["ask", "take"] = .tup [.str "ask", .str "take"] := rfl
  have r2 : ruleD ["take"] = .tup [.str "take"] := rfl
  rw [r1] at m1
  rw [r2] at m2
  generalize ruleD ["show"] = sh at *
  simp (config := {decide := true}) [st15, sFrz, sSet, fLc, lAny, lcL, wipeB, gNm, tTrue, fD, fMake, fOf, fCons, fNil, fC, fVar, PL.gTup, M.datas, PL.fill, putb, m1, m2, u1, u2, isDd, M.toD, M.toDs, M.toB, D.items]
theorem s_16 (b10 b11 : B) : st16 [.o (some 0) J, b1, b2, b3, b4, b5, b6, b7, b8, b9, b10, b11, .d (.lst [bookD (bk5 ["ask", "take"]), bookD (bk5 ["take"])]), b13, b14, b15] = some (.nx, [.o (some 0) J, b1, b2, b3, b4, b5, b6, b7, b8, b9, .d (fnd (apartS (bk5 ["ask", "take"]) (bk5 ["take"]))), b11, .d (.lst [bookD (bk5 ["ask", "take"]), bookD (bk5 ["take"])]), b13, b14, b15]) := by
  have t := p_told_apart (bk5_ok at_ok) (bk5_ok ta_ok)
  unfold fnd
  generalize apartD (apartS (bk5 ["ask", "take"]) (bk5 ["take"])) = fd at *
  generalize bookD (bk5 ["ask", "take"]) = y1 at *
  generalize bookD (bk5 ["take"]) = y2 at *
  simp (config := {decide := true}) [st16, fnF, sRet, sRetN, sSeq, sIf, sSet, sPass, sFrz, sDrop, fT, fOp, fVar, fC, fMov, fFrz, fD, startE, M.toD, M.toDs, M.toB, fIxO, isO, sIxO, atI, ixN, g2, g2m, fOf, PL.g1, g1m, g22, fCons, fNil, fIo, fCall, PL.fill, putb, M.argOf, M.hole, ownS, fin, finals, tNotT, tAndT, tOrT, fAnd, fOr, fNot, fIf, fChain, fPl, getP, setP, M.cell, M.setCell, M.sub, M.fld, fldI, sPut, M.setF, M.put, sAug, gPut, gTu, PL.gCons, gsNil, sAsg, sPar, fMethO, fMeth, fMake, appF, fLenO, sAppP, sApp, fLc, wipeB, tTrue, lAny, lRng, gNm, PL.gLst, PL.gTup, M.datas, fUnD, fMethK, fMake2, fProp, sExt, fPopP, gC, gInt, gInt0, gMod, gDiv, PL.gSub, gAdd, gMul, gLt, gLe, gGt, gGe, gToInt, gAbs, gMax, gMin, gLen, gIsN, gTupOf, gLstOf, bF, tPeek, fPeek, gEq_ss, gNe_ss, gEq_ii, gNe_ii, ok_take, ok_least, ok_last, ok_show, ok_ask, ok_put, ok_look, ok_alter, ok_back, ok_pay, ok_price, ok_again, isDd, isDl, isDo, isDk, isDb, gIx, t]
theorem s_17 (b11 b12 : B) : sSeq st17 st18 [.o (some 0) J, b1, b2, b3, b4, b5, b6, b7, b8, b9, .d (fnd (apartS (bk5 ["ask", "take"]) (bk5 ["take"]))), b11, b12, b13, b14, b15] = some (.rt (.d (.bl true)), [.o (some 0) J, b1, b2, b3, b4, b5, b6, b7, b8, b9, .d (fnd (apartS (bk5 ["ask", "take"]) (bk5 ["take"]))), b11, b12, b13, b14, b15]) := by
  obtain ⟨t, b, c, e, hf⟩ := fnd_five ev3
  rw [hf]
  have n1 : gNe putbD putD = some (.bl true) := by kernel_rfl
  unfold putD putbD at n1 ⊢
  simp (config := {decide := true}) [st17, st18, fnF, sRet, sRetN, sSeq, sIf, sSet, sPass, sFrz, sDrop, fT, fOp, fVar, fC, fMov, fFrz, fD, startE, M.toD, M.toDs, M.toB, fIxO, isO, sIxO, atI, ixN, g2, g2m, fOf, PL.g1, g1m, g22, fCons, fNil, fIo, fCall, PL.fill, putb, M.argOf, M.hole, ownS, fin, finals, tNotT, tAndT, tOrT, fAnd, fOr, fNot, fIf, fChain, fPl, getP, setP, M.cell, M.setCell, M.sub, M.fld, fldI, sPut, M.setF, M.put, sAug, gPut, gTu, PL.gCons, gsNil, sAsg, sPar, fMethO, fMeth, fMake, appF, fLenO, sAppP, sApp, fLc, wipeB, tTrue, lAny, lRng, gNm, PL.gLst, PL.gTup, M.datas, fUnD, fMethK, fMake2, fProp, sExt, fPopP, gC, gInt, gInt0, gMod, gDiv, PL.gSub, gAdd, gMul, gLt, gLe, gGt, gGe, gToInt, gAbs, gMax, gMin, gLen, gIsN, gTupOf, gLstOf, bF, tPeek, fPeek, gEq_ss, gNe_ss, gEq_ii, gNe_ii, ok_take, ok_least, ok_last, ok_show, ok_ask, ok_put, ok_look, ok_alter, ok_back, ok_pay, ok_price, ok_again, isDd, isDl, isDo, isDk, isDb, gIx, n1]
end

end Lw

set_option exponentiation.threshold 100000
namespace Lw
open PySem PySem.Spec PyProof.Rows L2 PL
theorem k_right {n : Nat} {J : M} (h : PotOk n J) (hn : n < 50000) : ∃ J', F_law_right [J] = some (.d (.bl true), [J']) ∧ PotOk (n + 60) J' := by
  obtain ⟨rs, J1, a1, a2, a3, a4⟩ := p_rules_draw h (by omega) (most := 3) (by decide) (by decide)
  have a3 : ∀ r ∈ rs, RuleM 3 r := a3
  obtain ⟨d, J2, c1, d0, d1, c2⟩ := p_dip a4 (by omega) (m := 6) (by decide) (by decide)
  obtain ⟨dn, rfl⟩ : ∃ dn : Nat, d = dn := ⟨d.toNat, by omega⟩
  have hd : dn < 6 := by omega
  have hrow : RuleM 3 (rs.getD dn []) := by
    rw [List.getD_eq_getElem?_getD, List.getElem?_eq_getElem (by omega)]
    exact a3 _ (List.getElem_mem (by omega))
  have hrl := hrow.1
  obtain ⟨sp, J3, e1, s0, s1, e2⟩ := p_dip c2 (by omega) (m := ((rs.getD dn []).length : Int) + 1) (by omega) (by omega)
  obtain ⟨sn, rfl⟩ : ∃ sn : Nat, sp = sn := ⟨sp.toNat, by omega⟩
  obtain ⟨r, J4, f1, r0, r1, f2⟩ := p_dip e2 (by omega) (m := 9) (by decide) (by decide)
  obtain ⟨a, b, g1, g2', g3, g4, g5, g6⟩ := pair_at r0 r1
  have ba := grow_bks (d := dn) (sp := sn) (a := a) a2 a3 (by omega) g5
  have bb := grow_bks (d := dn) (sp := sn) (a := b) a2 a3 (by omega) g6
  have al := alike_rules ba bb fun i => grow_eq (sp := sn) (by omega) g2' i
  obtain ⟨m1, l1, l2⟩ := p_law_book ba.h6 ba.ho
  obtain ⟨m2, l3, l4⟩ := p_law_book bb.h6 bb.ho
  have ta := p_told_apart ba bb
  rw [al] at ta
  have E0 := h.isD
  have E1 := a4.isD
  have E2 := c2.isD
  have E3 := e2.isD
  have E4 := f2.isD
  have st : startE [J] 0 ++ List.replicate 15 .no = [.o (some 0) J, .no, .no, .no, .no, .no, .no, .no, .no, .no, .no, .no, .no, .no, .no, .no] := by
    simp [startE, E0, List.replicate]
  obtain ⟨row, hro⟩ : ∃ row, row = rs.getD dn [] := ⟨_, rfl⟩
  have t0 : st0 [.o (some 0) J, .no, .no, .no, .no, .no, .no, .no, .no, .no, .no, .no, .no, .no, .no, .no] = some (.nx, [.o (some 0) J1, .d (.tup (rs.map ruleD)), .no, .no, .no, .no, .no, .no, .no, .no, .no, .no, .no, .no, .no, .no]) := by
    generalize D.tup (rs.map ruleD) = rt at *
    simp (config := {decide := true}) [st0, fnF, sRet, sRetN, sSeq, sIf, sSet, sPass, sFrz, sDrop, fT, fOp, fVar, fC, fMov, fFrz, fD, startE, M.toD, M.toDs, M.toB, fIxO, isO, sIxO, atI, ixN, g2, g2m, fOf, PL.g1, g1m, g22, fCons, fNil, fIo, fCall, PL.fill, putb, M.argOf, M.hole, ownS, fin, finals, tNotT, tAndT, tOrT, fAnd, fOr, fNot, fIf, fChain, fPl, getP, setP, M.cell, M.setCell, M.sub, M.fld, fldI, sPut, M.setF, M.put, sAug, gPut, gTu, PL.gCons, gsNil, sAsg, sPar, fMethO, fMeth, fMake, appF, fLenO, sAppP, sApp, fLc, wipeB, tTrue, lAny, lRng, gNm, PL.gLst, PL.gTup, M.datas, fUnD, fMethK, fMake2, fProp, sExt, fPopP, gC, gInt, gInt0, gMod, gDiv, PL.gSub, gAdd, gMul, gLt, gLe, gGt, gGe, gToInt, gAbs, gMax, gMin, gLen, gIsN, gTupOf, gLstOf, bF, tPeek, fPeek, gEq_ss, gNe_ss, gEq_ii, gNe_ii, ok_take, ok_least, ok_last, ok_show, ok_ask, ok_put, ok_look, ok_alter, ok_back, ok_pay, ok_price, ok_again, isDd, isDl, isDo, isDk, isDb, a1, E0, E1]
  have t1 : st1 [.o (some 0) J1, .d (.tup (rs.map ruleD)), .no, .no, .no, .no, .no, .no, .no, .no, .no, .no, .no, .no, .no, .no] = some (.nx, [.o (some 0) J2, .d (.tup (rs.map ruleD)), .d (.int dn), .no, .no, .no, .no, .no, .no, .no, .no, .no, .no, .no, .no, .no]) := by
    generalize D.tup (rs.map ruleD) = rt at *
    simp (config := {decide := true}) [st1, fnF, sRet, sRetN, sSeq, sIf, sSet, sPass, sFrz, sDrop, fT, fOp, fVar, fC, fMov, fFrz, fD, startE, M.toD, M.toDs, M.toB, fIxO, isO, sIxO, atI, ixN, g2, g2m, fOf, PL.g1, g1m, g22, fCons, fNil, fIo, fCall, PL.fill, putb, M.argOf, M.hole, ownS, fin, finals, tNotT, tAndT, tOrT, fAnd, fOr, fNot, fIf, fChain, fPl, getP, setP, M.cell, M.setCell, M.sub, M.fld, fldI, sPut, M.setF, M.put, sAug, gPut, gTu, PL.gCons, gsNil, sAsg, sPar, fMethO, fMeth, fMake, appF, fLenO, sAppP, sApp, fLc, wipeB, tTrue, lAny, lRng, gNm, PL.gLst, PL.gTup, M.datas, fUnD, fMethK, fMake2, fProp, sExt, fPopP, gC, gInt, gInt0, gMod, gDiv, PL.gSub, gAdd, gMul, gLt, gLe, gGt, gGe, gToInt, gAbs, gMax, gMin, gLen, gIsN, gTupOf, gLstOf, bF, tPeek, fPeek, gEq_ss, gNe_ss, gEq_ii, gNe_ii, ok_take, ok_least, ok_last, ok_show, ok_ask, ok_put, ok_look, ok_alter, ok_back, ok_pay, ok_price, ok_again, isDd, isDl, isDo, isDk, isDb, c1, E1, E2]
  have t2 := s_row (rs := rs) (d := dn) a2 hd (by omega) (.o (some 0) J2) .no .no .no .no .no .no .no .no .no .no .no
  have t3 : st3 [.o (some 0) J2, .d (.tup (rs.map ruleD)), .d (.int dn), .d (.lst ((rs.getD dn []).map .str)), .no, .no, .no, .no, .no, .no, .no, .no, .no, .no, .no, .no] = some (.nx, [.o (some 0) J3, .d (.tup (rs.map ruleD)), .d (.int dn), .d (.lst ((rs.getD dn []).map .str)), .d (.int sn), .no, .no, .no, .no, .no, .no, .no, .no, .no, .no, .no]) := by
    have gl : gLen (.lst ((rs.getD dn []).map .str)) = some (.int (rs.getD dn []).length) := by simp [gLen]
    generalize D.lst ((rs.getD dn []).map .str) = rl at *
    generalize D.tup (rs.map ruleD) = rt at *
    generalize (rs.getD dn []).length = rn at *
    simp (config := {decide := true}) [st3, sSet, fD, fCall, fIo, fCons, fNil, fOp, g2m, gAdd_ii, fOf, PL.g1, fVar, fC, gl, PL.fill, ownS, M.argOf, M.hole, putb, isDd, E2, E3, e1, M.toD, M.toB]
  have t4 := s_pairs [.o (some 0) J3, .d (.tup (rs.map ruleD)), .d (.int dn), .d (.lst ((rs.getD dn []).map .str)), .d (.int sn), .no, .no, .no, .no, .no, .no, .no, .no, .no, .no, .no] rfl
  have t4 : sSeq st4 (sSeq st5 st6) [.o (some 0) J3, .d (.tup (rs.map ruleD)), .d (.int dn), .d (.lst ((rs.getD dn []).map .str)), .d (.int sn), .no, .no, .no, .no, .no, .no, .no, .no, .no, .no, .no] = some (.nx, [.o (some 0) J3, .d (.tup (rs.map ruleD)), .d (.int dn), .d (.lst ((rs.getD dn []).map .str)), .d (.int sn), .d pairsD, .no, .no, .no, .no, .no, .no, .no, .no, .no, .no]) := t4
  have t7 : st7 [.o (some 0) J3, .d (.tup (rs.map ruleD)), .d (.int dn), .d (.lst ((rs.getD dn []).map .str)), .d (.int sn), .d pairsD, .no, .no, .no, .no, .no, .no, .no, .no, .no, .no] = some (.nx, [.o (some 0) J4, .d (.tup (rs.map ruleD)), .d (.int dn), .d (.lst ((rs.getD dn []).map .str)), .d (.int sn), .d pairsD, .d (ruleD a), .d (ruleD b), .no, .no, .no, .no, .no, .no, .no, .no]) := by
    generalize D.lst ((rs.getD dn []).map .str) = rl at *
    generalize D.tup (rs.map ruleD) = rt at *
    generalize pairsD = pd at *
    generalize ruleD a = ra at *
    generalize ruleD b = rb at *
    simp (config := {decide := true}) [st7, fnF, sRet, sRetN, sSeq, sIf, sSet, sPass, sFrz, sDrop, fT, fOp, fVar, fC, fMov, fFrz, fD, startE, M.toD, M.toDs, M.toB, fIxO, isO, sIxO, atI, ixN, g2, g2m, fOf, PL.g1, g1m, g22, fCons, fNil, fIo, fCall, PL.fill, putb, M.argOf, M.hole, ownS, fin, finals, tNotT, tAndT, tOrT, fAnd, fOr, fNot, fIf, fChain, fPl, getP, setP, M.cell, M.setCell, M.sub, M.fld, fldI, sPut, M.setF, M.put, sAug, gPut, gTu, PL.gCons, gsNil, sAsg, sPar, fMethO, fMeth, fMake, appF, fLenO, sAppP, sApp, fLc, wipeB, tTrue, lAny, lRng, gNm, PL.gLst, PL.gTup, M.datas, fUnD, fMethK, fMake2, fProp, sExt, fPopP, gC, gInt, gInt0, gMod, gDiv, PL.gSub, gAdd, gMul, gLt, gLe, gGt, gGe, gToInt, gAbs, gMax, gMin, gLen, gIsN, gTupOf, gLstOf, bF, tPeek, fPeek, gEq_ss, gNe_ss, gEq_ii, gNe_ii, ok_take, ok_least, ok_last, ok_show, ok_ask, ok_put, ok_look, ok_alter, ok_back, ok_pay, ok_price, ok_again, isDd, isDl, isDo, isDk, isDb, E3, E4, f1, g1]
  have t8 : st8 [.o (some 0) J4, .d (.tup (rs.map ruleD)), .d (.int dn), .d (.lst ((rs.getD dn []).map .str)), .d (.int sn), .d pairsD, .d (ruleD a), .d (ruleD b), .no, .no, .no, .no, .no, .no, .no, .no] = some (.nx, [.o (some 0) J4, .d (.tup (rs.map ruleD)), .d (.int dn), .d (.lst ((rs.getD dn []).map .str)), .d (.int sn), .d pairsD, .d (ruleD a), .d (ruleD b), .o none (rlsM []), .no, .no, .no, .no, .no, .no, .no]) := rfl
  have q1 := p_end (rs := rs) (d := dn) (sp := sn) a2 hd (by omega) [] (by simp) (a := a) (by omega) J4 (.d pairsD) (.d (ruleD a)) (.d (ruleD b)) .no .no .no .no .no .no
  have q2 := p_end (rs := rs) (d := dn) (sp := sn) a2 hd (by omega) [grow rs dn sn a] (by simp) (a := b) (by omega) J4 (.d pairsD) (.d (ruleD a)) (.d (ruleD b)) .no .no .no (.d (ruleD ((rs.getD dn []).take sn ++ a ++ (rs.getD dn []).drop sn))) .no .no
  have t9 : st9 [.o (some 0) J4, .d (.tup (rs.map ruleD)), .d (.int dn), .d (.lst ((rs.getD dn []).map .str)), .d (.int sn), .d pairsD, .d (ruleD a), .d (ruleD b), .o none (rlsM []), .no, .no, .no, .no, .no, .no, .no] = some (.nx, [.o (some 0) J4, .d (.tup (rs.map ruleD)), .d (.int dn), .d (.lst ((rs.getD dn []).map .str)), .d (.int sn), .d pairsD, .d (ruleD a), .d (ruleD b), .o none (rlsM [grow rs dn sn a, grow rs dn sn b]), .d (ruleD b), .no, .no, .no, .d (ruleD ((rs.getD dn []).take sn ++ b ++ (rs.getD dn []).drop sn)), .no, .no]) :=
    sFor_ok (b1 := [.o (some 0) J4, .d (.tup (rs.map ruleD)), .d (.int dn), .d (.lst ((rs.getD dn []).map .str)), .d (.int sn), .d pairsD, .d (ruleD a), .d (ruleD b), .o none (rlsM []), .no, .no, .no, .no, .no, .no, .no]) (ds := [ruleD a, ruleD b]) rfl
      (forL_nx (b1 := [.o (some 0) J4, .d (.tup (rs.map ruleD)), .d (.int dn), .d (.lst ((rs.getD dn []).map .str)), .d (.int sn), .d pairsD, .d (ruleD a), .d (ruleD b), .o none (rlsM []), .d (ruleD a), .no, .no, .no, .no, .no, .no]) rfl q1
        (forL_nx (b1 := [.o (some 0) J4, .d (.tup (rs.map ruleD)), .d (.int dn), .d (.lst ((rs.getD dn []).map .str)), .d (.int sn), .d pairsD, .d (ruleD a), .d (ruleD b), .o none (rlsM [grow rs dn sn a]), .d (ruleD b), .no, .no, .no, .d (ruleD ((rs.getD dn []).take sn ++ a ++ (rs.getD dn []).drop sn)), .no, .no]) rfl q2 rfl))
  have t10 : st10 [.o (some 0) J4, .d (.tup (rs.map ruleD)), .d (.int dn), .d (.lst ((rs.getD dn []).map .str)), .d (.int sn), .d pairsD, .d (ruleD a), .d (ruleD b), .o none (rlsM [grow rs dn sn a, grow rs dn sn b]), .d (ruleD b), .no, .no, .no, .d (ruleD ((rs.getD dn []).take sn ++ b ++ (rs.getD dn []).drop sn)), .no, .no] = some (.nx, [.o (some 0) J4, .d (.tup (rs.map ruleD)), .d (.int dn), .d (.lst ((rs.getD dn []).map .str)), .d (.int sn), .d pairsD, .d (ruleD a), .d (ruleD b), .o none (rlsM [grow rs dn sn a, grow rs dn sn b]), .d (ruleD b), .no, .no, .no, .d (ruleD ((rs.getD dn []).take sn ++ b ++ (rs.getD dn []).drop sn)), .no, .no]) := by
    have er : rlsM [grow rs dn sn a, grow rs dn sn b] = .lst [.d (.tup ((grow rs dn sn a).map ruleD)), .d (.tup ((grow rs dn sn b).map ruleD))] := rfl
    rw [er]
    have ta : F_told_apart [.d (bookD (grow rs dn sn a)), .d (bookD (grow rs dn sn b))] = some (.d .non, []) := ta
    rw [← l2, ← l4] at ta
    generalize D.tup ((grow rs dn sn a).map ruleD) = ga at *
    generalize D.tup ((grow rs dn sn b).map ruleD) = gb at *
    generalize ruleD ((rs.getD dn []).take sn ++ b ++ (rs.getD dn []).drop sn) = u13
    generalize D.lst ((rs.getD dn []).map .str) = rl
    generalize D.tup (rs.map ruleD) = rt
    generalize pairsD = pd
    generalize ruleD a = ra
    generalize ruleD b = rb
    simp (config := {decide := true}) [st10, sIf, sPass, fT, fOp, PL.g2, gIsN, fD, fCall, fIxO, isO, atI, ixN, fCons, fNil, fC, PL.fill, putb, appF, isDd, l1, l3, ta, M.toD, M.toB]
  refine ⟨J4, ?_, f2.mono (by omega)⟩
  unfold F_law_right
  rw [g_right]
  have t11 := s_11 J4 (.d (.tup (rs.map ruleD))) (.d (.int dn)) (.d (.lst ((rs.getD dn []).map .str))) (.d (.int sn)) (.d pairsD) (.d (ruleD a)) (.d (ruleD b)) (.o none (rlsM [grow rs dn sn a, grow rs dn sn b])) (.d (ruleD b)) (.d (ruleD ((rs.getD dn []).take sn ++ b ++ (rs.getD dn []).drop sn))) .no .no .no .no .no
  have t12 := s_12 J4 (.d (.tup (rs.map ruleD))) (.d (.int dn)) (.d (.lst ((rs.getD dn []).map .str))) (.d (.int sn)) (.d pairsD) (.d (ruleD a)) (.d (ruleD b)) (.o none (rlsM [grow rs dn sn a, grow rs dn sn b])) (.d (ruleD b)) (.d (ruleD ((rs.getD dn []).take sn ++ b ++ (rs.getD dn []).drop sn))) .no .no .no .no
  have t13 := s_13 J4 (.d (.tup (rs.map ruleD))) (.d (.int dn)) (.d (.lst ((rs.getD dn []).map .str))) (.d (.int sn)) (.d pairsD) (.d (ruleD a)) (.d (ruleD b)) (.o none (rlsM [grow rs dn sn a, grow rs dn sn b])) (.d (ruleD b)) (.d (ruleD ((rs.getD dn []).take sn ++ b ++ (rs.getD dn []).drop sn))) .no .no (.d (fnd (apartS (bk1 ["show"]) (bk1 ["ask"])))) .no .no
  have t14 : st14 [.o (some 0) J4, .d (.tup (rs.map ruleD)), .d (.int dn), .d (.lst ((rs.getD dn []).map .str)), .d (.int sn), .d pairsD, .d (ruleD a), .d (ruleD b), .o none (rlsM [grow rs dn sn a, grow rs dn sn b]), .d (ruleD b), .d (fnd (apartS (bk1 ["show"]) (bk1 ["ask"]))), .no, .no, .d (ruleD ((rs.getD dn []).take sn ++ b ++ (rs.getD dn []).drop sn)), .no, .no] = some (.nx, [.o (some 0) J4, .d (.tup (rs.map ruleD)), .d (.int dn), .d (.lst ((rs.getD dn []).map .str)), .d (.int sn), .d pairsD, .d (ruleD a), .d (ruleD b), .o none (rlsM [grow rs dn sn a, grow rs dn sn b]), .d (ruleD b), .d (fnd (apartS (bk1 ["show"]) (bk1 ["ask"]))), .d (ruleD ["show"]), .no, .d (ruleD ((rs.getD dn []).take sn ++ b ++ (rs.getD dn []).drop sn)), .no, .no]) := rfl
  have t15 := s_15 J4 (.d (.tup (rs.map ruleD))) (.d (.int dn)) (.d (.lst ((rs.getD dn []).map .str))) (.d (.int sn)) (.d pairsD) (.d (ruleD a)) (.d (ruleD b)) (.o none (rlsM [grow rs dn sn a, grow rs dn sn b])) (.d (ruleD b)) (.d (ruleD ((rs.getD dn []).take sn ++ b ++ (rs.getD dn []).drop sn))) .no (.d (fnd (apartS (bk1 ["show"]) (bk1 ["ask"]))))
  have t16 := s_16 J4 (.d (.tup (rs.map ruleD))) (.d (.int dn)) (.d (.lst ((rs.getD dn []).map .str))) (.d (.int sn)) (.d pairsD) (.d (ruleD a)) (.d (ruleD b)) (.o none (rlsM [grow rs dn sn a, grow rs dn sn b])) (.d (ruleD b)) (.d (ruleD ((rs.getD dn []).take sn ++ b ++ (rs.getD dn []).drop sn))) .no .no (.d (fnd (apartS (bk1 ["show"]) (bk1 ["ask"])))) (.d (ruleD ["show"]))
  have t17 := s_17 J4 (.d (.tup (rs.map ruleD))) (.d (.int dn)) (.d (.lst ((rs.getD dn []).map .str))) (.d (.int sn)) (.d pairsD) (.d (ruleD a)) (.d (ruleD b)) (.o none (rlsM [grow rs dn sn a, grow rs dn sn b])) (.d (ruleD b)) (.d (ruleD ((rs.getD dn []).take sn ++ b ++ (rs.getD dn []).drop sn))) .no .no (.d (ruleD ["show"])) (.d (.lst [bookD (bk5 ["ask", "take"]), bookD (bk5 ["take"])]))
  have assoc : ∀ (x y z w : Sv) (bb : List B), sSeq x (sSeq y (sSeq z w)) bb = sSeq (sSeq x (sSeq y z)) w bb := by
    intro x y z w bb
    unfold sSeq
    cases x bb with
    | none => rfl
    | some p =>
      obtain ⟨r, b1⟩ := p
      cases r <;> simp only
      cases y b1 with
      | none => rfl
      | some p =>
        obtain ⟨r, b2⟩ := p
        cases r <;> rfl
  refine fnF_rt (b := [.o (some 0) J4, .d (.tup (rs.map ruleD)), .d (.int dn), .d (.lst ((rs.getD dn []).map .str)), .d (.int sn), .d pairsD, .d (ruleD a), .d (ruleD b), .o none (rlsM [grow rs dn sn a, grow rs dn sn b]), .d (ruleD b), .d (fnd (apartS (bk5 ["ask", "take"]) (bk5 ["take"]))), .d (ruleD ["show"]), .d (.lst [bookD (bk5 ["ask", "take"]), bookD (bk5 ["take"])]), .d (ruleD ((rs.getD dn []).take sn ++ b ++ (rs.getD dn []).drop sn)), .no, .no]) rfl ?_ (by simp [finals, E0])
  rw [st]
  refine sSeq_nx t0 (sSeq_nx t1 (sSeq_nx t2 (sSeq_nx t3 ?_)))
  rw [assoc]
  exact sSeq_nx t4 (sSeq_nx t7 (sSeq_nx t8 (sSeq_nx t9 (sSeq_nx t10 (sSeq_nx t11 (sSeq_nx t12 (sSeq_nx t13 (sSeq_nx t14 (sSeq_nx t15 (sSeq_nx t16 t17))))))))))

end Lw

set_option exponentiation.threshold 100000
namespace Lw
open PySem PySem.Spec PyProof.Rows L2 PL
theorem p_pot (script : List D) (k : Nat) (hs : ∀ d ∈ script, ∃ i, d = .int i) (hk : k < 64) : ∃ J, F_law_pot [.d (.seq script), .d (.int k)] = some (J, []) ∧ PotOk 0 J := by
  have a4 : gPow (.int 10) (.int 18) = some (.int (10 ^ 18)) := gPow_ok _ _ (by decide) (by decide) (by decide)
  have a5 : gPow (.int 10) (.int 33) = some (.int (10 ^ 33)) := gPow_ok _ _ (by decide) (by decide) (by decide)
  have mk : ∀ c : Int, 0 ≤ c → PotOk 0 (jarM (if c - 10 ^ 18 > 0 then c - 10 ^ 18 else 0) (c % (10 ^ 33 + 33) + 524309 * k) 0) := fun c hc => by
    have u0 : 0 ≤ c % (10 ^ 33 + 33) := Int.emod_nonneg _ (by decide)
    have u1 : c % (10 ^ 33 + 33) < 10 ^ 33 + 33 := Int.emod_lt_of_pos _ (by decide)
    refine ⟨_, _, _, rfl, ?_, by omega, by omega, by decide, by decide⟩
    split <;> omega
  by_cases hl : k < script.length
  · obtain ⟨i, hi⟩ := hs _ (List.getElem_mem hl)
    have hx : gIx (.seq script) (.int k) = some (.int i) := by
      simp [gIx, atI, ixN, hl, hi]
    obtain ⟨c, hc⟩ : ∃ c, c = (if i < 0 then -i else i) := ⟨_, rfl⟩
    have c0 : 0 ≤ c := by rw [hc]; split <;> omega
    have b0 : gAbs (.int i) = some (.int c) := by rw [hc]; rfl
    refine ⟨_, ?_, mk c c0⟩
    have b1 : gMod (.int c) (.int (10 ^ 33 + 33)) = some (.int (c % (10 ^ 33 + 33))) := gMod_ok _ _ (by decide)
    have b2 : gMul (.int 524309) (.int k) = some (.d (.int (524309 * k))) := gMul_ok _ _ (by decide)
    generalize hA : (10 : Int) ^ 33 = A at *
    generalize hB : (10 : Int) ^ 18 = B at *
    simp (config := {decide := true}) [F_law_pot, g_law_pot, jarM, fnF, sRet, sRetN, sSeq, sIf, sSet, sPass, sFrz, sDrop, fT, fOp, fVar, fC, fMov, fFrz, fD, startE, M.toD, M.toDs, M.toB, fIxO, isO, sIxO, atI, ixN, g2, g2m, fOf, PL.g1, g1m, g22, fCons, fNil, fIo, fCall, PL.fill, putb, M.argOf, M.hole, ownS, fin, finals, tNotT, tAndT, tOrT, fAnd, fOr, fNot, fIf, fChain, fPl, getP, setP, M.cell, M.setCell, M.sub, M.fld, fldI, sPut, M.setF, M.put, sAug, gPut, gTu, PL.gCons, gsNil, sAsg, sPar, fMethO, fMeth, fMake, appF, fLenO, sAppP, sApp, fLc, wipeB, tTrue, lAny, lRng, gNm, PL.gLst, PL.gTup, M.datas, fUnD, fMethK, fMake2, fProp, sExt, fPopP, gC, gInt, gInt0, PL.gSub, gAdd, gLt, gLe, gGt, gGe, gToInt, gMax, gMin, gLen, gIsN, gTupOf, gLstOf, bF, tPeek, fPeek, gEq_ss, gNe_ss, gEq_ii, gNe_ii, ok_take, ok_least, ok_last, ok_show, ok_ask, ok_put, ok_look, ok_alter, ok_back, ok_pay, ok_price, ok_again, isDd, isDl, isDo, isDk, isDb, hl, hx, b0, b1, b2, a4, a5]
  · refine ⟨_, ?_, mk 0 (by decide)⟩
    have b1 : gMod (.int 0) (.int (10 ^ 33 + 33)) = some (.int (0 % (10 ^ 33 + 33))) := gMod_ok _ _ (by decide)
    have b2 : gMul (.int 524309) (.int k) = some (.d (.int (524309 * k))) := gMul_ok _ _ (by decide)
    generalize hA : (10 : Int) ^ 33 = A at *
    generalize hB : (10 : Int) ^ 18 = B at *
    simp (config := {decide := true}) [F_law_pot, g_law_pot, jarM, fnF, sRet, sRetN, sSeq, sIf, sSet, sPass, sFrz, sDrop, fT, fOp, fVar, fC, fMov, fFrz, fD, startE, M.toD, M.toDs, M.toB, fIxO, isO, sIxO, atI, ixN, g2, g2m, fOf, PL.g1, g1m, g22, fCons, fNil, fIo, fCall, PL.fill, putb, M.argOf, M.hole, ownS, fin, finals, tNotT, tAndT, tOrT, fAnd, fOr, fNot, fIf, fChain, fPl, getP, setP, M.cell, M.setCell, M.sub, M.fld, fldI, sPut, M.setF, M.put, sAug, gPut, gTu, PL.gCons, gsNil, sAsg, sPar, fMethO, fMeth, fMake, appF, fLenO, sAppP, sApp, fLc, wipeB, tTrue, lAny, lRng, gNm, PL.gLst, PL.gTup, M.datas, fUnD, fMethK, fMake2, fProp, sExt, fPopP, gC, gInt, gInt0, PL.gSub, gAdd, gLt, gLe, gGt, gGe, gToInt, gMax, gMin, gLen, gIsN, gTupOf, gLstOf, bF, tPeek, fPeek, gEq_ss, gNe_ss, gEq_ii, gNe_ii, ok_take, ok_least, ok_last, ok_show, ok_ask, ok_put, ok_look, ok_alter, ok_back, ok_pay, ok_price, ok_again, isDd, isDl, isDo, isDk, isDb, hl, b1, b2, a4, a5]
def turnB : Sv := (sIf (tNotT (fT (fD (fCall F_law_right [] [some 2] (fIo 2 fNil))))) (sRet (fC (.bl false))) sPass)
theorem p_turn {n : Nat} {J : M} (h : PotOk n J) (hn : n < 50000) (b0 b1 b3 : B) : ∃ J', PotOk (n + 60) J' ∧ ∀ k, turnB [b0, b1, .o k J, b3] = some (.nx, [b0, b1, .o k J', b3]) := by
  obtain ⟨J', h1, h2⟩ := k_right h (by omega)
  have e0 := h.isD
  have e1 := h2.isD
  refine ⟨J', h2, fun k => ?_⟩
  simp (config := {decide := true}) [turnB, fnF, sRet, sRetN, sSeq, sIf, sSet, sPass, sFrz, sDrop, fT, fOp, fVar, fC, fMov, fFrz, fD, startE, M.toD, M.toDs, M.toB, fIxO, isO, sIxO, atI, ixN, g2, g2m, fOf, PL.g1, g1m, g22, fCons, fNil, fIo, fCall, PL.fill, putb, M.argOf, M.hole, ownS, fin, finals, tNotT, tAndT, tOrT, fAnd, fOr, fNot, fIf, fChain, fPl, getP, setP, M.cell, M.setCell, M.sub, M.fld, fldI, sPut, M.setF, M.put, sAug, gPut, gTu, PL.gCons, gsNil, sAsg, sPar, fMethO, fMeth, fMake, appF, fLenO, sAppP, sApp, fLc, wipeB, tTrue, lAny, lRng, gNm, PL.gLst, PL.gTup, M.datas, fUnD, fMethK, fMake2, fProp, sExt, fPopP, gC, gInt, gInt0, gMod, gDiv, PL.gSub, gAdd, gMul, gLt, gLe, gGt, gGe, gToInt, gAbs, gMax, gMin, gLen, gIsN, gTupOf, gLstOf, bF, tPeek, fPeek, gEq_ss, gNe_ss, gEq_ii, gNe_ii, ok_take, ok_least, ok_last, ok_show, ok_ask, ok_put, ok_look, ok_alter, ok_back, ok_pay, ok_price, ok_again, isDd, isDl, isDo, isDk, isDb, e0, e1, h1]
theorem p_turns (b0 b1 : B) : ∀ (ts : List D) (n : Nat) (J : M) (b3 : B), PotOk n J → n + 60 * ts.length < 50000 → ∃ J' b3', PotOk (n + 60 * ts.length) J' ∧ forL (gNm 3) turnB ts [b0, b1, .o none J, b3] = some (.nx, [b0, b1, .o none J', b3'])
  | [], n, J, b3, h, _ => ⟨J, b3, h, rfl⟩
  | t :: ts, n, J, b3, h, hn => by
    simp only [List.length_cons] at hn
    obtain ⟨J1, h1, h2⟩ := p_turn h (by omega) b0 b1 (.d t)
    obtain ⟨J', b3', h3, h4⟩ := p_turns b0 b1 ts (n + 60) J1 (.d t) h1 (by omega)
    refine ⟨J', b3', h3.mono (by simp only [List.length_cons]; omega), forL_nx (b1 := [b0, b1, .o none J, .d t]) rfl (h2 none) h4⟩
def cellB : Sv := (sSeq (sSet 2 (fCall F_law_pot [] [none, none] (fCons (fVar 0) (fCons (fVar 1) fNil)))) (sFor (lRng (fCons (fC (.int 3)) fNil)) (gNm 3) turnB))
theorem p_cell (script : List D) (k : Nat) (hs : ∀ d ∈ script, ∃ i, d = .int i) (hk : k < 64) (x2 x3 : B) : ∃ x2' x3', cellB [.d (.seq script), .d (.int k), x2, x3] = some (.nx, [.d (.seq script), .d (.int k), x2', x3']) := by
  obtain ⟨J, h1, h2⟩ := p_pot script k hs hk
  obtain ⟨J2, b3', h3, h4⟩ := p_turns (.d (.seq script)) (.d (.int k)) [.int 0, .int 1, .int 2] 0 J x3 h2 (by simp)
  have e0 := h2.isD
  have er : lRng (fCons (fC (.int 3)) fNil) [.d (.seq script), .d (.int k), .o none J, x3] = some ([.int 0, .int 1, .int 2], [.d (.seq script), .d (.int k), .o none J, x3]) := rfl
  have tb : ∀ m : M, m.isD = false → M.toB m = .o none m := fun m hm => by cases m <;> first | rfl | cases hm
  refine ⟨.o none J2, b3', sSeq_nx (b1 := [.d (.seq script), .d (.int k), .o none J, x3]) ?_ (sFor_ok er h4)⟩
  simp (config := {decide := true}) [sSet, fCall, fCons, fNil, fVar, appF, PL.fill, putb, isDd, h1, tb J e0]
theorem law_loop (script : List D) (hs : ∀ d ∈ script, ∃ i, d = .int i) : ∀ (ks : List Nat) (x1 x2 x3 : B), (∀ k ∈ ks, k < 64) →
    ∃ x1' x2' x3', forL (gNm 1) cellB (ks.map fun (k : Nat) => .int k) [.d (.seq script), x1, x2, x3] = some (.nx, [.d (.seq script), x1', x2', x3'])
  | [], x1, x2, x3, _ => ⟨x1, x2, x3, rfl⟩
  | k :: ks, x1, x2, x3, h => by
    obtain ⟨y2, y3, h1⟩ := p_cell script k hs (h k (by simp)) x2 x3
    obtain ⟨z1, z2, z3, ih⟩ := law_loop script hs ks (.d (.int k)) y2 y3 fun j hj => h j (by simp [hj])
    refine ⟨z1, z2, z3, ?_⟩
    simp only [List.map_cons]
    exact forL_nx (b1 := [.d (.seq script), .d (.int k), x2, x3]) rfl h1 ih
theorem p_law (script : List D) (hs : ∀ d ∈ script, ∃ i, d = .int i) (hl : script.length < 1000000) : F_law [.d (.seq script)] = some (.d (.bl true), []) := by
  obtain ⟨m, hm⟩ : ∃ m : Nat, m = max 1 (min 8 script.length) := ⟨_, rfl⟩
  obtain ⟨t1, t2, t3, h⟩ := law_loop script hs (List.range m) .no .no .no fun k hk => by
    have := List.mem_range.mp hk
    omega
  have e : rngD 0 m = (List.range m).map fun (k : Nat) => D.int k := by
    unfold rngD
    apply List.map_congr_left
    intro k _
    simp
  have hl2 : script.length ≤ 1000000 := by omega
  have hmm : gMax (.int 1) ((if (script.length : Int) < 8 then .int script.length else .int 8)) = some (.int m) := by
    split <;> (show some (D.int (if _ > (1 : Int) then _ else 1)) = _; subst hm; congr 2; split <;> omega)
  have hmn : gMin (.int 8) (.int script.length) = some (if (script.length : Int) < 8 then .int script.length else .int 8) := by
    show some (D.int (if (script.length : Int) < 8 then (script.length : Int) else 8)) = _
    split <;> rfl
  rw [← e] at h
  have em : (-1000000 : Int) ≤ m ∧ (m : Int) ≤ 1000000 := by omega
  have hr : lRng (fCons (fOf (g22 gMax) (fCons (fC (.int 1)) (fCons (fOf (g22 gMin) (fCons (fC (.int 8)) (fCons (fOf (PL.g1 gLen) (fCons (fVar 0) fNil)) fNil))) fNil))) fNil) [.d (.seq script), .no, .no, .no] = some (rngD 0 m, [.d (.seq script), .no, .no, .no]) := by
    generalize (if (script.length : Int) < 8 then D.int script.length else .int 8) = dd at *
    have hlen : gLen (.seq script) = some (.int script.length) := rfl
    simp (config := {decide := true}) [fCons, fOf, g22, fC, fNil, PL.g1, fVar, hlen, hmn, hmm, lRng, em]
  unfold F_law g_law
  exact fnF_rt (b := [.d (.seq script), t1, t2, t3]) rfl (sSeq_nx (sFor_ok hr h) (sRet_ok rfl)) rfl

end Lw

set_option maxHeartbeats 0
namespace Lw
open PySem PySem.Spec PyProof.Rows L2 PL
/-! ### the head -/
theorem ints_rpl {K : PySem.W.Frag} {G : Hp} : ∀ ns : List Int, RpL K G (ns.map D.int) (ns.map V.int)
  | [] => by simp [RpL]
  | n :: ns => by
    simp only [List.map_cons, RpL]
    exact ⟨_, _, rfl, by simp [Rp], ints_rpl ns⟩
theorem factsQ {P : Program} {w : World} {K : PySem.W.Frag} {mg : Str → Option Value} {f : Addr} (S : Says K mg) (hfa : mg ("law" : Str) = some (.ref f)) :
    ∃ fd : FuncData, (∀ (s : Shared) (v : Value), BindsTo s fd ⟨[v], []⟩ [("script", v)]) ∧ ∀ base : Heap, FnOk P w K mg base CX0 8 f fd ["script"] (spD K F_law) := by
  have e0 := m_glo_law S
  have e := hfa.symm.trans e0
  cases e
  obtain ⟨fd, FD⟩ := S.c.def_ 24 (d := d_law) rfl
  have b := FunD.bindsA (ps := ["script"]) FD fun _ _ _ _ _ _ us hl => match us, hl with | [_], _ => rfl
  exact ⟨fd, fun s v => b s [v] rfl, fun base => fok_law S FD⟩
theorem lawQ {K : PySem.W.Frag} {H : Hp} {a : Addr} {ns : List Int} (hl : ns.length ≤ 63) (hS : SqL K H a (ns.map V.int)) : spD K F_law [.ref a] H (fun v _ => v = .bl true) fun _ _ _ => False := by
  refine ⟨H, [.d (.seq (ns.map D.int))], [[]], .d (.bl true), [], p_law _ (fun d hd => ?_) (by simp; omega), Same.refl _, ?_, by simp, by simp, ?_⟩
  · obtain ⟨i, _, rfl⟩ := List.mem_map.mp hd
    exact ⟨i, rfl⟩
  · simp only [RMs]
    refine ⟨.ref a, [], [], [], rfl, rfl, ?_, rfl, rfl⟩
    simp only [RM]
    refine ⟨?_, trivial⟩
    simp only [Rp]
    exact ⟨a, _, rfl, hS, ints_rpl ns⟩
  · intro v G' H' fr fo _ hv _ _ _ _
    simp only [RM, Rp] at hv
    exact hv.1
end Lw
open PySem PySem.W PySem.Calls PyProof.Rows
theorem PySem.Challenge.cw_lastshown_k50_alike_by_reasons_holds : PySem.Challenge.rw_lastshown_k50_alike_by_reasons.Holds := by
  w_on; o_law
  refine HandSHeadRun.head_any (r := OpenLaw.row PySem.Challenge.rw_lastshown_k50_alike_by_reasons) (q := view (OpenLaw.row PySem.Challenge.rw_lastshown_k50_alike_by_reasons).prog [34]) (H := Lw.hk) (ob := Lw.obQ) (M := 6000) (loose := Lw.namesA) (d := HandSHeadRun.topDef (OpenLaw.row PySem.Challenge.rw_lastshown_k50_alike_by_reasons).prog 34) (kwd := []) Lw.obQ_eq
    (by kernel_rfl) (fun s => by kernel_rfl) Lw.runQ (by kernel_rfl) (by kernel_rfl) (by kernel_rfl) (by rfl) (by first | assumption | decide +kernel) (by decide +kernel) ⟨rfl, rfl, rfl, rfl, rfl, by decide +kernel⟩ ?hw ?hc
  case hw => w_witness2
  case hc =>
    refine L2.walk_ofE (l := PySem.Challenge.rw_lastshown_k50_alike_by_reasons) (n := 63) (k := 8) (x := "script") (CX := L2.CX0) rfl (by decide) (by kernel_rfl) ⟨rfl, by decide, by decide⟩ ?F (fun _ _ _ _ z => z)
    intro w mg fa h Y G hmg0
    obtain ⟨K, KX, c, cp⟩ := Y
    have hmg : mg ("law" : PySem.Str) = some (.ref fa) := by
      have e : (HandSHeadRun.topDef (OpenLaw.row PySem.Challenge.rw_lastshown_k50_alike_by_reasons).prog 34).name = ("law" : PySem.Str) := by kernel_rfl
      rw [← e]
      exact hmg0
    have S : Lw.Says K mg := ⟨⟨h, KX, G⟩, c.t.d, c.more, cp⟩
    obtain ⟨fd, hb, hF⟩ := Lw.factsQ (P := (PySem.Challenge.rw_lastshown_k50_alike_by_reasons).prog) (w := w) S hmg
    exact ⟨K, fd, PL.spD K Lw.F_law, KX, hb, fun H a ns hl _ hS => Lw.lawQ hl hS, fun base _ _ => hF base⟩


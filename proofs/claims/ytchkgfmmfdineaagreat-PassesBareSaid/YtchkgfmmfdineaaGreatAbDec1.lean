/- What the seat's types read as. -/
import Derived.Test.YtchkgfmmfdineaaGreatAbBridge
import Derived.Test.YtchkgfmmfdineaaGreatAbS1
namespace Go.Ab
open Go.Proofs Go.ChangeShapes Go.WideShapes
set_option maxRecDepth 100000

def intOK (n : Int) : Prop := (Lit.int .i64 n).wf = true
def placeOK (p : Int × Int) : Prop := (Lit.int .i64 p.1).wf = true ∧ (Lit.int .i64 p.2).wf = true
def placeC (p : Int × Int) : List Tree := [.int .i64 p.1, .int .i64 p.2]

theorem cells_2 : Tryz.prog.cellsOf 2 = 1 := by kernel_rfl
theorem cells_3 : Tryz.prog.cellsOf 3 = 1 := by kernel_rfl
theorem cells_4 : Tryz.prog.cellsOf 4 = 1 := by kernel_rfl
theorem cells_5 : Tryz.prog.cellsOf 5 = 1 := by kernel_rfl
theorem cells_9 : Tryz.prog.cellsOf 9 = 1 := by kernel_rfl
theorem cells_22 : Tryz.prog.cellsOf 22 = 1 := by kernel_rfl
theorem cells_23 : Tryz.prog.cellsOf 23 = 1 := by kernel_rfl
theorem cells_25 : Tryz.prog.cellsOf 25 = 2 := by kernel_rfl
theorem cells_27 : Tryz.prog.cellsOf 27 = 5 := by kernel_rfl
theorem cells_28 : Tryz.prog.cellsOf 28 = 1 := by kernel_rfl
theorem cells_30 : Tryz.prog.cellsOf 30 = 3 := by kernel_rfl
theorem cells_31 : Tryz.prog.cellsOf 31 = 1 := by kernel_rfl
theorem cells_37 : Tryz.prog.cellsOf 37 = 1 := by kernel_rfl
theorem cells_39 : Tryz.prog.cellsOf 39 = 2 := by kernel_rfl
theorem cells_45 : Tryz.prog.cellsOf 45 = 3 := by kernel_rfl
theorem cells_47 : Tryz.prog.cellsOf 47 = 4 := by kernel_rfl
theorem cells_50 : Tryz.prog.cellsOf 50 = 1 := by kernel_rfl
theorem cells_52 : Tryz.prog.cellsOf 52 = 4 := by kernel_rfl
theorem cells_54 : Tryz.prog.cellsOf 54 = 2 := by kernel_rfl
theorem cells_70 : Tryz.prog.cellsOf 70 = 1 := by kernel_rfl
theorem cells_71 : Tryz.prog.cellsOf 71 = 1 := by kernel_rfl
theorem cells_73 : Tryz.prog.cellsOf 73 = 8 := by kernel_rfl
theorem cells_75 : Tryz.prog.cellsOf 75 = 8 := by kernel_rfl
theorem flds_25 : ∃ fs, Tryz.prog.underlying 25 = some (.struct fs) ∧ fs.toList.map (fun f => (f.type, f.offset)) = [(3, 0), (3, 1)] := ⟨_, Tryz.underlying25, by kernel_rfl⟩
theorem flds_45 : ∃ fs, Tryz.prog.underlying 45 = some (.struct fs) ∧ fs.toList.map (fun f => (f.type, f.offset)) = [(5, 0), (2, 1), (9, 2)] := ⟨_, Tryz.underlying45, by kernel_rfl⟩
theorem flds_54 : ∃ fs, Tryz.prog.underlying 54 = some (.struct fs) ∧ fs.toList.map (fun f => (f.type, f.offset)) = [(9, 0), (5, 1)] := ⟨_, Tryz.underlying54, by kernel_rfl⟩
theorem flds_39 : ∃ fs, Tryz.prog.underlying 39 = some (.struct fs) ∧ fs.toList.map (fun f => (f.type, f.offset)) = [(9, 0), (37, 1)] := ⟨_, Tryz.underlying39, by kernel_rfl⟩
theorem flds_30 : ∃ fs, Tryz.prog.underlying 30 = some (.struct fs) ∧ fs.toList.map (fun f => (f.type, f.offset)) = [(3, 0), (3, 1), (28, 2)] := ⟨_, Tryz.underlying30, by kernel_rfl⟩
theorem flds_47 : ∃ fs, Tryz.prog.underlying 47 = some (.struct fs) ∧ fs.toList.map (fun f => (f.type, f.offset)) = [(9, 0), (45, 1)] := ⟨_, Tryz.underlying47, by kernel_rfl⟩
theorem flds_75 : ∃ fs, Tryz.prog.underlying 75 = some (.struct fs) ∧ fs.toList.map (fun f => (f.type, f.offset)) = [(5, 0), (45, 1), (9, 4), (71, 5), (25, 6)] := ⟨_, Tryz.underlying75, by kernel_rfl⟩
theorem flds_73 : ∃ fs, Tryz.prog.underlying 73 = some (.struct fs) ∧ fs.toList.map (fun f => (f.type, f.offset)) = [(5, 0), (70, 1), (70, 2), (4, 3), (4, 4), (71, 5), (25, 6)] := ⟨_, Tryz.underlying73, by kernel_rfl⟩
theorem flds_52 : ∃ fs, Tryz.prog.underlying 52 = some (.struct fs) ∧ fs.toList.map (fun f => (f.type, f.offset)) = [(9, 0), (50, 1), (25, 2)] := ⟨_, Tryz.underlying52, by kernel_rfl⟩
theorem flds_27 : ∃ fs, Tryz.prog.underlying 27 = some (.struct fs) ∧ fs.toList.map (fun f => (f.type, f.offset)) = [(9, 0), (9, 1), (23, 2), (25, 3)] := ⟨_, Tryz.underlying27, by kernel_rfl⟩

section
variable {H : Type} {enc : TypeId × Value → H} {w : World}
def Val.ok (x : Val) : Prop := (Lit.int .u8 x.k).wf = true ∧ (Lit.int .i64 x.n).wf = true ∧ StrOK x.s
theorem dec_45 : Dec enc Tryz.prog w 45 Val.c Val.ok := by
  intro cs h
  obtain ⟨hl, hf⟩ := rd_fields flds_45 h
  have h0 : Rd enc Tryz.prog w 5 ((cs.drop 0).take 1) := by have := hf (5, 0) (by simp); simp only [cells_5] at this; exact this
  obtain ⟨a0, c0, k0⟩ := dec_int (k := .u8) Tryz.underlying5 _ h0
  have h1 : Rd enc Tryz.prog w 2 ((cs.drop 1).take 1) := by have := hf (2, 1) (by simp); simp only [cells_2] at this; exact this
  obtain ⟨a1, c1, k1⟩ := dec_int (k := .i64) Tryz.underlying2 _ h1
  have h2 : Rd enc Tryz.prog w 9 ((cs.drop 2).take 1) := by have := hf (9, 2) (by simp); simp only [cells_9] at this; exact this
  obtain ⟨a2, c2, k2⟩ := dec_str Tryz.underlying9 _ h2
  rw [cells_45] at hl
  refine ⟨⟨a0, a1, a2⟩, ?_, ⟨k0, k1, k2⟩⟩
  exact ct_step c0 (ct_step c1 (ct_step c2 (ct_end hl)))

def Slot.ok (x : Slot) : Prop := StrOK x.name ∧ (Lit.int .u8 x.kind).wf = true
theorem dec_54 : Dec enc Tryz.prog w 54 Slot.c Slot.ok := by
  intro cs h
  obtain ⟨hl, hf⟩ := rd_fields flds_54 h
  have h0 : Rd enc Tryz.prog w 9 ((cs.drop 0).take 1) := by have := hf (9, 0) (by simp); simp only [cells_9] at this; exact this
  obtain ⟨a0, c0, k0⟩ := dec_str Tryz.underlying9 _ h0
  have h1 : Rd enc Tryz.prog w 5 ((cs.drop 1).take 1) := by have := hf (5, 1) (by simp); simp only [cells_5] at this; exact this
  obtain ⟨a1, c1, k1⟩ := dec_int (k := .u8) Tryz.underlying5 _ h1
  rw [cells_54] at hl
  refine ⟨⟨a0, a1⟩, ?_, ⟨k0, k1⟩⟩
  exact ct_step c0 (ct_step c1 (ct_end hl))

theorem dec_37 : Dec enc Tryz.prog w 37 (fun x : Sl Slot => [x.t Slot.c]) (SlOK Slot.ok) := dec_slice Tryz.underlying37 cells_54 (by decide) (fun _ => rfl) dec_54

def Tpl.ok (x : Tpl) : Prop := StrOK x.name ∧ SlOK Slot.ok x.slots
theorem dec_39 : Dec enc Tryz.prog w 39 Tpl.c Tpl.ok := by
  intro cs h
  obtain ⟨hl, hf⟩ := rd_fields flds_39 h
  have h0 : Rd enc Tryz.prog w 9 ((cs.drop 0).take 1) := by have := hf (9, 0) (by simp); simp only [cells_9] at this; exact this
  obtain ⟨a0, c0, k0⟩ := dec_str Tryz.underlying9 _ h0
  have h1 : Rd enc Tryz.prog w 37 ((cs.drop 1).take 1) := by have := hf (37, 1) (by simp); simp only [cells_37] at this; exact this
  obtain ⟨a1, c1, k1⟩ := dec_37 _ h1
  rw [cells_39] at hl
  refine ⟨⟨a0, a1⟩, ?_, ⟨k0, k1⟩⟩
  exact ct_step c0 (ct_step c1 (ct_end hl))

theorem dec_28 : Dec enc Tryz.prog w 28 (fun x : Sl Val => [x.t Val.c]) (SlOK Val.ok) := dec_slice Tryz.underlying28 cells_45 (by decide) (fun _ => rfl) dec_45

def Fact.ok (x : Fact) : Prop := (Lit.int .i64 x.id).wf = true ∧ (Lit.int .i64 x.tp).wf = true ∧ SlOK Val.ok x.s
theorem dec_30 : Dec enc Tryz.prog w 30 Fact.c Fact.ok := by
  intro cs h
  obtain ⟨hl, hf⟩ := rd_fields flds_30 h
  have h0 : Rd enc Tryz.prog w 3 ((cs.drop 0).take 1) := by have := hf (3, 0) (by simp); simp only [cells_3] at this; exact this
  obtain ⟨a0, c0, k0⟩ := dec_int (k := .i64) Tryz.underlying3 _ h0
  have h1 : Rd enc Tryz.prog w 3 ((cs.drop 1).take 1) := by have := hf (3, 1) (by simp); simp only [cells_3] at this; exact this
  obtain ⟨a1, c1, k1⟩ := dec_int (k := .i64) Tryz.underlying3 _ h1
  have h2 : Rd enc Tryz.prog w 28 ((cs.drop 2).take 1) := by have := hf (28, 2) (by simp); simp only [cells_28] at this; exact this
  obtain ⟨a2, c2, k2⟩ := dec_28 _ h2
  rw [cells_30] at hl
  refine ⟨⟨a0, a1, a2⟩, ?_, ⟨k0, k1, k2⟩⟩
  exact ct_step c0 (ct_step c1 (ct_step c2 (ct_end hl)))

def Bind.ok (x : Bind) : Prop := StrOK x.name ∧ Val.ok x.v
theorem dec_47 : Dec enc Tryz.prog w 47 Bind.c Bind.ok := by
  intro cs h
  obtain ⟨hl, hf⟩ := rd_fields flds_47 h
  have h0 : Rd enc Tryz.prog w 9 ((cs.drop 0).take 1) := by have := hf (9, 0) (by simp); simp only [cells_9] at this; exact this
  obtain ⟨a0, c0, k0⟩ := dec_str Tryz.underlying9 _ h0
  have h1 : Rd enc Tryz.prog w 45 ((cs.drop 1).take 3) := by have := hf (45, 1) (by simp); simp only [cells_45] at this; exact this
  obtain ⟨a1, c1, k1⟩ := dec_45 _ h1
  rw [cells_47] at hl
  refine ⟨⟨a0, a1⟩, ?_, ⟨k0, k1⟩⟩
  exact ct_step c0 (ct_step c1 (ct_end hl))

theorem dec_25 : Dec enc Tryz.prog w 25 placeC placeOK := by
  intro cs h
  obtain ⟨hl, hf⟩ := rd_fields flds_25 h
  have h0 : Rd enc Tryz.prog w 3 ((cs.drop 0).take 1) := by have := hf (3, 0) (by simp); simp only [cells_3] at this; exact this
  obtain ⟨a0, c0, k0⟩ := dec_int (k := .i64) Tryz.underlying3 _ h0
  have h1 : Rd enc Tryz.prog w 3 ((cs.drop 1).take 1) := by have := hf (3, 1) (by simp); simp only [cells_3] at this; exact this
  obtain ⟨a1, c1, k1⟩ := dec_int (k := .i64) Tryz.underlying3 _ h1
  rw [cells_25] at hl
  refine ⟨(a0, a1), ?_, ⟨k0, k1⟩⟩
  exact ct_step c0 (ct_step c1 (ct_end hl))

theorem dec_71 : Dec enc Tryz.prog w 71 (fun x : Sl Int => [x.t intC]) (SlOK intOK) := dec_slice Tryz.underlying71 cells_3 (by decide) (fun _ => rfl) (dec_int Tryz.underlying3)

def Node.ok (x : Node) : Prop := (Lit.int .u8 x.op).wf = true ∧ Val.ok x.v ∧ StrOK x.name ∧ SlOK intOK x.kids ∧ placeOK (x.line, x.col)
theorem dec_75 : Dec enc Tryz.prog w 75 Node.c Node.ok := by
  intro cs h
  obtain ⟨hl, hf⟩ := rd_fields flds_75 h
  have h0 : Rd enc Tryz.prog w 5 ((cs.drop 0).take 1) := by have := hf (5, 0) (by simp); simp only [cells_5] at this; exact this
  obtain ⟨a0, c0, k0⟩ := dec_int (k := .u8) Tryz.underlying5 _ h0
  have h1 : Rd enc Tryz.prog w 45 ((cs.drop 1).take 3) := by have := hf (45, 1) (by simp); simp only [cells_45] at this; exact this
  obtain ⟨a1, c1, k1⟩ := dec_45 _ h1
  have h2 : Rd enc Tryz.prog w 9 ((cs.drop 4).take 1) := by have := hf (9, 4) (by simp); simp only [cells_9] at this; exact this
  obtain ⟨a2, c2, k2⟩ := dec_str Tryz.underlying9 _ h2
  have h3 : Rd enc Tryz.prog w 71 ((cs.drop 5).take 1) := by have := hf (71, 5) (by simp); simp only [cells_71] at this; exact this
  obtain ⟨a3, c3, k3⟩ := dec_71 _ h3
  have h4 : Rd enc Tryz.prog w 25 ((cs.drop 6).take 2) := by have := hf (25, 6) (by simp); simp only [cells_25] at this; exact this
  obtain ⟨a4, c4, k4⟩ := dec_25 _ h4
  rw [cells_75] at hl
  refine ⟨⟨a0, a1, a2, a3, a4.1, a4.2⟩, ?_, ⟨k0, k1, k2, k3, k4⟩⟩
  exact ct_step c0 (ct_step c1 (ct_step c2 (ct_step c3 (ct_step c4 (ct_end hl)))))

theorem dec_70 : Dec enc Tryz.prog w 70 (fun x : Sl Node => [x.t Node.c]) (SlOK Node.ok) := dec_slice Tryz.underlying70 cells_75 (by decide) (fun _ => rfl) dec_75

def Test.ok (x : Test) : Prop := (Lit.int .u8 x.op).wf = true ∧ SlOK Node.ok x.a ∧ SlOK Node.ok x.b ∧ SlOK intOK x.kids ∧ placeOK (x.line, x.col)
theorem dec_73 : Dec enc Tryz.prog w 73 Test.c Test.ok := by
  intro cs h
  obtain ⟨hl, hf⟩ := rd_fields flds_73 h
  have h0 : Rd enc Tryz.prog w 5 ((cs.drop 0).take 1) := by have := hf (5, 0) (by simp); simp only [cells_5] at this; exact this
  obtain ⟨a0, c0, k0⟩ := dec_int (k := .u8) Tryz.underlying5 _ h0
  have h1 : Rd enc Tryz.prog w 70 ((cs.drop 1).take 1) := by have := hf (70, 1) (by simp); simp only [cells_70] at this; exact this
  obtain ⟨a1, c1, k1⟩ := dec_70 _ h1
  have h2 : Rd enc Tryz.prog w 70 ((cs.drop 2).take 1) := by have := hf (70, 2) (by simp); simp only [cells_70] at this; exact this
  obtain ⟨a2, c2, k2⟩ := dec_70 _ h2
  have h3 : Rd enc Tryz.prog w 4 ((cs.drop 3).take 1) := by have := hf (4, 3) (by simp); simp only [cells_4] at this; exact this
  obtain ⟨a3, c3, k3⟩ := dec_bool Tryz.underlying4 _ h3
  have h4 : Rd enc Tryz.prog w 4 ((cs.drop 4).take 1) := by have := hf (4, 4) (by simp); simp only [cells_4] at this; exact this
  obtain ⟨a4, c4, k4⟩ := dec_bool Tryz.underlying4 _ h4
  have h5 : Rd enc Tryz.prog w 71 ((cs.drop 5).take 1) := by have := hf (71, 5) (by simp); simp only [cells_71] at this; exact this
  obtain ⟨a5, c5, k5⟩ := dec_71 _ h5
  have h6 : Rd enc Tryz.prog w 25 ((cs.drop 6).take 2) := by have := hf (25, 6) (by simp); simp only [cells_25] at this; exact this
  obtain ⟨a6, c6, k6⟩ := dec_25 _ h6
  rw [cells_73] at hl
  refine ⟨⟨a0, a1, a2, a3, a4, a5, a6.1, a6.2⟩, ?_, ⟨k0, k1, k2, k5, k6⟩⟩
  exact ct_step c0 (ct_step c1 (ct_step c2 (ct_step c3 (ct_step c4 (ct_step c5 (ct_step c6 (ct_end hl)))))))

theorem dec_50 : Dec enc Tryz.prog w 50 (fun x : Sl Test => [x.t Test.c]) (SlOK Test.ok) := dec_slice Tryz.underlying50 cells_73 (by decide) (fun _ => rfl) dec_73

def STest.ok (x : STest) : Prop := StrOK x.slot ∧ SlOK Test.ok x.test ∧ placeOK (x.line, x.col)
theorem dec_52 : Dec enc Tryz.prog w 52 STest.c STest.ok := by
  intro cs h
  obtain ⟨hl, hf⟩ := rd_fields flds_52 h
  have h0 : Rd enc Tryz.prog w 9 ((cs.drop 0).take 1) := by have := hf (9, 0) (by simp); simp only [cells_9] at this; exact this
  obtain ⟨a0, c0, k0⟩ := dec_str Tryz.underlying9 _ h0
  have h1 : Rd enc Tryz.prog w 50 ((cs.drop 1).take 1) := by have := hf (50, 1) (by simp); simp only [cells_50] at this; exact this
  obtain ⟨a1, c1, k1⟩ := dec_50 _ h1
  have h2 : Rd enc Tryz.prog w 25 ((cs.drop 2).take 2) := by have := hf (25, 2) (by simp); simp only [cells_25] at this; exact this
  obtain ⟨a2, c2, k2⟩ := dec_25 _ h2
  rw [cells_52] at hl
  refine ⟨⟨a0, a1, a2.1, a2.2⟩, ?_, ⟨k0, k1, k2⟩⟩
  exact ct_step c0 (ct_step c1 (ct_step c2 (ct_end hl)))

theorem dec_23 : Dec enc Tryz.prog w 23 (fun x : Sl STest => [x.t STest.c]) (SlOK STest.ok) := dec_slice Tryz.underlying23 cells_52 (by decide) (fun _ => rfl) dec_52

def Pat.ok (x : Pat) : Prop := StrOK x.name ∧ StrOK x.t ∧ SlOK STest.ok x.slots ∧ placeOK (x.line, x.col)
theorem dec_27 : Dec enc Tryz.prog w 27 Pat.c Pat.ok := by
  intro cs h
  obtain ⟨hl, hf⟩ := rd_fields flds_27 h
  have h0 : Rd enc Tryz.prog w 9 ((cs.drop 0).take 1) := by have := hf (9, 0) (by simp); simp only [cells_9] at this; exact this
  obtain ⟨a0, c0, k0⟩ := dec_str Tryz.underlying9 _ h0
  have h1 : Rd enc Tryz.prog w 9 ((cs.drop 1).take 1) := by have := hf (9, 1) (by simp); simp only [cells_9] at this; exact this
  obtain ⟨a1, c1, k1⟩ := dec_str Tryz.underlying9 _ h1
  have h2 : Rd enc Tryz.prog w 23 ((cs.drop 2).take 1) := by have := hf (23, 2) (by simp); simp only [cells_23] at this; exact this
  obtain ⟨a2, c2, k2⟩ := dec_23 _ h2
  have h3 : Rd enc Tryz.prog w 25 ((cs.drop 3).take 2) := by have := hf (25, 3) (by simp); simp only [cells_25] at this; exact this
  obtain ⟨a3, c3, k3⟩ := dec_25 _ h3
  rw [cells_27] at hl
  refine ⟨⟨a0, a1, a2, a3.1, a3.2⟩, ?_, ⟨k0, k1, k2, k3⟩⟩
  exact ct_step c0 (ct_step c1 (ct_step c2 (ct_step c3 (ct_end hl))))

theorem dec_22 : Dec enc Tryz.prog w 22 (fun x : Sl Tpl => [x.t Tpl.c]) (SlOK Tpl.ok) := dec_slice Tryz.underlying22 cells_39 (by decide) (fun _ => rfl) dec_39

theorem dec_31 : Dec enc Tryz.prog w 31 (fun x : Sl Bind => [x.t Bind.c]) (SlOK Bind.ok) := dec_slice Tryz.underlying31 cells_47 (by decide) (fun _ => rfl) dec_47

end
end Go.Ab

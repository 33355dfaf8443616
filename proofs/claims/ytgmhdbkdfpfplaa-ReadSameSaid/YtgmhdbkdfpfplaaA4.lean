/- The types of the data. -/
import Derived.Test.YtgmhdbkdfpfplaaA3
import Derived.Test.YtgmhdbkdfpfplaaProg
import Derived.KernelRfl
namespace Go.Ab
def TU8 : List Ty := [.int .u8]
def TI64 : List Ty := [.int .i64]
def TIns : List Ty := [.int .u8, .int .i64, .int .i64, .sl TI64]
def TType : List Ty := [.sl TU8, .sl TU8]
def TLimits : List Ty := [.int .i64, .int .i64, .bool]
def TImport : List Ty := [.str, .str, .int .u8, .int .i64, .int .i64, .int .i64, .bool, .int .u8, .bool]
def TGlobal : List Ty := [.int .u8, .bool, .sl TIns]
def TExport : List Ty := [.str, .int .u8, .int .i64]
def TElem : List Ty := [.int .i64, .sl TIns, .sl TI64]
def TData : List Ty := [.int .i64, .sl TIns, .sl TU8]
def TLocals : List Ty := [.int .i64, .int .u8]
def TCode : List Ty := [.sl TLocals, .sl TIns]
def TModule : List Ty := [.sl TType, .sl TImport, .sl TI64, .sl TLimits, .sl TLimits, .sl TGlobal, .sl TExport, .sl TI64, .sl TElem, .sl TCode, .sl TData]
theorem has_u8 {e : List PV} (h : HasL TU8 e) : ∃ a0, e = [.int .u8 a0] := by
  obtain ⟨_, _, rfl, ⟨a0, rfl, _, _⟩, rfl⟩ := h
  exact ⟨a0, rfl⟩
theorem has_i64 {e : List PV} (h : HasL TI64 e) : ∃ a0, e = [.int .i64 a0] := by
  obtain ⟨_, _, rfl, ⟨a0, rfl, _, _⟩, rfl⟩ := h
  exact ⟨a0, rfl⟩
theorem has_ins {e : List PV} (h : HasL TIns e) : ∃ a0 a1 a2 a3n a3, e = [.int .u8 a0, .int .i64 a1, .int .i64 a2, .isl a3n 1 a3] ∧ (a3n = false → a3 = []) ∧ HasE TI64 a3 := by
  obtain ⟨_, _, rfl, ⟨a0, rfl, _, _⟩, ⟨_, _, rfl, ⟨a1, rfl, _, _⟩, ⟨_, _, rfl, ⟨a2, rfl, _, _⟩, ⟨_, _, rfl, ⟨a3n, a3, rfl, h3, g3, f3⟩, rfl⟩⟩⟩⟩ := h
  exact ⟨a0, a1, a2, a3n, a3, rfl, h3, ⟨g3, f3⟩⟩
theorem has_type {e : List PV} (h : HasL TType e) : ∃ a0n a0 a1n a1, e = [.isl a0n 1 a0, .isl a1n 1 a1] ∧ (a0n = false → a0 = []) ∧ HasE TU8 a0 ∧ (a1n = false → a1 = []) ∧ HasE TU8 a1 := by
  obtain ⟨_, _, rfl, ⟨a0n, a0, rfl, h0, g0, f0⟩, ⟨_, _, rfl, ⟨a1n, a1, rfl, h1, g1, f1⟩, rfl⟩⟩ := h
  exact ⟨a0n, a0, a1n, a1, rfl, h0, ⟨g0, f0⟩, h1, ⟨g1, f1⟩⟩
theorem has_limits {e : List PV} (h : HasL TLimits e) : ∃ a0 a1 a2, e = [.int .i64 a0, .int .i64 a1, .bool a2] := by
  obtain ⟨_, _, rfl, ⟨a0, rfl, _, _⟩, ⟨_, _, rfl, ⟨a1, rfl, _, _⟩, ⟨_, _, rfl, ⟨a2, rfl⟩, rfl⟩⟩⟩ := h
  exact ⟨a0, a1, a2, rfl⟩
theorem has_import {e : List PV} (h : HasL TImport e) : ∃ a0 a1 a2 a3 a4 a5 a6 a7 a8, e = [.str a0, .str a1, .int .u8 a2, .int .i64 a3, .int .i64 a4, .int .i64 a5, .bool a6, .int .u8 a7, .bool a8] := by
  obtain ⟨_, _, rfl, ⟨a0, rfl⟩, ⟨_, _, rfl, ⟨a1, rfl⟩, ⟨_, _, rfl, ⟨a2, rfl, _, _⟩, ⟨_, _, rfl, ⟨a3, rfl, _, _⟩, ⟨_, _, rfl, ⟨a4, rfl, _, _⟩, ⟨_, _, rfl, ⟨a5, rfl, _, _⟩, ⟨_, _, rfl, ⟨a6, rfl⟩, ⟨_, _, rfl, ⟨a7, rfl, _, _⟩, ⟨_, _, rfl, ⟨a8, rfl⟩, rfl⟩⟩⟩⟩⟩⟩⟩⟩⟩ := h
  exact ⟨a0, a1, a2, a3, a4, a5, a6, a7, a8, rfl⟩
theorem has_global {e : List PV} (h : HasL TGlobal e) : ∃ a0 a1 a2n a2, e = [.int .u8 a0, .bool a1, .isl a2n 4 a2] ∧ (a2n = false → a2 = []) ∧ HasE TIns a2 := by
  obtain ⟨_, _, rfl, ⟨a0, rfl, _, _⟩, ⟨_, _, rfl, ⟨a1, rfl⟩, ⟨_, _, rfl, ⟨a2n, a2, rfl, h2, g2, f2⟩, rfl⟩⟩⟩ := h
  exact ⟨a0, a1, a2n, a2, rfl, h2, ⟨g2, f2⟩⟩
theorem has_export {e : List PV} (h : HasL TExport e) : ∃ a0 a1 a2, e = [.str a0, .int .u8 a1, .int .i64 a2] := by
  obtain ⟨_, _, rfl, ⟨a0, rfl⟩, ⟨_, _, rfl, ⟨a1, rfl, _, _⟩, ⟨_, _, rfl, ⟨a2, rfl, _, _⟩, rfl⟩⟩⟩ := h
  exact ⟨a0, a1, a2, rfl⟩
theorem has_elem {e : List PV} (h : HasL TElem e) : ∃ a0 a1n a1 a2n a2, e = [.int .i64 a0, .isl a1n 4 a1, .isl a2n 1 a2] ∧ (a1n = false → a1 = []) ∧ HasE TIns a1 ∧ (a2n = false → a2 = []) ∧ HasE TI64 a2 := by
  obtain ⟨_, _, rfl, ⟨a0, rfl, _, _⟩, ⟨_, _, rfl, ⟨a1n, a1, rfl, h1, g1, f1⟩, ⟨_, _, rfl, ⟨a2n, a2, rfl, h2, g2, f2⟩, rfl⟩⟩⟩ := h
  exact ⟨a0, a1n, a1, a2n, a2, rfl, h1, ⟨g1, f1⟩, h2, ⟨g2, f2⟩⟩
theorem has_data {e : List PV} (h : HasL TData e) : ∃ a0 a1n a1 a2n a2, e = [.int .i64 a0, .isl a1n 4 a1, .isl a2n 1 a2] ∧ (a1n = false → a1 = []) ∧ HasE TIns a1 ∧ (a2n = false → a2 = []) ∧ HasE TU8 a2 := by
  obtain ⟨_, _, rfl, ⟨a0, rfl, _, _⟩, ⟨_, _, rfl, ⟨a1n, a1, rfl, h1, g1, f1⟩, ⟨_, _, rfl, ⟨a2n, a2, rfl, h2, g2, f2⟩, rfl⟩⟩⟩ := h
  exact ⟨a0, a1n, a1, a2n, a2, rfl, h1, ⟨g1, f1⟩, h2, ⟨g2, f2⟩⟩
theorem has_locals {e : List PV} (h : HasL TLocals e) : ∃ a0 a1, e = [.int .i64 a0, .int .u8 a1] := by
  obtain ⟨_, _, rfl, ⟨a0, rfl, _, _⟩, ⟨_, _, rfl, ⟨a1, rfl, _, _⟩, rfl⟩⟩ := h
  exact ⟨a0, a1, rfl⟩
theorem has_code {e : List PV} (h : HasL TCode e) : ∃ a0n a0 a1n a1, e = [.isl a0n 2 a0, .isl a1n 4 a1] ∧ (a0n = false → a0 = []) ∧ HasE TLocals a0 ∧ (a1n = false → a1 = []) ∧ HasE TIns a1 := by
  obtain ⟨_, _, rfl, ⟨a0n, a0, rfl, h0, g0, f0⟩, ⟨_, _, rfl, ⟨a1n, a1, rfl, h1, g1, f1⟩, rfl⟩⟩ := h
  exact ⟨a0n, a0, a1n, a1, rfl, h0, ⟨g0, f0⟩, h1, ⟨g1, f1⟩⟩
theorem has_module {e : List PV} (h : HasL TModule e) : ∃ a0n a0 a1n a1 a2n a2 a3n a3 a4n a4 a5n a5 a6n a6 a7n a7 a8n a8 a9n a9 a10n a10, e = [.isl a0n 2 a0, .isl a1n 9 a1, .isl a2n 1 a2, .isl a3n 3 a3, .isl a4n 3 a4, .isl a5n 3 a5, .isl a6n 3 a6, .isl a7n 1 a7, .isl a8n 3 a8, .isl a9n 2 a9, .isl a10n 3 a10] ∧ (a0n = false → a0 = []) ∧ HasE TType a0 ∧ (a1n = false → a1 = []) ∧ HasE TImport a1 ∧ (a2n = false → a2 = []) ∧ HasE TI64 a2 ∧ (a3n = false → a3 = []) ∧ HasE TLimits a3 ∧ (a4n = false → a4 = []) ∧ HasE TLimits a4 ∧ (a5n = false → a5 = []) ∧ HasE TGlobal a5 ∧ (a6n = false → a6 = []) ∧ HasE TExport a6 ∧ (a7n = false → a7 = []) ∧ HasE TI64 a7 ∧ (a8n = false → a8 = []) ∧ HasE TElem a8 ∧ (a9n = false → a9 = []) ∧ HasE TCode a9 ∧ (a10n = false → a10 = []) ∧ HasE TData a10 := by
  obtain ⟨_, _, rfl, ⟨a0n, a0, rfl, h0, g0, f0⟩, ⟨_, _, rfl, ⟨a1n, a1, rfl, h1, g1, f1⟩, ⟨_, _, rfl, ⟨a2n, a2, rfl, h2, g2, f2⟩, ⟨_, _, rfl, ⟨a3n, a3, rfl, h3, g3, f3⟩, ⟨_, _, rfl, ⟨a4n, a4, rfl, h4, g4, f4⟩, ⟨_, _, rfl, ⟨a5n, a5, rfl, h5, g5, f5⟩, ⟨_, _, rfl, ⟨a6n, a6, rfl, h6, g6, f6⟩, ⟨_, _, rfl, ⟨a7n, a7, rfl, h7, g7, f7⟩, ⟨_, _, rfl, ⟨a8n, a8, rfl, h8, g8, f8⟩, ⟨_, _, rfl, ⟨a9n, a9, rfl, h9, g9, f9⟩, ⟨_, _, rfl, ⟨a10n, a10, rfl, h10, g10, f10⟩, rfl⟩⟩⟩⟩⟩⟩⟩⟩⟩⟩⟩ := h
  exact ⟨a0n, a0, a1n, a1, a2n, a2, a3n, a3, a4n, a4, a5n, a5, a6n, a6, a7n, a7, a8n, a8, a9n, a9, a10n, a10, rfl, h0, ⟨g0, f0⟩, h1, ⟨g1, f1⟩, h2, ⟨g2, f2⟩, h3, ⟨g3, f3⟩, h4, ⟨g4, f4⟩, h5, ⟨g5, f5⟩, h6, ⟨g6, f6⟩, h7, ⟨g7, f7⟩, h8, ⟨g8, f8⟩, h9, ⟨g9, f9⟩, h10, ⟨g10, f10⟩⟩
theorem big_u8 {e : List PV} (h : BigL TU8 e) : ∃ a0, e = [.int .u8 a0] := by
  obtain ⟨_, _, rfl, ⟨a0, rfl, _, _⟩, rfl⟩ := h
  exact ⟨a0, rfl⟩
theorem big_i64 {e : List PV} (h : BigL TI64 e) : ∃ a0, e = [.int .i64 a0] := by
  obtain ⟨_, _, rfl, ⟨a0, rfl, _, _⟩, rfl⟩ := h
  exact ⟨a0, rfl⟩
theorem big_ins {e : List PV} (h : BigL TIns e) : ∃ a0 a1 a2 a3n a3, e = [.int .u8 a0, .int .i64 a1, .int .i64 a2, .isl a3n 1 a3] ∧ (a3n = false → a3 = []) ∧ BigE TI64 a3 := by
  obtain ⟨_, _, rfl, ⟨a0, rfl, _, _⟩, ⟨_, _, rfl, ⟨a1, rfl, _, _⟩, ⟨_, _, rfl, ⟨a2, rfl, _, _⟩, ⟨_, _, rfl, ⟨a3n, a3, rfl, h3, g3, f3⟩, rfl⟩⟩⟩⟩ := h
  exact ⟨a0, a1, a2, a3n, a3, rfl, h3, ⟨g3, f3⟩⟩
theorem big_type {e : List PV} (h : BigL TType e) : ∃ a0n a0 a1n a1, e = [.isl a0n 1 a0, .isl a1n 1 a1] ∧ (a0n = false → a0 = []) ∧ BigE TU8 a0 ∧ (a1n = false → a1 = []) ∧ BigE TU8 a1 := by
  obtain ⟨_, _, rfl, ⟨a0n, a0, rfl, h0, g0, f0⟩, ⟨_, _, rfl, ⟨a1n, a1, rfl, h1, g1, f1⟩, rfl⟩⟩ := h
  exact ⟨a0n, a0, a1n, a1, rfl, h0, ⟨g0, f0⟩, h1, ⟨g1, f1⟩⟩
theorem big_limits {e : List PV} (h : BigL TLimits e) : ∃ a0 a1 a2, e = [.int .i64 a0, .int .i64 a1, .bool a2] := by
  obtain ⟨_, _, rfl, ⟨a0, rfl, _, _⟩, ⟨_, _, rfl, ⟨a1, rfl, _, _⟩, ⟨_, _, rfl, ⟨a2, rfl⟩, rfl⟩⟩⟩ := h
  exact ⟨a0, a1, a2, rfl⟩
theorem big_import {e : List PV} (h : BigL TImport e) : ∃ a0 a1 a2 a3 a4 a5 a6 a7 a8, e = [.str a0, .str a1, .int .u8 a2, .int .i64 a3, .int .i64 a4, .int .i64 a5, .bool a6, .int .u8 a7, .bool a8] ∧ a0.length ≤ 140737488355328 ∧ a1.length ≤ 140737488355328 := by
  obtain ⟨_, _, rfl, ⟨a0, rfl, h0⟩, ⟨_, _, rfl, ⟨a1, rfl, h1⟩, ⟨_, _, rfl, ⟨a2, rfl, _, _⟩, ⟨_, _, rfl, ⟨a3, rfl, _, _⟩, ⟨_, _, rfl, ⟨a4, rfl, _, _⟩, ⟨_, _, rfl, ⟨a5, rfl, _, _⟩, ⟨_, _, rfl, ⟨a6, rfl⟩, ⟨_, _, rfl, ⟨a7, rfl, _, _⟩, ⟨_, _, rfl, ⟨a8, rfl⟩, rfl⟩⟩⟩⟩⟩⟩⟩⟩⟩ := h
  exact ⟨a0, a1, a2, a3, a4, a5, a6, a7, a8, rfl, h0, h1⟩
theorem big_global {e : List PV} (h : BigL TGlobal e) : ∃ a0 a1 a2n a2, e = [.int .u8 a0, .bool a1, .isl a2n 4 a2] ∧ (a2n = false → a2 = []) ∧ BigE TIns a2 := by
  obtain ⟨_, _, rfl, ⟨a0, rfl, _, _⟩, ⟨_, _, rfl, ⟨a1, rfl⟩, ⟨_, _, rfl, ⟨a2n, a2, rfl, h2, g2, f2⟩, rfl⟩⟩⟩ := h
  exact ⟨a0, a1, a2n, a2, rfl, h2, ⟨g2, f2⟩⟩
theorem big_export {e : List PV} (h : BigL TExport e) : ∃ a0 a1 a2, e = [.str a0, .int .u8 a1, .int .i64 a2] ∧ a0.length ≤ 140737488355328 := by
  obtain ⟨_, _, rfl, ⟨a0, rfl, h0⟩, ⟨_, _, rfl, ⟨a1, rfl, _, _⟩, ⟨_, _, rfl, ⟨a2, rfl, _, _⟩, rfl⟩⟩⟩ := h
  exact ⟨a0, a1, a2, rfl, h0⟩
theorem big_elem {e : List PV} (h : BigL TElem e) : ∃ a0 a1n a1 a2n a2, e = [.int .i64 a0, .isl a1n 4 a1, .isl a2n 1 a2] ∧ (a1n = false → a1 = []) ∧ BigE TIns a1 ∧ (a2n = false → a2 = []) ∧ BigE TI64 a2 := by
  obtain ⟨_, _, rfl, ⟨a0, rfl, _, _⟩, ⟨_, _, rfl, ⟨a1n, a1, rfl, h1, g1, f1⟩, ⟨_, _, rfl, ⟨a2n, a2, rfl, h2, g2, f2⟩, rfl⟩⟩⟩ := h
  exact ⟨a0, a1n, a1, a2n, a2, rfl, h1, ⟨g1, f1⟩, h2, ⟨g2, f2⟩⟩
theorem big_data {e : List PV} (h : BigL TData e) : ∃ a0 a1n a1 a2n a2, e = [.int .i64 a0, .isl a1n 4 a1, .isl a2n 1 a2] ∧ (a1n = false → a1 = []) ∧ BigE TIns a1 ∧ (a2n = false → a2 = []) ∧ BigE TU8 a2 := by
  obtain ⟨_, _, rfl, ⟨a0, rfl, _, _⟩, ⟨_, _, rfl, ⟨a1n, a1, rfl, h1, g1, f1⟩, ⟨_, _, rfl, ⟨a2n, a2, rfl, h2, g2, f2⟩, rfl⟩⟩⟩ := h
  exact ⟨a0, a1n, a1, a2n, a2, rfl, h1, ⟨g1, f1⟩, h2, ⟨g2, f2⟩⟩
theorem big_locals {e : List PV} (h : BigL TLocals e) : ∃ a0 a1, e = [.int .i64 a0, .int .u8 a1] := by
  obtain ⟨_, _, rfl, ⟨a0, rfl, _, _⟩, ⟨_, _, rfl, ⟨a1, rfl, _, _⟩, rfl⟩⟩ := h
  exact ⟨a0, a1, rfl⟩
theorem big_code {e : List PV} (h : BigL TCode e) : ∃ a0n a0 a1n a1, e = [.isl a0n 2 a0, .isl a1n 4 a1] ∧ (a0n = false → a0 = []) ∧ BigE TLocals a0 ∧ (a1n = false → a1 = []) ∧ BigE TIns a1 := by
  obtain ⟨_, _, rfl, ⟨a0n, a0, rfl, h0, g0, f0⟩, ⟨_, _, rfl, ⟨a1n, a1, rfl, h1, g1, f1⟩, rfl⟩⟩ := h
  exact ⟨a0n, a0, a1n, a1, rfl, h0, ⟨g0, f0⟩, h1, ⟨g1, f1⟩⟩
theorem big_module {e : List PV} (h : BigL TModule e) : ∃ a0n a0 a1n a1 a2n a2 a3n a3 a4n a4 a5n a5 a6n a6 a7n a7 a8n a8 a9n a9 a10n a10, e = [.isl a0n 2 a0, .isl a1n 9 a1, .isl a2n 1 a2, .isl a3n 3 a3, .isl a4n 3 a4, .isl a5n 3 a5, .isl a6n 3 a6, .isl a7n 1 a7, .isl a8n 3 a8, .isl a9n 2 a9, .isl a10n 3 a10] ∧ (a0n = false → a0 = []) ∧ BigE TType a0 ∧ (a1n = false → a1 = []) ∧ BigE TImport a1 ∧ (a2n = false → a2 = []) ∧ BigE TI64 a2 ∧ (a3n = false → a3 = []) ∧ BigE TLimits a3 ∧ (a4n = false → a4 = []) ∧ BigE TLimits a4 ∧ (a5n = false → a5 = []) ∧ BigE TGlobal a5 ∧ (a6n = false → a6 = []) ∧ BigE TExport a6 ∧ (a7n = false → a7 = []) ∧ BigE TI64 a7 ∧ (a8n = false → a8 = []) ∧ BigE TElem a8 ∧ (a9n = false → a9 = []) ∧ BigE TCode a9 ∧ (a10n = false → a10 = []) ∧ BigE TData a10 := by
  obtain ⟨_, _, rfl, ⟨a0n, a0, rfl, h0, g0, f0⟩, ⟨_, _, rfl, ⟨a1n, a1, rfl, h1, g1, f1⟩, ⟨_, _, rfl, ⟨a2n, a2, rfl, h2, g2, f2⟩, ⟨_, _, rfl, ⟨a3n, a3, rfl, h3, g3, f3⟩, ⟨_, _, rfl, ⟨a4n, a4, rfl, h4, g4, f4⟩, ⟨_, _, rfl, ⟨a5n, a5, rfl, h5, g5, f5⟩, ⟨_, _, rfl, ⟨a6n, a6, rfl, h6, g6, f6⟩, ⟨_, _, rfl, ⟨a7n, a7, rfl, h7, g7, f7⟩, ⟨_, _, rfl, ⟨a8n, a8, rfl, h8, g8, f8⟩, ⟨_, _, rfl, ⟨a9n, a9, rfl, h9, g9, f9⟩, ⟨_, _, rfl, ⟨a10n, a10, rfl, h10, g10, f10⟩, rfl⟩⟩⟩⟩⟩⟩⟩⟩⟩⟩⟩ := h
  exact ⟨a0n, a0, a1n, a1, a2n, a2, a3n, a3, a4n, a4, a5n, a5, a6n, a6, a7n, a7, a8n, a8, a9n, a9, a10n, a10, rfl, h0, ⟨g0, f0⟩, h1, ⟨g1, f1⟩, h2, ⟨g2, f2⟩, h3, ⟨g3, f3⟩, h4, ⟨g4, f4⟩, h5, ⟨g5, f5⟩, h6, ⟨g6, f6⟩, h7, ⟨g7, f7⟩, h8, ⟨g8, f8⟩, h9, ⟨g9, f9⟩, h10, ⟨g10, f10⟩⟩
end Go.Ab
/- Bytes as elements; rows that are taken up. -/
set_option linter.unusedVariables false
set_option linter.unusedSimpArgs false
namespace Go.Ab

theorem u8s_of {E : List (List PV)} (h : ∀ e ∈ E, HasL TU8 e) : ∃ l, E = u8s l := by
  induction E with
  | nil => exact ⟨[], rfl⟩
  | cons e E ih =>
    obtain ⟨l, rfl⟩ := ih fun e he => h e (List.mem_cons_of_mem _ he)
    obtain ⟨c, l', rfl, ⟨n, rfl, hn1, hn2⟩, rfl⟩ := h _ List.mem_cons_self
    refine ⟨(UInt8.ofNat n.toNat) :: l, ?_⟩
    have hk1 : (0 : Int) ≤ n := hn1
    have hk2 : n ≤ 255 := hn2
    simp only [u8s, List.map_cons, List.cons.injEq, and_true]
    congr 1
    have : (UInt8.ofNat n.toNat).toNat = n.toNat := by simp only [UInt8.toNat_ofNat']; omega
    rw [this]
    omega
theorem nrm_u8s (l : List UInt8) : nrmEs (u8s l) = u8s l := by
  rw [nrmEs_map]
  simp [u8s, nrmC, nrm]
theorem u8s_inj {l m : List UInt8} (h : u8s l = u8s m) : l = m := by
  induction l generalizing m with
  | nil => cases m with | nil => rfl | cons _ _ => simp [u8s] at h
  | cons a l ih =>
    cases m with
    | nil => simp [u8s] at h
    | cons b m =>
      simp only [u8s, List.map_cons, List.cons.injEq, PV.int.injEq, and_true, true_and] at h
      have h1 : a = b := UInt8.toNat_inj.1 (Int.ofNat_inj.1 (by have := h.1; exact this))
      rw [h1, ih (by simpa [u8s] using h.2)]
theorem sameE_u8s (l m : List UInt8) : sameE (u8s l) (u8s m) = (l == m) := by
  rw [Bool.eq_iff_iff, sameE_iff, nrm_u8s, nrm_u8s, beq_iff_eq]
  exact ⟨u8s_inj, fun h => by rw [h]⟩
end Go.Ab
/- Sums over elements; whether one is such. -/
set_option linter.unusedVariables false
set_option linter.unusedSimpArgs false
namespace Go.Ab

theorem any_nil {α : Type} (f : α → Bool) (E : List α) : (E.take 0).any f = false := by simp
theorem any_succ {α : Type} {f : α → Bool} {E : List α} {k : Nat} {x : α} (hx : E[k]? = some x) (h : (E.take k).any f = false) (e : f x = false) : (E.take (k + 1)).any f = false := by
  rw [List.take_add_one, hx, List.any_append, h]
  simp [e]
theorem any_all {α : Type} {f : α → Bool} {E : List α} {k : Nat} (h : (E.take k).any f = false) (hk : E.length ≤ k) : E.any f = false := by
  rwa [List.take_of_length_le hk] at h
theorem any_at {α : Type} {f : α → Bool} {E : List α} {k : Nat} {x : α} (hx : E[k]? = some x) (e : f x = true) : E.any f = true :=
  List.any_eq_true.2 ⟨x, List.mem_of_getElem? hx, e⟩
theorem any_at_take {α : Type} {f : α → Bool} {E : List α} {k n : Nat} {x : α} (hx : E[k]? = some x) (hk : k < n) (e : f x = true) : (E.take n).any f = true :=
  any_at (k := k) (by rw [List.getElem?_take_of_lt hk]; exact hx) e
theorem fold_succ {α β : Type} {f : β → α → β} {b : β} {E : List α} {k : Nat} {x : α} (hx : E[k]? = some x) : (E.take (k + 1)).foldl f b = f ((E.take k).foldl f b) x := by
  rw [List.take_add_one, hx, List.foldl_append]
  rfl
theorem fold_all {α β : Type} {f : β → α → β} {b : β} {E : List α} {k : Nat} (hk : E.length ≤ k) : (E.take k).foldl f b = E.foldl f b := by
  rw [List.take_of_length_le hk]
/-- How long what lies in a cell is. -/
def lenOf (e : List PV) (j : Nat) : Int := match nthO e j with
  | some (.isl _ _ x) => stdI (.len x)
  | some (.str x) => stdI (.slen x)
  | _ => 0
def elsOf (e : List PV) (j : Nat) : List (List PV) := match nthO e j with
  | some (.isl _ _ x) => x
  | _ => []
def gr06 (E : List (List PV)) : Bool := (E.take 2000).any (fun e => stdB (.cmp .gtr (lenOf e 3) 200)) || stdB (.cmp .gtr (stdI (.len E)) 2000)
def add (a b : Int) : Int := stdI (.ari .add .i64 a b)
def gr07 (a0 a1 a2 a3 a4 a5 a6 a7 a8 a9 a10 : List (List PV)) : Bool :=
  stdB (.cmp .gtr (stdI (.ari .add .i64 (stdI (.ari .add .i64 (stdI (.ari .add .i64 (stdI (.ari .add .i64 (stdI (.ari .add .i64 (stdI (.ari .add .i64 (stdI (.ari .add .i64 (stdI (.ari .add .i64 (stdI (.ari .add .i64 (stdI (.ari .add .i64 (stdI (.len a0)) (stdI (.len a1)))) (stdI (.len a2)))) (stdI (.len a3)))) (stdI (.len a4)))) (stdI (.len a5)))) (stdI (.len a6)))) (stdI (.len a7)))) (stdI (.len a8)))) (stdI (.len a9)))) (stdI (.len a10)))) 1000) || a5.any (fun e => gr06 (elsOf e 2)) || a8.any (fun e => gr06 (elsOf e 1)) || a9.any (fun e => gr06 (elsOf e 1)) || a10.any (fun e => gr06 (elsOf e 1)) || stdB (.cmp .gtr (a6.foldl (fun A e => add A (lenOf e 0)) (a1.foldl (fun A e => add A (add (lenOf e 0) (lenOf e 1))) (a10.foldl (fun A e => add A (lenOf e 2)) (a9.foldl (fun A e => add A (lenOf e 0)) (a8.foldl (fun A e => add A (lenOf e 2)) (a0.foldl (fun A e => add A (add (lenOf e 0) (lenOf e 1))) 0)))))) 20000)
end Go.Ab
/- Modules that are not great are small. -/
set_option linter.unusedVariables false
set_option linter.unusedSimpArgs false
namespace Go.Ab
open Go.Proofs
theorem add_eq {a b : Int} (h : -9223372036854775808 ≤ a + b ∧ a + b ≤ 9223372036854775807) : add a b = a + b := I_add h
theorem fold_bound (g : List PV → Int) (M : Int) (hM : 0 ≤ M) : ∀ (E : List (List PV)) (A C : Int), (∀ e ∈ E, 0 ≤ g e ∧ g e ≤ M) → 0 ≤ A → A ≤ C → C + E.length * M ≤ 9223372036854775807 →
    A ≤ E.foldl (fun A e => add A (g e)) A ∧ E.foldl (fun A e => add A (g e)) A ≤ C + E.length * M ∧ ∀ e ∈ E, g e ≤ E.foldl (fun A e => add A (g e)) A
  | [], A, C, _, h0, h1, h2 => by
    refine ⟨Int.le_refl _, ?_, fun e h => nomatch h⟩
    simp only [List.foldl_nil, List.length_nil] at h2 ⊢
    omega
  | x :: E, A, C, hg, h0, h1, h2 => by
    have hx := hg x List.mem_cons_self
    have e1 : ((x :: E).length : Int) * M = M + E.length * M := by
      rw [List.length_cons, Int.natCast_add, Int.add_mul]
      simp; omega
    rw [e1] at h2 ⊢
    have h3 : 0 ≤ (E.length : Int) * M := Int.mul_nonneg (by omega) hM
    have e2 : add A (g x) = A + g x := add_eq ⟨by omega, by omega⟩
    obtain ⟨i1, i2, i3⟩ := fold_bound g M hM E (A + g x) (C + M) (fun e he => hg e (List.mem_cons_of_mem _ he)) (by omega) (by omega) (by omega)
    simp only [List.foldl_cons, e2]
    refine ⟨by omega, by omega, fun e he => ?_⟩
    rcases List.mem_cons.1 he with rfl | he
    · omega
    · exact i3 e he
theorem gr06_small {E : List (List PV)} (h : BigE TIns E) (hg : gr06 E = false) : HasE TIns E := by
  unfold gr06 at hg
  rw [Bool.or_eq_false_iff, B_gtr] at hg
  obtain ⟨h1, h2⟩ := hg
  have h2 : ¬ (stdI (.len E) > 2000) := of_decide_eq_false h2
  rw [I_len] at h2
  have hl : E.length ≤ 2000 := by omega
  rw [List.take_of_length_le hl, List.any_eq_false] at h1
  refine ⟨by omega, fun e he => ?_⟩
  have h3 := h1 e he
  have h4 := h.2 e he
  obtain ⟨_, _, rfl, ⟨a0, rfl, ar0⟩, ⟨_, _, rfl, ⟨a1, rfl, ar1⟩, ⟨_, _, rfl, ⟨a2, rfl, ar2⟩, ⟨_, _, rfl, ⟨a3n, a3, rfl, ag3, al3, ab3⟩, rfl⟩⟩⟩⟩ := h4
  have h6 : ¬ (stdB (.cmp .gtr (stdI (.len a3)) 200) = true) := h3
  rw [B_gtr, I_len] at h6
  have h7 : a3.length ≤ 200 := by
    have : ¬ ((a3.length : Int) > 200) := fun h => h6 (decide_eq_true h)
    omega
  exact ⟨_, _, rfl, ⟨a0, rfl, ar0⟩, ⟨_, _, rfl, ⟨a1, rfl, ar1⟩, ⟨_, _, rfl, ⟨a2, rfl, ar2⟩, ⟨_, _, rfl, ⟨a3n, a3, rfl, ag3, by omega, fun x hx => big_flat _ _ rfl (ab3 x hx)⟩, rfl⟩⟩⟩⟩
set_option maxHeartbeats 2000000 in
theorem gr07_small (a0 a1 a2 a3 a4 a5 a6 a7 a8 a9 a10 : List (List PV)) (ea0 : BigE TType a0) (ea1 : BigE TImport a1) (ea2 : BigE TI64 a2) (ea3 : BigE TLimits a3) (ea4 : BigE TLimits a4) (ea5 : BigE TGlobal a5) (ea6 : BigE TExport a6) (ea7 : BigE TI64 a7) (ea8 : BigE TElem a8) (ea9 : BigE TCode a9) (ea10 : BigE TData a10) (h : gr07 a0 a1 a2 a3 a4 a5 a6 a7 a8 a9 a10 = false) :
    HasE TType a0 ∧ HasE TImport a1 ∧ HasE TI64 a2 ∧ HasE TLimits a3 ∧ HasE TLimits a4 ∧ HasE TGlobal a5 ∧ HasE TExport a6 ∧ HasE TI64 a7 ∧ HasE TElem a8 ∧ HasE TCode a9 ∧ HasE TData a10 := by
  unfold gr07 at h
  simp only [Bool.or_eq_false_iff] at h
  obtain ⟨⟨⟨⟨⟨hs, h5⟩, h8⟩, h9⟩, h10⟩, hacc⟩ := h
  have z0 := ea0.1
  have z1 := ea1.1
  have z2 := ea2.1
  have z3 := ea3.1
  have z4 := ea4.1
  have z5 := ea5.1
  have z6 := ea6.1
  have z7 := ea7.1
  have z8 := ea8.1
  have z9 := ea9.1
  have z10 := ea10.1
  have S0 : stdI (.len a0) = (a0.length : Int) := rfl
  have S1 : stdI (.ari .add .i64 (stdI (.len a0)) (stdI (.len a1))) = (a0.length : Int) + a1.length := by rw [S0, I_len, I_add ⟨by omega, by omega⟩]
  have S2 : stdI (.ari .add .i64 (stdI (.ari .add .i64 (stdI (.len a0)) (stdI (.len a1)))) (stdI (.len a2))) = (a0.length : Int) + a1.length + a2.length := by rw [S1, I_len, I_add ⟨by omega, by omega⟩]
  have S3 : stdI (.ari .add .i64 (stdI (.ari .add .i64 (stdI (.ari .add .i64 (stdI (.len a0)) (stdI (.len a1)))) (stdI (.len a2)))) (stdI (.len a3))) = (a0.length : Int) + a1.length + a2.length + a3.length := by rw [S2, I_len, I_add ⟨by omega, by omega⟩]
  have S4 : stdI (.ari .add .i64 (stdI (.ari .add .i64 (stdI (.ari .add .i64 (stdI (.ari .add .i64 (stdI (.len a0)) (stdI (.len a1)))) (stdI (.len a2)))) (stdI (.len a3)))) (stdI (.len a4))) = (a0.length : Int) + a1.length + a2.length + a3.length + a4.length := by rw [S3, I_len, I_add ⟨by omega, by omega⟩]
  have S5 : stdI (.ari .add .i64 (stdI (.ari .add .i64 (stdI (.ari .add .i64 (stdI (.ari .add .i64 (stdI (.ari .add .i64 (stdI (.len a0)) (stdI (.len a1)))) (stdI (.len a2)))) (stdI (.len a3)))) (stdI (.len a4)))) (stdI (.len a5))) = (a0.length : Int) + a1.length + a2.length + a3.length + a4.length + a5.length := by rw [S4, I_len, I_add ⟨by omega, by omega⟩]
  have S6 : stdI (.ari .add .i64 (stdI (.ari .add .i64 (stdI (.ari .add .i64 (stdI (.ari .add .i64 (stdI (.ari .add .i64 (stdI (.ari .add .i64 (stdI (.len a0)) (stdI (.len a1)))) (stdI (.len a2)))) (stdI (.len a3)))) (stdI (.len a4)))) (stdI (.len a5)))) (stdI (.len a6))) = (a0.length : Int) + a1.length + a2.length + a3.length + a4.length + a5.length + a6.length := by rw [S5, I_len, I_add ⟨by omega, by omega⟩]
  have S7 : stdI (.ari .add .i64 (stdI (.ari .add .i64 (stdI (.ari .add .i64 (stdI (.ari .add .i64 (stdI (.ari .add .i64 (stdI (.ari .add .i64 (stdI (.ari .add .i64 (stdI (.len a0)) (stdI (.len a1)))) (stdI (.len a2)))) (stdI (.len a3)))) (stdI (.len a4)))) (stdI (.len a5)))) (stdI (.len a6)))) (stdI (.len a7))) = (a0.length : Int) + a1.length + a2.length + a3.length + a4.length + a5.length + a6.length + a7.length := by rw [S6, I_len, I_add ⟨by omega, by omega⟩]
  have S8 : stdI (.ari .add .i64 (stdI (.ari .add .i64 (stdI (.ari .add .i64 (stdI (.ari .add .i64 (stdI (.ari .add .i64 (stdI (.ari .add .i64 (stdI (.ari .add .i64 (stdI (.ari .add .i64 (stdI (.len a0)) (stdI (.len a1)))) (stdI (.len a2)))) (stdI (.len a3)))) (stdI (.len a4)))) (stdI (.len a5)))) (stdI (.len a6)))) (stdI (.len a7)))) (stdI (.len a8))) = (a0.length : Int) + a1.length + a2.length + a3.length + a4.length + a5.length + a6.length + a7.length + a8.length := by rw [S7, I_len, I_add ⟨by omega, by omega⟩]
  have S9 : stdI (.ari .add .i64 (stdI (.ari .add .i64 (stdI (.ari .add .i64 (stdI (.ari .add .i64 (stdI (.ari .add .i64 (stdI (.ari .add .i64 (stdI (.ari .add .i64 (stdI (.ari .add .i64 (stdI (.ari .add .i64 (stdI (.len a0)) (stdI (.len a1)))) (stdI (.len a2)))) (stdI (.len a3)))) (stdI (.len a4)))) (stdI (.len a5)))) (stdI (.len a6)))) (stdI (.len a7)))) (stdI (.len a8)))) (stdI (.len a9))) = (a0.length : Int) + a1.length + a2.length + a3.length + a4.length + a5.length + a6.length + a7.length + a8.length + a9.length := by rw [S8, I_len, I_add ⟨by omega, by omega⟩]
  have S10 : stdI (.ari .add .i64 (stdI (.ari .add .i64 (stdI (.ari .add .i64 (stdI (.ari .add .i64 (stdI (.ari .add .i64 (stdI (.ari .add .i64 (stdI (.ari .add .i64 (stdI (.ari .add .i64 (stdI (.ari .add .i64 (stdI (.ari .add .i64 (stdI (.len a0)) (stdI (.len a1)))) (stdI (.len a2)))) (stdI (.len a3)))) (stdI (.len a4)))) (stdI (.len a5)))) (stdI (.len a6)))) (stdI (.len a7)))) (stdI (.len a8)))) (stdI (.len a9)))) (stdI (.len a10))) = (a0.length : Int) + a1.length + a2.length + a3.length + a4.length + a5.length + a6.length + a7.length + a8.length + a9.length + a10.length := by rw [S9, I_len, I_add ⟨by omega, by omega⟩]
  rw [S10, B_gtr] at hs
  have hs := of_decide_eq_false hs
  have y0 : a0.length ≤ 1000 := by omega
  have y1 : a1.length ≤ 1000 := by omega
  have y2 : a2.length ≤ 1000 := by omega
  have y3 : a3.length ≤ 1000 := by omega
  have y4 : a4.length ≤ 1000 := by omega
  have y5 : a5.length ≤ 1000 := by omega
  have y6 : a6.length ≤ 1000 := by omega
  have y7 : a7.length ≤ 1000 := by omega
  have y8 : a8.length ≤ 1000 := by omega
  have y9 : a9.length ≤ 1000 := by omega
  have y10 : a10.length ≤ 1000 := by omega
  clear S10 S9 S8 S7 S6 S5 S4 S3 S2 S1 S0 hs
  have b0 := fold_bound (fun e => add (lenOf e 0) (lenOf e 1)) 281474976710656 (by omega) a0 (0) 0 (fun e he => by
      have h4 := ea0.2 e he
      obtain ⟨_, _, rfl, ⟨p0n, p0, rfl, pg0, pl0, pb0⟩, ⟨_, _, rfl, ⟨p1n, p1, rfl, pg1, pl1, pb1⟩, rfl⟩⟩ := h4
      show 0 ≤ add (stdI (.len p0)) (stdI (.len p1)) ∧ add (stdI (.len p0)) (stdI (.len p1)) ≤ 281474976710656
      rw [I_len, I_len, add_eq ⟨by omega, by omega⟩]
      omega) (by omega) (by omega) (by omega)
  generalize hB0 : a0.foldl (fun A e => add A (add (lenOf e 0) (lenOf e 1))) (0) = B0 at b0 hacc
  obtain ⟨c0, d0, e0⟩ := b0
  have b8 := fold_bound (fun e => lenOf e 2) 281474976710656 (by omega) a8 (B0) 281474976710656000 (fun e he => by
      have h4 := ea8.2 e he
      obtain ⟨_, _, rfl, ⟨p0, rfl, pr0⟩, ⟨_, _, rfl, ⟨p1n, p1, rfl, pg1, pl1, pb1⟩, ⟨_, _, rfl, ⟨p2n, p2, rfl, pg2, pl2, pb2⟩, rfl⟩⟩⟩ := h4
      show 0 ≤ stdI (.len p2) ∧ stdI (.len p2) ≤ 281474976710656
      rw [I_len]
      omega) (by omega) (by omega) (by omega)
  generalize hB8 : a8.foldl (fun A e => add A (lenOf e 2)) (B0) = B8 at b8 hacc
  obtain ⟨c8, d8, e8⟩ := b8
  have b9 := fold_bound (fun e => lenOf e 0) 281474976710656 (by omega) a9 (B8) 562949953421312000 (fun e he => by
      have h4 := ea9.2 e he
      obtain ⟨_, _, rfl, ⟨p0n, p0, rfl, pg0, pl0, pb0⟩, ⟨_, _, rfl, ⟨p1n, p1, rfl, pg1, pl1, pb1⟩, rfl⟩⟩ := h4
      show 0 ≤ stdI (.len p0) ∧ stdI (.len p0) ≤ 281474976710656
      rw [I_len]
      omega) (by omega) (by omega) (by omega)
  generalize hB9 : a9.foldl (fun A e => add A (lenOf e 0)) (B8) = B9 at b9 hacc
  obtain ⟨c9, d9, e9⟩ := b9
  have b10 := fold_bound (fun e => lenOf e 2) 281474976710656 (by omega) a10 (B9) 844424930131968000 (fun e he => by
      have h4 := ea10.2 e he
      obtain ⟨_, _, rfl, ⟨p0, rfl, pr0⟩, ⟨_, _, rfl, ⟨p1n, p1, rfl, pg1, pl1, pb1⟩, ⟨_, _, rfl, ⟨p2n, p2, rfl, pg2, pl2, pb2⟩, rfl⟩⟩⟩ := h4
      show 0 ≤ stdI (.len p2) ∧ stdI (.len p2) ≤ 281474976710656
      rw [I_len]
      omega) (by omega) (by omega) (by omega)
  generalize hB10 : a10.foldl (fun A e => add A (lenOf e 2)) (B9) = B10 at b10 hacc
  obtain ⟨c10, d10, e10⟩ := b10
  have b1 := fold_bound (fun e => add (lenOf e 0) (lenOf e 1)) 281474976710656 (by omega) a1 (B10) 1125899906842624000 (fun e he => by
      have h4 := ea1.2 e he
      obtain ⟨_, _, rfl, ⟨p0, rfl, ps0⟩, ⟨_, _, rfl, ⟨p1, rfl, ps1⟩, ⟨_, _, rfl, ⟨p2, rfl, pr2⟩, ⟨_, _, rfl, ⟨p3, rfl, pr3⟩, ⟨_, _, rfl, ⟨p4, rfl, pr4⟩, ⟨_, _, rfl, ⟨p5, rfl, pr5⟩, ⟨_, _, rfl, ⟨p6, rfl⟩, ⟨_, _, rfl, ⟨p7, rfl, pr7⟩, ⟨_, _, rfl, ⟨p8, rfl⟩, rfl⟩⟩⟩⟩⟩⟩⟩⟩⟩ := h4
      show 0 ≤ add (stdI (.slen p0)) (stdI (.slen p1)) ∧ add (stdI (.slen p0)) (stdI (.slen p1)) ≤ 281474976710656
      rw [I_slen, I_slen, add_eq ⟨by omega, by omega⟩]
      omega) (by omega) (by omega) (by omega)
  generalize hB1 : a1.foldl (fun A e => add A (add (lenOf e 0) (lenOf e 1))) (B10) = B1 at b1 hacc
  obtain ⟨c1, d1, e1⟩ := b1
  have b6 := fold_bound (fun e => lenOf e 0) 281474976710656 (by omega) a6 (B1) 1407374883553280000 (fun e he => by
      have h4 := ea6.2 e he
      obtain ⟨_, _, rfl, ⟨p0, rfl, ps0⟩, ⟨_, _, rfl, ⟨p1, rfl, pr1⟩, ⟨_, _, rfl, ⟨p2, rfl, pr2⟩, rfl⟩⟩⟩ := h4
      show 0 ≤ stdI (.slen p0) ∧ stdI (.slen p0) ≤ 281474976710656
      rw [I_slen]
      omega) (by omega) (by omega) (by omega)
  generalize hB6 : a6.foldl (fun A e => add A (lenOf e 0)) (B1) = B6 at b6 hacc
  obtain ⟨c6, d6, e6⟩ := b6
  rw [B_gtr] at hacc
  have hacc := of_decide_eq_false hacc
  refine ⟨?_, ?_, ?_, ?_, ?_, ?_, ?_, ?_, ?_, ?_, ?_⟩
  · refine ⟨by omega, fun e he => ?_⟩
    have h4 := ea0.2 e he
    have h6 := e0 e he
    obtain ⟨_, _, rfl, ⟨p0n, p0, rfl, pg0, pl0, pb0⟩, ⟨_, _, rfl, ⟨p1n, p1, rfl, pg1, pl1, pb1⟩, rfl⟩⟩ := h4
    have h6 : add (stdI (.len p0)) (stdI (.len p1)) ≤ B0 := h6
    rw [I_len, I_len, add_eq ⟨by omega, by omega⟩] at h6
    exact ⟨_, _, rfl, ⟨p0n, p0, rfl, pg0, by omega, fun x hx => big_flat _ _ rfl (pb0 x hx)⟩, ⟨_, _, rfl, ⟨p1n, p1, rfl, pg1, by omega, fun x hx => big_flat _ _ rfl (pb1 x hx)⟩, rfl⟩⟩
  · exact big_flatE rfl ea1 (by omega)
  · exact big_flatE rfl ea2 (by omega)
  · exact big_flatE rfl ea3 (by omega)
  · exact big_flatE rfl ea4 (by omega)
  · refine ⟨by omega, fun e he => ?_⟩
    have h4 := ea5.2 e he
    have h7 := List.any_eq_false.1 h5 e he
    obtain ⟨_, _, rfl, ⟨p0, rfl, pr0⟩, ⟨_, _, rfl, ⟨p1, rfl⟩, ⟨_, _, rfl, ⟨p2n, p2, rfl, pg2, pl2, pb2⟩, rfl⟩⟩⟩ := h4
    have h7 : ¬ (gr06 p2 = true) := h7
    have h8 := gr06_small ⟨pl2, pb2⟩ (Bool.not_eq_true _ ▸ h7)
    exact ⟨_, _, rfl, ⟨p0, rfl, pr0⟩, ⟨_, _, rfl, ⟨p1, rfl⟩, ⟨_, _, rfl, ⟨p2n, p2, rfl, pg2, h8.1, h8.2⟩, rfl⟩⟩⟩
  · exact big_flatE rfl ea6 (by omega)
  · exact big_flatE rfl ea7 (by omega)
  · refine ⟨by omega, fun e he => ?_⟩
    have h4 := ea8.2 e he
    have h6 := e8 e he
    have h7 := List.any_eq_false.1 h8 e he
    obtain ⟨_, _, rfl, ⟨p0, rfl, pr0⟩, ⟨_, _, rfl, ⟨p1n, p1, rfl, pg1, pl1, pb1⟩, ⟨_, _, rfl, ⟨p2n, p2, rfl, pg2, pl2, pb2⟩, rfl⟩⟩⟩ := h4
    have h7 : ¬ (gr06 p1 = true) := h7
    have h8 := gr06_small ⟨pl1, pb1⟩ (Bool.not_eq_true _ ▸ h7)
    have h6 : stdI (.len p2) ≤ B8 := h6
    rw [I_len] at h6
    exact ⟨_, _, rfl, ⟨p0, rfl, pr0⟩, ⟨_, _, rfl, ⟨p1n, p1, rfl, pg1, h8.1, h8.2⟩, ⟨_, _, rfl, ⟨p2n, p2, rfl, pg2, by omega, fun x hx => big_flat _ _ rfl (pb2 x hx)⟩, rfl⟩⟩⟩
  · refine ⟨by omega, fun e he => ?_⟩
    have h4 := ea9.2 e he
    have h6 := e9 e he
    have h7 := List.any_eq_false.1 h9 e he
    obtain ⟨_, _, rfl, ⟨p0n, p0, rfl, pg0, pl0, pb0⟩, ⟨_, _, rfl, ⟨p1n, p1, rfl, pg1, pl1, pb1⟩, rfl⟩⟩ := h4
    have h7 : ¬ (gr06 p1 = true) := h7
    have h8 := gr06_small ⟨pl1, pb1⟩ (Bool.not_eq_true _ ▸ h7)
    have h6 : stdI (.len p0) ≤ B9 := h6
    rw [I_len] at h6
    exact ⟨_, _, rfl, ⟨p0n, p0, rfl, pg0, by omega, fun x hx => big_flat _ _ rfl (pb0 x hx)⟩, ⟨_, _, rfl, ⟨p1n, p1, rfl, pg1, h8.1, h8.2⟩, rfl⟩⟩
  · refine ⟨by omega, fun e he => ?_⟩
    have h4 := ea10.2 e he
    have h6 := e10 e he
    have h7 := List.any_eq_false.1 h10 e he
    obtain ⟨_, _, rfl, ⟨p0, rfl, pr0⟩, ⟨_, _, rfl, ⟨p1n, p1, rfl, pg1, pl1, pb1⟩, ⟨_, _, rfl, ⟨p2n, p2, rfl, pg2, pl2, pb2⟩, rfl⟩⟩⟩ := h4
    have h7 : ¬ (gr06 p1 = true) := h7
    have h8 := gr06_small ⟨pl1, pb1⟩ (Bool.not_eq_true _ ▸ h7)
    have h6 : stdI (.len p2) ≤ B10 := h6
    rw [I_len] at h6
    exact ⟨_, _, rfl, ⟨p0, rfl, pr0⟩, ⟨_, _, rfl, ⟨p1n, p1, rfl, pg1, h8.1, h8.2⟩, ⟨_, _, rfl, ⟨p2n, p2, rfl, pg2, by omega, fun x hx => big_flat _ _ rfl (pb2 x hx)⟩, rfl⟩⟩⟩
end Go.Ab
/- Great. -/
set_option linter.unusedVariables false
set_option linter.unusedSimpArgs false
namespace Go.Ab
open Go.Proofs
/- bytebarn/bytebarnref06.Great -/
def cc35 : CC :=
 .seq (.reg [
   ⟨(some 2), .mv (.c (.p (.bool false))), none⟩])
 (.seq (.seq (.reg [
   ⟨(some 3), .mv (.c (.p (.int .i64 0))), none⟩])
 (.block 0 (.loop [0, 3]
   (.seq (.seq (.reg [
     ⟨(some 4), .mv (.t 3), none⟩,
     ⟨(some 5), .mv (.t 0), none⟩,
     ⟨(some 6), .len false (.t 5), none⟩,
     ⟨(some 7), .cmp .lss (.t 4) (.t 6), none⟩,
     ⟨(some 8), .mv (.t 7), none⟩,
     ⟨(some 9), .mv (.t 3), (some (8, true))⟩,
     ⟨(some 10), .cmp .lss (.t 9) (.c (.p (.int .i64 2000))), (some (8, true))⟩,
     ⟨(some 11), .pick (.t 8) (.t 10) (.c (.p (.bool false))), none⟩])
   (.cond (.t 11)
    (.skip)
    (.exit 0)))
   (.seq (.block 1 (.seq (.reg [
      ⟨(some 14), .mv (.t 0), none⟩,
      ⟨(some 15), .mv (.t 3), none⟩,
      ⟨(some 16), .ia 4 (.t 14) (.t 15), none⟩,
      ⟨(some 17), .fa 3 (.t 16), none⟩,
      ⟨(some 18), .ld 1 false (.t 17), none⟩,
      ⟨(some 19), .len false (.t 18), none⟩,
      ⟨(some 20), .cmp .gtr (.t 19) (.c (.p (.int .i64 200))), none⟩])
    (.cond (.t 20)
     (.seq (.reg [
       ⟨(some 2), .mv (.c (.p (.bool true))), none⟩])
     (.ret))
     (.skip))))
   (.reg [
     ⟨(some 12), .mv (.t 3), none⟩,
     ⟨(some 13), .ari .add .i64 (.t 12) (.c (.p (.int .i64 1))), none⟩,
     ⟨(some 3), .mv (.t 13), none⟩]))))))
 (.seq (.reg [
   ⟨(some 21), .mv (.t 0), none⟩,
   ⟨(some 22), .len false (.t 21), none⟩,
   ⟨(some 23), .cmp .gtr (.t 22) (.c (.p (.int .i64 2000))), none⟩,
   ⟨(some 2), .mv (.t 23), none⟩])
 (.ret)))
def ann35 : List (List Nat) := [[0, 3]]
theorem comp35 : comp Try.prog Try.f35.ntmps (Try.f35.body.getD .skip) ann35 = some (cc35, []) := by kernel_rfl
theorem body35 : Try.f35.body = some (Try.f35.body.getD .skip) := by kernel_rfl
theorem name35 : (Try.f35.name == "runtime.NumGoroutine") = false := by kernel_rfl
theorem res35 : resC Try.prog Try.f35.results.toList = some [.t 2] := by kernel_rfl
theorem ar35 : Nat.ble 1 Try.f35.ntmps = true := by kernel_rfl
theorem spec35 (n : Bool) (E : List (List PV)) (hE : BigE TIns E) : Runs Try.prog 35 [.p (.isl n 4 E)] [] (.ret (.p (.bool (gr06 E))) []) := by
  refine runs_len fun _ => ?_
  refine runs_of_wp 2 Try.func35 body35 name35 comp35 res35 (Nat.le_of_ble_eq_true ar35) ?_
  generalize hI : stdI = LI
  generalize hB : stdB = LB
  generalize hLE : stdE = LE
  generalize hR : Runs Try.prog = R
  generalize hr : gr06 E = r
  have hz := hE.1
  have l1 : LI (.len E) = E.length := by rw [← hI]; rfl
  cbv
  refine loopR (α := Nat × Int) [] 0 (Nat.zero_le _) (fun s a => s.sett 3 (.p (.int .i64 a.2))) (fun a => E.length - a.1) (fun a => a.2 = a.1 ∧ a.1 ≤ E.length ∧ a.1 ≤ 2000 ∧ (E.take a.1).any (fun e => stdB (.cmp .gtr (lenOf e 3) 200)) = false) (0, 0) ⟨rfl, Nat.zero_le _, Nat.zero_le _, any_nil _ _⟩ (by cbv) ?_
  rintro S1 hS inv hinv ⟨k, K⟩ ⟨hK, hk, hk2, ht⟩
  subst hS
  simp only at hK hk hk2 ht
  cbv
  have fin : (E.take 2000).any (fun e => stdB (.cmp .gtr (lenOf e 3) 200)) = false → r = LB (.cmp .gtr (LI (.len E)) 2000) := by
    intro h
    rw [← hr, gr06, h, hB, hI]
    rfl
  cases hc : LB (.cmp .lss K (LI (.len E)))
  · rw [← hB, B_lss, l1, hK] at hc
    have hc : ¬ k < E.length := by simpa using hc
    cbv
    refine ⟨[], 0, Nat.le_refl _, ?_⟩
    cbv
    rw [fin (by rw [List.take_of_length_le (by omega)] at ht ⊢; exact ht)]
  · rw [← hB, B_lss, l1, hK] at hc
    have hc : k < E.length := by simpa using hc
    cbv
    cases hc2 : LB (.cmp .lss K 2000)
    · rw [← hB, B_lss, hK] at hc2
      have hc2 : ¬ k < 2000 := by have h : ¬ (k : Int) < 2000 := of_decide_eq_false hc2; omega
      cbv
      refine ⟨[], 0, Nat.le_refl _, ?_⟩
      cbv
      rw [fin (by rw [show (2000 : Nat) = k by omega]; exact ht)]
    · rw [← hB, B_lss, hK] at hc2
      have hc2 : k < 2000 := by have h : (k : Int) < 2000 := of_decide_eq_true hc2; omega
      obtain ⟨x, hx, hx'⟩ := hE.at hc
      obtain ⟨a0, a1, a2, a3n, a3, rfl, ga3, ea3⟩ := big_ins hx'
      cbv
      refine ⟨k, _, hK, hx, rfl, ?_⟩
      cbv
      cases hd : LB (.cmp .gtr (LI (.len a3)) 200)
      · rw [← hB, ← hI] at hd
        cbv
        refine ⟨[], _, ?_, hinv (k + 1, LI (.ari .add .i64 K 1)) ⟨?_, hc, hc2, any_succ hx ht hd⟩⟩
        · simp only; omega
        · simp only
          rw [← hI, hK]
          exact I_inc (by omega)
      · rw [← hB, ← hI] at hd
        cbv
        refine ⟨[], 0, Nat.le_refl _, ?_⟩
        cbv
        rw [show r = true by rw [← hr, gr06, any_at_take hx hc2 hd]; rfl]
/- bytebarn/bytebarnref07.Great -/
def cc9 : CC :=
 .seq (.reg [
   ⟨(some 1), .box (.t 0), none⟩,
   ⟨(some 2), .mv (.c (.p (.bool false))), none⟩])
 (.seq (.seq (.reg [
   ⟨(some 11), .fa 0 (.t 1), none⟩,
   ⟨(some 12), .ld 1 false (.t 11), none⟩,
   ⟨(some 13), .len false (.t 12), none⟩,
   ⟨(some 14), .fa 1 (.t 1), none⟩,
   ⟨(some 15), .ld 1 false (.t 14), none⟩,
   ⟨(some 16), .len false (.t 15), none⟩,
   ⟨(some 17), .ari .add .i64 (.t 13) (.t 16), none⟩,
   ⟨(some 18), .fa 2 (.t 1), none⟩,
   ⟨(some 19), .ld 1 false (.t 18), none⟩,
   ⟨(some 20), .len false (.t 19), none⟩,
   ⟨(some 21), .ari .add .i64 (.t 17) (.t 20), none⟩,
   ⟨(some 22), .fa 3 (.t 1), none⟩,
   ⟨(some 23), .ld 1 false (.t 22), none⟩,
   ⟨(some 24), .len false (.t 23), none⟩,
   ⟨(some 25), .ari .add .i64 (.t 21) (.t 24), none⟩,
   ⟨(some 26), .fa 4 (.t 1), none⟩,
   ⟨(some 27), .ld 1 false (.t 26), none⟩,
   ⟨(some 28), .len false (.t 27), none⟩,
   ⟨(some 29), .ari .add .i64 (.t 25) (.t 28), none⟩,
   ⟨(some 30), .fa 5 (.t 1), none⟩,
   ⟨(some 31), .ld 1 false (.t 30), none⟩,
   ⟨(some 32), .len false (.t 31), none⟩,
   ⟨(some 33), .ari .add .i64 (.t 29) (.t 32), none⟩,
   ⟨(some 34), .fa 6 (.t 1), none⟩,
   ⟨(some 35), .ld 1 false (.t 34), none⟩,
   ⟨(some 36), .len false (.t 35), none⟩,
   ⟨(some 37), .ari .add .i64 (.t 33) (.t 36), none⟩,
   ⟨(some 38), .fa 7 (.t 1), none⟩,
   ⟨(some 39), .ld 1 false (.t 38), none⟩,
   ⟨(some 40), .len false (.t 39), none⟩,
   ⟨(some 41), .ari .add .i64 (.t 37) (.t 40), none⟩,
   ⟨(some 42), .fa 8 (.t 1), none⟩,
   ⟨(some 43), .ld 1 false (.t 42), none⟩,
   ⟨(some 44), .len false (.t 43), none⟩,
   ⟨(some 45), .ari .add .i64 (.t 41) (.t 44), none⟩,
   ⟨(some 46), .fa 9 (.t 1), none⟩,
   ⟨(some 47), .ld 1 false (.t 46), none⟩,
   ⟨(some 48), .len false (.t 47), none⟩,
   ⟨(some 49), .ari .add .i64 (.t 45) (.t 48), none⟩,
   ⟨(some 50), .fa 10 (.t 1), none⟩,
   ⟨(some 51), .ld 1 false (.t 50), none⟩,
   ⟨(some 52), .len false (.t 51), none⟩,
   ⟨(some 53), .ari .add .i64 (.t 49) (.t 52), none⟩,
   ⟨(some 54), .cmp .gtr (.t 53) (.c (.p (.int .i64 1000))), none⟩])
 (.cond (.t 54)
  (.seq (.reg [
    ⟨(some 2), .mv (.c (.p (.bool true))), none⟩])
  (.ret))
  (.skip)))
 (.seq (.reg [
   ⟨(some 3), .mv (.c (.p (.int .i64 0))), none⟩])
 (.seq (.seq (.reg [
   ⟨(some 4), .mv (.c (.p (.int .i64 0))), none⟩])
 (.block 0 (.loop [1, 3, 4]
   (.seq (.seq (.reg [
     ⟨(some 55), .mv (.t 4), none⟩,
     ⟨(some 56), .fa 0 (.t 1), none⟩,
     ⟨(some 57), .ld 1 false (.t 56), none⟩,
     ⟨(some 58), .len false (.t 57), none⟩,
     ⟨(some 59), .cmp .lss (.t 55) (.t 58), none⟩])
   (.cond (.t 59)
    (.skip)
    (.exit 0)))
   (.seq (.block 1 (.regd [
      ⟨(some 62), .mv (.t 3), none⟩,
      ⟨(some 63), .fa 0 (.t 1), none⟩,
      ⟨(some 64), .ld 1 false (.t 63), none⟩,
      ⟨(some 65), .mv (.t 4), none⟩,
      ⟨(some 66), .ia 2 (.t 64) (.t 65), none⟩,
      ⟨(some 67), .fa 0 (.t 66), none⟩,
      ⟨(some 68), .ld 1 false (.t 67), none⟩,
      ⟨(some 69), .len false (.t 68), none⟩,
      ⟨(some 70), .fa 0 (.t 1), none⟩,
      ⟨(some 71), .ld 1 false (.t 70), none⟩,
      ⟨(some 72), .mv (.t 4), none⟩,
      ⟨(some 73), .ia 2 (.t 71) (.t 72), none⟩,
      ⟨(some 74), .fa 1 (.t 73), none⟩,
      ⟨(some 75), .ld 1 false (.t 74), none⟩,
      ⟨(some 76), .len false (.t 75), none⟩,
      ⟨(some 77), .ari .add .i64 (.t 69) (.t 76), none⟩,
      ⟨(some 78), .ari .add .i64 (.t 62) (.t 77), none⟩,
      ⟨(some 3), .mv (.t 78), none⟩] [[], [], [], [], [], [], [], [], [], [], [], [], [], [], [], [], [], []] [false, false, false, false, false, false, false, false, true, true, true, true, true, true, true, true, true, true]))
   (.reg [
     ⟨(some 60), .mv (.t 4), none⟩,
     ⟨(some 61), .ari .add .i64 (.t 60) (.c (.p (.int .i64 1))), none⟩,
     ⟨(some 4), .mv (.t 61), none⟩]))))))
 (.seq (.seq (.reg [
   ⟨(some 5), .mv (.c (.p (.int .i64 0))), none⟩])
 (.block 2 (.loop [1, 3, 5]
   (.seq (.seq (.reg [
     ⟨(some 79), .mv (.t 5), none⟩,
     ⟨(some 80), .fa 5 (.t 1), none⟩,
     ⟨(some 81), .ld 1 false (.t 80), none⟩,
     ⟨(some 82), .len false (.t 81), none⟩,
     ⟨(some 83), .cmp .lss (.t 79) (.t 82), none⟩])
   (.cond (.t 83)
    (.skip)
    (.exit 2)))
   (.seq (.block 3 (.seq (.reg [
      ⟨(some 86), .fa 5 (.t 1), none⟩,
      ⟨(some 87), .ld 1 false (.t 86), none⟩,
      ⟨(some 88), .mv (.t 5), none⟩,
      ⟨(some 89), .ia 3 (.t 87) (.t 88), none⟩,
      ⟨(some 90), .fa 2 (.t 89), none⟩,
      ⟨(some 91), .ld 1 false (.t 90), none⟩,
      ⟨(some 92), .call 35 [(.t 91)], none⟩])
    (.cond (.t 92)
     (.seq (.reg [
       ⟨(some 2), .mv (.c (.p (.bool true))), none⟩])
     (.ret))
     (.skip))))
   (.reg [
     ⟨(some 84), .mv (.t 5), none⟩,
     ⟨(some 85), .ari .add .i64 (.t 84) (.c (.p (.int .i64 1))), none⟩,
     ⟨(some 5), .mv (.t 85), none⟩]))))))
 (.seq (.seq (.reg [
   ⟨(some 6), .mv (.c (.p (.int .i64 0))), none⟩])
 (.block 4 (.loop [1, 3, 6]
   (.seq (.seq (.reg [
     ⟨(some 93), .mv (.t 6), none⟩,
     ⟨(some 94), .fa 8 (.t 1), none⟩,
     ⟨(some 95), .ld 1 false (.t 94), none⟩,
     ⟨(some 96), .len false (.t 95), none⟩,
     ⟨(some 97), .cmp .lss (.t 93) (.t 96), none⟩])
   (.cond (.t 97)
    (.skip)
    (.exit 4)))
   (.seq (.block 5 (.seq (.reg [
      ⟨(some 100), .mv (.t 3), none⟩,
      ⟨(some 101), .fa 8 (.t 1), none⟩,
      ⟨(some 102), .ld 1 false (.t 101), none⟩,
      ⟨(some 103), .mv (.t 6), none⟩,
      ⟨(some 104), .ia 3 (.t 102) (.t 103), none⟩,
      ⟨(some 105), .fa 2 (.t 104), none⟩,
      ⟨(some 106), .ld 1 false (.t 105), none⟩,
      ⟨(some 107), .len false (.t 106), none⟩,
      ⟨(some 108), .ari .add .i64 (.t 100) (.t 107), none⟩,
      ⟨(some 3), .mv (.t 108), none⟩])
    (.seq (.reg [
      ⟨(some 109), .fa 8 (.t 1), none⟩,
      ⟨(some 110), .ld 1 false (.t 109), none⟩,
      ⟨(some 111), .mv (.t 6), none⟩,
      ⟨(some 112), .ia 3 (.t 110) (.t 111), none⟩,
      ⟨(some 113), .fa 1 (.t 112), none⟩,
      ⟨(some 114), .ld 1 false (.t 113), none⟩,
      ⟨(some 115), .call 35 [(.t 114)], none⟩])
    (.cond (.t 115)
     (.seq (.reg [
       ⟨(some 2), .mv (.c (.p (.bool true))), none⟩])
     (.ret))
     (.skip)))))
   (.reg [
     ⟨(some 98), .mv (.t 6), none⟩,
     ⟨(some 99), .ari .add .i64 (.t 98) (.c (.p (.int .i64 1))), none⟩,
     ⟨(some 6), .mv (.t 99), none⟩]))))))
 (.seq (.seq (.reg [
   ⟨(some 7), .mv (.c (.p (.int .i64 0))), none⟩])
 (.block 6 (.loop [1, 3, 7]
   (.seq (.seq (.reg [
     ⟨(some 116), .mv (.t 7), none⟩,
     ⟨(some 117), .fa 9 (.t 1), none⟩,
     ⟨(some 118), .ld 1 false (.t 117), none⟩,
     ⟨(some 119), .len false (.t 118), none⟩,
     ⟨(some 120), .cmp .lss (.t 116) (.t 119), none⟩])
   (.cond (.t 120)
    (.skip)
    (.exit 6)))
   (.seq (.block 7 (.seq (.reg [
      ⟨(some 123), .mv (.t 3), none⟩,
      ⟨(some 124), .fa 9 (.t 1), none⟩,
      ⟨(some 125), .ld 1 false (.t 124), none⟩,
      ⟨(some 126), .mv (.t 7), none⟩,
      ⟨(some 127), .ia 2 (.t 125) (.t 126), none⟩,
      ⟨(some 128), .fa 0 (.t 127), none⟩,
      ⟨(some 129), .ld 1 false (.t 128), none⟩,
      ⟨(some 130), .len false (.t 129), none⟩,
      ⟨(some 131), .ari .add .i64 (.t 123) (.t 130), none⟩,
      ⟨(some 3), .mv (.t 131), none⟩])
    (.seq (.reg [
      ⟨(some 132), .fa 9 (.t 1), none⟩,
      ⟨(some 133), .ld 1 false (.t 132), none⟩,
      ⟨(some 134), .mv (.t 7), none⟩,
      ⟨(some 135), .ia 2 (.t 133) (.t 134), none⟩,
      ⟨(some 136), .fa 1 (.t 135), none⟩,
      ⟨(some 137), .ld 1 false (.t 136), none⟩,
      ⟨(some 138), .call 35 [(.t 137)], none⟩])
    (.cond (.t 138)
     (.seq (.reg [
       ⟨(some 2), .mv (.c (.p (.bool true))), none⟩])
     (.ret))
     (.skip)))))
   (.reg [
     ⟨(some 121), .mv (.t 7), none⟩,
     ⟨(some 122), .ari .add .i64 (.t 121) (.c (.p (.int .i64 1))), none⟩,
     ⟨(some 7), .mv (.t 122), none⟩]))))))
 (.seq (.seq (.reg [
   ⟨(some 8), .mv (.c (.p (.int .i64 0))), none⟩])
 (.block 8 (.loop [1, 3, 8]
   (.seq (.seq (.reg [
     ⟨(some 139), .mv (.t 8), none⟩,
     ⟨(some 140), .fa 10 (.t 1), none⟩,
     ⟨(some 141), .ld 1 false (.t 140), none⟩,
     ⟨(some 142), .len false (.t 141), none⟩,
     ⟨(some 143), .cmp .lss (.t 139) (.t 142), none⟩])
   (.cond (.t 143)
    (.skip)
    (.exit 8)))
   (.seq (.block 9 (.seq (.reg [
      ⟨(some 146), .mv (.t 3), none⟩,
      ⟨(some 147), .fa 10 (.t 1), none⟩,
      ⟨(some 148), .ld 1 false (.t 147), none⟩,
      ⟨(some 149), .mv (.t 8), none⟩,
      ⟨(some 150), .ia 3 (.t 148) (.t 149), none⟩,
      ⟨(some 151), .fa 2 (.t 150), none⟩,
      ⟨(some 152), .ld 1 false (.t 151), none⟩,
      ⟨(some 153), .len false (.t 152), none⟩,
      ⟨(some 154), .ari .add .i64 (.t 146) (.t 153), none⟩,
      ⟨(some 3), .mv (.t 154), none⟩])
    (.seq (.reg [
      ⟨(some 155), .fa 10 (.t 1), none⟩,
      ⟨(some 156), .ld 1 false (.t 155), none⟩,
      ⟨(some 157), .mv (.t 8), none⟩,
      ⟨(some 158), .ia 3 (.t 156) (.t 157), none⟩,
      ⟨(some 159), .fa 1 (.t 158), none⟩,
      ⟨(some 160), .ld 1 false (.t 159), none⟩,
      ⟨(some 161), .call 35 [(.t 160)], none⟩])
    (.cond (.t 161)
     (.seq (.reg [
       ⟨(some 2), .mv (.c (.p (.bool true))), none⟩])
     (.ret))
     (.skip)))))
   (.reg [
     ⟨(some 144), .mv (.t 8), none⟩,
     ⟨(some 145), .ari .add .i64 (.t 144) (.c (.p (.int .i64 1))), none⟩,
     ⟨(some 8), .mv (.t 145), none⟩]))))))
 (.seq (.seq (.reg [
   ⟨(some 9), .mv (.c (.p (.int .i64 0))), none⟩])
 (.block 10 (.loop [1, 3, 9]
   (.seq (.seq (.reg [
     ⟨(some 162), .mv (.t 9), none⟩,
     ⟨(some 163), .fa 1 (.t 1), none⟩,
     ⟨(some 164), .ld 1 false (.t 163), none⟩,
     ⟨(some 165), .len false (.t 164), none⟩,
     ⟨(some 166), .cmp .lss (.t 162) (.t 165), none⟩])
   (.cond (.t 166)
    (.skip)
    (.exit 10)))
   (.seq (.block 11 (.regd [
      ⟨(some 169), .mv (.t 3), none⟩,
      ⟨(some 170), .fa 1 (.t 1), none⟩,
      ⟨(some 171), .ld 1 false (.t 170), none⟩,
      ⟨(some 172), .mv (.t 9), none⟩,
      ⟨(some 173), .ia 9 (.t 171) (.t 172), none⟩,
      ⟨(some 174), .fa 0 (.t 173), none⟩,
      ⟨(some 175), .ld 1 false (.t 174), none⟩,
      ⟨(some 176), .len true (.t 175), none⟩,
      ⟨(some 177), .fa 1 (.t 1), none⟩,
      ⟨(some 178), .ld 1 false (.t 177), none⟩,
      ⟨(some 179), .mv (.t 9), none⟩,
      ⟨(some 180), .ia 9 (.t 178) (.t 179), none⟩,
      ⟨(some 181), .fa 1 (.t 180), none⟩,
      ⟨(some 182), .ld 1 false (.t 181), none⟩,
      ⟨(some 183), .len true (.t 182), none⟩,
      ⟨(some 184), .ari .add .i64 (.t 176) (.t 183), none⟩,
      ⟨(some 185), .ari .add .i64 (.t 169) (.t 184), none⟩,
      ⟨(some 3), .mv (.t 185), none⟩] [[], [], [], [], [], [], [], [], [], [], [], [], [], [], [], [], [], []] [false, false, false, false, false, false, false, false, true, true, true, true, true, true, true, true, true, true]))
   (.reg [
     ⟨(some 167), .mv (.t 9), none⟩,
     ⟨(some 168), .ari .add .i64 (.t 167) (.c (.p (.int .i64 1))), none⟩,
     ⟨(some 9), .mv (.t 168), none⟩]))))))
 (.seq (.seq (.reg [
   ⟨(some 10), .mv (.c (.p (.int .i64 0))), none⟩])
 (.block 12 (.loop [1, 3, 10]
   (.seq (.seq (.reg [
     ⟨(some 186), .mv (.t 10), none⟩,
     ⟨(some 187), .fa 6 (.t 1), none⟩,
     ⟨(some 188), .ld 1 false (.t 187), none⟩,
     ⟨(some 189), .len false (.t 188), none⟩,
     ⟨(some 190), .cmp .lss (.t 186) (.t 189), none⟩])
   (.cond (.t 190)
    (.skip)
    (.exit 12)))
   (.seq (.block 13 (.reg [
      ⟨(some 193), .mv (.t 3), none⟩,
      ⟨(some 194), .fa 6 (.t 1), none⟩,
      ⟨(some 195), .ld 1 false (.t 194), none⟩,
      ⟨(some 196), .mv (.t 10), none⟩,
      ⟨(some 197), .ia 3 (.t 195) (.t 196), none⟩,
      ⟨(some 198), .fa 0 (.t 197), none⟩,
      ⟨(some 199), .ld 1 false (.t 198), none⟩,
      ⟨(some 200), .len true (.t 199), none⟩,
      ⟨(some 201), .ari .add .i64 (.t 193) (.t 200), none⟩,
      ⟨(some 3), .mv (.t 201), none⟩]))
   (.reg [
     ⟨(some 191), .mv (.t 10), none⟩,
     ⟨(some 192), .ari .add .i64 (.t 191) (.c (.p (.int .i64 1))), none⟩,
     ⟨(some 10), .mv (.t 192), none⟩]))))))
 (.seq (.reg [
   ⟨(some 202), .mv (.t 3), none⟩,
   ⟨(some 203), .cmp .gtr (.t 202) (.c (.p (.int .i64 20000))), none⟩,
   ⟨(some 2), .mv (.t 203), none⟩])
 (.ret)))))))))))
def ann9 : List (List Nat) := [[1, 3, 4], [1, 3, 5], [1, 3, 6], [1, 3, 7], [1, 3, 8], [1, 3, 9], [1, 3, 10]]
theorem comp9 : comp Try.prog Try.f9.ntmps (Try.f9.body.getD .skip) ann9 = some (cc9, []) := by kernel_rfl
theorem body9 : Try.f9.body = some (Try.f9.body.getD .skip) := by kernel_rfl
theorem name9 : (Try.f9.name == "runtime.NumGoroutine") = false := by kernel_rfl
theorem res9 : resC Try.prog Try.f9.results.toList = some [.t 2] := by kernel_rfl
theorem ar9 : Nat.ble 1 Try.f9.ntmps = true := by kernel_rfl
set_option maxHeartbeats 2000000 in
theorem spec9 (x : List PV) (hx : BigL TModule x) : ∃ b, (b = false → HasL TModule x) ∧ Runs Try.prog 9 [.agg (plainP x)] [] (.ret (.p (.bool b)) []) := by
  obtain ⟨a0n, a0, a1n, a1, a2n, a2, a3n, a3, a4n, a4, a5n, a5, a6n, a6, a7n, a7, a8n, a8, a9n, a9, a10n, a10, rfl, ga0, ea0, ga1, ea1, ga2, ea2, ga3, ea3, ga4, ea4, ga5, ea5, ga6, ea6, ga7, ea7, ga8, ea8, ga9, ea9, ga10, ea10⟩ := big_module hx
  refine ⟨gr07 a0 a1 a2 a3 a4 a5 a6 a7 a8 a9 a10, fun hg => ?_, ?_⟩
  · obtain ⟨sm0, sm1, sm2, sm3, sm4, sm5, sm6, sm7, sm8, sm9, sm10⟩ := gr07_small a0 a1 a2 a3 a4 a5 a6 a7 a8 a9 a10 ea0 ea1 ea2 ea3 ea4 ea5 ea6 ea7 ea8 ea9 ea10 hg
    exact ⟨_, _, rfl, ⟨_, _, rfl, ga0, sm0.1, sm0.2⟩, ⟨_, _, rfl, ⟨_, _, rfl, ga1, sm1.1, sm1.2⟩, ⟨_, _, rfl, ⟨_, _, rfl, ga2, sm2.1, sm2.2⟩, ⟨_, _, rfl, ⟨_, _, rfl, ga3, sm3.1, sm3.2⟩, ⟨_, _, rfl, ⟨_, _, rfl, ga4, sm4.1, sm4.2⟩, ⟨_, _, rfl, ⟨_, _, rfl, ga5, sm5.1, sm5.2⟩, ⟨_, _, rfl, ⟨_, _, rfl, ga6, sm6.1, sm6.2⟩, ⟨_, _, rfl, ⟨_, _, rfl, ga7, sm7.1, sm7.2⟩, ⟨_, _, rfl, ⟨_, _, rfl, ga8, sm8.1, sm8.2⟩, ⟨_, _, rfl, ⟨_, _, rfl, ga9, sm9.1, sm9.2⟩, ⟨_, _, rfl, ⟨_, _, rfl, ga10, sm10.1, sm10.2⟩, rfl⟩⟩⟩⟩⟩⟩⟩⟩⟩⟩⟩
  refine runs_len fun _ => ?_
  refine runs_of_wp 13 Try.func9 body9 name9 comp9 res9 (Nat.le_of_ble_eq_true ar9) ?_
  generalize hI : stdI = LI
  generalize hB : stdB = LB
  generalize hE : stdE = LE
  have la0 : LI (.len a0) = a0.length := by rw [← hI]; rfl
  have la1 : LI (.len a1) = a1.length := by rw [← hI]; rfl
  have la2 : LI (.len a2) = a2.length := by rw [← hI]; rfl
  have la3 : LI (.len a3) = a3.length := by rw [← hI]; rfl
  have la4 : LI (.len a4) = a4.length := by rw [← hI]; rfl
  have la5 : LI (.len a5) = a5.length := by rw [← hI]; rfl
  have la6 : LI (.len a6) = a6.length := by rw [← hI]; rfl
  have la7 : LI (.len a7) = a7.length := by rw [← hI]; rfl
  have la8 : LI (.len a8) = a8.length := by rw [← hI]; rfl
  have la9 : LI (.len a9) = a9.length := by rw [← hI]; rfl
  have la10 : LI (.len a10) = a10.length := by rw [← hI]; rfl
  generalize hR : Runs Try.prog = R
  generalize hr : gr07 a0 a1 a2 a3 a4 a5 a6 a7 a8 a9 a10 = r
  cbv
  cases hs : LB (.cmp .gtr (LI (.ari .add .i64 (LI (.ari .add .i64 (LI (.ari .add .i64 (LI (.ari .add .i64 (LI (.ari .add .i64 (LI (.ari .add .i64 (LI (.ari .add .i64 (LI (.ari .add .i64 (LI (.ari .add .i64 (LI (.ari .add .i64 (LI (.len a0)) (LI (.len a1)))) (LI (.len a2)))) (LI (.len a3)))) (LI (.len a4)))) (LI (.len a5)))) (LI (.len a6)))) (LI (.len a7)))) (LI (.len a8)))) (LI (.len a9)))) (LI (.len a10)))) 1000)
  · rw [← hB, ← hI] at hs
    cbv
    refine loopR (α := Nat × Int × Int) [] 1 (Nat.zero_le _) (fun s a => s.sett 4 (.p (.int .i64 a.2.1)) |>.sett 3 (.p (.int .i64 a.2.2))) (fun a => a0.length - a.1) (fun a => a.2.1 = a.1 ∧ a.1 ≤ a0.length ∧ a.2.2 = (a0.take a.1).foldl (fun A e => add A (add (lenOf e 0) (lenOf e 1))) 0) (0, 0, 0) ⟨rfl, Nat.zero_le _, rfl⟩ (by cbv) ?_
    rintro S hS inv hinv ⟨k, K, A⟩ ⟨hK, hk, hA⟩
    subst hS
    simp only at hK hk hA
    have hb := ea0.1
    cbv
    cases hc : LB (.cmp .lss K (LI (.len a0)))
    · rw [← hB, B_lss, la0, hK] at hc
      have hc : ¬ k < a0.length := by simpa using hc
      cbv
      have hA0 : A = a0.foldl (fun A e => add A (add (lenOf e 0) (lenOf e 1))) 0 := by rw [hA]; exact fold_all (by omega)
      clear hA
      clear hinv
      obtain ⟨B0, hB0⟩ : ∃ B0, B0 = A := ⟨_, rfl⟩
      rw [← hB0] at hA0 ⊢
      refine loopR (α := Nat × Int) [] 1 (Nat.zero_le _) (fun s a => s.sett 5 (.p (.int .i64 a.2))) (fun a => a5.length - a.1) (fun a => a.2 = a.1 ∧ a.1 ≤ a5.length ∧ (a5.take a.1).any (fun e => gr06 (elsOf e 2)) = false) (0, 0) ⟨rfl, Nat.zero_le _, any_nil _ _⟩ (by cbv) ?_
      rintro S hS inv hinv ⟨k, K⟩ ⟨hK, hk, hg⟩
      subst hS
      simp only at hK hk hg
      have hb := ea5.1
      cbv
      cases hc : LB (.cmp .lss K (LI (.len a5)))
      · rw [← hB, B_lss, la5, hK] at hc
        have hc : ¬ k < a5.length := by simpa using hc
        cbv
        have hg5 : a5.any (fun e => gr06 (elsOf e 2)) = false := any_all hg (by omega)
        clear hg
        clear hinv
        refine loopR (α := Nat × Int × Int) [] 1 (Nat.zero_le _) (fun s a => s.sett 6 (.p (.int .i64 a.2.1)) |>.sett 3 (.p (.int .i64 a.2.2))) (fun a => a8.length - a.1) (fun a => a.2.1 = a.1 ∧ a.1 ≤ a8.length ∧ a.2.2 = (a8.take a.1).foldl (fun A e => add A (lenOf e 2)) B0 ∧ (a8.take a.1).any (fun e => gr06 (elsOf e 1)) = false) (0, 0, B0) ⟨rfl, Nat.zero_le _, rfl, any_nil _ _⟩ (by cbv) ?_
        rintro S hS inv hinv ⟨k, K, A⟩ ⟨hK, hk, hA, hg⟩
        subst hS
        simp only at hK hk hA hg
        have hb := ea8.1
        cbv
        cases hc : LB (.cmp .lss K (LI (.len a8)))
        · rw [← hB, B_lss, la8, hK] at hc
          have hc : ¬ k < a8.length := by simpa using hc
          cbv
          have hA8 : A = a8.foldl (fun A e => add A (lenOf e 2)) B0 := by rw [hA]; exact fold_all (by omega)
          clear hA
          have hg8 : a8.any (fun e => gr06 (elsOf e 1)) = false := any_all hg (by omega)
          clear hg
          clear hinv
          obtain ⟨B8, hB8⟩ : ∃ B8, B8 = A := ⟨_, rfl⟩
          rw [← hB8] at hA8 ⊢
          refine loopR (α := Nat × Int × Int) [] 1 (Nat.zero_le _) (fun s a => s.sett 7 (.p (.int .i64 a.2.1)) |>.sett 3 (.p (.int .i64 a.2.2))) (fun a => a9.length - a.1) (fun a => a.2.1 = a.1 ∧ a.1 ≤ a9.length ∧ a.2.2 = (a9.take a.1).foldl (fun A e => add A (lenOf e 0)) B8 ∧ (a9.take a.1).any (fun e => gr06 (elsOf e 1)) = false) (0, 0, B8) ⟨rfl, Nat.zero_le _, rfl, any_nil _ _⟩ (by cbv) ?_
          rintro S hS inv hinv ⟨k, K, A⟩ ⟨hK, hk, hA, hg⟩
          subst hS
          simp only at hK hk hA hg
          have hb := ea9.1
          cbv
          cases hc : LB (.cmp .lss K (LI (.len a9)))
          · rw [← hB, B_lss, la9, hK] at hc
            have hc : ¬ k < a9.length := by simpa using hc
            cbv
            have hA9 : A = a9.foldl (fun A e => add A (lenOf e 0)) B8 := by rw [hA]; exact fold_all (by omega)
            clear hA
            have hg9 : a9.any (fun e => gr06 (elsOf e 1)) = false := any_all hg (by omega)
            clear hg
            clear hinv
            obtain ⟨B9, hB9⟩ : ∃ B9, B9 = A := ⟨_, rfl⟩
            rw [← hB9] at hA9 ⊢
            refine loopR (α := Nat × Int × Int) [] 1 (Nat.zero_le _) (fun s a => s.sett 8 (.p (.int .i64 a.2.1)) |>.sett 3 (.p (.int .i64 a.2.2))) (fun a => a10.length - a.1) (fun a => a.2.1 = a.1 ∧ a.1 ≤ a10.length ∧ a.2.2 = (a10.take a.1).foldl (fun A e => add A (lenOf e 2)) B9 ∧ (a10.take a.1).any (fun e => gr06 (elsOf e 1)) = false) (0, 0, B9) ⟨rfl, Nat.zero_le _, rfl, any_nil _ _⟩ (by cbv) ?_
            rintro S hS inv hinv ⟨k, K, A⟩ ⟨hK, hk, hA, hg⟩
            subst hS
            simp only at hK hk hA hg
            have hb := ea10.1
            cbv
            cases hc : LB (.cmp .lss K (LI (.len a10)))
            · rw [← hB, B_lss, la10, hK] at hc
              have hc : ¬ k < a10.length := by simpa using hc
              cbv
              have hA10 : A = a10.foldl (fun A e => add A (lenOf e 2)) B9 := by rw [hA]; exact fold_all (by omega)
              clear hA
              have hg10 : a10.any (fun e => gr06 (elsOf e 1)) = false := any_all hg (by omega)
              clear hg
              clear hinv
              obtain ⟨B10, hB10⟩ : ∃ B10, B10 = A := ⟨_, rfl⟩
              rw [← hB10] at hA10 ⊢
              refine loopR (α := Nat × Int × Int) [] 1 (Nat.zero_le _) (fun s a => s.sett 9 (.p (.int .i64 a.2.1)) |>.sett 3 (.p (.int .i64 a.2.2))) (fun a => a1.length - a.1) (fun a => a.2.1 = a.1 ∧ a.1 ≤ a1.length ∧ a.2.2 = (a1.take a.1).foldl (fun A e => add A (add (lenOf e 0) (lenOf e 1))) B10) (0, 0, B10) ⟨rfl, Nat.zero_le _, rfl⟩ (by cbv) ?_
              rintro S hS inv hinv ⟨k, K, A⟩ ⟨hK, hk, hA⟩
              subst hS
              simp only at hK hk hA
              have hb := ea1.1
              cbv
              cases hc : LB (.cmp .lss K (LI (.len a1)))
              · rw [← hB, B_lss, la1, hK] at hc
                have hc : ¬ k < a1.length := by simpa using hc
                cbv
                have hA1 : A = a1.foldl (fun A e => add A (add (lenOf e 0) (lenOf e 1))) B10 := by rw [hA]; exact fold_all (by omega)
                clear hA
                clear hinv
                obtain ⟨B1, hB1⟩ : ∃ B1, B1 = A := ⟨_, rfl⟩
                rw [← hB1] at hA1 ⊢
                refine loopR (α := Nat × Int × Int) [] 1 (Nat.zero_le _) (fun s a => s.sett 10 (.p (.int .i64 a.2.1)) |>.sett 3 (.p (.int .i64 a.2.2))) (fun a => a6.length - a.1) (fun a => a.2.1 = a.1 ∧ a.1 ≤ a6.length ∧ a.2.2 = (a6.take a.1).foldl (fun A e => add A (lenOf e 0)) B1) (0, 0, B1) ⟨rfl, Nat.zero_le _, rfl⟩ (by cbv) ?_
                rintro S hS inv hinv ⟨k, K, A⟩ ⟨hK, hk, hA⟩
                subst hS
                simp only at hK hk hA
                have hb := ea6.1
                cbv
                cases hc : LB (.cmp .lss K (LI (.len a6)))
                · rw [← hB, B_lss, la6, hK] at hc
                  have hc : ¬ k < a6.length := by simpa using hc
                  cbv
                  have hA6 : A = a6.foldl (fun A e => add A (lenOf e 0)) B1 := by rw [hA]; exact fold_all (by omega)
                  clear hA
                  clear hinv
                  obtain ⟨B6, hB6⟩ : ∃ B6, B6 = A := ⟨_, rfl⟩
                  rw [← hB6] at hA6 ⊢
                  refine ⟨[], 0, Nat.le_refl _, ?_⟩
                  cbv
                  rw [show LB (.cmp .gtr B6 20000) = r by
                      rw [← hr, gr07]
                      simp only [hs, hg5, hg8, hg9, hg10, Bool.true_or, Bool.or_true, Bool.false_or, Bool.or_false]
                      rw [hA6, hA1, hA10, hA9, hA8, hA0, hB]]
                · rw [← hB, B_lss, la6, hK] at hc
                  have hc : k < a6.length := by simpa using hc
                  obtain ⟨x, hx, hx'⟩ := ea6.at hc
                  obtain ⟨p0, p1, p2, rfl, sl0⟩ := big_export hx'
                  cbv
                  refine ⟨k, _, hK, hx, rfl, ?_⟩
                  cbv
                  refine ⟨[], _, ?_, hinv (k + 1, LI (.ari .add .i64 K 1), LI (.ari .add .i64 A (LI (.slen p0)))) ⟨?_, hc, ?_⟩⟩
                  · simp only; omega
                  · simp only
                    rw [← hI, hK]
                    exact I_inc (by omega)
                  · simp only
                    rw [fold_succ hx, ← hA, ← hI]
                    rfl
              · rw [← hB, B_lss, la1, hK] at hc
                have hc : k < a1.length := by simpa using hc
                obtain ⟨x, hx, hx'⟩ := ea1.at hc
                obtain ⟨p0, p1, p2, p3, p4, p5, p6, p7, p8, rfl, sl0, sl1⟩ := big_import hx'
                cbv
                refine ⟨k, _, hK, hx, rfl, ?_⟩
                cbv
                refine ⟨k, _, hK, hx, rfl, ?_⟩
                cbv
                refine ⟨[], _, ?_, hinv (k + 1, LI (.ari .add .i64 K 1), LI (.ari .add .i64 A (LI (.ari .add .i64 (LI (.slen p0)) (LI (.slen p1)))))) ⟨?_, hc, ?_⟩⟩
                · simp only; omega
                · simp only
                  rw [← hI, hK]
                  exact I_inc (by omega)
                · simp only
                  rw [fold_succ hx, ← hA, ← hI]
                  rfl
            · rw [← hB, B_lss, la10, hK] at hc
              have hc : k < a10.length := by simpa using hc
              obtain ⟨x, hx, hx'⟩ := ea10.at hc
              obtain ⟨p0, p1n, p1, p2n, p2, rfl, gp1, ep1, gp2, ep2⟩ := big_data hx'
              cbv
              refine ⟨k, _, hK, hx, rfl, ?_⟩
              cbv
              refine ⟨k, _, hK, hx, rfl, ?_⟩
              cbv
              have q := spec35 p1n p1 ep1
              rw [hR] at q
              generalize hcb : gr06 p1 = b at q
              refine ⟨[], trivial, ?_⟩
              cbv
              refine ⟨[], rfl, _, q, Or.inl rfl, ?_⟩
              cbv
              cases b
              · cbv
                refine ⟨[], _, ?_, hinv (k + 1, LI (.ari .add .i64 K 1), LI (.ari .add .i64 A (LI (.len p2)))) ⟨?_, hc, ?_, any_succ hx hg hcb⟩⟩
                · simp only; omega
                · simp only
                  rw [← hI, hK]
                  exact I_inc (by omega)
                · simp only
                  rw [fold_succ hx, ← hA, ← hI]
                  rfl
              · cbv
                have hg10 : a10.any (fun e => gr06 (elsOf e 1)) = true := any_at hx hcb
                refine ⟨[], 0, Nat.le_refl _, ?_⟩
                cbv
                rw [show r = true by rw [← hr, gr07]; simp only [hs, hg5, hg8, hg9, hg10, Bool.true_or, Bool.or_true, Bool.false_or, Bool.or_false]]
          · rw [← hB, B_lss, la9, hK] at hc
            have hc : k < a9.length := by simpa using hc
            obtain ⟨x, hx, hx'⟩ := ea9.at hc
            obtain ⟨p0n, p0, p1n, p1, rfl, gp0, ep0, gp1, ep1⟩ := big_code hx'
            cbv
            refine ⟨k, _, hK, hx, rfl, ?_⟩
            cbv
            refine ⟨k, _, hK, hx, rfl, ?_⟩
            cbv
            have q := spec35 p1n p1 ep1
            rw [hR] at q
            generalize hcb : gr06 p1 = b at q
            refine ⟨[], trivial, ?_⟩
            cbv
            refine ⟨[], rfl, _, q, Or.inl rfl, ?_⟩
            cbv
            cases b
            · cbv
              refine ⟨[], _, ?_, hinv (k + 1, LI (.ari .add .i64 K 1), LI (.ari .add .i64 A (LI (.len p0)))) ⟨?_, hc, ?_, any_succ hx hg hcb⟩⟩
              · simp only; omega
              · simp only
                rw [← hI, hK]
                exact I_inc (by omega)
              · simp only
                rw [fold_succ hx, ← hA, ← hI]
                rfl
            · cbv
              have hg9 : a9.any (fun e => gr06 (elsOf e 1)) = true := any_at hx hcb
              refine ⟨[], 0, Nat.le_refl _, ?_⟩
              cbv
              rw [show r = true by rw [← hr, gr07]; simp only [hs, hg5, hg8, hg9, Bool.true_or, Bool.or_true, Bool.false_or, Bool.or_false]]
        · rw [← hB, B_lss, la8, hK] at hc
          have hc : k < a8.length := by simpa using hc
          obtain ⟨x, hx, hx'⟩ := ea8.at hc
          obtain ⟨p0, p1n, p1, p2n, p2, rfl, gp1, ep1, gp2, ep2⟩ := big_elem hx'
          cbv
          refine ⟨k, _, hK, hx, rfl, ?_⟩
          cbv
          refine ⟨k, _, hK, hx, rfl, ?_⟩
          cbv
          have q := spec35 p1n p1 ep1
          rw [hR] at q
          generalize hcb : gr06 p1 = b at q
          refine ⟨[], trivial, ?_⟩
          cbv
          refine ⟨[], rfl, _, q, Or.inl rfl, ?_⟩
          cbv
          cases b
          · cbv
            refine ⟨[], _, ?_, hinv (k + 1, LI (.ari .add .i64 K 1), LI (.ari .add .i64 A (LI (.len p2)))) ⟨?_, hc, ?_, any_succ hx hg hcb⟩⟩
            · simp only; omega
            · simp only
              rw [← hI, hK]
              exact I_inc (by omega)
            · simp only
              rw [fold_succ hx, ← hA, ← hI]
              rfl
          · cbv
            have hg8 : a8.any (fun e => gr06 (elsOf e 1)) = true := any_at hx hcb
            refine ⟨[], 0, Nat.le_refl _, ?_⟩
            cbv
            rw [show r = true by rw [← hr, gr07]; simp only [hs, hg5, hg8, Bool.true_or, Bool.or_true, Bool.false_or, Bool.or_false]]
      · rw [← hB, B_lss, la5, hK] at hc
        have hc : k < a5.length := by simpa using hc
        obtain ⟨x, hx, hx'⟩ := ea5.at hc
        obtain ⟨p0, p1, p2n, p2, rfl, gp2, ep2⟩ := big_global hx'
        cbv
        refine ⟨k, _, hK, hx, rfl, ?_⟩
        cbv
        have q := spec35 p2n p2 ep2
        rw [hR] at q
        generalize hcb : gr06 p2 = b at q
        refine ⟨[], trivial, ?_⟩
        cbv
        refine ⟨[], rfl, _, q, Or.inl rfl, ?_⟩
        cbv
        cases b
        · cbv
          refine ⟨[], _, ?_, hinv (k + 1, LI (.ari .add .i64 K 1)) ⟨?_, hc, any_succ hx hg hcb⟩⟩
          · simp only; omega
          · simp only
            rw [← hI, hK]
            exact I_inc (by omega)
        · cbv
          have hg5 : a5.any (fun e => gr06 (elsOf e 2)) = true := any_at hx hcb
          refine ⟨[], 0, Nat.le_refl _, ?_⟩
          cbv
          rw [show r = true by rw [← hr, gr07]; simp only [hs, hg5, Bool.true_or, Bool.or_true, Bool.false_or, Bool.or_false]]
    · rw [← hB, B_lss, la0, hK] at hc
      have hc : k < a0.length := by simpa using hc
      obtain ⟨x, hx, hx'⟩ := ea0.at hc
      obtain ⟨p0n, p0, p1n, p1, rfl, gp0, ep0, gp1, ep1⟩ := big_type hx'
      cbv
      refine ⟨k, _, hK, hx, rfl, ?_⟩
      cbv
      refine ⟨k, _, hK, hx, rfl, ?_⟩
      cbv
      refine ⟨[], _, ?_, hinv (k + 1, LI (.ari .add .i64 K 1), LI (.ari .add .i64 A (LI (.ari .add .i64 (LI (.len p0)) (LI (.len p1)))))) ⟨?_, hc, ?_⟩⟩
      · simp only; omega
      · simp only
        rw [← hI, hK]
        exact I_inc (by omega)
      · simp only
        rw [fold_succ hx, ← hA, ← hI]
        rfl
  · rw [← hB, ← hI] at hs
    cbv
    have hs := hs
    refine ⟨[], 0, Nat.le_refl _, ?_⟩
    cbv
    rw [show r = true by rw [← hr, gr07]; simp only [hs, Bool.true_or, Bool.or_true, Bool.false_or, Bool.or_false]]
end Go.Ab
/- Functions that compare lists, element by element. -/
set_option linter.unusedVariables false
set_option linter.unusedSimpArgs false
namespace Go.Ab
open Go.Proofs
/- slices.Equal(()int,int) -/
def cc57 : CC :=
 .seq (.reg [
   ⟨(some 4), .mv (.c (.p (.bool false))), none⟩])
 (.seq (.seq (.reg [
   ⟨(some 6), .mv (.t 0), none⟩,
   ⟨(some 7), .len false (.t 6), none⟩,
   ⟨(some 8), .mv (.t 1), none⟩,
   ⟨(some 9), .len false (.t 8), none⟩,
   ⟨(some 10), .cmp .neq (.t 7) (.t 9), none⟩])
 (.cond (.t 10)
  (.seq (.reg [
    ⟨(some 4), .mv (.c (.p (.bool false))), none⟩])
  (.ret))
  (.skip)))
 (.seq (.seq (.reg [
   ⟨(some 11), .mv (.t 0), none⟩,
   ⟨(some 12), .len false (.t 11), none⟩,
   ⟨(some 13), .mv (.c (.p (.int .i64 0))), none⟩])
 (.block 0 (.loop [0, 1, 12, 13]
   (.seq (.reg [
     ⟨(some 14), .cmp .lss (.t 13) (.t 12), none⟩])
   (.seq (.cond (.t 14)
    (.skip)
    (.exit 0))
   (.seq (.block 1 (.seq (.reg [
      ⟨(some 15), .mv (.t 13), none⟩,
      ⟨(some 5), .mv (.t 15), none⟩])
    (.seq (.regd [
      ⟨(some 16), .mv (.t 0), none⟩,
      ⟨(some 17), .mv (.t 5), none⟩,
      ⟨(some 18), .ia 1 (.t 16) (.t 17), none⟩,
      ⟨(some 19), .ld 1 false (.t 18), none⟩,
      ⟨(some 20), .mv (.t 1), none⟩,
      ⟨(some 21), .mv (.t 5), none⟩,
      ⟨(some 22), .ia 1 (.t 20) (.t 21), none⟩,
      ⟨(some 23), .ld 1 false (.t 22), none⟩,
      ⟨(some 24), .cmp .neq (.t 19) (.t 23), none⟩] [[], [], [], [], [], [], [], [], []] [false, false, false, false, true, true, true, true, true])
    (.cond (.t 24)
     (.seq (.reg [
       ⟨(some 4), .mv (.c (.p (.bool false))), none⟩])
     (.ret))
     (.skip)))))
   (.reg [
     ⟨(some 25), .ari .add .i64 (.t 13) (.c (.p (.int .i64 1))), none⟩,
     ⟨(some 13), .mv (.t 25), none⟩])))))))
 (.seq (.reg [
   ⟨(some 4), .mv (.c (.p (.bool true))), none⟩])
 (.ret))))
def ann57 : List (List Nat) := [[0, 1, 12, 13]]
theorem comp57 : comp Try.prog Try.f57.ntmps (Try.f57.body.getD .skip) ann57 = some (cc57, []) := by kernel_rfl
theorem body57 : Try.f57.body = some (Try.f57.body.getD .skip) := by kernel_rfl
theorem name57 : (Try.f57.name == "runtime.NumGoroutine") = false := by kernel_rfl
theorem res57 : resC Try.prog Try.f57.results.toList = some [.t 4] := by kernel_rfl
theorem ar57 : Nat.ble 2 Try.f57.ntmps = true := by kernel_rfl
theorem spec57 (n1 n2 : Bool) (E1 E2 : List (List PV)) (h1 : HasE TI64 E1) (h2 : HasE TI64 E2) : Runs Try.prog 57 [.p (.isl n1 1 E1), .p (.isl n2 1 E2)] [] (.ret (.p (.bool (sameE E1 E2))) []) := by
  refine runs_len fun _ => ?_
  refine runs_of_wp 2 Try.func57 body57 name57 comp57 res57 (Nat.le_of_ble_eq_true ar57) ?_
  generalize hI : stdI = LI
  generalize hB : stdB = LB
  generalize hE : stdE = LE
  generalize hR : Runs Try.prog = R
  generalize hr : sameE E1 E2 = r
  have hb1 := h1.1
  cbv
  have e1 : LI (.len E1) = E1.length := by rw [← hI]; rfl
  have e2 : LI (.len E2) = E2.length := by rw [← hI]; rfl
  cases hb : LB (.cmp .neq (LI (.len E1)) (LI (.len E2)))
  · rw [← hB, B_neq, e1, e2] at hb
    have hb : E1.length = E2.length := by simp only [bne_eq_false_iff_eq] at hb; omega
    cbv
    refine loopR (α := Nat × Int) [] 0 (Nat.le_refl _) (fun s a => s.sett 13 (.p (.int .i64 a.2))) (fun a => E1.length - a.1) (fun a => a.2 = a.1 ∧ a.1 ≤ E1.length ∧ firsts a.1 E1 E2) (0, 0) ⟨rfl, Nat.zero_le _, firsts_zero _ _⟩ (by cbv) ?_
    rintro S1 hS inv hinv ⟨k, K⟩ ⟨hK, hk, ht⟩
    rw [hS] at hinv ⊢
    simp only at hK hk ht
    cbv
    cases hc : LB (.cmp .lss K (LI (.len E1)))
    · rw [← hB, B_lss, e1, hK] at hc
      have hc : ¬ k < E1.length := by simpa using hc
      cbv
      refine ⟨[], 0, Nat.le_refl _, ?_⟩
      cbv
      rw [show r = true by rw [← hr]; exact firsts_all ht (by omega) (by omega)]
    · rw [← hB, B_lss, e1, hK] at hc
      have hc : k < E1.length := by simpa using hc
      obtain ⟨x, hx, hx'⟩ := h1.at hc
      obtain ⟨y, hy, hy'⟩ := h2.at (k := k) (by omega)
      obtain ⟨a0, rfl⟩ := has_i64 hx'
      obtain ⟨b0, rfl⟩ := has_i64 hy'
      cbv
      refine ⟨k, _, hK, hx, rfl, ?_⟩
      cbv
      refine ⟨k, _, hK, hy, rfl, ?_⟩
      cbv
      split
      · rename_i hd
        rw [← hB] at hd
        have hd : sameC [.int .i64 a0] [.int .i64 b0] = false := by
          cases he : sameC [.int .i64 a0] [.int .i64 b0] with
          | false => rfl
          | true =>
            simp [sameC_cons, sameC_nil, same1_int, same1_bool, same1_str, same1_isl] at he
            simp [B_neq, B_eql, B_and, B_not, B_eq, B_seq, he] at hd
        refine ⟨[], 0, Nat.le_refl _, ?_⟩
        cbv
        rw [show r = false by rw [← hr]; exact sameE_at hx hy hd]
      · rename_i hd
        rw [← hB] at hd
        have hd : sameC [.int .i64 a0] [.int .i64 b0] = true := by
          simpa [B_neq, B_eql, B_and, B_not, B_eq, B_seq, sameC_cons, sameC_nil, same1_int, same1_bool, same1_str, same1_isl] using hd
        cbv
        refine ⟨[], _, ?_, hinv (k + 1, LI (.ari .add .i64 K 1)) ⟨?_, hc, firsts_succ hx hy ht hd⟩⟩
        · simp only; omega
        · simp only
          rw [← hI, hK]
          exact I_inc (by omega)
  · rw [← hB, B_neq, e1, e2] at hb
    cbv
    refine ⟨[], 0, Nat.le_refl _, ?_⟩
    cbv
    rw [show r = false by rw [← hr]; exact sameE_len (fun h => by rw [h] at hb; simp at hb)]
/- slices.Equal(()bytebarn/api.Import,bytebarn/api.Import) -/
def cc56 : CC :=
 .seq (.reg [
   ⟨(some 4), .mv (.c (.p (.bool false))), none⟩])
 (.seq (.seq (.reg [
   ⟨(some 6), .mv (.t 0), none⟩,
   ⟨(some 7), .len false (.t 6), none⟩,
   ⟨(some 8), .mv (.t 1), none⟩,
   ⟨(some 9), .len false (.t 8), none⟩,
   ⟨(some 10), .cmp .neq (.t 7) (.t 9), none⟩])
 (.cond (.t 10)
  (.seq (.reg [
    ⟨(some 4), .mv (.c (.p (.bool false))), none⟩])
  (.ret))
  (.skip)))
 (.seq (.seq (.reg [
   ⟨(some 11), .mv (.t 0), none⟩,
   ⟨(some 12), .len false (.t 11), none⟩,
   ⟨(some 13), .mv (.c (.p (.int .i64 0))), none⟩])
 (.block 0 (.loop [0, 1, 12, 13]
   (.seq (.reg [
     ⟨(some 14), .cmp .lss (.t 13) (.t 12), none⟩])
   (.seq (.cond (.t 14)
    (.skip)
    (.exit 0))
   (.seq (.block 1 (.seq (.reg [
      ⟨(some 15), .mv (.t 13), none⟩,
      ⟨(some 5), .mv (.t 15), none⟩])
    (.seq (.regd [
      ⟨(some 16), .mv (.t 0), none⟩,
      ⟨(some 17), .mv (.t 5), none⟩,
      ⟨(some 18), .ia 9 (.t 16) (.t 17), none⟩,
      ⟨(some 19), .ld 9 true (.t 18), none⟩,
      ⟨(some 20), .mv (.t 1), none⟩,
      ⟨(some 21), .mv (.t 5), none⟩,
      ⟨(some 22), .ia 9 (.t 20) (.t 21), none⟩,
      ⟨(some 23), .ld 9 true (.t 22), none⟩,
      ⟨(some 24), .aeq true [(0, 2), (1, 2), (2, 0), (3, 0), (4, 0), (5, 0), (6, 1), (7, 0), (8, 1)] (.t 19) (.t 23), none⟩] [[], [], [], [], [], [], [], [], []] [false, false, false, false, true, true, true, true, true])
    (.cond (.t 24)
     (.seq (.reg [
       ⟨(some 4), .mv (.c (.p (.bool false))), none⟩])
     (.ret))
     (.skip)))))
   (.reg [
     ⟨(some 25), .ari .add .i64 (.t 13) (.c (.p (.int .i64 1))), none⟩,
     ⟨(some 13), .mv (.t 25), none⟩])))))))
 (.seq (.reg [
   ⟨(some 4), .mv (.c (.p (.bool true))), none⟩])
 (.ret))))
def ann56 : List (List Nat) := [[0, 1, 12, 13]]
theorem comp56 : comp Try.prog Try.f56.ntmps (Try.f56.body.getD .skip) ann56 = some (cc56, []) := by kernel_rfl
theorem body56 : Try.f56.body = some (Try.f56.body.getD .skip) := by kernel_rfl
theorem name56 : (Try.f56.name == "runtime.NumGoroutine") = false := by kernel_rfl
theorem res56 : resC Try.prog Try.f56.results.toList = some [.t 4] := by kernel_rfl
theorem ar56 : Nat.ble 2 Try.f56.ntmps = true := by kernel_rfl
theorem spec56 (n1 n2 : Bool) (E1 E2 : List (List PV)) (h1 : HasE TImport E1) (h2 : HasE TImport E2) : Runs Try.prog 56 [.p (.isl n1 9 E1), .p (.isl n2 9 E2)] [] (.ret (.p (.bool (sameE E1 E2))) []) := by
  refine runs_len fun _ => ?_
  refine runs_of_wp 2 Try.func56 body56 name56 comp56 res56 (Nat.le_of_ble_eq_true ar56) ?_
  generalize hI : stdI = LI
  generalize hB : stdB = LB
  generalize hE : stdE = LE
  generalize hR : Runs Try.prog = R
  generalize hr : sameE E1 E2 = r
  have hb1 := h1.1
  cbv
  have e1 : LI (.len E1) = E1.length := by rw [← hI]; rfl
  have e2 : LI (.len E2) = E2.length := by rw [← hI]; rfl
  cases hb : LB (.cmp .neq (LI (.len E1)) (LI (.len E2)))
  · rw [← hB, B_neq, e1, e2] at hb
    have hb : E1.length = E2.length := by simp only [bne_eq_false_iff_eq] at hb; omega
    cbv
    refine loopR (α := Nat × Int) [] 0 (Nat.le_refl _) (fun s a => s.sett 13 (.p (.int .i64 a.2))) (fun a => E1.length - a.1) (fun a => a.2 = a.1 ∧ a.1 ≤ E1.length ∧ firsts a.1 E1 E2) (0, 0) ⟨rfl, Nat.zero_le _, firsts_zero _ _⟩ (by cbv) ?_
    rintro S1 hS inv hinv ⟨k, K⟩ ⟨hK, hk, ht⟩
    rw [hS] at hinv ⊢
    simp only at hK hk ht
    cbv
    cases hc : LB (.cmp .lss K (LI (.len E1)))
    · rw [← hB, B_lss, e1, hK] at hc
      have hc : ¬ k < E1.length := by simpa using hc
      cbv
      refine ⟨[], 0, Nat.le_refl _, ?_⟩
      cbv
      rw [show r = true by rw [← hr]; exact firsts_all ht (by omega) (by omega)]
    · rw [← hB, B_lss, e1, hK] at hc
      have hc : k < E1.length := by simpa using hc
      obtain ⟨x, hx, hx'⟩ := h1.at hc
      obtain ⟨y, hy, hy'⟩ := h2.at (k := k) (by omega)
      obtain ⟨a0, a1, a2, a3, a4, a5, a6, a7, a8, rfl⟩ := has_import hx'
      obtain ⟨b0, b1, b2, b3, b4, b5, b6, b7, b8, rfl⟩ := has_import hy'
      cbv
      refine ⟨k, _, hK, hx, rfl, ?_⟩
      cbv
      refine ⟨k, _, hK, hy, rfl, ?_⟩
      cbv
      split
      · rename_i hd
        rw [← hB] at hd
        have hd : sameC [.str a0, .str a1, .int .u8 a2, .int .i64 a3, .int .i64 a4, .int .i64 a5, .bool a6, .int .u8 a7, .bool a8] [.str b0, .str b1, .int .u8 b2, .int .i64 b3, .int .i64 b4, .int .i64 b5, .bool b6, .int .u8 b7, .bool b8] = false := by
          cases he : sameC [.str a0, .str a1, .int .u8 a2, .int .i64 a3, .int .i64 a4, .int .i64 a5, .bool a6, .int .u8 a7, .bool a8] [.str b0, .str b1, .int .u8 b2, .int .i64 b3, .int .i64 b4, .int .i64 b5, .bool b6, .int .u8 b7, .bool b8] with
          | false => rfl
          | true =>
            simp [sameC_cons, sameC_nil, same1_int, same1_bool, same1_str, same1_isl] at he
            simp [B_neq, B_eql, B_and, B_not, B_eq, B_seq, he] at hd
        refine ⟨[], 0, Nat.le_refl _, ?_⟩
        cbv
        rw [show r = false by rw [← hr]; exact sameE_at hx hy hd]
      · rename_i hd
        rw [← hB] at hd
        have hd : sameC [.str a0, .str a1, .int .u8 a2, .int .i64 a3, .int .i64 a4, .int .i64 a5, .bool a6, .int .u8 a7, .bool a8] [.str b0, .str b1, .int .u8 b2, .int .i64 b3, .int .i64 b4, .int .i64 b5, .bool b6, .int .u8 b7, .bool b8] = true := by
          simpa [B_neq, B_eql, B_and, B_not, B_eq, B_seq, sameC_cons, sameC_nil, same1_int, same1_bool, same1_str, same1_isl] using hd
        cbv
        refine ⟨[], _, ?_, hinv (k + 1, LI (.ari .add .i64 K 1)) ⟨?_, hc, firsts_succ hx hy ht hd⟩⟩
        · simp only; omega
        · simp only
          rw [← hI, hK]
          exact I_inc (by omega)
  · rw [← hB, B_neq, e1, e2] at hb
    cbv
    refine ⟨[], 0, Nat.le_refl _, ?_⟩
    cbv
    rw [show r = false by rw [← hr]; exact sameE_len (fun h => by rw [h] at hb; simp at hb)]
/- slices.Equal(()bytebarn/api.Limits,bytebarn/api.Limits) -/
def cc58 : CC :=
 .seq (.reg [
   ⟨(some 4), .mv (.c (.p (.bool false))), none⟩])
 (.seq (.seq (.reg [
   ⟨(some 6), .mv (.t 0), none⟩,
   ⟨(some 7), .len false (.t 6), none⟩,
   ⟨(some 8), .mv (.t 1), none⟩,
   ⟨(some 9), .len false (.t 8), none⟩,
   ⟨(some 10), .cmp .neq (.t 7) (.t 9), none⟩])
 (.cond (.t 10)
  (.seq (.reg [
    ⟨(some 4), .mv (.c (.p (.bool false))), none⟩])
  (.ret))
  (.skip)))
 (.seq (.seq (.reg [
   ⟨(some 11), .mv (.t 0), none⟩,
   ⟨(some 12), .len false (.t 11), none⟩,
   ⟨(some 13), .mv (.c (.p (.int .i64 0))), none⟩])
 (.block 0 (.loop [0, 1, 12, 13]
   (.seq (.reg [
     ⟨(some 14), .cmp .lss (.t 13) (.t 12), none⟩])
   (.seq (.cond (.t 14)
    (.skip)
    (.exit 0))
   (.seq (.block 1 (.seq (.reg [
      ⟨(some 15), .mv (.t 13), none⟩,
      ⟨(some 5), .mv (.t 15), none⟩])
    (.seq (.regd [
      ⟨(some 16), .mv (.t 0), none⟩,
      ⟨(some 17), .mv (.t 5), none⟩,
      ⟨(some 18), .ia 3 (.t 16) (.t 17), none⟩,
      ⟨(some 19), .ld 3 true (.t 18), none⟩,
      ⟨(some 20), .mv (.t 1), none⟩,
      ⟨(some 21), .mv (.t 5), none⟩,
      ⟨(some 22), .ia 3 (.t 20) (.t 21), none⟩,
      ⟨(some 23), .ld 3 true (.t 22), none⟩,
      ⟨(some 24), .aeq true [(0, 0), (1, 0), (2, 1)] (.t 19) (.t 23), none⟩] [[], [], [], [], [], [], [], [], []] [false, false, false, false, true, true, true, true, true])
    (.cond (.t 24)
     (.seq (.reg [
       ⟨(some 4), .mv (.c (.p (.bool false))), none⟩])
     (.ret))
     (.skip)))))
   (.reg [
     ⟨(some 25), .ari .add .i64 (.t 13) (.c (.p (.int .i64 1))), none⟩,
     ⟨(some 13), .mv (.t 25), none⟩])))))))
 (.seq (.reg [
   ⟨(some 4), .mv (.c (.p (.bool true))), none⟩])
 (.ret))))
def ann58 : List (List Nat) := [[0, 1, 12, 13]]
theorem comp58 : comp Try.prog Try.f58.ntmps (Try.f58.body.getD .skip) ann58 = some (cc58, []) := by kernel_rfl
theorem body58 : Try.f58.body = some (Try.f58.body.getD .skip) := by kernel_rfl
theorem name58 : (Try.f58.name == "runtime.NumGoroutine") = false := by kernel_rfl
theorem res58 : resC Try.prog Try.f58.results.toList = some [.t 4] := by kernel_rfl
theorem ar58 : Nat.ble 2 Try.f58.ntmps = true := by kernel_rfl
theorem spec58 (n1 n2 : Bool) (E1 E2 : List (List PV)) (h1 : HasE TLimits E1) (h2 : HasE TLimits E2) : Runs Try.prog 58 [.p (.isl n1 3 E1), .p (.isl n2 3 E2)] [] (.ret (.p (.bool (sameE E1 E2))) []) := by
  refine runs_len fun _ => ?_
  refine runs_of_wp 2 Try.func58 body58 name58 comp58 res58 (Nat.le_of_ble_eq_true ar58) ?_
  generalize hI : stdI = LI
  generalize hB : stdB = LB
  generalize hE : stdE = LE
  generalize hR : Runs Try.prog = R
  generalize hr : sameE E1 E2 = r
  have hb1 := h1.1
  cbv
  have e1 : LI (.len E1) = E1.length := by rw [← hI]; rfl
  have e2 : LI (.len E2) = E2.length := by rw [← hI]; rfl
  cases hb : LB (.cmp .neq (LI (.len E1)) (LI (.len E2)))
  · rw [← hB, B_neq, e1, e2] at hb
    have hb : E1.length = E2.length := by simp only [bne_eq_false_iff_eq] at hb; omega
    cbv
    refine loopR (α := Nat × Int) [] 0 (Nat.le_refl _) (fun s a => s.sett 13 (.p (.int .i64 a.2))) (fun a => E1.length - a.1) (fun a => a.2 = a.1 ∧ a.1 ≤ E1.length ∧ firsts a.1 E1 E2) (0, 0) ⟨rfl, Nat.zero_le _, firsts_zero _ _⟩ (by cbv) ?_
    rintro S1 hS inv hinv ⟨k, K⟩ ⟨hK, hk, ht⟩
    rw [hS] at hinv ⊢
    simp only at hK hk ht
    cbv
    cases hc : LB (.cmp .lss K (LI (.len E1)))
    · rw [← hB, B_lss, e1, hK] at hc
      have hc : ¬ k < E1.length := by simpa using hc
      cbv
      refine ⟨[], 0, Nat.le_refl _, ?_⟩
      cbv
      rw [show r = true by rw [← hr]; exact firsts_all ht (by omega) (by omega)]
    · rw [← hB, B_lss, e1, hK] at hc
      have hc : k < E1.length := by simpa using hc
      obtain ⟨x, hx, hx'⟩ := h1.at hc
      obtain ⟨y, hy, hy'⟩ := h2.at (k := k) (by omega)
      obtain ⟨a0, a1, a2, rfl⟩ := has_limits hx'
      obtain ⟨b0, b1, b2, rfl⟩ := has_limits hy'
      cbv
      refine ⟨k, _, hK, hx, rfl, ?_⟩
      cbv
      refine ⟨k, _, hK, hy, rfl, ?_⟩
      cbv
      split
      · rename_i hd
        rw [← hB] at hd
        have hd : sameC [.int .i64 a0, .int .i64 a1, .bool a2] [.int .i64 b0, .int .i64 b1, .bool b2] = false := by
          cases he : sameC [.int .i64 a0, .int .i64 a1, .bool a2] [.int .i64 b0, .int .i64 b1, .bool b2] with
          | false => rfl
          | true =>
            simp [sameC_cons, sameC_nil, same1_int, same1_bool, same1_str, same1_isl] at he
            simp [B_neq, B_eql, B_and, B_not, B_eq, B_seq, he] at hd
        refine ⟨[], 0, Nat.le_refl _, ?_⟩
        cbv
        rw [show r = false by rw [← hr]; exact sameE_at hx hy hd]
      · rename_i hd
        rw [← hB] at hd
        have hd : sameC [.int .i64 a0, .int .i64 a1, .bool a2] [.int .i64 b0, .int .i64 b1, .bool b2] = true := by
          simpa [B_neq, B_eql, B_and, B_not, B_eq, B_seq, sameC_cons, sameC_nil, same1_int, same1_bool, same1_str, same1_isl] using hd
        cbv
        refine ⟨[], _, ?_, hinv (k + 1, LI (.ari .add .i64 K 1)) ⟨?_, hc, firsts_succ hx hy ht hd⟩⟩
        · simp only; omega
        · simp only
          rw [← hI, hK]
          exact I_inc (by omega)
  · rw [← hB, B_neq, e1, e2] at hb
    cbv
    refine ⟨[], 0, Nat.le_refl _, ?_⟩
    cbv
    rw [show r = false by rw [← hr]; exact sameE_len (fun h => by rw [h] at hb; simp at hb)]
/- slices.Equal(()bytebarn/api.Export,bytebarn/api.Export) -/
def cc61 : CC :=
 .seq (.reg [
   ⟨(some 4), .mv (.c (.p (.bool false))), none⟩])
 (.seq (.seq (.reg [
   ⟨(some 6), .mv (.t 0), none⟩,
   ⟨(some 7), .len false (.t 6), none⟩,
   ⟨(some 8), .mv (.t 1), none⟩,
   ⟨(some 9), .len false (.t 8), none⟩,
   ⟨(some 10), .cmp .neq (.t 7) (.t 9), none⟩])
 (.cond (.t 10)
  (.seq (.reg [
    ⟨(some 4), .mv (.c (.p (.bool false))), none⟩])
  (.ret))
  (.skip)))
 (.seq (.seq (.reg [
   ⟨(some 11), .mv (.t 0), none⟩,
   ⟨(some 12), .len false (.t 11), none⟩,
   ⟨(some 13), .mv (.c (.p (.int .i64 0))), none⟩])
 (.block 0 (.loop [0, 1, 12, 13]
   (.seq (.reg [
     ⟨(some 14), .cmp .lss (.t 13) (.t 12), none⟩])
   (.seq (.cond (.t 14)
    (.skip)
    (.exit 0))
   (.seq (.block 1 (.seq (.reg [
      ⟨(some 15), .mv (.t 13), none⟩,
      ⟨(some 5), .mv (.t 15), none⟩])
    (.seq (.regd [
      ⟨(some 16), .mv (.t 0), none⟩,
      ⟨(some 17), .mv (.t 5), none⟩,
      ⟨(some 18), .ia 3 (.t 16) (.t 17), none⟩,
      ⟨(some 19), .ld 3 true (.t 18), none⟩,
      ⟨(some 20), .mv (.t 1), none⟩,
      ⟨(some 21), .mv (.t 5), none⟩,
      ⟨(some 22), .ia 3 (.t 20) (.t 21), none⟩,
      ⟨(some 23), .ld 3 true (.t 22), none⟩,
      ⟨(some 24), .aeq true [(0, 2), (1, 0), (2, 0)] (.t 19) (.t 23), none⟩] [[], [], [], [], [], [], [], [], []] [false, false, false, false, true, true, true, true, true])
    (.cond (.t 24)
     (.seq (.reg [
       ⟨(some 4), .mv (.c (.p (.bool false))), none⟩])
     (.ret))
     (.skip)))))
   (.reg [
     ⟨(some 25), .ari .add .i64 (.t 13) (.c (.p (.int .i64 1))), none⟩,
     ⟨(some 13), .mv (.t 25), none⟩])))))))
 (.seq (.reg [
   ⟨(some 4), .mv (.c (.p (.bool true))), none⟩])
 (.ret))))
def ann61 : List (List Nat) := [[0, 1, 12, 13]]
theorem comp61 : comp Try.prog Try.f61.ntmps (Try.f61.body.getD .skip) ann61 = some (cc61, []) := by kernel_rfl
theorem body61 : Try.f61.body = some (Try.f61.body.getD .skip) := by kernel_rfl
theorem name61 : (Try.f61.name == "runtime.NumGoroutine") = false := by kernel_rfl
theorem res61 : resC Try.prog Try.f61.results.toList = some [.t 4] := by kernel_rfl
theorem ar61 : Nat.ble 2 Try.f61.ntmps = true := by kernel_rfl
theorem spec61 (n1 n2 : Bool) (E1 E2 : List (List PV)) (h1 : HasE TExport E1) (h2 : HasE TExport E2) : Runs Try.prog 61 [.p (.isl n1 3 E1), .p (.isl n2 3 E2)] [] (.ret (.p (.bool (sameE E1 E2))) []) := by
  refine runs_len fun _ => ?_
  refine runs_of_wp 2 Try.func61 body61 name61 comp61 res61 (Nat.le_of_ble_eq_true ar61) ?_
  generalize hI : stdI = LI
  generalize hB : stdB = LB
  generalize hE : stdE = LE
  generalize hR : Runs Try.prog = R
  generalize hr : sameE E1 E2 = r
  have hb1 := h1.1
  cbv
  have e1 : LI (.len E1) = E1.length := by rw [← hI]; rfl
  have e2 : LI (.len E2) = E2.length := by rw [← hI]; rfl
  cases hb : LB (.cmp .neq (LI (.len E1)) (LI (.len E2)))
  · rw [← hB, B_neq, e1, e2] at hb
    have hb : E1.length = E2.length := by simp only [bne_eq_false_iff_eq] at hb; omega
    cbv
    refine loopR (α := Nat × Int) [] 0 (Nat.le_refl _) (fun s a => s.sett 13 (.p (.int .i64 a.2))) (fun a => E1.length - a.1) (fun a => a.2 = a.1 ∧ a.1 ≤ E1.length ∧ firsts a.1 E1 E2) (0, 0) ⟨rfl, Nat.zero_le _, firsts_zero _ _⟩ (by cbv) ?_
    rintro S1 hS inv hinv ⟨k, K⟩ ⟨hK, hk, ht⟩
    rw [hS] at hinv ⊢
    simp only at hK hk ht
    cbv
    cases hc : LB (.cmp .lss K (LI (.len E1)))
    · rw [← hB, B_lss, e1, hK] at hc
      have hc : ¬ k < E1.length := by simpa using hc
      cbv
      refine ⟨[], 0, Nat.le_refl _, ?_⟩
      cbv
      rw [show r = true by rw [← hr]; exact firsts_all ht (by omega) (by omega)]
    · rw [← hB, B_lss, e1, hK] at hc
      have hc : k < E1.length := by simpa using hc
      obtain ⟨x, hx, hx'⟩ := h1.at hc
      obtain ⟨y, hy, hy'⟩ := h2.at (k := k) (by omega)
      obtain ⟨a0, a1, a2, rfl⟩ := has_export hx'
      obtain ⟨b0, b1, b2, rfl⟩ := has_export hy'
      cbv
      refine ⟨k, _, hK, hx, rfl, ?_⟩
      cbv
      refine ⟨k, _, hK, hy, rfl, ?_⟩
      cbv
      split
      · rename_i hd
        rw [← hB] at hd
        have hd : sameC [.str a0, .int .u8 a1, .int .i64 a2] [.str b0, .int .u8 b1, .int .i64 b2] = false := by
          cases he : sameC [.str a0, .int .u8 a1, .int .i64 a2] [.str b0, .int .u8 b1, .int .i64 b2] with
          | false => rfl
          | true =>
            simp [sameC_cons, sameC_nil, same1_int, same1_bool, same1_str, same1_isl] at he
            simp [B_neq, B_eql, B_and, B_not, B_eq, B_seq, he] at hd
        refine ⟨[], 0, Nat.le_refl _, ?_⟩
        cbv
        rw [show r = false by rw [← hr]; exact sameE_at hx hy hd]
      · rename_i hd
        rw [← hB] at hd
        have hd : sameC [.str a0, .int .u8 a1, .int .i64 a2] [.str b0, .int .u8 b1, .int .i64 b2] = true := by
          simpa [B_neq, B_eql, B_and, B_not, B_eq, B_seq, sameC_cons, sameC_nil, same1_int, same1_bool, same1_str, same1_isl] using hd
        cbv
        refine ⟨[], _, ?_, hinv (k + 1, LI (.ari .add .i64 K 1)) ⟨?_, hc, firsts_succ hx hy ht hd⟩⟩
        · simp only; omega
        · simp only
          rw [← hI, hK]
          exact I_inc (by omega)
  · rw [← hB, B_neq, e1, e2] at hb
    cbv
    refine ⟨[], 0, Nat.le_refl _, ?_⟩
    cbv
    rw [show r = false by rw [← hr]; exact sameE_len (fun h => by rw [h] at hb; simp at hb)]
/- slices.Equal(()uint8,uint8) -/
def cc102 : CC :=
 .seq (.reg [
   ⟨(some 4), .mv (.c (.p (.bool false))), none⟩])
 (.seq (.seq (.reg [
   ⟨(some 6), .mv (.t 0), none⟩,
   ⟨(some 7), .len false (.t 6), none⟩,
   ⟨(some 8), .mv (.t 1), none⟩,
   ⟨(some 9), .len false (.t 8), none⟩,
   ⟨(some 10), .cmp .neq (.t 7) (.t 9), none⟩])
 (.cond (.t 10)
  (.seq (.reg [
    ⟨(some 4), .mv (.c (.p (.bool false))), none⟩])
  (.ret))
  (.skip)))
 (.seq (.seq (.reg [
   ⟨(some 11), .mv (.t 0), none⟩,
   ⟨(some 12), .len false (.t 11), none⟩,
   ⟨(some 13), .mv (.c (.p (.int .i64 0))), none⟩])
 (.block 0 (.loop [0, 1, 12, 13]
   (.seq (.reg [
     ⟨(some 14), .cmp .lss (.t 13) (.t 12), none⟩])
   (.seq (.cond (.t 14)
    (.skip)
    (.exit 0))
   (.seq (.block 1 (.seq (.reg [
      ⟨(some 15), .mv (.t 13), none⟩,
      ⟨(some 5), .mv (.t 15), none⟩])
    (.seq (.regd [
      ⟨(some 16), .mv (.t 0), none⟩,
      ⟨(some 17), .mv (.t 5), none⟩,
      ⟨(some 18), .ia 1 (.t 16) (.t 17), none⟩,
      ⟨(some 19), .ld 1 false (.t 18), none⟩,
      ⟨(some 20), .mv (.t 1), none⟩,
      ⟨(some 21), .mv (.t 5), none⟩,
      ⟨(some 22), .ia 1 (.t 20) (.t 21), none⟩,
      ⟨(some 23), .ld 1 false (.t 22), none⟩,
      ⟨(some 24), .cmp .neq (.t 19) (.t 23), none⟩] [[], [], [], [], [], [], [], [], []] [false, false, false, false, true, true, true, true, true])
    (.cond (.t 24)
     (.seq (.reg [
       ⟨(some 4), .mv (.c (.p (.bool false))), none⟩])
     (.ret))
     (.skip)))))
   (.reg [
     ⟨(some 25), .ari .add .i64 (.t 13) (.c (.p (.int .i64 1))), none⟩,
     ⟨(some 13), .mv (.t 25), none⟩])))))))
 (.seq (.reg [
   ⟨(some 4), .mv (.c (.p (.bool true))), none⟩])
 (.ret))))
def ann102 : List (List Nat) := [[0, 1, 12, 13]]
theorem comp102 : comp Try.prog Try.f102.ntmps (Try.f102.body.getD .skip) ann102 = some (cc102, []) := by kernel_rfl
theorem body102 : Try.f102.body = some (Try.f102.body.getD .skip) := by kernel_rfl
theorem name102 : (Try.f102.name == "runtime.NumGoroutine") = false := by kernel_rfl
theorem res102 : resC Try.prog Try.f102.results.toList = some [.t 4] := by kernel_rfl
theorem ar102 : Nat.ble 2 Try.f102.ntmps = true := by kernel_rfl
theorem spec102 (n1 n2 : Bool) (E1 E2 : List (List PV)) (h1 : HasE TU8 E1) (h2 : HasE TU8 E2) : Runs Try.prog 102 [.p (.isl n1 1 E1), .p (.isl n2 1 E2)] [] (.ret (.p (.bool (sameE E1 E2))) []) := by
  refine runs_len fun _ => ?_
  refine runs_of_wp 2 Try.func102 body102 name102 comp102 res102 (Nat.le_of_ble_eq_true ar102) ?_
  generalize hI : stdI = LI
  generalize hB : stdB = LB
  generalize hE : stdE = LE
  generalize hR : Runs Try.prog = R
  generalize hr : sameE E1 E2 = r
  have hb1 := h1.1
  cbv
  have e1 : LI (.len E1) = E1.length := by rw [← hI]; rfl
  have e2 : LI (.len E2) = E2.length := by rw [← hI]; rfl
  cases hb : LB (.cmp .neq (LI (.len E1)) (LI (.len E2)))
  · rw [← hB, B_neq, e1, e2] at hb
    have hb : E1.length = E2.length := by simp only [bne_eq_false_iff_eq] at hb; omega
    cbv
    refine loopR (α := Nat × Int) [] 0 (Nat.le_refl _) (fun s a => s.sett 13 (.p (.int .i64 a.2))) (fun a => E1.length - a.1) (fun a => a.2 = a.1 ∧ a.1 ≤ E1.length ∧ firsts a.1 E1 E2) (0, 0) ⟨rfl, Nat.zero_le _, firsts_zero _ _⟩ (by cbv) ?_
    rintro S1 hS inv hinv ⟨k, K⟩ ⟨hK, hk, ht⟩
    rw [hS] at hinv ⊢
    simp only at hK hk ht
    cbv
    cases hc : LB (.cmp .lss K (LI (.len E1)))
    · rw [← hB, B_lss, e1, hK] at hc
      have hc : ¬ k < E1.length := by simpa using hc
      cbv
      refine ⟨[], 0, Nat.le_refl _, ?_⟩
      cbv
      rw [show r = true by rw [← hr]; exact firsts_all ht (by omega) (by omega)]
    · rw [← hB, B_lss, e1, hK] at hc
      have hc : k < E1.length := by simpa using hc
      obtain ⟨x, hx, hx'⟩ := h1.at hc
      obtain ⟨y, hy, hy'⟩ := h2.at (k := k) (by omega)
      obtain ⟨a0, rfl⟩ := has_u8 hx'
      obtain ⟨b0, rfl⟩ := has_u8 hy'
      cbv
      refine ⟨k, _, hK, hx, rfl, ?_⟩
      cbv
      refine ⟨k, _, hK, hy, rfl, ?_⟩
      cbv
      split
      · rename_i hd
        rw [← hB] at hd
        have hd : sameC [.int .u8 a0] [.int .u8 b0] = false := by
          cases he : sameC [.int .u8 a0] [.int .u8 b0] with
          | false => rfl
          | true =>
            simp [sameC_cons, sameC_nil, same1_int, same1_bool, same1_str, same1_isl] at he
            simp [B_neq, B_eql, B_and, B_not, B_eq, B_seq, he] at hd
        refine ⟨[], 0, Nat.le_refl _, ?_⟩
        cbv
        rw [show r = false by rw [← hr]; exact sameE_at hx hy hd]
      · rename_i hd
        rw [← hB] at hd
        have hd : sameC [.int .u8 a0] [.int .u8 b0] = true := by
          simpa [B_neq, B_eql, B_and, B_not, B_eq, B_seq, sameC_cons, sameC_nil, same1_int, same1_bool, same1_str, same1_isl] using hd
        cbv
        refine ⟨[], _, ?_, hinv (k + 1, LI (.ari .add .i64 K 1)) ⟨?_, hc, firsts_succ hx hy ht hd⟩⟩
        · simp only; omega
        · simp only
          rw [← hI, hK]
          exact I_inc (by omega)
  · rw [← hB, B_neq, e1, e2] at hb
    cbv
    refine ⟨[], 0, Nat.le_refl _, ?_⟩
    cbv
    rw [show r = false by rw [← hr]; exact sameE_len (fun h => by rw [h] at hb; simp at hb)]
/- slices.Equal(()bytebarn/api.Locals,bytebarn/api.Locals) -/
def cc104 : CC :=
 .seq (.reg [
   ⟨(some 4), .mv (.c (.p (.bool false))), none⟩])
 (.seq (.seq (.reg [
   ⟨(some 6), .mv (.t 0), none⟩,
   ⟨(some 7), .len false (.t 6), none⟩,
   ⟨(some 8), .mv (.t 1), none⟩,
   ⟨(some 9), .len false (.t 8), none⟩,
   ⟨(some 10), .cmp .neq (.t 7) (.t 9), none⟩])
 (.cond (.t 10)
  (.seq (.reg [
    ⟨(some 4), .mv (.c (.p (.bool false))), none⟩])
  (.ret))
  (.skip)))
 (.seq (.seq (.reg [
   ⟨(some 11), .mv (.t 0), none⟩,
   ⟨(some 12), .len false (.t 11), none⟩,
   ⟨(some 13), .mv (.c (.p (.int .i64 0))), none⟩])
 (.block 0 (.loop [0, 1, 12, 13]
   (.seq (.reg [
     ⟨(some 14), .cmp .lss (.t 13) (.t 12), none⟩])
   (.seq (.cond (.t 14)
    (.skip)
    (.exit 0))
   (.seq (.block 1 (.seq (.reg [
      ⟨(some 15), .mv (.t 13), none⟩,
      ⟨(some 5), .mv (.t 15), none⟩])
    (.seq (.regd [
      ⟨(some 16), .mv (.t 0), none⟩,
      ⟨(some 17), .mv (.t 5), none⟩,
      ⟨(some 18), .ia 2 (.t 16) (.t 17), none⟩,
      ⟨(some 19), .ld 2 true (.t 18), none⟩,
      ⟨(some 20), .mv (.t 1), none⟩,
      ⟨(some 21), .mv (.t 5), none⟩,
      ⟨(some 22), .ia 2 (.t 20) (.t 21), none⟩,
      ⟨(some 23), .ld 2 true (.t 22), none⟩,
      ⟨(some 24), .aeq true [(0, 0), (1, 0)] (.t 19) (.t 23), none⟩] [[], [], [], [], [], [], [], [], []] [false, false, false, false, true, true, true, true, true])
    (.cond (.t 24)
     (.seq (.reg [
       ⟨(some 4), .mv (.c (.p (.bool false))), none⟩])
     (.ret))
     (.skip)))))
   (.reg [
     ⟨(some 25), .ari .add .i64 (.t 13) (.c (.p (.int .i64 1))), none⟩,
     ⟨(some 13), .mv (.t 25), none⟩])))))))
 (.seq (.reg [
   ⟨(some 4), .mv (.c (.p (.bool true))), none⟩])
 (.ret))))
def ann104 : List (List Nat) := [[0, 1, 12, 13]]
theorem comp104 : comp Try.prog Try.f104.ntmps (Try.f104.body.getD .skip) ann104 = some (cc104, []) := by kernel_rfl
theorem body104 : Try.f104.body = some (Try.f104.body.getD .skip) := by kernel_rfl
theorem name104 : (Try.f104.name == "runtime.NumGoroutine") = false := by kernel_rfl
theorem res104 : resC Try.prog Try.f104.results.toList = some [.t 4] := by kernel_rfl
theorem ar104 : Nat.ble 2 Try.f104.ntmps = true := by kernel_rfl
theorem spec104 (n1 n2 : Bool) (E1 E2 : List (List PV)) (h1 : HasE TLocals E1) (h2 : HasE TLocals E2) : Runs Try.prog 104 [.p (.isl n1 2 E1), .p (.isl n2 2 E2)] [] (.ret (.p (.bool (sameE E1 E2))) []) := by
  refine runs_len fun _ => ?_
  refine runs_of_wp 2 Try.func104 body104 name104 comp104 res104 (Nat.le_of_ble_eq_true ar104) ?_
  generalize hI : stdI = LI
  generalize hB : stdB = LB
  generalize hE : stdE = LE
  generalize hR : Runs Try.prog = R
  generalize hr : sameE E1 E2 = r
  have hb1 := h1.1
  cbv
  have e1 : LI (.len E1) = E1.length := by rw [← hI]; rfl
  have e2 : LI (.len E2) = E2.length := by rw [← hI]; rfl
  cases hb : LB (.cmp .neq (LI (.len E1)) (LI (.len E2)))
  · rw [← hB, B_neq, e1, e2] at hb
    have hb : E1.length = E2.length := by simp only [bne_eq_false_iff_eq] at hb; omega
    cbv
    refine loopR (α := Nat × Int) [] 0 (Nat.le_refl _) (fun s a => s.sett 13 (.p (.int .i64 a.2))) (fun a => E1.length - a.1) (fun a => a.2 = a.1 ∧ a.1 ≤ E1.length ∧ firsts a.1 E1 E2) (0, 0) ⟨rfl, Nat.zero_le _, firsts_zero _ _⟩ (by cbv) ?_
    rintro S1 hS inv hinv ⟨k, K⟩ ⟨hK, hk, ht⟩
    rw [hS] at hinv ⊢
    simp only at hK hk ht
    cbv
    cases hc : LB (.cmp .lss K (LI (.len E1)))
    · rw [← hB, B_lss, e1, hK] at hc
      have hc : ¬ k < E1.length := by simpa using hc
      cbv
      refine ⟨[], 0, Nat.le_refl _, ?_⟩
      cbv
      rw [show r = true by rw [← hr]; exact firsts_all ht (by omega) (by omega)]
    · rw [← hB, B_lss, e1, hK] at hc
      have hc : k < E1.length := by simpa using hc
      obtain ⟨x, hx, hx'⟩ := h1.at hc
      obtain ⟨y, hy, hy'⟩ := h2.at (k := k) (by omega)
      obtain ⟨a0, a1, rfl⟩ := has_locals hx'
      obtain ⟨b0, b1, rfl⟩ := has_locals hy'
      cbv
      refine ⟨k, _, hK, hx, rfl, ?_⟩
      cbv
      refine ⟨k, _, hK, hy, rfl, ?_⟩
      cbv
      split
      · rename_i hd
        rw [← hB] at hd
        have hd : sameC [.int .i64 a0, .int .u8 a1] [.int .i64 b0, .int .u8 b1] = false := by
          cases he : sameC [.int .i64 a0, .int .u8 a1] [.int .i64 b0, .int .u8 b1] with
          | false => rfl
          | true =>
            simp [sameC_cons, sameC_nil, same1_int, same1_bool, same1_str, same1_isl] at he
            simp [B_neq, B_eql, B_and, B_not, B_eq, B_seq, he] at hd
        refine ⟨[], 0, Nat.le_refl _, ?_⟩
        cbv
        rw [show r = false by rw [← hr]; exact sameE_at hx hy hd]
      · rename_i hd
        rw [← hB] at hd
        have hd : sameC [.int .i64 a0, .int .u8 a1] [.int .i64 b0, .int .u8 b1] = true := by
          simpa [B_neq, B_eql, B_and, B_not, B_eq, B_seq, sameC_cons, sameC_nil, same1_int, same1_bool, same1_str, same1_isl] using hd
        cbv
        refine ⟨[], _, ?_, hinv (k + 1, LI (.ari .add .i64 K 1)) ⟨?_, hc, firsts_succ hx hy ht hd⟩⟩
        · simp only; omega
        · simp only
          rw [← hI, hK]
          exact I_inc (by omega)
  · rw [← hB, B_neq, e1, e2] at hb
    cbv
    refine ⟨[], 0, Nat.le_refl _, ?_⟩
    cbv
    rw [show r = false by rw [← hr]; exact sameE_len (fun h => by rw [h] at hb; simp at hb)]
/- bytebarn/bytebarnref06.Ints -/
def cc68 : CC :=
 .seq (.reg [
   ⟨(some 4), .mv (.c (.p (.bool false))), none⟩])
 (.seq (.seq (.reg [
   ⟨(some 6), .mv (.t 0), none⟩,
   ⟨(some 7), .len false (.t 6), none⟩,
   ⟨(some 8), .mv (.t 1), none⟩,
   ⟨(some 9), .len false (.t 8), none⟩,
   ⟨(some 10), .cmp .neq (.t 7) (.t 9), none⟩])
 (.cond (.t 10)
  (.seq (.reg [
    ⟨(some 4), .mv (.c (.p (.bool false))), none⟩])
  (.ret))
  (.skip)))
 (.seq (.seq (.reg [
   ⟨(some 5), .mv (.c (.p (.int .i64 0))), none⟩])
 (.block 0 (.loop [0, 1, 5]
   (.seq (.seq (.reg [
     ⟨(some 11), .mv (.t 5), none⟩,
     ⟨(some 12), .mv (.t 0), none⟩,
     ⟨(some 13), .len false (.t 12), none⟩,
     ⟨(some 14), .cmp .lss (.t 11) (.t 13), none⟩])
   (.cond (.t 14)
    (.skip)
    (.exit 0)))
   (.seq (.block 1 (.seq (.regd [
      ⟨(some 17), .mv (.t 0), none⟩,
      ⟨(some 18), .mv (.t 5), none⟩,
      ⟨(some 19), .ia 1 (.t 17) (.t 18), none⟩,
      ⟨(some 20), .ld 1 false (.t 19), none⟩,
      ⟨(some 21), .mv (.t 1), none⟩,
      ⟨(some 22), .mv (.t 5), none⟩,
      ⟨(some 23), .ia 1 (.t 21) (.t 22), none⟩,
      ⟨(some 24), .ld 1 false (.t 23), none⟩,
      ⟨(some 25), .cmp .neq (.t 20) (.t 24), none⟩] [[], [], [], [], [], [], [], [], []] [false, false, false, false, true, true, true, true, true])
    (.cond (.t 25)
     (.seq (.reg [
       ⟨(some 4), .mv (.c (.p (.bool false))), none⟩])
     (.ret))
     (.skip))))
   (.reg [
     ⟨(some 15), .mv (.t 5), none⟩,
     ⟨(some 16), .ari .add .i64 (.t 15) (.c (.p (.int .i64 1))), none⟩,
     ⟨(some 5), .mv (.t 16), none⟩]))))))
 (.seq (.reg [
   ⟨(some 4), .mv (.c (.p (.bool true))), none⟩])
 (.ret))))
def ann68 : List (List Nat) := [[0, 1, 5]]
theorem comp68 : comp Try.prog Try.f68.ntmps (Try.f68.body.getD .skip) ann68 = some (cc68, []) := by kernel_rfl
theorem body68 : Try.f68.body = some (Try.f68.body.getD .skip) := by kernel_rfl
theorem name68 : (Try.f68.name == "runtime.NumGoroutine") = false := by kernel_rfl
theorem res68 : resC Try.prog Try.f68.results.toList = some [.t 4] := by kernel_rfl
theorem ar68 : Nat.ble 2 Try.f68.ntmps = true := by kernel_rfl
theorem spec68 (n1 n2 : Bool) (E1 E2 : List (List PV)) (h1 : HasE TI64 E1) (h2 : HasE TI64 E2) : Runs Try.prog 68 [.p (.isl n1 1 E1), .p (.isl n2 1 E2)] [] (.ret (.p (.bool (sameE E1 E2))) []) := by
  refine runs_len fun _ => ?_
  refine runs_of_wp 2 Try.func68 body68 name68 comp68 res68 (Nat.le_of_ble_eq_true ar68) ?_
  generalize hI : stdI = LI
  generalize hB : stdB = LB
  generalize hE : stdE = LE
  generalize hR : Runs Try.prog = R
  generalize hr : sameE E1 E2 = r
  have hb1 := h1.1
  cbv
  have e1 : LI (.len E1) = E1.length := by rw [← hI]; rfl
  have e2 : LI (.len E2) = E2.length := by rw [← hI]; rfl
  cases hb : LB (.cmp .neq (LI (.len E1)) (LI (.len E2)))
  · rw [← hB, B_neq, e1, e2] at hb
    have hb : E1.length = E2.length := by simp only [bne_eq_false_iff_eq] at hb; omega
    cbv
    refine loopR (α := Nat × Int) [] 0 (Nat.le_refl _) (fun s a => s.sett 5 (.p (.int .i64 a.2))) (fun a => E1.length - a.1) (fun a => a.2 = a.1 ∧ a.1 ≤ E1.length ∧ firsts a.1 E1 E2) (0, 0) ⟨rfl, Nat.zero_le _, firsts_zero _ _⟩ (by cbv) ?_
    rintro S1 hS inv hinv ⟨k, K⟩ ⟨hK, hk, ht⟩
    rw [hS] at hinv ⊢
    simp only at hK hk ht
    cbv
    cases hc : LB (.cmp .lss K (LI (.len E1)))
    · rw [← hB, B_lss, e1, hK] at hc
      have hc : ¬ k < E1.length := by simpa using hc
      cbv
      refine ⟨[], 0, Nat.le_refl _, ?_⟩
      cbv
      rw [show r = true by rw [← hr]; exact firsts_all ht (by omega) (by omega)]
    · rw [← hB, B_lss, e1, hK] at hc
      have hc : k < E1.length := by simpa using hc
      obtain ⟨x, hx, hx'⟩ := h1.at hc
      obtain ⟨y, hy, hy'⟩ := h2.at (k := k) (by omega)
      obtain ⟨a0, rfl⟩ := has_i64 hx'
      obtain ⟨b0, rfl⟩ := has_i64 hy'
      cbv
      refine ⟨k, _, hK, hx, rfl, ?_⟩
      cbv
      refine ⟨k, _, hK, hy, rfl, ?_⟩
      cbv
      split
      · rename_i hd
        rw [← hB] at hd
        have hd : sameC [.int .i64 a0] [.int .i64 b0] = false := by
          cases he : sameC [.int .i64 a0] [.int .i64 b0] with
          | false => rfl
          | true =>
            simp [sameC_cons, sameC_nil, same1_int, same1_bool, same1_str, same1_isl] at he
            simp [B_neq, B_eql, B_and, B_not, B_eq, B_seq, he] at hd
        refine ⟨[], 0, Nat.le_refl _, ?_⟩
        cbv
        rw [show r = false by rw [← hr]; exact sameE_at hx hy hd]
      · rename_i hd
        rw [← hB] at hd
        have hd : sameC [.int .i64 a0] [.int .i64 b0] = true := by
          simpa [B_neq, B_eql, B_and, B_not, B_eq, B_seq, sameC_cons, sameC_nil, same1_int, same1_bool, same1_str, same1_isl] using hd
        cbv
        refine ⟨[], _, ?_, hinv (k + 1, LI (.ari .add .i64 K 1)) ⟨?_, hc, firsts_succ hx hy ht hd⟩⟩
        · simp only; omega
        · simp only
          rw [← hI, hK]
          exact I_inc (by omega)
  · rw [← hB, B_neq, e1, e2] at hb
    cbv
    refine ⟨[], 0, Nat.le_refl _, ?_⟩
    cbv
    rw [show r = false by rw [← hr]; exact sameE_len (fun h => by rw [h] at hb; simp at hb)]
/- bytes.Equal -/
def cc105 : CC :=
 .seq (.reg [
   ⟨(some 4), .mv (.c (.p (.bool false))), none⟩])
 (.seq (.reg [
   ⟨(some 5), .mv (.t 0), none⟩,
   ⟨(some 6), .b2s (.t 5), none⟩,
   ⟨(some 7), .mv (.t 1), none⟩,
   ⟨(some 8), .b2s (.t 7), none⟩,
   ⟨(some 9), .scmp .eql (.t 6) (.t 8), none⟩,
   ⟨(some 4), .mv (.t 9), none⟩])
 (.ret))
def ann105 : List (List Nat) := []
theorem comp105 : comp Try.prog Try.f105.ntmps (Try.f105.body.getD .skip) ann105 = some (cc105, []) := by kernel_rfl
theorem body105 : Try.f105.body = some (Try.f105.body.getD .skip) := by kernel_rfl
theorem name105 : (Try.f105.name == "runtime.NumGoroutine") = false := by kernel_rfl
theorem res105 : resC Try.prog Try.f105.results.toList = some [.t 4] := by kernel_rfl
theorem ar105 : Nat.ble 2 Try.f105.ntmps = true := by kernel_rfl
theorem spec105 (n1 n2 : Bool) (E1 E2 : List (List PV)) (h1 : HasE TU8 E1) (h2 : HasE TU8 E2) : Runs Try.prog 105 [.p (.isl n1 1 E1), .p (.isl n2 1 E2)] [] (.ret (.p (.bool (sameE E1 E2))) []) := by
  refine runs_len fun _ => ?_
  refine runs_of_wp 1 Try.func105 body105 name105 comp105 res105 (Nat.le_of_ble_eq_true ar105) ?_
  generalize hI : stdI = LI
  generalize hB : stdB = LB
  generalize hE : stdE = LE
  obtain ⟨l, hl⟩ := u8s_of h1.2
  obtain ⟨m, hm⟩ := u8s_of h2.2
  have hr : sameE E1 E2 = LB (.scmp .eql l m) := by rw [hl, hm, sameE_u8s, ← hB, B_seq]
  rw [hr]
  cbv
  refine ⟨l, hl, ?_⟩
  cbv
  refine ⟨m, hm, ?_⟩
  cbv
  refine ⟨[], 0, Nat.le_refl _, ?_⟩
  cbv
/- bytebarn/bytebarnref07.bytes -/
def cc69 : CC :=
 .seq (.reg [
   ⟨(some 4), .mv (.c (.p (.bool false))), none⟩])
 (.seq (.reg [
   ⟨(some 5), .mv (.t 0), none⟩,
   ⟨(some 6), .b2s (.t 5), none⟩,
   ⟨(some 7), .mv (.t 1), none⟩,
   ⟨(some 8), .b2s (.t 7), none⟩,
   ⟨(some 9), .scmp .eql (.t 6) (.t 8), none⟩,
   ⟨(some 4), .mv (.t 9), none⟩])
 (.ret))
def ann69 : List (List Nat) := []
theorem comp69 : comp Try.prog Try.f69.ntmps (Try.f69.body.getD .skip) ann69 = some (cc69, []) := by kernel_rfl
theorem body69 : Try.f69.body = some (Try.f69.body.getD .skip) := by kernel_rfl
theorem name69 : (Try.f69.name == "runtime.NumGoroutine") = false := by kernel_rfl
theorem res69 : resC Try.prog Try.f69.results.toList = some [.t 4] := by kernel_rfl
theorem ar69 : Nat.ble 2 Try.f69.ntmps = true := by kernel_rfl
theorem spec69 (n1 n2 : Bool) (E1 E2 : List (List PV)) (h1 : HasE TU8 E1) (h2 : HasE TU8 E2) : Runs Try.prog 69 [.p (.isl n1 1 E1), .p (.isl n2 1 E2)] [] (.ret (.p (.bool (sameE E1 E2))) []) := by
  refine runs_len fun _ => ?_
  refine runs_of_wp 1 Try.func69 body69 name69 comp69 res69 (Nat.le_of_ble_eq_true ar69) ?_
  generalize hI : stdI = LI
  generalize hB : stdB = LB
  generalize hE : stdE = LE
  obtain ⟨l, hl⟩ := u8s_of h1.2
  obtain ⟨m, hm⟩ := u8s_of h2.2
  have hr : sameE E1 E2 = LB (.scmp .eql l m) := by rw [hl, hm, sameE_u8s, ← hB, B_seq]
  rw [hr]
  cbv
  refine ⟨l, hl, ?_⟩
  cbv
  refine ⟨m, hm, ?_⟩
  cbv
  refine ⟨[], 0, Nat.le_refl _, ?_⟩
  cbv
end Go.Ab
/- Functions that compare instructions and parts of modules. -/
set_option linter.unusedVariables false
set_option linter.unusedSimpArgs false
namespace Go.Ab
open Go.Proofs
/- bytebarn/bytebarnref06.SameOne -/
def cc120 : CC :=
 .seq (.reg [
   ⟨(some 2), .box (.t 0), none⟩,
   ⟨(some 3), .box (.t 1), none⟩,
   ⟨(some 4), .mv (.c (.p (.bool false))), none⟩])
 (.seq (.reg [
   ⟨(some 5), .fa 0 (.t 2), none⟩,
   ⟨(some 6), .ld 1 false (.t 5), none⟩,
   ⟨(some 7), .fa 0 (.t 3), none⟩,
   ⟨(some 8), .ld 1 false (.t 7), none⟩,
   ⟨(some 9), .cmp .eql (.t 6) (.t 8), none⟩,
   ⟨(some 10), .mv (.t 9), none⟩,
   ⟨(some 11), .fa 1 (.t 2), (some (10, true))⟩,
   ⟨(some 12), .ld 1 false (.t 11), (some (10, true))⟩,
   ⟨(some 13), .fa 1 (.t 3), (some (10, true))⟩,
   ⟨(some 14), .ld 1 false (.t 13), (some (10, true))⟩,
   ⟨(some 15), .cmp .eql (.t 12) (.t 14), (some (10, true))⟩,
   ⟨(some 16), .pick (.t 10) (.t 15) (.c (.p (.bool false))), none⟩,
   ⟨(some 17), .mv (.t 16), none⟩,
   ⟨(some 18), .fa 2 (.t 2), (some (17, true))⟩,
   ⟨(some 19), .ld 1 false (.t 18), (some (17, true))⟩,
   ⟨(some 20), .fa 2 (.t 3), (some (17, true))⟩,
   ⟨(some 21), .ld 1 false (.t 20), (some (17, true))⟩,
   ⟨(some 22), .cmp .eql (.t 19) (.t 21), (some (17, true))⟩,
   ⟨(some 23), .pick (.t 17) (.t 22) (.c (.p (.bool false))), none⟩,
   ⟨(some 24), .mv (.t 23), none⟩,
   ⟨(some 25), .fa 3 (.t 2), (some (24, true))⟩,
   ⟨(some 26), .ld 1 false (.t 25), (some (24, true))⟩,
   ⟨(some 27), .fa 3 (.t 3), (some (24, true))⟩,
   ⟨(some 28), .ld 1 false (.t 27), (some (24, true))⟩,
   ⟨(some 29), .call 68 [(.t 26), (.t 28)], (some (24, true))⟩,
   ⟨(some 30), .pick (.t 24) (.t 29) (.c (.p (.bool false))), none⟩,
   ⟨(some 4), .mv (.t 30), none⟩])
 (.ret))
def ann120 : List (List Nat) := []
theorem comp120 : comp Try.prog Try.f120.ntmps (Try.f120.body.getD .skip) ann120 = some (cc120, []) := by kernel_rfl
theorem body120 : Try.f120.body = some (Try.f120.body.getD .skip) := by kernel_rfl
theorem name120 : (Try.f120.name == "runtime.NumGoroutine") = false := by kernel_rfl
theorem res120 : resC Try.prog Try.f120.results.toList = some [.t 4] := by kernel_rfl
theorem ar120 : Nat.ble 2 Try.f120.ntmps = true := by kernel_rfl
theorem spec120 (x y : List PV) (hx : HasL TIns x) (hy : HasL TIns y) : Runs Try.prog 120 [.agg (plainP x), .agg (plainP y)] [] (.ret (.p (.bool (sameC x y))) []) := by
  refine runs_len fun _ => ?_
  refine runs_of_wp 2 Try.func120 body120 name120 comp120 res120 (Nat.le_of_ble_eq_true ar120) ?_
  generalize hI : stdI = LI
  generalize hB : stdB = LB
  generalize hE : stdE = LE
  obtain ⟨a0, a1, a2, a3n, a3, rfl, gg3, ge3⟩ := has_ins hx
  obtain ⟨b0, b1, b2, b3n, b3, rfl, hh3, he3⟩ := has_ins hy
  generalize hR : Runs Try.prog = R
  generalize hr : sameC _ _ = r
  cbv
  cases hs0 : LB (.cmp .eql a0 b0)
  · rw [← hB, B_eql] at hs0
    cbv
    refine ⟨[], 0, Nat.le_refl _, ?_⟩
    cbv
    rw [show r = false by rw [← hr]; simp only [sameC_cons, sameC_nil, same1_int, same1_bool, same1_str, same1_isl, hs0, Bool.true_and, Bool.false_and, Bool.and_true, Bool.and_false]]
  · rw [← hB, B_eql] at hs0
    cbv
    cases hs1 : LB (.cmp .eql a1 b1)
    · rw [← hB, B_eql] at hs1
      cbv
      refine ⟨[], 0, Nat.le_refl _, ?_⟩
      cbv
      rw [show r = false by rw [← hr]; simp only [sameC_cons, sameC_nil, same1_int, same1_bool, same1_str, same1_isl, hs0, hs1, Bool.true_and, Bool.false_and, Bool.and_true, Bool.and_false]]
    · rw [← hB, B_eql] at hs1
      cbv
      cases hs2 : LB (.cmp .eql a2 b2)
      · rw [← hB, B_eql] at hs2
        cbv
        refine ⟨[], 0, Nat.le_refl _, ?_⟩
        cbv
        rw [show r = false by rw [← hr]; simp only [sameC_cons, sameC_nil, same1_int, same1_bool, same1_str, same1_isl, hs0, hs1, hs2, Bool.true_and, Bool.false_and, Bool.and_true, Bool.and_false]]
      · rw [← hB, B_eql] at hs2
        cbv
        have q3 := spec68 a3n b3n a3 b3 ge3 he3
        rw [hR] at q3
        generalize hs3 : sameE a3 b3 = s3 at q3
        refine ⟨[], trivial, ?_⟩
        cbv
        refine ⟨[], rfl, _, q3, Or.inl rfl, ?_⟩
        cbv
        refine ⟨[], 0, Nat.le_refl _, ?_⟩
        cbv
        rw [show r = s3 by rw [← hr]; simp only [sameC_cons, sameC_nil, same1_int, same1_bool, same1_str, same1_isl, hs0, hs1, hs2, hs3, Bool.true_and, Bool.false_and, Bool.and_true, Bool.and_false]]
/- bytebarn/ins.same -/
def cc119 : CC :=
 .seq (.reg [
   ⟨(some 2), .box (.t 0), none⟩,
   ⟨(some 3), .box (.t 1), none⟩,
   ⟨(some 4), .mv (.c (.p (.bool false))), none⟩])
 (.seq (.reg [
   ⟨(some 5), .fa 0 (.t 2), none⟩,
   ⟨(some 6), .ld 1 false (.t 5), none⟩,
   ⟨(some 7), .fa 0 (.t 3), none⟩,
   ⟨(some 8), .ld 1 false (.t 7), none⟩,
   ⟨(some 9), .cmp .eql (.t 6) (.t 8), none⟩,
   ⟨(some 10), .mv (.t 9), none⟩,
   ⟨(some 11), .fa 1 (.t 2), (some (10, true))⟩,
   ⟨(some 12), .ld 1 false (.t 11), (some (10, true))⟩,
   ⟨(some 13), .fa 1 (.t 3), (some (10, true))⟩,
   ⟨(some 14), .ld 1 false (.t 13), (some (10, true))⟩,
   ⟨(some 15), .cmp .eql (.t 12) (.t 14), (some (10, true))⟩,
   ⟨(some 16), .pick (.t 10) (.t 15) (.c (.p (.bool false))), none⟩,
   ⟨(some 17), .mv (.t 16), none⟩,
   ⟨(some 18), .fa 2 (.t 2), (some (17, true))⟩,
   ⟨(some 19), .ld 1 false (.t 18), (some (17, true))⟩,
   ⟨(some 20), .fa 2 (.t 3), (some (17, true))⟩,
   ⟨(some 21), .ld 1 false (.t 20), (some (17, true))⟩,
   ⟨(some 22), .cmp .eql (.t 19) (.t 21), (some (17, true))⟩,
   ⟨(some 23), .pick (.t 17) (.t 22) (.c (.p (.bool false))), none⟩,
   ⟨(some 24), .mv (.t 23), none⟩,
   ⟨(some 25), .fa 3 (.t 2), (some (24, true))⟩,
   ⟨(some 26), .ld 1 false (.t 25), (some (24, true))⟩,
   ⟨(some 27), .fa 3 (.t 3), (some (24, true))⟩,
   ⟨(some 28), .ld 1 false (.t 27), (some (24, true))⟩,
   ⟨(some 29), .call 57 [(.t 26), (.t 28)], (some (24, true))⟩,
   ⟨(some 30), .pick (.t 24) (.t 29) (.c (.p (.bool false))), none⟩,
   ⟨(some 4), .mv (.t 30), none⟩])
 (.ret))
def ann119 : List (List Nat) := []
theorem comp119 : comp Try.prog Try.f119.ntmps (Try.f119.body.getD .skip) ann119 = some (cc119, []) := by kernel_rfl
theorem body119 : Try.f119.body = some (Try.f119.body.getD .skip) := by kernel_rfl
theorem name119 : (Try.f119.name == "runtime.NumGoroutine") = false := by kernel_rfl
theorem res119 : resC Try.prog Try.f119.results.toList = some [.t 4] := by kernel_rfl
theorem ar119 : Nat.ble 2 Try.f119.ntmps = true := by kernel_rfl
theorem spec119 (x y : List PV) (hx : HasL TIns x) (hy : HasL TIns y) : Runs Try.prog 119 [.agg (plainP x), .agg (plainP y)] [] (.ret (.p (.bool (sameC x y))) []) := by
  refine runs_len fun _ => ?_
  refine runs_of_wp 2 Try.func119 body119 name119 comp119 res119 (Nat.le_of_ble_eq_true ar119) ?_
  generalize hI : stdI = LI
  generalize hB : stdB = LB
  generalize hE : stdE = LE
  obtain ⟨a0, a1, a2, a3n, a3, rfl, gg3, ge3⟩ := has_ins hx
  obtain ⟨b0, b1, b2, b3n, b3, rfl, hh3, he3⟩ := has_ins hy
  generalize hR : Runs Try.prog = R
  generalize hr : sameC _ _ = r
  cbv
  cases hs0 : LB (.cmp .eql a0 b0)
  · rw [← hB, B_eql] at hs0
    cbv
    refine ⟨[], 0, Nat.le_refl _, ?_⟩
    cbv
    rw [show r = false by rw [← hr]; simp only [sameC_cons, sameC_nil, same1_int, same1_bool, same1_str, same1_isl, hs0, Bool.true_and, Bool.false_and, Bool.and_true, Bool.and_false]]
  · rw [← hB, B_eql] at hs0
    cbv
    cases hs1 : LB (.cmp .eql a1 b1)
    · rw [← hB, B_eql] at hs1
      cbv
      refine ⟨[], 0, Nat.le_refl _, ?_⟩
      cbv
      rw [show r = false by rw [← hr]; simp only [sameC_cons, sameC_nil, same1_int, same1_bool, same1_str, same1_isl, hs0, hs1, Bool.true_and, Bool.false_and, Bool.and_true, Bool.and_false]]
    · rw [← hB, B_eql] at hs1
      cbv
      cases hs2 : LB (.cmp .eql a2 b2)
      · rw [← hB, B_eql] at hs2
        cbv
        refine ⟨[], 0, Nat.le_refl _, ?_⟩
        cbv
        rw [show r = false by rw [← hr]; simp only [sameC_cons, sameC_nil, same1_int, same1_bool, same1_str, same1_isl, hs0, hs1, hs2, Bool.true_and, Bool.false_and, Bool.and_true, Bool.and_false]]
      · rw [← hB, B_eql] at hs2
        cbv
        have q3 := spec57 a3n b3n a3 b3 ge3 he3
        rw [hR] at q3
        generalize hs3 : sameE a3 b3 = s3 at q3
        refine ⟨[], trivial, ?_⟩
        cbv
        refine ⟨[], rfl, _, q3, Or.inl rfl, ?_⟩
        cbv
        refine ⟨[], 0, Nat.le_refl _, ?_⟩
        cbv
        rw [show r = s3 by rw [← hr]; simp only [sameC_cons, sameC_nil, same1_int, same1_bool, same1_str, same1_isl, hs0, hs1, hs2, hs3, Bool.true_and, Bool.false_and, Bool.and_true, Bool.and_false]]
/- bytebarn/bytebarnref06.Same -/
def cc106 : CC :=
 .seq (.reg [
   ⟨(some 4), .mv (.c (.p (.bool false))), none⟩])
 (.seq (.seq (.reg [
   ⟨(some 6), .mv (.t 0), none⟩,
   ⟨(some 7), .len false (.t 6), none⟩,
   ⟨(some 8), .mv (.t 1), none⟩,
   ⟨(some 9), .len false (.t 8), none⟩,
   ⟨(some 10), .cmp .neq (.t 7) (.t 9), none⟩])
 (.cond (.t 10)
  (.seq (.reg [
    ⟨(some 4), .mv (.c (.p (.bool false))), none⟩])
  (.ret))
  (.skip)))
 (.seq (.seq (.reg [
   ⟨(some 5), .mv (.c (.p (.int .i64 0))), none⟩])
 (.block 0 (.loop [0, 1, 5]
   (.seq (.seq (.reg [
     ⟨(some 11), .mv (.t 5), none⟩,
     ⟨(some 12), .mv (.t 0), none⟩,
     ⟨(some 13), .len false (.t 12), none⟩,
     ⟨(some 14), .cmp .lss (.t 11) (.t 13), none⟩])
   (.cond (.t 14)
    (.skip)
    (.exit 0)))
   (.seq (.block 1 (.seq (.regd [
      ⟨(some 17), .mv (.t 0), none⟩,
      ⟨(some 18), .mv (.t 5), none⟩,
      ⟨(some 19), .ia 4 (.t 17) (.t 18), none⟩,
      ⟨(some 20), .ld 4 true (.t 19), none⟩,
      ⟨(some 21), .mv (.t 1), none⟩,
      ⟨(some 22), .mv (.t 5), none⟩,
      ⟨(some 23), .ia 4 (.t 21) (.t 22), none⟩,
      ⟨(some 24), .ld 4 true (.t 23), none⟩,
      ⟨(some 25), .call 120 [(.t 20), (.t 24)], none⟩,
      ⟨(some 26), .not (.t 25), none⟩] [[], [], [], [], [], [], [], [], [], []] [false, false, false, false, true, true, true, true, true, true])
    (.cond (.t 26)
     (.seq (.reg [
       ⟨(some 4), .mv (.c (.p (.bool false))), none⟩])
     (.ret))
     (.skip))))
   (.reg [
     ⟨(some 15), .mv (.t 5), none⟩,
     ⟨(some 16), .ari .add .i64 (.t 15) (.c (.p (.int .i64 1))), none⟩,
     ⟨(some 5), .mv (.t 16), none⟩]))))))
 (.seq (.reg [
   ⟨(some 4), .mv (.c (.p (.bool true))), none⟩])
 (.ret))))
def ann106 : List (List Nat) := [[0, 1, 5]]
theorem comp106 : comp Try.prog Try.f106.ntmps (Try.f106.body.getD .skip) ann106 = some (cc106, []) := by kernel_rfl
theorem body106 : Try.f106.body = some (Try.f106.body.getD .skip) := by kernel_rfl
theorem name106 : (Try.f106.name == "runtime.NumGoroutine") = false := by kernel_rfl
theorem res106 : resC Try.prog Try.f106.results.toList = some [.t 4] := by kernel_rfl
theorem ar106 : Nat.ble 2 Try.f106.ntmps = true := by kernel_rfl
theorem spec106 (n1 n2 : Bool) (E1 E2 : List (List PV)) (h1 : HasE TIns E1) (h2 : HasE TIns E2) : Runs Try.prog 106 [.p (.isl n1 4 E1), .p (.isl n2 4 E2)] [] (.ret (.p (.bool (sameE E1 E2))) []) := by
  refine runs_len fun _ => ?_
  refine runs_of_wp 2 Try.func106 body106 name106 comp106 res106 (Nat.le_of_ble_eq_true ar106) ?_
  generalize hI : stdI = LI
  generalize hB : stdB = LB
  generalize hE : stdE = LE
  have hq := spec120
  generalize hR : Runs Try.prog = R at hq ⊢
  generalize hr : sameE E1 E2 = r
  have hb1 := h1.1
  cbv
  have e1 : LI (.len E1) = E1.length := by rw [← hI]; rfl
  have e2 : LI (.len E2) = E2.length := by rw [← hI]; rfl
  cases hb : LB (.cmp .neq (LI (.len E1)) (LI (.len E2)))
  · rw [← hB, B_neq, e1, e2] at hb
    have hb : E1.length = E2.length := by simp only [bne_eq_false_iff_eq] at hb; omega
    cbv
    refine loopR (α := Nat × Int) [] 0 (Nat.le_refl _) (fun s a => s.sett 5 (.p (.int .i64 a.2))) (fun a => E1.length - a.1) (fun a => a.2 = a.1 ∧ a.1 ≤ E1.length ∧ firsts a.1 E1 E2) (0, 0) ⟨rfl, Nat.zero_le _, firsts_zero _ _⟩ (by cbv) ?_
    rintro S1 hS inv hinv ⟨k, K⟩ ⟨hK, hk, ht⟩
    rw [hS] at hinv ⊢
    simp only at hK hk ht
    cbv
    cases hc : LB (.cmp .lss K (LI (.len E1)))
    · rw [← hB, B_lss, e1, hK] at hc
      have hc : ¬ k < E1.length := by simpa using hc
      cbv
      refine ⟨[], 0, Nat.le_refl _, ?_⟩
      cbv
      rw [show r = true by rw [← hr]; exact firsts_all ht (by omega) (by omega)]
    · rw [← hB, B_lss, e1, hK] at hc
      have hc : k < E1.length := by simpa using hc
      obtain ⟨x, hx, hx'⟩ := h1.at hc
      obtain ⟨y, hy, hy'⟩ := h2.at (k := k) (by omega)
      have hq := hq x y hx' hy'
      generalize hs : sameC x y = b at hq
      obtain ⟨a0, a1, a2, a3n, a3, rfl, hx'⟩ := has_ins hx'
      obtain ⟨b0, b1, b2, b3n, b3, rfl, hy'⟩ := has_ins hy'
      simp only [plainP] at hq
      cbv
      refine ⟨k, _, hK, hx, rfl, ?_⟩
      cbv
      refine ⟨k, _, hK, hy, rfl, ?_⟩
      cbv
      refine ⟨[], rfl, ?_⟩
      cbv
      refine ⟨[], rfl, _, hq, Or.inl rfl, ?_⟩
      cbv
      cases hd : LB (.not b)
      · rw [← hB, B_not] at hd
        have hd : b = true := by simpa using hd
        subst hd
        cbv
        refine ⟨[], _, ?_, hinv (k + 1, LI (.ari .add .i64 K 1)) ⟨?_, hc, firsts_succ hx hy ht hs⟩⟩
        · simp only; omega
        · simp only
          rw [← hI, hK]
          exact I_inc (by omega)
      · rw [← hB, B_not] at hd
        have hd : b = false := by simpa using hd
        subst hd
        cbv
        refine ⟨[], 0, Nat.le_refl _, ?_⟩
        cbv
        rw [show r = false by rw [← hr]; exact sameE_at hx hy hs]
  · rw [← hB, B_neq, e1, e2] at hb
    cbv
    refine ⟨[], 0, Nat.le_refl _, ?_⟩
    cbv
    rw [show r = false by rw [← hr]; exact sameE_len (fun h => by rw [h] at hb; simp at hb)]
/- slices.EqualFunc(()bytebarn/api.Ins,()bytebarn/api.Ins,bytebarn/api.Ins,bytebarn/api.Ins) -/
def cc118 : CC :=
 .seq (.reg [
   ⟨(some 6), .mv (.c (.p (.bool false))), none⟩])
 (.seq (.seq (.reg [
   ⟨(some 10), .mv (.t 0), none⟩,
   ⟨(some 11), .len false (.t 10), none⟩,
   ⟨(some 12), .mv (.t 1), none⟩,
   ⟨(some 13), .len false (.t 12), none⟩,
   ⟨(some 14), .cmp .neq (.t 11) (.t 13), none⟩])
 (.cond (.t 14)
  (.seq (.reg [
    ⟨(some 6), .mv (.c (.p (.bool false))), none⟩])
  (.ret))
  (.skip)))
 (.seq (.seq (.reg [
   ⟨(some 15), .mv (.t 0), none⟩,
   ⟨(some 16), .len false (.t 15), none⟩,
   ⟨(some 17), .mv (.c (.p (.int .i64 0))), none⟩])
 (.block 0 (.loop [1, 2, 15, 16, 17]
   (.seq (.reg [
     ⟨(some 18), .cmp .lss (.t 17) (.t 16), none⟩])
   (.seq (.cond (.t 18)
    (.skip)
    (.exit 0))
   (.seq (.block 1 (.seq (.reg [
      ⟨(some 19), .mv (.t 17), none⟩,
      ⟨(some 20), .ia 4 (.t 15) (.t 17), none⟩,
      ⟨(some 21), .ld 4 true (.t 20), none⟩,
      ⟨(some 8), .alloc [(.int .u8 0), (.int .i64 0), (.int .i64 0), (.isl false 0 [])], none⟩,
      ⟨(some 7), .mv (.t 19), none⟩,
      ⟨none, .st 4 (.t 8) (.t 21), none⟩])
    (.seq (.reg [
      ⟨(some 22), .mv (.t 1), none⟩,
      ⟨(some 23), .mv (.t 7), none⟩,
      ⟨(some 24), .ia 4 (.t 22) (.t 23), none⟩,
      ⟨(some 25), .ld 4 true (.t 24), none⟩,
      ⟨(some 9), .alloc [(.int .u8 0), (.int .i64 0), (.int .i64 0), (.isl false 0 [])], none⟩,
      ⟨none, .st 4 (.t 9) (.t 25), none⟩])
    (.seq (.reg [
      ⟨(some 26), .mv (.t 2), none⟩,
      ⟨(some 27), .ld 4 true (.t 8), none⟩,
      ⟨(some 28), .ld 4 true (.t 9), none⟩,
      ⟨(some 29), .calld (.t 26) [(.t 27), (.t 28)], none⟩,
      ⟨(some 30), .not (.t 29), none⟩])
    (.cond (.t 30)
     (.seq (.reg [
       ⟨(some 6), .mv (.c (.p (.bool false))), none⟩])
     (.ret))
     (.skip))))))
   (.reg [
     ⟨(some 31), .ari .add .i64 (.t 17) (.c (.p (.int .i64 1))), none⟩,
     ⟨(some 17), .mv (.t 31), none⟩])))))))
 (.seq (.reg [
   ⟨(some 6), .mv (.c (.p (.bool true))), none⟩])
 (.ret))))
def ann118 : List (List Nat) := [[1, 2, 15, 16, 17]]
theorem comp118 : comp Try.prog Try.f118.ntmps (Try.f118.body.getD .skip) ann118 = some (cc118, []) := by kernel_rfl
theorem body118 : Try.f118.body = some (Try.f118.body.getD .skip) := by kernel_rfl
theorem name118 : (Try.f118.name == "runtime.NumGoroutine") = false := by kernel_rfl
theorem res118 : resC Try.prog Try.f118.results.toList = some [.t 6] := by kernel_rfl
theorem ar118 : Nat.ble 3 Try.f118.ntmps = true := by kernel_rfl
theorem spec118 (g : Nat) (hg : ∀ x y, HasL TIns x → HasL TIns y → Runs Try.prog g [.agg (plainP x), .agg (plainP y)] [] (.ret (.p (.bool (sameC x y))) [])) (n1 n2 : Bool) (E1 E2 : List (List PV)) (h1 : HasE TIns E1) (h2 : HasE TIns E2) : Runs Try.prog 118 [.p (.isl n1 4 E1), .p (.isl n2 4 E2), .p (.fn g)] [] (.ret (.p (.bool (sameE E1 E2))) []) := by
  refine runs_len fun _ => ?_
  refine runs_of_wp 2 Try.func118 body118 name118 comp118 res118 (Nat.le_of_ble_eq_true ar118) ?_
  generalize hI : stdI = LI
  generalize hB : stdB = LB
  generalize hE : stdE = LE
  have hq := hg
  generalize hR : Runs Try.prog = R at hq ⊢
  generalize hr : sameE E1 E2 = r
  have hb1 := h1.1
  cbv
  have e1 : LI (.len E1) = E1.length := by rw [← hI]; rfl
  have e2 : LI (.len E2) = E2.length := by rw [← hI]; rfl
  cases hb : LB (.cmp .neq (LI (.len E1)) (LI (.len E2)))
  · rw [← hB, B_neq, e1, e2] at hb
    have hb : E1.length = E2.length := by simp only [bne_eq_false_iff_eq] at hb; omega
    cbv
    refine loopR (α := Nat × Int) [] 0 (Nat.le_refl _) (fun s a => s.sett 17 (.p (.int .i64 a.2))) (fun a => E1.length - a.1) (fun a => a.2 = a.1 ∧ a.1 ≤ E1.length ∧ firsts a.1 E1 E2) (0, 0) ⟨rfl, Nat.zero_le _, firsts_zero _ _⟩ (by cbv) ?_
    rintro S1 hS inv hinv ⟨k, K⟩ ⟨hK, hk, ht⟩
    rw [hS] at hinv ⊢
    simp only at hK hk ht
    cbv
    cases hc : LB (.cmp .lss K (LI (.len E1)))
    · rw [← hB, B_lss, e1, hK] at hc
      have hc : ¬ k < E1.length := by simpa using hc
      cbv
      refine ⟨[], 0, Nat.le_refl _, ?_⟩
      cbv
      rw [show r = true by rw [← hr]; exact firsts_all ht (by omega) (by omega)]
    · rw [← hB, B_lss, e1, hK] at hc
      have hc : k < E1.length := by simpa using hc
      obtain ⟨x, hx, hx'⟩ := h1.at hc
      obtain ⟨y, hy, hy'⟩ := h2.at (k := k) (by omega)
      have hq := hq x y hx' hy'
      generalize hs : sameC x y = b at hq
      obtain ⟨a0, a1, a2, a3n, a3, rfl, hx'⟩ := has_ins hx'
      obtain ⟨b0, b1, b2, b3n, b3, rfl, hy'⟩ := has_ins hy'
      simp only [plainP] at hq
      cbv
      refine ⟨k, _, hK, hx, rfl, ?_⟩
      cbv
      refine ⟨k, _, hK, hy, rfl, ?_⟩
      cbv
      refine ⟨[], trivial, ?_⟩
      cbv
      refine ⟨[], rfl, _, hq, Or.inl rfl, ?_⟩
      cbv
      cases hd : LB (.not b)
      · rw [← hB, B_not] at hd
        have hd : b = true := by simpa using hd
        subst hd
        cbv
        refine ⟨[], _, ?_, hinv (k + 1, LI (.ari .add .i64 K 1)) ⟨?_, hc, firsts_succ hx hy ht hs⟩⟩
        · simp only; omega
        · simp only
          rw [← hI, hK]
          exact I_inc (by omega)
      · rw [← hB, B_not] at hd
        have hd : b = false := by simpa using hd
        subst hd
        cbv
        refine ⟨[], 0, Nat.le_refl _, ?_⟩
        cbv
        rw [show r = false by rw [← hr]; exact sameE_at hx hy hs]
  · rw [← hB, B_neq, e1, e2] at hb
    cbv
    refine ⟨[], 0, Nat.le_refl _, ?_⟩
    cbv
    rw [show r = false by rw [← hr]; exact sameE_len (fun h => by rw [h] at hb; simp at hb)]
/- bytebarn/ins.Same -/
def cc103 : CC :=
 .seq (.reg [
   ⟨(some 4), .mv (.c (.p (.bool false))), none⟩])
 (.seq (.reg [
   ⟨(some 5), .mv (.t 0), none⟩,
   ⟨(some 6), .mv (.t 1), none⟩,
   ⟨(some 7), .call 118 [(.t 5), (.t 6), (.c (.p (.fn 119)))], none⟩,
   ⟨(some 4), .mv (.t 7), none⟩])
 (.ret))
def ann103 : List (List Nat) := []
theorem comp103 : comp Try.prog Try.f103.ntmps (Try.f103.body.getD .skip) ann103 = some (cc103, []) := by kernel_rfl
theorem body103 : Try.f103.body = some (Try.f103.body.getD .skip) := by kernel_rfl
theorem name103 : (Try.f103.name == "runtime.NumGoroutine") = false := by kernel_rfl
theorem res103 : resC Try.prog Try.f103.results.toList = some [.t 4] := by kernel_rfl
theorem ar103 : Nat.ble 2 Try.f103.ntmps = true := by kernel_rfl
theorem spec103 (n1 n2 : Bool) (E1 E2 : List (List PV)) (h1 : HasE TIns E1) (h2 : HasE TIns E2) : Runs Try.prog 103 [.p (.isl n1 4 E1), .p (.isl n2 4 E2)] [] (.ret (.p (.bool (sameE E1 E2))) []) := by
  refine runs_len fun _ => ?_
  refine runs_of_wp 1 Try.func103 body103 name103 comp103 res103 (Nat.le_of_ble_eq_true ar103) ?_
  generalize hI : stdI = LI
  generalize hB : stdB = LB
  generalize hE : stdE = LE
  have hq := spec118 119 (fun x y hx hy => spec119 x y hx hy) n1 n2 E1 E2 h1 h2
  generalize hR : Runs Try.prog = R at hq ⊢
  generalize hr : sameE E1 E2 = r at hq ⊢
  cbv
  refine ⟨[], trivial, ?_⟩
  cbv
  refine ⟨[], rfl, _, hq, Or.inl rfl, ?_⟩
  cbv
  refine ⟨[], 0, Nat.le_refl _, ?_⟩
  cbv
/- bytebarn/read.types -/
def cc55 : CC :=
 .seq (.reg [
   ⟨(some 2), .box (.t 0), none⟩,
   ⟨(some 3), .box (.t 1), none⟩,
   ⟨(some 4), .mv (.c (.p (.bool false))), none⟩])
 (.seq (.reg [
   ⟨(some 5), .fa 0 (.t 2), none⟩,
   ⟨(some 6), .ld 1 false (.t 5), none⟩,
   ⟨(some 7), .fa 0 (.t 3), none⟩,
   ⟨(some 8), .ld 1 false (.t 7), none⟩,
   ⟨(some 9), .call 102 [(.t 6), (.t 8)], none⟩,
   ⟨(some 10), .mv (.t 9), none⟩,
   ⟨(some 11), .fa 1 (.t 2), (some (10, true))⟩,
   ⟨(some 12), .ld 1 false (.t 11), (some (10, true))⟩,
   ⟨(some 13), .fa 1 (.t 3), (some (10, true))⟩,
   ⟨(some 14), .ld 1 false (.t 13), (some (10, true))⟩,
   ⟨(some 15), .call 102 [(.t 12), (.t 14)], (some (10, true))⟩,
   ⟨(some 16), .pick (.t 10) (.t 15) (.c (.p (.bool false))), none⟩,
   ⟨(some 4), .mv (.t 16), none⟩])
 (.ret))
def ann55 : List (List Nat) := []
theorem comp55 : comp Try.prog Try.f55.ntmps (Try.f55.body.getD .skip) ann55 = some (cc55, []) := by kernel_rfl
theorem body55 : Try.f55.body = some (Try.f55.body.getD .skip) := by kernel_rfl
theorem name55 : (Try.f55.name == "runtime.NumGoroutine") = false := by kernel_rfl
theorem res55 : resC Try.prog Try.f55.results.toList = some [.t 4] := by kernel_rfl
theorem ar55 : Nat.ble 2 Try.f55.ntmps = true := by kernel_rfl
theorem spec55 (x y : List PV) (hx : HasL TType x) (hy : HasL TType y) : Runs Try.prog 55 [.agg (plainP x), .agg (plainP y)] [] (.ret (.p (.bool (sameC x y))) []) := by
  refine runs_len fun _ => ?_
  refine runs_of_wp 2 Try.func55 body55 name55 comp55 res55 (Nat.le_of_ble_eq_true ar55) ?_
  generalize hI : stdI = LI
  generalize hB : stdB = LB
  generalize hE : stdE = LE
  obtain ⟨a0n, a0, a1n, a1, rfl, gg0, ge0, gg1, ge1⟩ := has_type hx
  obtain ⟨b0n, b0, b1n, b1, rfl, hh0, he0, hh1, he1⟩ := has_type hy
  generalize hR : Runs Try.prog = R
  generalize hr : sameC _ _ = r
  cbv
  have q0 := spec102 a0n b0n a0 b0 ge0 he0
  rw [hR] at q0
  generalize hs0 : sameE a0 b0 = s0 at q0
  refine ⟨[], trivial, ?_⟩
  cbv
  refine ⟨[], rfl, _, q0, Or.inl rfl, ?_⟩
  cbv
  cases s0
  · cbv
    refine ⟨[], 0, Nat.le_refl _, ?_⟩
    cbv
    rw [show r = false by rw [← hr]; simp only [sameC_cons, sameC_nil, same1_int, same1_bool, same1_str, same1_isl, hs0, Bool.true_and, Bool.false_and, Bool.and_true, Bool.and_false]]
  · cbv
    have q1 := spec102 a1n b1n a1 b1 ge1 he1
    rw [hR] at q1
    generalize hs1 : sameE a1 b1 = s1 at q1
    refine ⟨[], trivial, ?_⟩
    cbv
    refine ⟨[], rfl, _, q1, Or.inl rfl, ?_⟩
    cbv
    refine ⟨[], 0, Nat.le_refl _, ?_⟩
    cbv
    rw [show r = s1 by rw [← hr]; simp only [sameC_cons, sameC_nil, same1_int, same1_bool, same1_str, same1_isl, hs0, hs1, Bool.true_and, Bool.false_and, Bool.and_true, Bool.and_false]]
/- bytebarn/read.globals -/
def cc60 : CC :=
 .seq (.reg [
   ⟨(some 2), .box (.t 0), none⟩,
   ⟨(some 3), .box (.t 1), none⟩,
   ⟨(some 4), .mv (.c (.p (.bool false))), none⟩])
 (.seq (.reg [
   ⟨(some 5), .fa 0 (.t 2), none⟩,
   ⟨(some 6), .ld 1 false (.t 5), none⟩,
   ⟨(some 7), .fa 0 (.t 3), none⟩,
   ⟨(some 8), .ld 1 false (.t 7), none⟩,
   ⟨(some 9), .cmp .eql (.t 6) (.t 8), none⟩,
   ⟨(some 10), .mv (.t 9), none⟩,
   ⟨(some 11), .fa 1 (.t 2), (some (10, true))⟩,
   ⟨(some 12), .ld 1 false (.t 11), (some (10, true))⟩,
   ⟨(some 13), .fa 1 (.t 3), (some (10, true))⟩,
   ⟨(some 14), .ld 1 false (.t 13), (some (10, true))⟩,
   ⟨(some 15), .beq false (.t 12) (.t 14), (some (10, true))⟩,
   ⟨(some 16), .pick (.t 10) (.t 15) (.c (.p (.bool false))), none⟩,
   ⟨(some 17), .mv (.t 16), none⟩,
   ⟨(some 18), .fa 2 (.t 2), (some (17, true))⟩,
   ⟨(some 19), .ld 1 false (.t 18), (some (17, true))⟩,
   ⟨(some 20), .fa 2 (.t 3), (some (17, true))⟩,
   ⟨(some 21), .ld 1 false (.t 20), (some (17, true))⟩,
   ⟨(some 22), .call 103 [(.t 19), (.t 21)], (some (17, true))⟩,
   ⟨(some 23), .pick (.t 17) (.t 22) (.c (.p (.bool false))), none⟩,
   ⟨(some 4), .mv (.t 23), none⟩])
 (.ret))
def ann60 : List (List Nat) := []
theorem comp60 : comp Try.prog Try.f60.ntmps (Try.f60.body.getD .skip) ann60 = some (cc60, []) := by kernel_rfl
theorem body60 : Try.f60.body = some (Try.f60.body.getD .skip) := by kernel_rfl
theorem name60 : (Try.f60.name == "runtime.NumGoroutine") = false := by kernel_rfl
theorem res60 : resC Try.prog Try.f60.results.toList = some [.t 4] := by kernel_rfl
theorem ar60 : Nat.ble 2 Try.f60.ntmps = true := by kernel_rfl
theorem spec60 (x y : List PV) (hx : HasL TGlobal x) (hy : HasL TGlobal y) : Runs Try.prog 60 [.agg (plainP x), .agg (plainP y)] [] (.ret (.p (.bool (sameC x y))) []) := by
  refine runs_len fun _ => ?_
  refine runs_of_wp 2 Try.func60 body60 name60 comp60 res60 (Nat.le_of_ble_eq_true ar60) ?_
  generalize hI : stdI = LI
  generalize hB : stdB = LB
  generalize hE : stdE = LE
  obtain ⟨a0, a1, a2n, a2, rfl, gg2, ge2⟩ := has_global hx
  obtain ⟨b0, b1, b2n, b2, rfl, hh2, he2⟩ := has_global hy
  generalize hR : Runs Try.prog = R
  generalize hr : sameC _ _ = r
  cbv
  cases hs0 : LB (.cmp .eql a0 b0)
  · rw [← hB, B_eql] at hs0
    cbv
    refine ⟨[], 0, Nat.le_refl _, ?_⟩
    cbv
    rw [show r = false by rw [← hr]; simp only [sameC_cons, sameC_nil, same1_int, same1_bool, same1_str, same1_isl, hs0, Bool.true_and, Bool.false_and, Bool.and_true, Bool.and_false]]
  · rw [← hB, B_eql] at hs0
    cbv
    cases hs1 : LB (.eq a1 b1)
    · rw [← hB, B_eq] at hs1
      cbv
      refine ⟨[], 0, Nat.le_refl _, ?_⟩
      cbv
      rw [show r = false by rw [← hr]; simp only [sameC_cons, sameC_nil, same1_int, same1_bool, same1_str, same1_isl, hs0, hs1, Bool.true_and, Bool.false_and, Bool.and_true, Bool.and_false]]
    · rw [← hB, B_eq] at hs1
      cbv
      have q2 := spec103 a2n b2n a2 b2 ge2 he2
      rw [hR] at q2
      generalize hs2 : sameE a2 b2 = s2 at q2
      refine ⟨[], trivial, ?_⟩
      cbv
      refine ⟨[], rfl, _, q2, Or.inl rfl, ?_⟩
      cbv
      refine ⟨[], 0, Nat.le_refl _, ?_⟩
      cbv
      rw [show r = s2 by rw [← hr]; simp only [sameC_cons, sameC_nil, same1_int, same1_bool, same1_str, same1_isl, hs0, hs1, hs2, Bool.true_and, Bool.false_and, Bool.and_true, Bool.and_false]]
/- bytebarn/read.elems -/
def cc63 : CC :=
 .seq (.reg [
   ⟨(some 2), .box (.t 0), none⟩,
   ⟨(some 3), .box (.t 1), none⟩,
   ⟨(some 4), .mv (.c (.p (.bool false))), none⟩])
 (.seq (.reg [
   ⟨(some 5), .fa 0 (.t 2), none⟩,
   ⟨(some 6), .ld 1 false (.t 5), none⟩,
   ⟨(some 7), .fa 0 (.t 3), none⟩,
   ⟨(some 8), .ld 1 false (.t 7), none⟩,
   ⟨(some 9), .cmp .eql (.t 6) (.t 8), none⟩,
   ⟨(some 10), .mv (.t 9), none⟩,
   ⟨(some 11), .fa 1 (.t 2), (some (10, true))⟩,
   ⟨(some 12), .ld 1 false (.t 11), (some (10, true))⟩,
   ⟨(some 13), .fa 1 (.t 3), (some (10, true))⟩,
   ⟨(some 14), .ld 1 false (.t 13), (some (10, true))⟩,
   ⟨(some 15), .call 103 [(.t 12), (.t 14)], (some (10, true))⟩,
   ⟨(some 16), .pick (.t 10) (.t 15) (.c (.p (.bool false))), none⟩,
   ⟨(some 17), .mv (.t 16), none⟩,
   ⟨(some 18), .fa 2 (.t 2), (some (17, true))⟩,
   ⟨(some 19), .ld 1 false (.t 18), (some (17, true))⟩,
   ⟨(some 20), .fa 2 (.t 3), (some (17, true))⟩,
   ⟨(some 21), .ld 1 false (.t 20), (some (17, true))⟩,
   ⟨(some 22), .call 57 [(.t 19), (.t 21)], (some (17, true))⟩,
   ⟨(some 23), .pick (.t 17) (.t 22) (.c (.p (.bool false))), none⟩,
   ⟨(some 4), .mv (.t 23), none⟩])
 (.ret))
def ann63 : List (List Nat) := []
theorem comp63 : comp Try.prog Try.f63.ntmps (Try.f63.body.getD .skip) ann63 = some (cc63, []) := by kernel_rfl
theorem body63 : Try.f63.body = some (Try.f63.body.getD .skip) := by kernel_rfl
theorem name63 : (Try.f63.name == "runtime.NumGoroutine") = false := by kernel_rfl
theorem res63 : resC Try.prog Try.f63.results.toList = some [.t 4] := by kernel_rfl
theorem ar63 : Nat.ble 2 Try.f63.ntmps = true := by kernel_rfl
theorem spec63 (x y : List PV) (hx : HasL TElem x) (hy : HasL TElem y) : Runs Try.prog 63 [.agg (plainP x), .agg (plainP y)] [] (.ret (.p (.bool (sameC x y))) []) := by
  refine runs_len fun _ => ?_
  refine runs_of_wp 2 Try.func63 body63 name63 comp63 res63 (Nat.le_of_ble_eq_true ar63) ?_
  generalize hI : stdI = LI
  generalize hB : stdB = LB
  generalize hE : stdE = LE
  obtain ⟨a0, a1n, a1, a2n, a2, rfl, gg1, ge1, gg2, ge2⟩ := has_elem hx
  obtain ⟨b0, b1n, b1, b2n, b2, rfl, hh1, he1, hh2, he2⟩ := has_elem hy
  generalize hR : Runs Try.prog = R
  generalize hr : sameC _ _ = r
  cbv
  cases hs0 : LB (.cmp .eql a0 b0)
  · rw [← hB, B_eql] at hs0
    cbv
    refine ⟨[], 0, Nat.le_refl _, ?_⟩
    cbv
    rw [show r = false by rw [← hr]; simp only [sameC_cons, sameC_nil, same1_int, same1_bool, same1_str, same1_isl, hs0, Bool.true_and, Bool.false_and, Bool.and_true, Bool.and_false]]
  · rw [← hB, B_eql] at hs0
    cbv
    have q1 := spec103 a1n b1n a1 b1 ge1 he1
    rw [hR] at q1
    generalize hs1 : sameE a1 b1 = s1 at q1
    refine ⟨[], trivial, ?_⟩
    cbv
    refine ⟨[], rfl, _, q1, Or.inl rfl, ?_⟩
    cbv
    cases s1
    · cbv
      refine ⟨[], 0, Nat.le_refl _, ?_⟩
      cbv
      rw [show r = false by rw [← hr]; simp only [sameC_cons, sameC_nil, same1_int, same1_bool, same1_str, same1_isl, hs0, hs1, Bool.true_and, Bool.false_and, Bool.and_true, Bool.and_false]]
    · cbv
      have q2 := spec57 a2n b2n a2 b2 ge2 he2
      rw [hR] at q2
      generalize hs2 : sameE a2 b2 = s2 at q2
      refine ⟨[], trivial, ?_⟩
      cbv
      refine ⟨[], rfl, _, q2, Or.inl rfl, ?_⟩
      cbv
      refine ⟨[], 0, Nat.le_refl _, ?_⟩
      cbv
      rw [show r = s2 by rw [← hr]; simp only [sameC_cons, sameC_nil, same1_int, same1_bool, same1_str, same1_isl, hs0, hs1, hs2, Bool.true_and, Bool.false_and, Bool.and_true, Bool.and_false]]
/- bytebarn/read.codes -/
def cc65 : CC :=
 .seq (.reg [
   ⟨(some 2), .box (.t 0), none⟩,
   ⟨(some 3), .box (.t 1), none⟩,
   ⟨(some 4), .mv (.c (.p (.bool false))), none⟩])
 (.seq (.reg [
   ⟨(some 5), .fa 0 (.t 2), none⟩,
   ⟨(some 6), .ld 1 false (.t 5), none⟩,
   ⟨(some 7), .fa 0 (.t 3), none⟩,
   ⟨(some 8), .ld 1 false (.t 7), none⟩,
   ⟨(some 9), .call 104 [(.t 6), (.t 8)], none⟩,
   ⟨(some 10), .mv (.t 9), none⟩,
   ⟨(some 11), .fa 1 (.t 2), (some (10, true))⟩,
   ⟨(some 12), .ld 1 false (.t 11), (some (10, true))⟩,
   ⟨(some 13), .fa 1 (.t 3), (some (10, true))⟩,
   ⟨(some 14), .ld 1 false (.t 13), (some (10, true))⟩,
   ⟨(some 15), .call 103 [(.t 12), (.t 14)], (some (10, true))⟩,
   ⟨(some 16), .pick (.t 10) (.t 15) (.c (.p (.bool false))), none⟩,
   ⟨(some 4), .mv (.t 16), none⟩])
 (.ret))
def ann65 : List (List Nat) := []
theorem comp65 : comp Try.prog Try.f65.ntmps (Try.f65.body.getD .skip) ann65 = some (cc65, []) := by kernel_rfl
theorem body65 : Try.f65.body = some (Try.f65.body.getD .skip) := by kernel_rfl
theorem name65 : (Try.f65.name == "runtime.NumGoroutine") = false := by kernel_rfl
theorem res65 : resC Try.prog Try.f65.results.toList = some [.t 4] := by kernel_rfl
theorem ar65 : Nat.ble 2 Try.f65.ntmps = true := by kernel_rfl
theorem spec65 (x y : List PV) (hx : HasL TCode x) (hy : HasL TCode y) : Runs Try.prog 65 [.agg (plainP x), .agg (plainP y)] [] (.ret (.p (.bool (sameC x y))) []) := by
  refine runs_len fun _ => ?_
  refine runs_of_wp 2 Try.func65 body65 name65 comp65 res65 (Nat.le_of_ble_eq_true ar65) ?_
  generalize hI : stdI = LI
  generalize hB : stdB = LB
  generalize hE : stdE = LE
  obtain ⟨a0n, a0, a1n, a1, rfl, gg0, ge0, gg1, ge1⟩ := has_code hx
  obtain ⟨b0n, b0, b1n, b1, rfl, hh0, he0, hh1, he1⟩ := has_code hy
  generalize hR : Runs Try.prog = R
  generalize hr : sameC _ _ = r
  cbv
  have q0 := spec104 a0n b0n a0 b0 ge0 he0
  rw [hR] at q0
  generalize hs0 : sameE a0 b0 = s0 at q0
  refine ⟨[], trivial, ?_⟩
  cbv
  refine ⟨[], rfl, _, q0, Or.inl rfl, ?_⟩
  cbv
  cases s0
  · cbv
    refine ⟨[], 0, Nat.le_refl _, ?_⟩
    cbv
    rw [show r = false by rw [← hr]; simp only [sameC_cons, sameC_nil, same1_int, same1_bool, same1_str, same1_isl, hs0, Bool.true_and, Bool.false_and, Bool.and_true, Bool.and_false]]
  · cbv
    have q1 := spec103 a1n b1n a1 b1 ge1 he1
    rw [hR] at q1
    generalize hs1 : sameE a1 b1 = s1 at q1
    refine ⟨[], trivial, ?_⟩
    cbv
    refine ⟨[], rfl, _, q1, Or.inl rfl, ?_⟩
    cbv
    refine ⟨[], 0, Nat.le_refl _, ?_⟩
    cbv
    rw [show r = s1 by rw [← hr]; simp only [sameC_cons, sameC_nil, same1_int, same1_bool, same1_str, same1_isl, hs0, hs1, Bool.true_and, Bool.false_and, Bool.and_true, Bool.and_false]]
/- bytebarn/read.datas -/
def cc67 : CC :=
 .seq (.reg [
   ⟨(some 2), .box (.t 0), none⟩,
   ⟨(some 3), .box (.t 1), none⟩,
   ⟨(some 4), .mv (.c (.p (.bool false))), none⟩])
 (.seq (.reg [
   ⟨(some 5), .fa 0 (.t 2), none⟩,
   ⟨(some 6), .ld 1 false (.t 5), none⟩,
   ⟨(some 7), .fa 0 (.t 3), none⟩,
   ⟨(some 8), .ld 1 false (.t 7), none⟩,
   ⟨(some 9), .cmp .eql (.t 6) (.t 8), none⟩,
   ⟨(some 10), .mv (.t 9), none⟩,
   ⟨(some 11), .fa 1 (.t 2), (some (10, true))⟩,
   ⟨(some 12), .ld 1 false (.t 11), (some (10, true))⟩,
   ⟨(some 13), .fa 1 (.t 3), (some (10, true))⟩,
   ⟨(some 14), .ld 1 false (.t 13), (some (10, true))⟩,
   ⟨(some 15), .call 103 [(.t 12), (.t 14)], (some (10, true))⟩,
   ⟨(some 16), .pick (.t 10) (.t 15) (.c (.p (.bool false))), none⟩,
   ⟨(some 17), .mv (.t 16), none⟩,
   ⟨(some 18), .fa 2 (.t 2), (some (17, true))⟩,
   ⟨(some 19), .ld 1 false (.t 18), (some (17, true))⟩,
   ⟨(some 20), .fa 2 (.t 3), (some (17, true))⟩,
   ⟨(some 21), .ld 1 false (.t 20), (some (17, true))⟩,
   ⟨(some 22), .call 105 [(.t 19), (.t 21)], (some (17, true))⟩,
   ⟨(some 23), .pick (.t 17) (.t 22) (.c (.p (.bool false))), none⟩,
   ⟨(some 4), .mv (.t 23), none⟩])
 (.ret))
def ann67 : List (List Nat) := []
theorem comp67 : comp Try.prog Try.f67.ntmps (Try.f67.body.getD .skip) ann67 = some (cc67, []) := by kernel_rfl
theorem body67 : Try.f67.body = some (Try.f67.body.getD .skip) := by kernel_rfl
theorem name67 : (Try.f67.name == "runtime.NumGoroutine") = false := by kernel_rfl
theorem res67 : resC Try.prog Try.f67.results.toList = some [.t 4] := by kernel_rfl
theorem ar67 : Nat.ble 2 Try.f67.ntmps = true := by kernel_rfl
theorem spec67 (x y : List PV) (hx : HasL TData x) (hy : HasL TData y) : Runs Try.prog 67 [.agg (plainP x), .agg (plainP y)] [] (.ret (.p (.bool (sameC x y))) []) := by
  refine runs_len fun _ => ?_
  refine runs_of_wp 2 Try.func67 body67 name67 comp67 res67 (Nat.le_of_ble_eq_true ar67) ?_
  generalize hI : stdI = LI
  generalize hB : stdB = LB
  generalize hE : stdE = LE
  obtain ⟨a0, a1n, a1, a2n, a2, rfl, gg1, ge1, gg2, ge2⟩ := has_data hx
  obtain ⟨b0, b1n, b1, b2n, b2, rfl, hh1, he1, hh2, he2⟩ := has_data hy
  generalize hR : Runs Try.prog = R
  generalize hr : sameC _ _ = r
  cbv
  cases hs0 : LB (.cmp .eql a0 b0)
  · rw [← hB, B_eql] at hs0
    cbv
    refine ⟨[], 0, Nat.le_refl _, ?_⟩
    cbv
    rw [show r = false by rw [← hr]; simp only [sameC_cons, sameC_nil, same1_int, same1_bool, same1_str, same1_isl, hs0, Bool.true_and, Bool.false_and, Bool.and_true, Bool.and_false]]
  · rw [← hB, B_eql] at hs0
    cbv
    have q1 := spec103 a1n b1n a1 b1 ge1 he1
    rw [hR] at q1
    generalize hs1 : sameE a1 b1 = s1 at q1
    refine ⟨[], trivial, ?_⟩
    cbv
    refine ⟨[], rfl, _, q1, Or.inl rfl, ?_⟩
    cbv
    cases s1
    · cbv
      refine ⟨[], 0, Nat.le_refl _, ?_⟩
      cbv
      rw [show r = false by rw [← hr]; simp only [sameC_cons, sameC_nil, same1_int, same1_bool, same1_str, same1_isl, hs0, hs1, Bool.true_and, Bool.false_and, Bool.and_true, Bool.and_false]]
    · cbv
      have q2 := spec105 a2n b2n a2 b2 ge2 he2
      rw [hR] at q2
      generalize hs2 : sameE a2 b2 = s2 at q2
      refine ⟨[], trivial, ?_⟩
      cbv
      refine ⟨[], rfl, _, q2, Or.inl rfl, ?_⟩
      cbv
      refine ⟨[], 0, Nat.le_refl _, ?_⟩
      cbv
      rw [show r = s2 by rw [← hr]; simp only [sameC_cons, sameC_nil, same1_int, same1_bool, same1_str, same1_isl, hs0, hs1, hs2, Bool.true_and, Bool.false_and, Bool.and_true, Bool.and_false]]
/- slices.EqualFunc(()bytebarn/api.Type,()bytebarn/api.Type,bytebarn/api.Type,bytebarn/api.Type) -/
def cc54 : CC :=
 .seq (.reg [
   ⟨(some 6), .mv (.c (.p (.bool false))), none⟩])
 (.seq (.seq (.reg [
   ⟨(some 10), .mv (.t 0), none⟩,
   ⟨(some 11), .len false (.t 10), none⟩,
   ⟨(some 12), .mv (.t 1), none⟩,
   ⟨(some 13), .len false (.t 12), none⟩,
   ⟨(some 14), .cmp .neq (.t 11) (.t 13), none⟩])
 (.cond (.t 14)
  (.seq (.reg [
    ⟨(some 6), .mv (.c (.p (.bool false))), none⟩])
  (.ret))
  (.skip)))
 (.seq (.seq (.reg [
   ⟨(some 15), .mv (.t 0), none⟩,
   ⟨(some 16), .len false (.t 15), none⟩,
   ⟨(some 17), .mv (.c (.p (.int .i64 0))), none⟩])
 (.block 0 (.loop [1, 2, 15, 16, 17]
   (.seq (.reg [
     ⟨(some 18), .cmp .lss (.t 17) (.t 16), none⟩])
   (.seq (.cond (.t 18)
    (.skip)
    (.exit 0))
   (.seq (.block 1 (.seq (.reg [
      ⟨(some 19), .mv (.t 17), none⟩,
      ⟨(some 20), .ia 2 (.t 15) (.t 17), none⟩,
      ⟨(some 21), .ld 2 true (.t 20), none⟩,
      ⟨(some 8), .alloc [(.isl false 0 []), (.isl false 0 [])], none⟩,
      ⟨(some 7), .mv (.t 19), none⟩,
      ⟨none, .st 2 (.t 8) (.t 21), none⟩])
    (.seq (.reg [
      ⟨(some 22), .mv (.t 1), none⟩,
      ⟨(some 23), .mv (.t 7), none⟩,
      ⟨(some 24), .ia 2 (.t 22) (.t 23), none⟩,
      ⟨(some 25), .ld 2 true (.t 24), none⟩,
      ⟨(some 9), .alloc [(.isl false 0 []), (.isl false 0 [])], none⟩,
      ⟨none, .st 2 (.t 9) (.t 25), none⟩])
    (.seq (.reg [
      ⟨(some 26), .mv (.t 2), none⟩,
      ⟨(some 27), .ld 2 true (.t 8), none⟩,
      ⟨(some 28), .ld 2 true (.t 9), none⟩,
      ⟨(some 29), .calld (.t 26) [(.t 27), (.t 28)], none⟩,
      ⟨(some 30), .not (.t 29), none⟩])
    (.cond (.t 30)
     (.seq (.reg [
       ⟨(some 6), .mv (.c (.p (.bool false))), none⟩])
     (.ret))
     (.skip))))))
   (.reg [
     ⟨(some 31), .ari .add .i64 (.t 17) (.c (.p (.int .i64 1))), none⟩,
     ⟨(some 17), .mv (.t 31), none⟩])))))))
 (.seq (.reg [
   ⟨(some 6), .mv (.c (.p (.bool true))), none⟩])
 (.ret))))
def ann54 : List (List Nat) := [[1, 2, 15, 16, 17]]
theorem comp54 : comp Try.prog Try.f54.ntmps (Try.f54.body.getD .skip) ann54 = some (cc54, []) := by kernel_rfl
theorem body54 : Try.f54.body = some (Try.f54.body.getD .skip) := by kernel_rfl
theorem name54 : (Try.f54.name == "runtime.NumGoroutine") = false := by kernel_rfl
theorem res54 : resC Try.prog Try.f54.results.toList = some [.t 6] := by kernel_rfl
theorem ar54 : Nat.ble 3 Try.f54.ntmps = true := by kernel_rfl
theorem spec54 (g : Nat) (hg : ∀ x y, HasL TType x → HasL TType y → Runs Try.prog g [.agg (plainP x), .agg (plainP y)] [] (.ret (.p (.bool (sameC x y))) [])) (n1 n2 : Bool) (E1 E2 : List (List PV)) (h1 : HasE TType E1) (h2 : HasE TType E2) : Runs Try.prog 54 [.p (.isl n1 2 E1), .p (.isl n2 2 E2), .p (.fn g)] [] (.ret (.p (.bool (sameE E1 E2))) []) := by
  refine runs_len fun _ => ?_
  refine runs_of_wp 2 Try.func54 body54 name54 comp54 res54 (Nat.le_of_ble_eq_true ar54) ?_
  generalize hI : stdI = LI
  generalize hB : stdB = LB
  generalize hE : stdE = LE
  have hq := hg
  generalize hR : Runs Try.prog = R at hq ⊢
  generalize hr : sameE E1 E2 = r
  have hb1 := h1.1
  cbv
  have e1 : LI (.len E1) = E1.length := by rw [← hI]; rfl
  have e2 : LI (.len E2) = E2.length := by rw [← hI]; rfl
  cases hb : LB (.cmp .neq (LI (.len E1)) (LI (.len E2)))
  · rw [← hB, B_neq, e1, e2] at hb
    have hb : E1.length = E2.length := by simp only [bne_eq_false_iff_eq] at hb; omega
    cbv
    refine loopR (α := Nat × Int) [] 0 (Nat.le_refl _) (fun s a => s.sett 17 (.p (.int .i64 a.2))) (fun a => E1.length - a.1) (fun a => a.2 = a.1 ∧ a.1 ≤ E1.length ∧ firsts a.1 E1 E2) (0, 0) ⟨rfl, Nat.zero_le _, firsts_zero _ _⟩ (by cbv) ?_
    rintro S1 hS inv hinv ⟨k, K⟩ ⟨hK, hk, ht⟩
    rw [hS] at hinv ⊢
    simp only at hK hk ht
    cbv
    cases hc : LB (.cmp .lss K (LI (.len E1)))
    · rw [← hB, B_lss, e1, hK] at hc
      have hc : ¬ k < E1.length := by simpa using hc
      cbv
      refine ⟨[], 0, Nat.le_refl _, ?_⟩
      cbv
      rw [show r = true by rw [← hr]; exact firsts_all ht (by omega) (by omega)]
    · rw [← hB, B_lss, e1, hK] at hc
      have hc : k < E1.length := by simpa using hc
      obtain ⟨x, hx, hx'⟩ := h1.at hc
      obtain ⟨y, hy, hy'⟩ := h2.at (k := k) (by omega)
      have hq := hq x y hx' hy'
      generalize hs : sameC x y = b at hq
      obtain ⟨a0n, a0, a1n, a1, rfl, hx'⟩ := has_type hx'
      obtain ⟨b0n, b0, b1n, b1, rfl, hy'⟩ := has_type hy'
      simp only [plainP] at hq
      cbv
      refine ⟨k, _, hK, hx, rfl, ?_⟩
      cbv
      refine ⟨k, _, hK, hy, rfl, ?_⟩
      cbv
      refine ⟨[], trivial, ?_⟩
      cbv
      refine ⟨[], rfl, _, hq, Or.inl rfl, ?_⟩
      cbv
      cases hd : LB (.not b)
      · rw [← hB, B_not] at hd
        have hd : b = true := by simpa using hd
        subst hd
        cbv
        refine ⟨[], _, ?_, hinv (k + 1, LI (.ari .add .i64 K 1)) ⟨?_, hc, firsts_succ hx hy ht hs⟩⟩
        · simp only; omega
        · simp only
          rw [← hI, hK]
          exact I_inc (by omega)
      · rw [← hB, B_not] at hd
        have hd : b = false := by simpa using hd
        subst hd
        cbv
        refine ⟨[], 0, Nat.le_refl _, ?_⟩
        cbv
        rw [show r = false by rw [← hr]; exact sameE_at hx hy hs]
  · rw [← hB, B_neq, e1, e2] at hb
    cbv
    refine ⟨[], 0, Nat.le_refl _, ?_⟩
    cbv
    rw [show r = false by rw [← hr]; exact sameE_len (fun h => by rw [h] at hb; simp at hb)]
/- slices.EqualFunc(()bytebarn/api.Global,()bytebarn/api.Global,bytebarn/api.Global,bytebarn/api.Global) -/
def cc59 : CC :=
 .seq (.reg [
   ⟨(some 6), .mv (.c (.p (.bool false))), none⟩])
 (.seq (.seq (.reg [
   ⟨(some 10), .mv (.t 0), none⟩,
   ⟨(some 11), .len false (.t 10), none⟩,
   ⟨(some 12), .mv (.t 1), none⟩,
   ⟨(some 13), .len false (.t 12), none⟩,
   ⟨(some 14), .cmp .neq (.t 11) (.t 13), none⟩])
 (.cond (.t 14)
  (.seq (.reg [
    ⟨(some 6), .mv (.c (.p (.bool false))), none⟩])
  (.ret))
  (.skip)))
 (.seq (.seq (.reg [
   ⟨(some 15), .mv (.t 0), none⟩,
   ⟨(some 16), .len false (.t 15), none⟩,
   ⟨(some 17), .mv (.c (.p (.int .i64 0))), none⟩])
 (.block 0 (.loop [1, 2, 15, 16, 17]
   (.seq (.reg [
     ⟨(some 18), .cmp .lss (.t 17) (.t 16), none⟩])
   (.seq (.cond (.t 18)
    (.skip)
    (.exit 0))
   (.seq (.block 1 (.seq (.reg [
      ⟨(some 19), .mv (.t 17), none⟩,
      ⟨(some 20), .ia 3 (.t 15) (.t 17), none⟩,
      ⟨(some 21), .ld 3 true (.t 20), none⟩,
      ⟨(some 8), .alloc [(.int .u8 0), (.bool false), (.isl false 0 [])], none⟩,
      ⟨(some 7), .mv (.t 19), none⟩,
      ⟨none, .st 3 (.t 8) (.t 21), none⟩])
    (.seq (.reg [
      ⟨(some 22), .mv (.t 1), none⟩,
      ⟨(some 23), .mv (.t 7), none⟩,
      ⟨(some 24), .ia 3 (.t 22) (.t 23), none⟩,
      ⟨(some 25), .ld 3 true (.t 24), none⟩,
      ⟨(some 9), .alloc [(.int .u8 0), (.bool false), (.isl false 0 [])], none⟩,
      ⟨none, .st 3 (.t 9) (.t 25), none⟩])
    (.seq (.reg [
      ⟨(some 26), .mv (.t 2), none⟩,
      ⟨(some 27), .ld 3 true (.t 8), none⟩,
      ⟨(some 28), .ld 3 true (.t 9), none⟩,
      ⟨(some 29), .calld (.t 26) [(.t 27), (.t 28)], none⟩,
      ⟨(some 30), .not (.t 29), none⟩])
    (.cond (.t 30)
     (.seq (.reg [
       ⟨(some 6), .mv (.c (.p (.bool false))), none⟩])
     (.ret))
     (.skip))))))
   (.reg [
     ⟨(some 31), .ari .add .i64 (.t 17) (.c (.p (.int .i64 1))), none⟩,
     ⟨(some 17), .mv (.t 31), none⟩])))))))
 (.seq (.reg [
   ⟨(some 6), .mv (.c (.p (.bool true))), none⟩])
 (.ret))))
def ann59 : List (List Nat) := [[1, 2, 15, 16, 17]]
theorem comp59 : comp Try.prog Try.f59.ntmps (Try.f59.body.getD .skip) ann59 = some (cc59, []) := by kernel_rfl
theorem body59 : Try.f59.body = some (Try.f59.body.getD .skip) := by kernel_rfl
theorem name59 : (Try.f59.name == "runtime.NumGoroutine") = false := by kernel_rfl
theorem res59 : resC Try.prog Try.f59.results.toList = some [.t 6] := by kernel_rfl
theorem ar59 : Nat.ble 3 Try.f59.ntmps = true := by kernel_rfl
theorem spec59 (g : Nat) (hg : ∀ x y, HasL TGlobal x → HasL TGlobal y → Runs Try.prog g [.agg (plainP x), .agg (plainP y)] [] (.ret (.p (.bool (sameC x y))) [])) (n1 n2 : Bool) (E1 E2 : List (List PV)) (h1 : HasE TGlobal E1) (h2 : HasE TGlobal E2) : Runs Try.prog 59 [.p (.isl n1 3 E1), .p (.isl n2 3 E2), .p (.fn g)] [] (.ret (.p (.bool (sameE E1 E2))) []) := by
  refine runs_len fun _ => ?_
  refine runs_of_wp 2 Try.func59 body59 name59 comp59 res59 (Nat.le_of_ble_eq_true ar59) ?_
  generalize hI : stdI = LI
  generalize hB : stdB = LB
  generalize hE : stdE = LE
  have hq := hg
  generalize hR : Runs Try.prog = R at hq ⊢
  generalize hr : sameE E1 E2 = r
  have hb1 := h1.1
  cbv
  have e1 : LI (.len E1) = E1.length := by rw [← hI]; rfl
  have e2 : LI (.len E2) = E2.length := by rw [← hI]; rfl
  cases hb : LB (.cmp .neq (LI (.len E1)) (LI (.len E2)))
  · rw [← hB, B_neq, e1, e2] at hb
    have hb : E1.length = E2.length := by simp only [bne_eq_false_iff_eq] at hb; omega
    cbv
    refine loopR (α := Nat × Int) [] 0 (Nat.le_refl _) (fun s a => s.sett 17 (.p (.int .i64 a.2))) (fun a => E1.length - a.1) (fun a => a.2 = a.1 ∧ a.1 ≤ E1.length ∧ firsts a.1 E1 E2) (0, 0) ⟨rfl, Nat.zero_le _, firsts_zero _ _⟩ (by cbv) ?_
    rintro S1 hS inv hinv ⟨k, K⟩ ⟨hK, hk, ht⟩
    rw [hS] at hinv ⊢
    simp only at hK hk ht
    cbv
    cases hc : LB (.cmp .lss K (LI (.len E1)))
    · rw [← hB, B_lss, e1, hK] at hc
      have hc : ¬ k < E1.length := by simpa using hc
      cbv
      refine ⟨[], 0, Nat.le_refl _, ?_⟩
      cbv
      rw [show r = true by rw [← hr]; exact firsts_all ht (by omega) (by omega)]
    · rw [← hB, B_lss, e1, hK] at hc
      have hc : k < E1.length := by simpa using hc
      obtain ⟨x, hx, hx'⟩ := h1.at hc
      obtain ⟨y, hy, hy'⟩ := h2.at (k := k) (by omega)
      have hq := hq x y hx' hy'
      generalize hs : sameC x y = b at hq
      obtain ⟨a0, a1, a2n, a2, rfl, hx'⟩ := has_global hx'
      obtain ⟨b0, b1, b2n, b2, rfl, hy'⟩ := has_global hy'
      simp only [plainP] at hq
      cbv
      refine ⟨k, _, hK, hx, rfl, ?_⟩
      cbv
      refine ⟨k, _, hK, hy, rfl, ?_⟩
      cbv
      refine ⟨[], trivial, ?_⟩
      cbv
      refine ⟨[], rfl, _, hq, Or.inl rfl, ?_⟩
      cbv
      cases hd : LB (.not b)
      · rw [← hB, B_not] at hd
        have hd : b = true := by simpa using hd
        subst hd
        cbv
        refine ⟨[], _, ?_, hinv (k + 1, LI (.ari .add .i64 K 1)) ⟨?_, hc, firsts_succ hx hy ht hs⟩⟩
        · simp only; omega
        · simp only
          rw [← hI, hK]
          exact I_inc (by omega)
      · rw [← hB, B_not] at hd
        have hd : b = false := by simpa using hd
        subst hd
        cbv
        refine ⟨[], 0, Nat.le_refl _, ?_⟩
        cbv
        rw [show r = false by rw [← hr]; exact sameE_at hx hy hs]
  · rw [← hB, B_neq, e1, e2] at hb
    cbv
    refine ⟨[], 0, Nat.le_refl _, ?_⟩
    cbv
    rw [show r = false by rw [← hr]; exact sameE_len (fun h => by rw [h] at hb; simp at hb)]
/- slices.EqualFunc(()bytebarn/api.Elem,()bytebarn/api.Elem,bytebarn/api.Elem,bytebarn/api.Elem) -/
def cc62 : CC :=
 .seq (.reg [
   ⟨(some 6), .mv (.c (.p (.bool false))), none⟩])
 (.seq (.seq (.reg [
   ⟨(some 10), .mv (.t 0), none⟩,
   ⟨(some 11), .len false (.t 10), none⟩,
   ⟨(some 12), .mv (.t 1), none⟩,
   ⟨(some 13), .len false (.t 12), none⟩,
   ⟨(some 14), .cmp .neq (.t 11) (.t 13), none⟩])
 (.cond (.t 14)
  (.seq (.reg [
    ⟨(some 6), .mv (.c (.p (.bool false))), none⟩])
  (.ret))
  (.skip)))
 (.seq (.seq (.reg [
   ⟨(some 15), .mv (.t 0), none⟩,
   ⟨(some 16), .len false (.t 15), none⟩,
   ⟨(some 17), .mv (.c (.p (.int .i64 0))), none⟩])
 (.block 0 (.loop [1, 2, 15, 16, 17]
   (.seq (.reg [
     ⟨(some 18), .cmp .lss (.t 17) (.t 16), none⟩])
   (.seq (.cond (.t 18)
    (.skip)
    (.exit 0))
   (.seq (.block 1 (.seq (.reg [
      ⟨(some 19), .mv (.t 17), none⟩,
      ⟨(some 20), .ia 3 (.t 15) (.t 17), none⟩,
      ⟨(some 21), .ld 3 true (.t 20), none⟩,
      ⟨(some 8), .alloc [(.int .i64 0), (.isl false 0 []), (.isl false 0 [])], none⟩,
      ⟨(some 7), .mv (.t 19), none⟩,
      ⟨none, .st 3 (.t 8) (.t 21), none⟩])
    (.seq (.reg [
      ⟨(some 22), .mv (.t 1), none⟩,
      ⟨(some 23), .mv (.t 7), none⟩,
      ⟨(some 24), .ia 3 (.t 22) (.t 23), none⟩,
      ⟨(some 25), .ld 3 true (.t 24), none⟩,
      ⟨(some 9), .alloc [(.int .i64 0), (.isl false 0 []), (.isl false 0 [])], none⟩,
      ⟨none, .st 3 (.t 9) (.t 25), none⟩])
    (.seq (.reg [
      ⟨(some 26), .mv (.t 2), none⟩,
      ⟨(some 27), .ld 3 true (.t 8), none⟩,
      ⟨(some 28), .ld 3 true (.t 9), none⟩,
      ⟨(some 29), .calld (.t 26) [(.t 27), (.t 28)], none⟩,
      ⟨(some 30), .not (.t 29), none⟩])
    (.cond (.t 30)
     (.seq (.reg [
       ⟨(some 6), .mv (.c (.p (.bool false))), none⟩])
     (.ret))
     (.skip))))))
   (.reg [
     ⟨(some 31), .ari .add .i64 (.t 17) (.c (.p (.int .i64 1))), none⟩,
     ⟨(some 17), .mv (.t 31), none⟩])))))))
 (.seq (.reg [
   ⟨(some 6), .mv (.c (.p (.bool true))), none⟩])
 (.ret))))
def ann62 : List (List Nat) := [[1, 2, 15, 16, 17]]
theorem comp62 : comp Try.prog Try.f62.ntmps (Try.f62.body.getD .skip) ann62 = some (cc62, []) := by kernel_rfl
theorem body62 : Try.f62.body = some (Try.f62.body.getD .skip) := by kernel_rfl
theorem name62 : (Try.f62.name == "runtime.NumGoroutine") = false := by kernel_rfl
theorem res62 : resC Try.prog Try.f62.results.toList = some [.t 6] := by kernel_rfl
theorem ar62 : Nat.ble 3 Try.f62.ntmps = true := by kernel_rfl
theorem spec62 (g : Nat) (hg : ∀ x y, HasL TElem x → HasL TElem y → Runs Try.prog g [.agg (plainP x), .agg (plainP y)] [] (.ret (.p (.bool (sameC x y))) [])) (n1 n2 : Bool) (E1 E2 : List (List PV)) (h1 : HasE TElem E1) (h2 : HasE TElem E2) : Runs Try.prog 62 [.p (.isl n1 3 E1), .p (.isl n2 3 E2), .p (.fn g)] [] (.ret (.p (.bool (sameE E1 E2))) []) := by
  refine runs_len fun _ => ?_
  refine runs_of_wp 2 Try.func62 body62 name62 comp62 res62 (Nat.le_of_ble_eq_true ar62) ?_
  generalize hI : stdI = LI
  generalize hB : stdB = LB
  generalize hE : stdE = LE
  have hq := hg
  generalize hR : Runs Try.prog = R at hq ⊢
  generalize hr : sameE E1 E2 = r
  have hb1 := h1.1
  cbv
  have e1 : LI (.len E1) = E1.length := by rw [← hI]; rfl
  have e2 : LI (.len E2) = E2.length := by rw [← hI]; rfl
  cases hb : LB (.cmp .neq (LI (.len E1)) (LI (.len E2)))
  · rw [← hB, B_neq, e1, e2] at hb
    have hb : E1.length = E2.length := by simp only [bne_eq_false_iff_eq] at hb; omega
    cbv
    refine loopR (α := Nat × Int) [] 0 (Nat.le_refl _) (fun s a => s.sett 17 (.p (.int .i64 a.2))) (fun a => E1.length - a.1) (fun a => a.2 = a.1 ∧ a.1 ≤ E1.length ∧ firsts a.1 E1 E2) (0, 0) ⟨rfl, Nat.zero_le _, firsts_zero _ _⟩ (by cbv) ?_
    rintro S1 hS inv hinv ⟨k, K⟩ ⟨hK, hk, ht⟩
    rw [hS] at hinv ⊢
    simp only at hK hk ht
    cbv
    cases hc : LB (.cmp .lss K (LI (.len E1)))
    · rw [← hB, B_lss, e1, hK] at hc
      have hc : ¬ k < E1.length := by simpa using hc
      cbv
      refine ⟨[], 0, Nat.le_refl _, ?_⟩
      cbv
      rw [show r = true by rw [← hr]; exact firsts_all ht (by omega) (by omega)]
    · rw [← hB, B_lss, e1, hK] at hc
      have hc : k < E1.length := by simpa using hc
      obtain ⟨x, hx, hx'⟩ := h1.at hc
      obtain ⟨y, hy, hy'⟩ := h2.at (k := k) (by omega)
      have hq := hq x y hx' hy'
      generalize hs : sameC x y = b at hq
      obtain ⟨a0, a1n, a1, a2n, a2, rfl, hx'⟩ := has_elem hx'
      obtain ⟨b0, b1n, b1, b2n, b2, rfl, hy'⟩ := has_elem hy'
      simp only [plainP] at hq
      cbv
      refine ⟨k, _, hK, hx, rfl, ?_⟩
      cbv
      refine ⟨k, _, hK, hy, rfl, ?_⟩
      cbv
      refine ⟨[], trivial, ?_⟩
      cbv
      refine ⟨[], rfl, _, hq, Or.inl rfl, ?_⟩
      cbv
      cases hd : LB (.not b)
      · rw [← hB, B_not] at hd
        have hd : b = true := by simpa using hd
        subst hd
        cbv
        refine ⟨[], _, ?_, hinv (k + 1, LI (.ari .add .i64 K 1)) ⟨?_, hc, firsts_succ hx hy ht hs⟩⟩
        · simp only; omega
        · simp only
          rw [← hI, hK]
          exact I_inc (by omega)
      · rw [← hB, B_not] at hd
        have hd : b = false := by simpa using hd
        subst hd
        cbv
        refine ⟨[], 0, Nat.le_refl _, ?_⟩
        cbv
        rw [show r = false by rw [← hr]; exact sameE_at hx hy hs]
  · rw [← hB, B_neq, e1, e2] at hb
    cbv
    refine ⟨[], 0, Nat.le_refl _, ?_⟩
    cbv
    rw [show r = false by rw [← hr]; exact sameE_len (fun h => by rw [h] at hb; simp at hb)]
/- slices.EqualFunc(()bytebarn/api.Code,()bytebarn/api.Code,bytebarn/api.Code,bytebarn/api.Code) -/
def cc64 : CC :=
 .seq (.reg [
   ⟨(some 6), .mv (.c (.p (.bool false))), none⟩])
 (.seq (.seq (.reg [
   ⟨(some 10), .mv (.t 0), none⟩,
   ⟨(some 11), .len false (.t 10), none⟩,
   ⟨(some 12), .mv (.t 1), none⟩,
   ⟨(some 13), .len false (.t 12), none⟩,
   ⟨(some 14), .cmp .neq (.t 11) (.t 13), none⟩])
 (.cond (.t 14)
  (.seq (.reg [
    ⟨(some 6), .mv (.c (.p (.bool false))), none⟩])
  (.ret))
  (.skip)))
 (.seq (.seq (.reg [
   ⟨(some 15), .mv (.t 0), none⟩,
   ⟨(some 16), .len false (.t 15), none⟩,
   ⟨(some 17), .mv (.c (.p (.int .i64 0))), none⟩])
 (.block 0 (.loop [1, 2, 15, 16, 17]
   (.seq (.reg [
     ⟨(some 18), .cmp .lss (.t 17) (.t 16), none⟩])
   (.seq (.cond (.t 18)
    (.skip)
    (.exit 0))
   (.seq (.block 1 (.seq (.reg [
      ⟨(some 19), .mv (.t 17), none⟩,
      ⟨(some 20), .ia 2 (.t 15) (.t 17), none⟩,
      ⟨(some 21), .ld 2 true (.t 20), none⟩,
      ⟨(some 8), .alloc [(.isl false 0 []), (.isl false 0 [])], none⟩,
      ⟨(some 7), .mv (.t 19), none⟩,
      ⟨none, .st 2 (.t 8) (.t 21), none⟩])
    (.seq (.reg [
      ⟨(some 22), .mv (.t 1), none⟩,
      ⟨(some 23), .mv (.t 7), none⟩,
      ⟨(some 24), .ia 2 (.t 22) (.t 23), none⟩,
      ⟨(some 25), .ld 2 true (.t 24), none⟩,
      ⟨(some 9), .alloc [(.isl false 0 []), (.isl false 0 [])], none⟩,
      ⟨none, .st 2 (.t 9) (.t 25), none⟩])
    (.seq (.reg [
      ⟨(some 26), .mv (.t 2), none⟩,
      ⟨(some 27), .ld 2 true (.t 8), none⟩,
      ⟨(some 28), .ld 2 true (.t 9), none⟩,
      ⟨(some 29), .calld (.t 26) [(.t 27), (.t 28)], none⟩,
      ⟨(some 30), .not (.t 29), none⟩])
    (.cond (.t 30)
     (.seq (.reg [
       ⟨(some 6), .mv (.c (.p (.bool false))), none⟩])
     (.ret))
     (.skip))))))
   (.reg [
     ⟨(some 31), .ari .add .i64 (.t 17) (.c (.p (.int .i64 1))), none⟩,
     ⟨(some 17), .mv (.t 31), none⟩])))))))
 (.seq (.reg [
   ⟨(some 6), .mv (.c (.p (.bool true))), none⟩])
 (.ret))))
def ann64 : List (List Nat) := [[1, 2, 15, 16, 17]]
theorem comp64 : comp Try.prog Try.f64.ntmps (Try.f64.body.getD .skip) ann64 = some (cc64, []) := by kernel_rfl
theorem body64 : Try.f64.body = some (Try.f64.body.getD .skip) := by kernel_rfl
theorem name64 : (Try.f64.name == "runtime.NumGoroutine") = false := by kernel_rfl
theorem res64 : resC Try.prog Try.f64.results.toList = some [.t 6] := by kernel_rfl
theorem ar64 : Nat.ble 3 Try.f64.ntmps = true := by kernel_rfl
theorem spec64 (g : Nat) (hg : ∀ x y, HasL TCode x → HasL TCode y → Runs Try.prog g [.agg (plainP x), .agg (plainP y)] [] (.ret (.p (.bool (sameC x y))) [])) (n1 n2 : Bool) (E1 E2 : List (List PV)) (h1 : HasE TCode E1) (h2 : HasE TCode E2) : Runs Try.prog 64 [.p (.isl n1 2 E1), .p (.isl n2 2 E2), .p (.fn g)] [] (.ret (.p (.bool (sameE E1 E2))) []) := by
  refine runs_len fun _ => ?_
  refine runs_of_wp 2 Try.func64 body64 name64 comp64 res64 (Nat.le_of_ble_eq_true ar64) ?_
  generalize hI : stdI = LI
  generalize hB : stdB = LB
  generalize hE : stdE = LE
  have hq := hg
  generalize hR : Runs Try.prog = R at hq ⊢
  generalize hr : sameE E1 E2 = r
  have hb1 := h1.1
  cbv
  have e1 : LI (.len E1) = E1.length := by rw [← hI]; rfl
  have e2 : LI (.len E2) = E2.length := by rw [← hI]; rfl
  cases hb : LB (.cmp .neq (LI (.len E1)) (LI (.len E2)))
  · rw [← hB, B_neq, e1, e2] at hb
    have hb : E1.length = E2.length := by simp only [bne_eq_false_iff_eq] at hb; omega
    cbv
    refine loopR (α := Nat × Int) [] 0 (Nat.le_refl _) (fun s a => s.sett 17 (.p (.int .i64 a.2))) (fun a => E1.length - a.1) (fun a => a.2 = a.1 ∧ a.1 ≤ E1.length ∧ firsts a.1 E1 E2) (0, 0) ⟨rfl, Nat.zero_le _, firsts_zero _ _⟩ (by cbv) ?_
    rintro S1 hS inv hinv ⟨k, K⟩ ⟨hK, hk, ht⟩
    rw [hS] at hinv ⊢
    simp only at hK hk ht
    cbv
    cases hc : LB (.cmp .lss K (LI (.len E1)))
    · rw [← hB, B_lss, e1, hK] at hc
      have hc : ¬ k < E1.length := by simpa using hc
      cbv
      refine ⟨[], 0, Nat.le_refl _, ?_⟩
      cbv
      rw [show r = true by rw [← hr]; exact firsts_all ht (by omega) (by omega)]
    · rw [← hB, B_lss, e1, hK] at hc
      have hc : k < E1.length := by simpa using hc
      obtain ⟨x, hx, hx'⟩ := h1.at hc
      obtain ⟨y, hy, hy'⟩ := h2.at (k := k) (by omega)
      have hq := hq x y hx' hy'
      generalize hs : sameC x y = b at hq
      obtain ⟨a0n, a0, a1n, a1, rfl, hx'⟩ := has_code hx'
      obtain ⟨b0n, b0, b1n, b1, rfl, hy'⟩ := has_code hy'
      simp only [plainP] at hq
      cbv
      refine ⟨k, _, hK, hx, rfl, ?_⟩
      cbv
      refine ⟨k, _, hK, hy, rfl, ?_⟩
      cbv
      refine ⟨[], trivial, ?_⟩
      cbv
      refine ⟨[], rfl, _, hq, Or.inl rfl, ?_⟩
      cbv
      cases hd : LB (.not b)
      · rw [← hB, B_not] at hd
        have hd : b = true := by simpa using hd
        subst hd
        cbv
        refine ⟨[], _, ?_, hinv (k + 1, LI (.ari .add .i64 K 1)) ⟨?_, hc, firsts_succ hx hy ht hs⟩⟩
        · simp only; omega
        · simp only
          rw [← hI, hK]
          exact I_inc (by omega)
      · rw [← hB, B_not] at hd
        have hd : b = false := by simpa using hd
        subst hd
        cbv
        refine ⟨[], 0, Nat.le_refl _, ?_⟩
        cbv
        rw [show r = false by rw [← hr]; exact sameE_at hx hy hs]
  · rw [← hB, B_neq, e1, e2] at hb
    cbv
    refine ⟨[], 0, Nat.le_refl _, ?_⟩
    cbv
    rw [show r = false by rw [← hr]; exact sameE_len (fun h => by rw [h] at hb; simp at hb)]
/- slices.EqualFunc(()bytebarn/api.Data,()bytebarn/api.Data,bytebarn/api.Data,bytebarn/api.Data) -/
def cc66 : CC :=
 .seq (.reg [
   ⟨(some 6), .mv (.c (.p (.bool false))), none⟩])
 (.seq (.seq (.reg [
   ⟨(some 10), .mv (.t 0), none⟩,
   ⟨(some 11), .len false (.t 10), none⟩,
   ⟨(some 12), .mv (.t 1), none⟩,
   ⟨(some 13), .len false (.t 12), none⟩,
   ⟨(some 14), .cmp .neq (.t 11) (.t 13), none⟩])
 (.cond (.t 14)
  (.seq (.reg [
    ⟨(some 6), .mv (.c (.p (.bool false))), none⟩])
  (.ret))
  (.skip)))
 (.seq (.seq (.reg [
   ⟨(some 15), .mv (.t 0), none⟩,
   ⟨(some 16), .len false (.t 15), none⟩,
   ⟨(some 17), .mv (.c (.p (.int .i64 0))), none⟩])
 (.block 0 (.loop [1, 2, 15, 16, 17]
   (.seq (.reg [
     ⟨(some 18), .cmp .lss (.t 17) (.t 16), none⟩])
   (.seq (.cond (.t 18)
    (.skip)
    (.exit 0))
   (.seq (.block 1 (.seq (.reg [
      ⟨(some 19), .mv (.t 17), none⟩,
      ⟨(some 20), .ia 3 (.t 15) (.t 17), none⟩,
      ⟨(some 21), .ld 3 true (.t 20), none⟩,
      ⟨(some 8), .alloc [(.int .i64 0), (.isl false 0 []), (.isl false 0 [])], none⟩,
      ⟨(some 7), .mv (.t 19), none⟩,
      ⟨none, .st 3 (.t 8) (.t 21), none⟩])
    (.seq (.reg [
      ⟨(some 22), .mv (.t 1), none⟩,
      ⟨(some 23), .mv (.t 7), none⟩,
      ⟨(some 24), .ia 3 (.t 22) (.t 23), none⟩,
      ⟨(some 25), .ld 3 true (.t 24), none⟩,
      ⟨(some 9), .alloc [(.int .i64 0), (.isl false 0 []), (.isl false 0 [])], none⟩,
      ⟨none, .st 3 (.t 9) (.t 25), none⟩])
    (.seq (.reg [
      ⟨(some 26), .mv (.t 2), none⟩,
      ⟨(some 27), .ld 3 true (.t 8), none⟩,
      ⟨(some 28), .ld 3 true (.t 9), none⟩,
      ⟨(some 29), .calld (.t 26) [(.t 27), (.t 28)], none⟩,
      ⟨(some 30), .not (.t 29), none⟩])
    (.cond (.t 30)
     (.seq (.reg [
       ⟨(some 6), .mv (.c (.p (.bool false))), none⟩])
     (.ret))
     (.skip))))))
   (.reg [
     ⟨(some 31), .ari .add .i64 (.t 17) (.c (.p (.int .i64 1))), none⟩,
     ⟨(some 17), .mv (.t 31), none⟩])))))))
 (.seq (.reg [
   ⟨(some 6), .mv (.c (.p (.bool true))), none⟩])
 (.ret))))
def ann66 : List (List Nat) := [[1, 2, 15, 16, 17]]
theorem comp66 : comp Try.prog Try.f66.ntmps (Try.f66.body.getD .skip) ann66 = some (cc66, []) := by kernel_rfl
theorem body66 : Try.f66.body = some (Try.f66.body.getD .skip) := by kernel_rfl
theorem name66 : (Try.f66.name == "runtime.NumGoroutine") = false := by kernel_rfl
theorem res66 : resC Try.prog Try.f66.results.toList = some [.t 6] := by kernel_rfl
theorem ar66 : Nat.ble 3 Try.f66.ntmps = true := by kernel_rfl
theorem spec66 (g : Nat) (hg : ∀ x y, HasL TData x → HasL TData y → Runs Try.prog g [.agg (plainP x), .agg (plainP y)] [] (.ret (.p (.bool (sameC x y))) [])) (n1 n2 : Bool) (E1 E2 : List (List PV)) (h1 : HasE TData E1) (h2 : HasE TData E2) : Runs Try.prog 66 [.p (.isl n1 3 E1), .p (.isl n2 3 E2), .p (.fn g)] [] (.ret (.p (.bool (sameE E1 E2))) []) := by
  refine runs_len fun _ => ?_
  refine runs_of_wp 2 Try.func66 body66 name66 comp66 res66 (Nat.le_of_ble_eq_true ar66) ?_
  generalize hI : stdI = LI
  generalize hB : stdB = LB
  generalize hE : stdE = LE
  have hq := hg
  generalize hR : Runs Try.prog = R at hq ⊢
  generalize hr : sameE E1 E2 = r
  have hb1 := h1.1
  cbv
  have e1 : LI (.len E1) = E1.length := by rw [← hI]; rfl
  have e2 : LI (.len E2) = E2.length := by rw [← hI]; rfl
  cases hb : LB (.cmp .neq (LI (.len E1)) (LI (.len E2)))
  · rw [← hB, B_neq, e1, e2] at hb
    have hb : E1.length = E2.length := by simp only [bne_eq_false_iff_eq] at hb; omega
    cbv
    refine loopR (α := Nat × Int) [] 0 (Nat.le_refl _) (fun s a => s.sett 17 (.p (.int .i64 a.2))) (fun a => E1.length - a.1) (fun a => a.2 = a.1 ∧ a.1 ≤ E1.length ∧ firsts a.1 E1 E2) (0, 0) ⟨rfl, Nat.zero_le _, firsts_zero _ _⟩ (by cbv) ?_
    rintro S1 hS inv hinv ⟨k, K⟩ ⟨hK, hk, ht⟩
    rw [hS] at hinv ⊢
    simp only at hK hk ht
    cbv
    cases hc : LB (.cmp .lss K (LI (.len E1)))
    · rw [← hB, B_lss, e1, hK] at hc
      have hc : ¬ k < E1.length := by simpa using hc
      cbv
      refine ⟨[], 0, Nat.le_refl _, ?_⟩
      cbv
      rw [show r = true by rw [← hr]; exact firsts_all ht (by omega) (by omega)]
    · rw [← hB, B_lss, e1, hK] at hc
      have hc : k < E1.length := by simpa using hc
      obtain ⟨x, hx, hx'⟩ := h1.at hc
      obtain ⟨y, hy, hy'⟩ := h2.at (k := k) (by omega)
      have hq := hq x y hx' hy'
      generalize hs : sameC x y = b at hq
      obtain ⟨a0, a1n, a1, a2n, a2, rfl, hx'⟩ := has_data hx'
      obtain ⟨b0, b1n, b1, b2n, b2, rfl, hy'⟩ := has_data hy'
      simp only [plainP] at hq
      cbv
      refine ⟨k, _, hK, hx, rfl, ?_⟩
      cbv
      refine ⟨k, _, hK, hy, rfl, ?_⟩
      cbv
      refine ⟨[], trivial, ?_⟩
      cbv
      refine ⟨[], rfl, _, hq, Or.inl rfl, ?_⟩
      cbv
      cases hd : LB (.not b)
      · rw [← hB, B_not] at hd
        have hd : b = true := by simpa using hd
        subst hd
        cbv
        refine ⟨[], _, ?_, hinv (k + 1, LI (.ari .add .i64 K 1)) ⟨?_, hc, firsts_succ hx hy ht hs⟩⟩
        · simp only; omega
        · simp only
          rw [← hI, hK]
          exact I_inc (by omega)
      · rw [← hB, B_not] at hd
        have hd : b = false := by simpa using hd
        subst hd
        cbv
        refine ⟨[], 0, Nat.le_refl _, ?_⟩
        cbv
        rw [show r = false by rw [← hr]; exact sameE_at hx hy hs]
  · rw [← hB, B_neq, e1, e2] at hb
    cbv
    refine ⟨[], 0, Nat.le_refl _, ?_⟩
    cbv
    rw [show r = false by rw [← hr]; exact sameE_len (fun h => by rw [h] at hb; simp at hb)]
end Go.Ab
/- read.Same. -/
set_option linter.unusedVariables false
set_option linter.unusedSimpArgs false
namespace Go.Ab
open Go.Proofs
/- bytebarn/read.Same -/
def cc11 : CC :=
 .seq (.reg [
   ⟨(some 2), .box (.t 0), none⟩,
   ⟨(some 3), .box (.t 1), none⟩,
   ⟨(some 4), .mv (.c (.p (.bool false))), none⟩])
 (.seq (.reg [
   ⟨(some 7), .fa 0 (.t 2), none⟩,
   ⟨(some 8), .ld 1 false (.t 7), none⟩,
   ⟨(some 9), .fa 0 (.t 3), none⟩,
   ⟨(some 10), .ld 1 false (.t 9), none⟩,
   ⟨(some 11), .call 54 [(.t 8), (.t 10), (.c (.p (.fn 55)))], none⟩,
   ⟨(some 12), .mv (.t 11), none⟩,
   ⟨(some 13), .fa 1 (.t 2), (some (12, true))⟩,
   ⟨(some 14), .ld 1 false (.t 13), (some (12, true))⟩,
   ⟨(some 15), .fa 1 (.t 3), (some (12, true))⟩,
   ⟨(some 16), .ld 1 false (.t 15), (some (12, true))⟩,
   ⟨(some 17), .call 56 [(.t 14), (.t 16)], (some (12, true))⟩,
   ⟨(some 18), .pick (.t 12) (.t 17) (.c (.p (.bool false))), none⟩,
   ⟨(some 19), .mv (.t 18), none⟩,
   ⟨(some 20), .fa 2 (.t 2), (some (19, true))⟩,
   ⟨(some 21), .ld 1 false (.t 20), (some (19, true))⟩,
   ⟨(some 22), .fa 2 (.t 3), (some (19, true))⟩,
   ⟨(some 23), .ld 1 false (.t 22), (some (19, true))⟩,
   ⟨(some 24), .call 57 [(.t 21), (.t 23)], (some (19, true))⟩,
   ⟨(some 25), .pick (.t 19) (.t 24) (.c (.p (.bool false))), none⟩,
   ⟨(some 26), .mv (.t 25), none⟩,
   ⟨(some 27), .fa 3 (.t 2), (some (26, true))⟩,
   ⟨(some 28), .ld 1 false (.t 27), (some (26, true))⟩,
   ⟨(some 29), .fa 3 (.t 3), (some (26, true))⟩,
   ⟨(some 30), .ld 1 false (.t 29), (some (26, true))⟩,
   ⟨(some 31), .call 58 [(.t 28), (.t 30)], (some (26, true))⟩,
   ⟨(some 32), .pick (.t 26) (.t 31) (.c (.p (.bool false))), none⟩,
   ⟨(some 33), .mv (.t 32), none⟩,
   ⟨(some 34), .fa 4 (.t 2), (some (33, true))⟩,
   ⟨(some 35), .ld 1 false (.t 34), (some (33, true))⟩,
   ⟨(some 36), .fa 4 (.t 3), (some (33, true))⟩,
   ⟨(some 37), .ld 1 false (.t 36), (some (33, true))⟩,
   ⟨(some 38), .call 58 [(.t 35), (.t 37)], (some (33, true))⟩,
   ⟨(some 39), .pick (.t 33) (.t 38) (.c (.p (.bool false))), none⟩,
   ⟨(some 5), .mv (.t 39), none⟩])
 (.seq (.reg [
   ⟨(some 40), .fa 5 (.t 2), none⟩,
   ⟨(some 41), .ld 1 false (.t 40), none⟩,
   ⟨(some 42), .fa 5 (.t 3), none⟩,
   ⟨(some 43), .ld 1 false (.t 42), none⟩,
   ⟨(some 44), .call 59 [(.t 41), (.t 43), (.c (.p (.fn 60)))], none⟩,
   ⟨(some 45), .mv (.t 44), none⟩,
   ⟨(some 46), .fa 6 (.t 2), (some (45, true))⟩,
   ⟨(some 47), .ld 1 false (.t 46), (some (45, true))⟩,
   ⟨(some 48), .fa 6 (.t 3), (some (45, true))⟩,
   ⟨(some 49), .ld 1 false (.t 48), (some (45, true))⟩,
   ⟨(some 50), .call 61 [(.t 47), (.t 49)], (some (45, true))⟩,
   ⟨(some 51), .pick (.t 45) (.t 50) (.c (.p (.bool false))), none⟩,
   ⟨(some 52), .mv (.t 51), none⟩,
   ⟨(some 53), .fa 7 (.t 2), (some (52, true))⟩,
   ⟨(some 54), .ld 1 false (.t 53), (some (52, true))⟩,
   ⟨(some 55), .fa 7 (.t 3), (some (52, true))⟩,
   ⟨(some 56), .ld 1 false (.t 55), (some (52, true))⟩,
   ⟨(some 57), .call 57 [(.t 54), (.t 56)], (some (52, true))⟩,
   ⟨(some 58), .pick (.t 52) (.t 57) (.c (.p (.bool false))), none⟩,
   ⟨(some 6), .mv (.t 58), none⟩])
 (.seq (.reg [
   ⟨(some 59), .mv (.t 5), none⟩,
   ⟨(some 60), .mv (.t 59), none⟩,
   ⟨(some 61), .mv (.t 6), (some (60, true))⟩,
   ⟨(some 62), .pick (.t 60) (.t 61) (.c (.p (.bool false))), none⟩,
   ⟨(some 63), .mv (.t 62), none⟩,
   ⟨(some 64), .fa 8 (.t 2), (some (63, true))⟩,
   ⟨(some 65), .ld 1 false (.t 64), (some (63, true))⟩,
   ⟨(some 66), .fa 8 (.t 3), (some (63, true))⟩,
   ⟨(some 67), .ld 1 false (.t 66), (some (63, true))⟩,
   ⟨(some 68), .call 62 [(.t 65), (.t 67), (.c (.p (.fn 63)))], (some (63, true))⟩,
   ⟨(some 69), .pick (.t 63) (.t 68) (.c (.p (.bool false))), none⟩,
   ⟨(some 70), .mv (.t 69), none⟩,
   ⟨(some 71), .fa 9 (.t 2), (some (70, true))⟩,
   ⟨(some 72), .ld 1 false (.t 71), (some (70, true))⟩,
   ⟨(some 73), .fa 9 (.t 3), (some (70, true))⟩,
   ⟨(some 74), .ld 1 false (.t 73), (some (70, true))⟩,
   ⟨(some 75), .call 64 [(.t 72), (.t 74), (.c (.p (.fn 65)))], (some (70, true))⟩,
   ⟨(some 76), .pick (.t 70) (.t 75) (.c (.p (.bool false))), none⟩,
   ⟨(some 77), .mv (.t 76), none⟩,
   ⟨(some 78), .fa 10 (.t 2), (some (77, true))⟩,
   ⟨(some 79), .ld 1 false (.t 78), (some (77, true))⟩,
   ⟨(some 80), .fa 10 (.t 3), (some (77, true))⟩,
   ⟨(some 81), .ld 1 false (.t 80), (some (77, true))⟩,
   ⟨(some 82), .call 66 [(.t 79), (.t 81), (.c (.p (.fn 67)))], (some (77, true))⟩,
   ⟨(some 83), .pick (.t 77) (.t 82) (.c (.p (.bool false))), none⟩,
   ⟨(some 4), .mv (.t 83), none⟩])
 (.ret))))
def ann11 : List (List Nat) := []
theorem comp11 : comp Try.prog Try.f11.ntmps (Try.f11.body.getD .skip) ann11 = some (cc11, []) := by kernel_rfl
theorem body11 : Try.f11.body = some (Try.f11.body.getD .skip) := by kernel_rfl
theorem name11 : (Try.f11.name == "runtime.NumGoroutine") = false := by kernel_rfl
theorem res11 : resC Try.prog Try.f11.results.toList = some [.t 4] := by kernel_rfl
theorem ar11 : Nat.ble 2 Try.f11.ntmps = true := by kernel_rfl
theorem spec11 (x y : List PV) (hx : HasL TModule x) (hy : HasL TModule y) : Runs Try.prog 11 [.agg (plainP x), .agg (plainP y)] [] (.ret (.p (.bool (sameC x y))) []) := by
  refine runs_len fun _ => ?_
  refine runs_of_wp 6 Try.func11 body11 name11 comp11 res11 (Nat.le_of_ble_eq_true ar11) ?_
  generalize hI : stdI = LI
  generalize hB : stdB = LB
  generalize hE : stdE = LE
  obtain ⟨a0n, a0, a1n, a1, a2n, a2, a3n, a3, a4n, a4, a5n, a5, a6n, a6, a7n, a7, a8n, a8, a9n, a9, a10n, a10, rfl, gg0, ge0, gg1, ge1, gg2, ge2, gg3, ge3, gg4, ge4, gg5, ge5, gg6, ge6, gg7, ge7, gg8, ge8, gg9, ge9, gg10, ge10⟩ := has_module hx
  obtain ⟨b0n, b0, b1n, b1, b2n, b2, b3n, b3, b4n, b4, b5n, b5, b6n, b6, b7n, b7, b8n, b8, b9n, b9, b10n, b10, rfl, hh0, he0, hh1, he1, hh2, he2, hh3, he3, hh4, he4, hh5, he5, hh6, he6, hh7, he7, hh8, he8, hh9, he9, hh10, he10⟩ := has_module hy
  generalize hR : Runs Try.prog = R
  generalize hr : sameC _ _ = r
  cbv
  have q0 := spec54 55 (fun x y hx hy => spec55 x y hx hy) a0n b0n a0 b0 ge0 he0
  rw [hR] at q0
  generalize hs0 : sameE a0 b0 = s0 at q0
  refine ⟨[], trivial, ?_⟩
  cbv
  refine ⟨[], rfl, _, q0, Or.inl rfl, ?_⟩
  cbv
  cases s0
  · cbv
    have q5 := spec59 60 (fun x y hx hy => spec60 x y hx hy) a5n b5n a5 b5 ge5 he5
    rw [hR] at q5
    generalize hs5 : sameE a5 b5 = s5 at q5
    refine ⟨[], trivial, ?_⟩
    cbv
    refine ⟨[], rfl, _, q5, Or.inl rfl, ?_⟩
    cbv
    cases s5
    · cbv
      refine ⟨[], 0, Nat.le_refl _, ?_⟩
      cbv
      rw [show r = false by rw [← hr]; simp only [sameC_cons, sameC_nil, same1_int, same1_bool, same1_str, same1_isl, hs0, hs5, Bool.true_and, Bool.false_and, Bool.and_true, Bool.and_false]]
    · cbv
      have q6 := spec61 a6n b6n a6 b6 ge6 he6
      rw [hR] at q6
      generalize hs6 : sameE a6 b6 = s6 at q6
      refine ⟨[], trivial, ?_⟩
      cbv
      refine ⟨[], rfl, _, q6, Or.inl rfl, ?_⟩
      cbv
      cases s6
      · cbv
        refine ⟨[], 0, Nat.le_refl _, ?_⟩
        cbv
        rw [show r = false by rw [← hr]; simp only [sameC_cons, sameC_nil, same1_int, same1_bool, same1_str, same1_isl, hs0, hs5, hs6, Bool.true_and, Bool.false_and, Bool.and_true, Bool.and_false]]
      · cbv
        have q7 := spec57 a7n b7n a7 b7 ge7 he7
        rw [hR] at q7
        generalize hs7 : sameE a7 b7 = s7 at q7
        refine ⟨[], trivial, ?_⟩
        cbv
        refine ⟨[], rfl, _, q7, Or.inl rfl, ?_⟩
        cbv
        refine ⟨[], 0, Nat.le_refl _, ?_⟩
        cbv
        rw [show r = false by rw [← hr]; simp only [sameC_cons, sameC_nil, same1_int, same1_bool, same1_str, same1_isl, hs0, hs5, hs6, hs7, Bool.true_and, Bool.false_and, Bool.and_true, Bool.and_false]]
  · cbv
    have q1 := spec56 a1n b1n a1 b1 ge1 he1
    rw [hR] at q1
    generalize hs1 : sameE a1 b1 = s1 at q1
    refine ⟨[], trivial, ?_⟩
    cbv
    refine ⟨[], rfl, _, q1, Or.inl rfl, ?_⟩
    cbv
    cases s1
    · cbv
      have q5 := spec59 60 (fun x y hx hy => spec60 x y hx hy) a5n b5n a5 b5 ge5 he5
      rw [hR] at q5
      generalize hs5 : sameE a5 b5 = s5 at q5
      refine ⟨[], trivial, ?_⟩
      cbv
      refine ⟨[], rfl, _, q5, Or.inl rfl, ?_⟩
      cbv
      cases s5
      · cbv
        refine ⟨[], 0, Nat.le_refl _, ?_⟩
        cbv
        rw [show r = false by rw [← hr]; simp only [sameC_cons, sameC_nil, same1_int, same1_bool, same1_str, same1_isl, hs0, hs1, hs5, Bool.true_and, Bool.false_and, Bool.and_true, Bool.and_false]]
      · cbv
        have q6 := spec61 a6n b6n a6 b6 ge6 he6
        rw [hR] at q6
        generalize hs6 : sameE a6 b6 = s6 at q6
        refine ⟨[], trivial, ?_⟩
        cbv
        refine ⟨[], rfl, _, q6, Or.inl rfl, ?_⟩
        cbv
        cases s6
        · cbv
          refine ⟨[], 0, Nat.le_refl _, ?_⟩
          cbv
          rw [show r = false by rw [← hr]; simp only [sameC_cons, sameC_nil, same1_int, same1_bool, same1_str, same1_isl, hs0, hs1, hs5, hs6, Bool.true_and, Bool.false_and, Bool.and_true, Bool.and_false]]
        · cbv
          have q7 := spec57 a7n b7n a7 b7 ge7 he7
          rw [hR] at q7
          generalize hs7 : sameE a7 b7 = s7 at q7
          refine ⟨[], trivial, ?_⟩
          cbv
          refine ⟨[], rfl, _, q7, Or.inl rfl, ?_⟩
          cbv
          refine ⟨[], 0, Nat.le_refl _, ?_⟩
          cbv
          rw [show r = false by rw [← hr]; simp only [sameC_cons, sameC_nil, same1_int, same1_bool, same1_str, same1_isl, hs0, hs1, hs5, hs6, hs7, Bool.true_and, Bool.false_and, Bool.and_true, Bool.and_false]]
    · cbv
      have q2 := spec57 a2n b2n a2 b2 ge2 he2
      rw [hR] at q2
      generalize hs2 : sameE a2 b2 = s2 at q2
      refine ⟨[], trivial, ?_⟩
      cbv
      refine ⟨[], rfl, _, q2, Or.inl rfl, ?_⟩
      cbv
      cases s2
      · cbv
        have q5 := spec59 60 (fun x y hx hy => spec60 x y hx hy) a5n b5n a5 b5 ge5 he5
        rw [hR] at q5
        generalize hs5 : sameE a5 b5 = s5 at q5
        refine ⟨[], trivial, ?_⟩
        cbv
        refine ⟨[], rfl, _, q5, Or.inl rfl, ?_⟩
        cbv
        cases s5
        · cbv
          refine ⟨[], 0, Nat.le_refl _, ?_⟩
          cbv
          rw [show r = false by rw [← hr]; simp only [sameC_cons, sameC_nil, same1_int, same1_bool, same1_str, same1_isl, hs0, hs1, hs2, hs5, Bool.true_and, Bool.false_and, Bool.and_true, Bool.and_false]]
        · cbv
          have q6 := spec61 a6n b6n a6 b6 ge6 he6
          rw [hR] at q6
          generalize hs6 : sameE a6 b6 = s6 at q6
          refine ⟨[], trivial, ?_⟩
          cbv
          refine ⟨[], rfl, _, q6, Or.inl rfl, ?_⟩
          cbv
          cases s6
          · cbv
            refine ⟨[], 0, Nat.le_refl _, ?_⟩
            cbv
            rw [show r = false by rw [← hr]; simp only [sameC_cons, sameC_nil, same1_int, same1_bool, same1_str, same1_isl, hs0, hs1, hs2, hs5, hs6, Bool.true_and, Bool.false_and, Bool.and_true, Bool.and_false]]
          · cbv
            have q7 := spec57 a7n b7n a7 b7 ge7 he7
            rw [hR] at q7
            generalize hs7 : sameE a7 b7 = s7 at q7
            refine ⟨[], trivial, ?_⟩
            cbv
            refine ⟨[], rfl, _, q7, Or.inl rfl, ?_⟩
            cbv
            refine ⟨[], 0, Nat.le_refl _, ?_⟩
            cbv
            rw [show r = false by rw [← hr]; simp only [sameC_cons, sameC_nil, same1_int, same1_bool, same1_str, same1_isl, hs0, hs1, hs2, hs5, hs6, hs7, Bool.true_and, Bool.false_and, Bool.and_true, Bool.and_false]]
      · cbv
        have q3 := spec58 a3n b3n a3 b3 ge3 he3
        rw [hR] at q3
        generalize hs3 : sameE a3 b3 = s3 at q3
        refine ⟨[], trivial, ?_⟩
        cbv
        refine ⟨[], rfl, _, q3, Or.inl rfl, ?_⟩
        cbv
        cases s3
        · cbv
          have q5 := spec59 60 (fun x y hx hy => spec60 x y hx hy) a5n b5n a5 b5 ge5 he5
          rw [hR] at q5
          generalize hs5 : sameE a5 b5 = s5 at q5
          refine ⟨[], trivial, ?_⟩
          cbv
          refine ⟨[], rfl, _, q5, Or.inl rfl, ?_⟩
          cbv
          cases s5
          · cbv
            refine ⟨[], 0, Nat.le_refl _, ?_⟩
            cbv
            rw [show r = false by rw [← hr]; simp only [sameC_cons, sameC_nil, same1_int, same1_bool, same1_str, same1_isl, hs0, hs1, hs2, hs3, hs5, Bool.true_and, Bool.false_and, Bool.and_true, Bool.and_false]]
          · cbv
            have q6 := spec61 a6n b6n a6 b6 ge6 he6
            rw [hR] at q6
            generalize hs6 : sameE a6 b6 = s6 at q6
            refine ⟨[], trivial, ?_⟩
            cbv
            refine ⟨[], rfl, _, q6, Or.inl rfl, ?_⟩
            cbv
            cases s6
            · cbv
              refine ⟨[], 0, Nat.le_refl _, ?_⟩
              cbv
              rw [show r = false by rw [← hr]; simp only [sameC_cons, sameC_nil, same1_int, same1_bool, same1_str, same1_isl, hs0, hs1, hs2, hs3, hs5, hs6, Bool.true_and, Bool.false_and, Bool.and_true, Bool.and_false]]
            · cbv
              have q7 := spec57 a7n b7n a7 b7 ge7 he7
              rw [hR] at q7
              generalize hs7 : sameE a7 b7 = s7 at q7
              refine ⟨[], trivial, ?_⟩
              cbv
              refine ⟨[], rfl, _, q7, Or.inl rfl, ?_⟩
              cbv
              refine ⟨[], 0, Nat.le_refl _, ?_⟩
              cbv
              rw [show r = false by rw [← hr]; simp only [sameC_cons, sameC_nil, same1_int, same1_bool, same1_str, same1_isl, hs0, hs1, hs2, hs3, hs5, hs6, hs7, Bool.true_and, Bool.false_and, Bool.and_true, Bool.and_false]]
        · cbv
          have q4 := spec58 a4n b4n a4 b4 ge4 he4
          rw [hR] at q4
          generalize hs4 : sameE a4 b4 = s4 at q4
          refine ⟨[], trivial, ?_⟩
          cbv
          refine ⟨[], rfl, _, q4, Or.inl rfl, ?_⟩
          cbv
          have q5 := spec59 60 (fun x y hx hy => spec60 x y hx hy) a5n b5n a5 b5 ge5 he5
          rw [hR] at q5
          generalize hs5 : sameE a5 b5 = s5 at q5
          refine ⟨[], trivial, ?_⟩
          cbv
          refine ⟨[], rfl, _, q5, Or.inl rfl, ?_⟩
          cbv
          cases s5
          · cbv
            cases s4
            · cbv
              refine ⟨[], 0, Nat.le_refl _, ?_⟩
              cbv
              rw [show r = false by rw [← hr]; simp only [sameC_cons, sameC_nil, same1_int, same1_bool, same1_str, same1_isl, hs0, hs1, hs2, hs3, hs4, hs5, Bool.true_and, Bool.false_and, Bool.and_true, Bool.and_false]]
            · cbv
              refine ⟨[], 0, Nat.le_refl _, ?_⟩
              cbv
              rw [show r = false by rw [← hr]; simp only [sameC_cons, sameC_nil, same1_int, same1_bool, same1_str, same1_isl, hs0, hs1, hs2, hs3, hs4, hs5, Bool.true_and, Bool.false_and, Bool.and_true, Bool.and_false]]
          · cbv
            have q6 := spec61 a6n b6n a6 b6 ge6 he6
            rw [hR] at q6
            generalize hs6 : sameE a6 b6 = s6 at q6
            refine ⟨[], trivial, ?_⟩
            cbv
            refine ⟨[], rfl, _, q6, Or.inl rfl, ?_⟩
            cbv
            cases s6
            · cbv
              cases s4
              · cbv
                refine ⟨[], 0, Nat.le_refl _, ?_⟩
                cbv
                rw [show r = false by rw [← hr]; simp only [sameC_cons, sameC_nil, same1_int, same1_bool, same1_str, same1_isl, hs0, hs1, hs2, hs3, hs4, hs5, hs6, Bool.true_and, Bool.false_and, Bool.and_true, Bool.and_false]]
              · cbv
                refine ⟨[], 0, Nat.le_refl _, ?_⟩
                cbv
                rw [show r = false by rw [← hr]; simp only [sameC_cons, sameC_nil, same1_int, same1_bool, same1_str, same1_isl, hs0, hs1, hs2, hs3, hs4, hs5, hs6, Bool.true_and, Bool.false_and, Bool.and_true, Bool.and_false]]
            · cbv
              have q7 := spec57 a7n b7n a7 b7 ge7 he7
              rw [hR] at q7
              generalize hs7 : sameE a7 b7 = s7 at q7
              refine ⟨[], trivial, ?_⟩
              cbv
              refine ⟨[], rfl, _, q7, Or.inl rfl, ?_⟩
              cbv
              cases s4
              · cbv
                refine ⟨[], 0, Nat.le_refl _, ?_⟩
                cbv
                rw [show r = false by rw [← hr]; simp only [sameC_cons, sameC_nil, same1_int, same1_bool, same1_str, same1_isl, hs0, hs1, hs2, hs3, hs4, hs5, hs6, hs7, Bool.true_and, Bool.false_and, Bool.and_true, Bool.and_false]]
              · cbv
                cases s7
                · cbv
                  refine ⟨[], 0, Nat.le_refl _, ?_⟩
                  cbv
                  rw [show r = false by rw [← hr]; simp only [sameC_cons, sameC_nil, same1_int, same1_bool, same1_str, same1_isl, hs0, hs1, hs2, hs3, hs4, hs5, hs6, hs7, Bool.true_and, Bool.false_and, Bool.and_true, Bool.and_false]]
                · cbv
                  have q8 := spec62 63 (fun x y hx hy => spec63 x y hx hy) a8n b8n a8 b8 ge8 he8
                  rw [hR] at q8
                  generalize hs8 : sameE a8 b8 = s8 at q8
                  refine ⟨[], trivial, ?_⟩
                  cbv
                  refine ⟨[], rfl, _, q8, Or.inl rfl, ?_⟩
                  cbv
                  cases s8
                  · cbv
                    refine ⟨[], 0, Nat.le_refl _, ?_⟩
                    cbv
                    rw [show r = false by rw [← hr]; simp only [sameC_cons, sameC_nil, same1_int, same1_bool, same1_str, same1_isl, hs0, hs1, hs2, hs3, hs4, hs5, hs6, hs7, hs8, Bool.true_and, Bool.false_and, Bool.and_true, Bool.and_false]]
                  · cbv
                    have q9 := spec64 65 (fun x y hx hy => spec65 x y hx hy) a9n b9n a9 b9 ge9 he9
                    rw [hR] at q9
                    generalize hs9 : sameE a9 b9 = s9 at q9
                    refine ⟨[], trivial, ?_⟩
                    cbv
                    refine ⟨[], rfl, _, q9, Or.inl rfl, ?_⟩
                    cbv
                    cases s9
                    · cbv
                      refine ⟨[], 0, Nat.le_refl _, ?_⟩
                      cbv
                      rw [show r = false by rw [← hr]; simp only [sameC_cons, sameC_nil, same1_int, same1_bool, same1_str, same1_isl, hs0, hs1, hs2, hs3, hs4, hs5, hs6, hs7, hs8, hs9, Bool.true_and, Bool.false_and, Bool.and_true, Bool.and_false]]
                    · cbv
                      have q10 := spec66 67 (fun x y hx hy => spec67 x y hx hy) a10n b10n a10 b10 ge10 he10
                      rw [hR] at q10
                      generalize hs10 : sameE a10 b10 = s10 at q10
                      refine ⟨[], trivial, ?_⟩
                      cbv
                      refine ⟨[], rfl, _, q10, Or.inl rfl, ?_⟩
                      cbv
                      refine ⟨[], 0, Nat.le_refl _, ?_⟩
                      cbv
                      rw [show r = s10 by rw [← hr]; simp only [sameC_cons, sameC_nil, same1_int, same1_bool, same1_str, same1_isl, hs0, hs1, hs2, hs3, hs4, hs5, hs6, hs7, hs8, hs9, hs10, Bool.true_and, Bool.false_and, Bool.and_true, Bool.and_false]]
end Go.Ab
/- bytebarnref07.sameRest. -/
set_option linter.unusedVariables false
set_option linter.unusedSimpArgs false
namespace Go.Ab
open Go.Proofs
/- bytebarn/bytebarnref07.sameRest -/
def cc70 : CC :=
 .seq (.reg [
   ⟨(some 2), .box (.t 0), none⟩,
   ⟨(some 3), .box (.t 1), none⟩,
   ⟨(some 4), .mv (.c (.p (.bool false))), none⟩])
 (.seq (.seq (.reg [
   ⟨(some 5), .mv (.c (.p (.int .i64 0))), none⟩])
 (.block 0 (.loop [2, 3, 5]
   (.seq (.seq (.reg [
     ⟨(some 18), .mv (.t 5), none⟩,
     ⟨(some 19), .fa 5 (.t 2), none⟩,
     ⟨(some 20), .ld 1 false (.t 19), none⟩,
     ⟨(some 21), .len false (.t 20), none⟩,
     ⟨(some 22), .cmp .lss (.t 18) (.t 21), none⟩])
   (.cond (.t 22)
    (.skip)
    (.exit 0)))
   (.seq (.block 1 (.seq (.reg [
      ⟨(some 25), .fa 5 (.t 2), none⟩,
      ⟨(some 26), .ld 1 false (.t 25), none⟩,
      ⟨(some 27), .mv (.t 5), none⟩,
      ⟨(some 28), .ia 3 (.t 26) (.t 27), none⟩,
      ⟨(some 29), .ld 3 true (.t 28), none⟩,
      ⟨(some 6), .alloc [(.int .u8 0), (.bool false), (.isl false 0 [])], none⟩,
      ⟨none, .st 3 (.t 6) (.t 29), none⟩])
    (.seq (.reg [
      ⟨(some 30), .fa 5 (.t 3), none⟩,
      ⟨(some 31), .ld 1 false (.t 30), none⟩,
      ⟨(some 32), .mv (.t 5), none⟩,
      ⟨(some 33), .ia 3 (.t 31) (.t 32), none⟩,
      ⟨(some 34), .ld 3 true (.t 33), none⟩,
      ⟨(some 7), .alloc [(.int .u8 0), (.bool false), (.isl false 0 [])], none⟩,
      ⟨none, .st 3 (.t 7) (.t 34), none⟩])
    (.seq (.reg [
      ⟨(some 35), .fa 0 (.t 6), none⟩,
      ⟨(some 36), .ld 1 false (.t 35), none⟩,
      ⟨(some 37), .fa 0 (.t 7), none⟩,
      ⟨(some 38), .ld 1 false (.t 37), none⟩,
      ⟨(some 39), .cmp .neq (.t 36) (.t 38), none⟩,
      ⟨(some 40), .mv (.t 39), none⟩,
      ⟨(some 41), .fa 1 (.t 6), (some (40, false))⟩,
      ⟨(some 42), .ld 1 false (.t 41), (some (40, false))⟩,
      ⟨(some 43), .fa 1 (.t 7), (some (40, false))⟩,
      ⟨(some 44), .ld 1 false (.t 43), (some (40, false))⟩,
      ⟨(some 45), .beq true (.t 42) (.t 44), (some (40, false))⟩,
      ⟨(some 46), .pick (.t 40) (.c (.p (.bool true))) (.t 45), none⟩,
      ⟨(some 47), .mv (.t 46), none⟩,
      ⟨(some 48), .fa 2 (.t 6), (some (47, false))⟩,
      ⟨(some 49), .ld 1 false (.t 48), (some (47, false))⟩,
      ⟨(some 50), .fa 2 (.t 7), (some (47, false))⟩,
      ⟨(some 51), .ld 1 false (.t 50), (some (47, false))⟩,
      ⟨(some 52), .call 106 [(.t 49), (.t 51)], (some (47, false))⟩,
      ⟨(some 53), .not (.t 52), (some (47, false))⟩,
      ⟨(some 54), .pick (.t 47) (.c (.p (.bool true))) (.t 53), none⟩])
    (.cond (.t 54)
     (.seq (.reg [
       ⟨(some 4), .mv (.c (.p (.bool false))), none⟩])
     (.ret))
     (.skip))))))
   (.reg [
     ⟨(some 23), .mv (.t 5), none⟩,
     ⟨(some 24), .ari .add .i64 (.t 23) (.c (.p (.int .i64 1))), none⟩,
     ⟨(some 5), .mv (.t 24), none⟩]))))))
 (.seq (.seq (.reg [
   ⟨(some 8), .mv (.c (.p (.int .i64 0))), none⟩])
 (.block 2 (.loop [2, 3, 8]
   (.seq (.seq (.reg [
     ⟨(some 55), .mv (.t 8), none⟩,
     ⟨(some 56), .fa 8 (.t 2), none⟩,
     ⟨(some 57), .ld 1 false (.t 56), none⟩,
     ⟨(some 58), .len false (.t 57), none⟩,
     ⟨(some 59), .cmp .lss (.t 55) (.t 58), none⟩])
   (.cond (.t 59)
    (.skip)
    (.exit 2)))
   (.seq (.block 3 (.seq (.reg [
      ⟨(some 62), .fa 8 (.t 2), none⟩,
      ⟨(some 63), .ld 1 false (.t 62), none⟩,
      ⟨(some 64), .mv (.t 8), none⟩,
      ⟨(some 65), .ia 3 (.t 63) (.t 64), none⟩,
      ⟨(some 66), .ld 3 true (.t 65), none⟩,
      ⟨(some 9), .alloc [(.int .i64 0), (.isl false 0 []), (.isl false 0 [])], none⟩,
      ⟨none, .st 3 (.t 9) (.t 66), none⟩])
    (.seq (.reg [
      ⟨(some 67), .fa 8 (.t 3), none⟩,
      ⟨(some 68), .ld 1 false (.t 67), none⟩,
      ⟨(some 69), .mv (.t 8), none⟩,
      ⟨(some 70), .ia 3 (.t 68) (.t 69), none⟩,
      ⟨(some 71), .ld 3 true (.t 70), none⟩,
      ⟨(some 10), .alloc [(.int .i64 0), (.isl false 0 []), (.isl false 0 [])], none⟩,
      ⟨none, .st 3 (.t 10) (.t 71), none⟩])
    (.seq (.reg [
      ⟨(some 72), .fa 0 (.t 9), none⟩,
      ⟨(some 73), .ld 1 false (.t 72), none⟩,
      ⟨(some 74), .fa 0 (.t 10), none⟩,
      ⟨(some 75), .ld 1 false (.t 74), none⟩,
      ⟨(some 76), .cmp .neq (.t 73) (.t 75), none⟩,
      ⟨(some 77), .mv (.t 76), none⟩,
      ⟨(some 78), .fa 1 (.t 9), (some (77, false))⟩,
      ⟨(some 79), .ld 1 false (.t 78), (some (77, false))⟩,
      ⟨(some 80), .fa 1 (.t 10), (some (77, false))⟩,
      ⟨(some 81), .ld 1 false (.t 80), (some (77, false))⟩,
      ⟨(some 82), .call 106 [(.t 79), (.t 81)], (some (77, false))⟩,
      ⟨(some 83), .not (.t 82), (some (77, false))⟩,
      ⟨(some 84), .pick (.t 77) (.c (.p (.bool true))) (.t 83), none⟩,
      ⟨(some 85), .mv (.t 84), none⟩,
      ⟨(some 86), .fa 2 (.t 9), (some (85, false))⟩,
      ⟨(some 87), .ld 1 false (.t 86), (some (85, false))⟩,
      ⟨(some 88), .fa 2 (.t 10), (some (85, false))⟩,
      ⟨(some 89), .ld 1 false (.t 88), (some (85, false))⟩,
      ⟨(some 90), .call 68 [(.t 87), (.t 89)], (some (85, false))⟩,
      ⟨(some 91), .not (.t 90), (some (85, false))⟩,
      ⟨(some 92), .pick (.t 85) (.c (.p (.bool true))) (.t 91), none⟩])
    (.cond (.t 92)
     (.seq (.reg [
       ⟨(some 4), .mv (.c (.p (.bool false))), none⟩])
     (.ret))
     (.skip))))))
   (.reg [
     ⟨(some 60), .mv (.t 8), none⟩,
     ⟨(some 61), .ari .add .i64 (.t 60) (.c (.p (.int .i64 1))), none⟩,
     ⟨(some 8), .mv (.t 61), none⟩]))))))
 (.seq (.seq (.reg [
   ⟨(some 11), .mv (.c (.p (.int .i64 0))), none⟩])
 (.block 4 (.loop [2, 3, 11]
   (.seq (.seq (.reg [
     ⟨(some 93), .mv (.t 11), none⟩,
     ⟨(some 94), .fa 9 (.t 2), none⟩,
     ⟨(some 95), .ld 1 false (.t 94), none⟩,
     ⟨(some 96), .len false (.t 95), none⟩,
     ⟨(some 97), .cmp .lss (.t 93) (.t 96), none⟩])
   (.cond (.t 97)
    (.skip)
    (.exit 4)))
   (.seq (.block 5 (.seq (.reg [
      ⟨(some 100), .fa 9 (.t 2), none⟩,
      ⟨(some 101), .ld 1 false (.t 100), none⟩,
      ⟨(some 102), .mv (.t 11), none⟩,
      ⟨(some 103), .ia 2 (.t 101) (.t 102), none⟩,
      ⟨(some 104), .ld 2 true (.t 103), none⟩,
      ⟨(some 12), .alloc [(.isl false 0 []), (.isl false 0 [])], none⟩,
      ⟨none, .st 2 (.t 12) (.t 104), none⟩])
    (.seq (.reg [
      ⟨(some 105), .fa 9 (.t 3), none⟩,
      ⟨(some 106), .ld 1 false (.t 105), none⟩,
      ⟨(some 107), .mv (.t 11), none⟩,
      ⟨(some 108), .ia 2 (.t 106) (.t 107), none⟩,
      ⟨(some 109), .ld 2 true (.t 108), none⟩,
      ⟨(some 13), .alloc [(.isl false 0 []), (.isl false 0 [])], none⟩,
      ⟨none, .st 2 (.t 13) (.t 109), none⟩])
    (.seq (.seq (.reg [
      ⟨(some 110), .fa 0 (.t 12), none⟩,
      ⟨(some 111), .ld 1 false (.t 110), none⟩,
      ⟨(some 112), .len false (.t 111), none⟩,
      ⟨(some 113), .fa 0 (.t 13), none⟩,
      ⟨(some 114), .ld 1 false (.t 113), none⟩,
      ⟨(some 115), .len false (.t 114), none⟩,
      ⟨(some 116), .cmp .neq (.t 112) (.t 115), none⟩,
      ⟨(some 117), .mv (.t 116), none⟩,
      ⟨(some 118), .fa 1 (.t 12), (some (117, false))⟩,
      ⟨(some 119), .ld 1 false (.t 118), (some (117, false))⟩,
      ⟨(some 120), .fa 1 (.t 13), (some (117, false))⟩,
      ⟨(some 121), .ld 1 false (.t 120), (some (117, false))⟩,
      ⟨(some 122), .call 106 [(.t 119), (.t 121)], (some (117, false))⟩,
      ⟨(some 123), .not (.t 122), (some (117, false))⟩,
      ⟨(some 124), .pick (.t 117) (.c (.p (.bool true))) (.t 123), none⟩])
    (.cond (.t 124)
     (.seq (.reg [
       ⟨(some 4), .mv (.c (.p (.bool false))), none⟩])
     (.ret))
     (.skip)))
    (.seq (.reg [
      ⟨(some 14), .mv (.c (.p (.int .i64 0))), none⟩])
    (.block 6 (.loop [2, 3, 11, 12, 13, 14]
      (.seq (.seq (.reg [
        ⟨(some 125), .mv (.t 14), none⟩,
        ⟨(some 126), .fa 0 (.t 12), none⟩,
        ⟨(some 127), .ld 1 false (.t 126), none⟩,
        ⟨(some 128), .len false (.t 127), none⟩,
        ⟨(some 129), .cmp .lss (.t 125) (.t 128), none⟩])
      (.cond (.t 129)
       (.skip)
       (.exit 6)))
      (.seq (.block 7 (.seq (.regd [
         ⟨(some 132), .fa 0 (.t 12), none⟩,
         ⟨(some 133), .ld 1 false (.t 132), none⟩,
         ⟨(some 134), .mv (.t 14), none⟩,
         ⟨(some 135), .ia 2 (.t 133) (.t 134), none⟩,
         ⟨(some 136), .ld 2 true (.t 135), none⟩,
         ⟨(some 137), .fa 0 (.t 13), none⟩,
         ⟨(some 138), .ld 1 false (.t 137), none⟩,
         ⟨(some 139), .mv (.t 14), none⟩,
         ⟨(some 140), .ia 2 (.t 138) (.t 139), none⟩,
         ⟨(some 141), .ld 2 true (.t 140), none⟩,
         ⟨(some 142), .aeq true [(0, 0), (1, 0)] (.t 136) (.t 141), none⟩] [[], [], [], [], [], [], [], [], [], [], []] [false, false, false, false, false, true, true, true, true, true, true])
       (.cond (.t 142)
        (.seq (.reg [
          ⟨(some 4), .mv (.c (.p (.bool false))), none⟩])
        (.ret))
        (.skip))))
      (.reg [
        ⟨(some 130), .mv (.t 14), none⟩,
        ⟨(some 131), .ari .add .i64 (.t 130) (.c (.p (.int .i64 1))), none⟩,
        ⟨(some 14), .mv (.t 131), none⟩]))))))))))
   (.reg [
     ⟨(some 98), .mv (.t 11), none⟩,
     ⟨(some 99), .ari .add .i64 (.t 98) (.c (.p (.int .i64 1))), none⟩,
     ⟨(some 11), .mv (.t 99), none⟩]))))))
 (.seq (.seq (.reg [
   ⟨(some 15), .mv (.c (.p (.int .i64 0))), none⟩])
 (.block 8 (.loop [2, 3, 15]
   (.seq (.seq (.reg [
     ⟨(some 143), .mv (.t 15), none⟩,
     ⟨(some 144), .fa 10 (.t 2), none⟩,
     ⟨(some 145), .ld 1 false (.t 144), none⟩,
     ⟨(some 146), .len false (.t 145), none⟩,
     ⟨(some 147), .cmp .lss (.t 143) (.t 146), none⟩])
   (.cond (.t 147)
    (.skip)
    (.exit 8)))
   (.seq (.block 9 (.seq (.reg [
      ⟨(some 150), .fa 10 (.t 2), none⟩,
      ⟨(some 151), .ld 1 false (.t 150), none⟩,
      ⟨(some 152), .mv (.t 15), none⟩,
      ⟨(some 153), .ia 3 (.t 151) (.t 152), none⟩,
      ⟨(some 154), .ld 3 true (.t 153), none⟩,
      ⟨(some 16), .alloc [(.int .i64 0), (.isl false 0 []), (.isl false 0 [])], none⟩,
      ⟨none, .st 3 (.t 16) (.t 154), none⟩])
    (.seq (.reg [
      ⟨(some 155), .fa 10 (.t 3), none⟩,
      ⟨(some 156), .ld 1 false (.t 155), none⟩,
      ⟨(some 157), .mv (.t 15), none⟩,
      ⟨(some 158), .ia 3 (.t 156) (.t 157), none⟩,
      ⟨(some 159), .ld 3 true (.t 158), none⟩,
      ⟨(some 17), .alloc [(.int .i64 0), (.isl false 0 []), (.isl false 0 [])], none⟩,
      ⟨none, .st 3 (.t 17) (.t 159), none⟩])
    (.seq (.reg [
      ⟨(some 160), .fa 0 (.t 16), none⟩,
      ⟨(some 161), .ld 1 false (.t 160), none⟩,
      ⟨(some 162), .fa 0 (.t 17), none⟩,
      ⟨(some 163), .ld 1 false (.t 162), none⟩,
      ⟨(some 164), .cmp .neq (.t 161) (.t 163), none⟩,
      ⟨(some 165), .mv (.t 164), none⟩,
      ⟨(some 166), .fa 1 (.t 16), (some (165, false))⟩,
      ⟨(some 167), .ld 1 false (.t 166), (some (165, false))⟩,
      ⟨(some 168), .fa 1 (.t 17), (some (165, false))⟩,
      ⟨(some 169), .ld 1 false (.t 168), (some (165, false))⟩,
      ⟨(some 170), .call 106 [(.t 167), (.t 169)], (some (165, false))⟩,
      ⟨(some 171), .not (.t 170), (some (165, false))⟩,
      ⟨(some 172), .pick (.t 165) (.c (.p (.bool true))) (.t 171), none⟩,
      ⟨(some 173), .mv (.t 172), none⟩,
      ⟨(some 174), .fa 2 (.t 16), (some (173, false))⟩,
      ⟨(some 175), .ld 1 false (.t 174), (some (173, false))⟩,
      ⟨(some 176), .fa 2 (.t 17), (some (173, false))⟩,
      ⟨(some 177), .ld 1 false (.t 176), (some (173, false))⟩,
      ⟨(some 178), .call 69 [(.t 175), (.t 177)], (some (173, false))⟩,
      ⟨(some 179), .not (.t 178), (some (173, false))⟩,
      ⟨(some 180), .pick (.t 173) (.c (.p (.bool true))) (.t 179), none⟩])
    (.cond (.t 180)
     (.seq (.reg [
       ⟨(some 4), .mv (.c (.p (.bool false))), none⟩])
     (.ret))
     (.skip))))))
   (.reg [
     ⟨(some 148), .mv (.t 15), none⟩,
     ⟨(some 149), .ari .add .i64 (.t 148) (.c (.p (.int .i64 1))), none⟩,
     ⟨(some 15), .mv (.t 149), none⟩]))))))
 (.seq (.reg [
   ⟨(some 4), .mv (.c (.p (.bool true))), none⟩])
 (.ret))))))
def ann70 : List (List Nat) := [[2, 3, 5], [2, 3, 8], [2, 3, 11], [2, 3, 11, 12, 13, 14], [2, 3, 15]]
theorem comp70 : comp Try.prog Try.f70.ntmps (Try.f70.body.getD .skip) ann70 = some (cc70, []) := by kernel_rfl
theorem body70 : Try.f70.body = some (Try.f70.body.getD .skip) := by kernel_rfl
theorem name70 : (Try.f70.name == "runtime.NumGoroutine") = false := by kernel_rfl
theorem res70 : resC Try.prog Try.f70.results.toList = some [.t 4] := by kernel_rfl
theorem ar70 : Nat.ble 2 Try.f70.ntmps = true := by kernel_rfl
theorem spec70 (a0n b0n : Bool) (a0 b0 : List (List PV)) (a1n b1n : Bool) (a1 b1 : List (List PV)) (a2n b2n : Bool) (a2 b2 : List (List PV)) (a3n b3n : Bool) (a3 b3 : List (List PV)) (a4n b4n : Bool) (a4 b4 : List (List PV)) (a5n b5n : Bool) (a5 b5 : List (List PV)) (a6n b6n : Bool) (a6 b6 : List (List PV)) (a7n b7n : Bool) (a7 b7 : List (List PV)) (a8n b8n : Bool) (a8 b8 : List (List PV)) (a9n b9n : Bool) (a9 b9 : List (List PV)) (a10n b10n : Bool) (a10 b10 : List (List PV)) (ea5 : HasE TGlobal a5) (eb5 : HasE TGlobal b5) (ea8 : HasE TElem a8) (eb8 : HasE TElem b8) (ea9 : HasE TCode a9) (eb9 : HasE TCode b9) (ea10 : HasE TData a10) (eb10 : HasE TData b10) (hal5 : a5.length = b5.length) (hal8 : a8.length = b8.length) (hal9 : a9.length = b9.length) (hal10 : a10.length = b10.length) : Runs Try.prog 70 [.agg (plainP [.isl a0n 2 a0, .isl a1n 9 a1, .isl a2n 1 a2, .isl a3n 3 a3, .isl a4n 3 a4, .isl a5n 3 a5, .isl a6n 3 a6, .isl a7n 1 a7, .isl a8n 3 a8, .isl a9n 2 a9, .isl a10n 3 a10]), .agg (plainP [.isl b0n 2 b0, .isl b1n 9 b1, .isl b2n 1 b2, .isl b3n 3 b3, .isl b4n 3 b4, .isl b5n 3 b5, .isl b6n 3 b6, .isl b7n 1 b7, .isl b8n 3 b8, .isl b9n 2 b9, .isl b10n 3 b10])] [] (.ret (.p (.bool (sameE a5 b5 && (sameE a8 b8 && (sameE a9 b9 && sameE a10 b10))))) []) := by
  refine runs_len fun _ => ?_
  refine runs_of_wp 12 Try.func70 body70 name70 comp70 res70 (Nat.le_of_ble_eq_true ar70) ?_
  generalize hI : stdI = LI
  generalize hB : stdB = LB
  generalize hE : stdE = LE
  have la5 : LI (.len a5) = a5.length := by rw [← hI]; rfl
  have lb5 : LI (.len b5) = b5.length := by rw [← hI]; rfl
  have la8 : LI (.len a8) = a8.length := by rw [← hI]; rfl
  have lb8 : LI (.len b8) = b8.length := by rw [← hI]; rfl
  have la9 : LI (.len a9) = a9.length := by rw [← hI]; rfl
  have lb9 : LI (.len b9) = b9.length := by rw [← hI]; rfl
  have la10 : LI (.len a10) = a10.length := by rw [← hI]; rfl
  have lb10 : LI (.len b10) = b10.length := by rw [← hI]; rfl
  generalize hR : Runs Try.prog = R
  generalize hr : (sameE a5 b5 && (sameE a8 b8 && (sameE a9 b9 && sameE a10 b10))) = r
  cbv
  refine loopR (α := Nat × Int) [] 2 (Nat.zero_le _) (fun s a => s.sett 5 (.p (.int .i64 a.2))) (fun a => a5.length - a.1) (fun a => a.2 = a.1 ∧ a.1 ≤ a5.length ∧ firsts a.1 a5 b5) (0, 0) ⟨rfl, Nat.zero_le _, firsts_zero _ _⟩ (by cbv) ?_
  rintro S hS inv hinv ⟨k, K⟩ ⟨hK, hk, ht⟩
  subst hS
  simp only at hK hk ht
  have hb := ea5.1
  cbv
  cases hc : LB (.cmp .lss K (LI (.len a5)))
  · rw [← hB, B_lss, la5, hK] at hc
    have hc : ¬ k < a5.length := by simpa using hc
    cbv
    have has5 : sameE a5 b5 = true := firsts_all ht (by omega) (by omega)
    clear hinv
    refine loopR (α := Nat × Int) [] 2 (Nat.zero_le _) (fun s a => s.sett 8 (.p (.int .i64 a.2))) (fun a => a8.length - a.1) (fun a => a.2 = a.1 ∧ a.1 ≤ a8.length ∧ firsts a.1 a8 b8) (0, 0) ⟨rfl, Nat.zero_le _, firsts_zero _ _⟩ (by cbv) ?_
    rintro S hS inv hinv ⟨k, K⟩ ⟨hK, hk, ht⟩
    subst hS
    simp only at hK hk ht
    have hb := ea8.1
    cbv
    cases hc : LB (.cmp .lss K (LI (.len a8)))
    · rw [← hB, B_lss, la8, hK] at hc
      have hc : ¬ k < a8.length := by simpa using hc
      cbv
      have has8 : sameE a8 b8 = true := firsts_all ht (by omega) (by omega)
      clear hinv
      refine loopR (α := Nat × Int) [] 2 (Nat.zero_le _) (fun s a => s.sett 11 (.p (.int .i64 a.2))) (fun a => a9.length - a.1) (fun a => a.2 = a.1 ∧ a.1 ≤ a9.length ∧ firsts a.1 a9 b9) (0, 0) ⟨rfl, Nat.zero_le _, firsts_zero _ _⟩ (by cbv) ?_
      rintro S hS inv hinv ⟨k, K⟩ ⟨hK, hk, ht⟩
      subst hS
      simp only at hK hk ht
      have hb := ea9.1
      cbv
      cases hc : LB (.cmp .lss K (LI (.len a9)))
      · rw [← hB, B_lss, la9, hK] at hc
        have hc : ¬ k < a9.length := by simpa using hc
        cbv
        have has9 : sameE a9 b9 = true := firsts_all ht (by omega) (by omega)
        clear hinv
        refine loopR (α := Nat × Int) [] 2 (Nat.zero_le _) (fun s a => s.sett 15 (.p (.int .i64 a.2))) (fun a => a10.length - a.1) (fun a => a.2 = a.1 ∧ a.1 ≤ a10.length ∧ firsts a.1 a10 b10) (0, 0) ⟨rfl, Nat.zero_le _, firsts_zero _ _⟩ (by cbv) ?_
        rintro S hS inv hinv ⟨k, K⟩ ⟨hK, hk, ht⟩
        subst hS
        simp only at hK hk ht
        have hb := ea10.1
        cbv
        cases hc : LB (.cmp .lss K (LI (.len a10)))
        · rw [← hB, B_lss, la10, hK] at hc
          have hc : ¬ k < a10.length := by simpa using hc
          cbv
          have has10 : sameE a10 b10 = true := firsts_all ht (by omega) (by omega)
          clear hinv
          refine ⟨[], 0, Nat.le_refl _, ?_⟩
          cbv
          rw [show r = true by rw [← hr]; simp only [sameC_cons, sameC_nil, same1_int, same1_bool, same1_str, same1_isl, has5, has8, has9, has10, Bool.true_and, Bool.false_and, Bool.and_true, Bool.and_false]]
        · rw [← hB, B_lss, la10, hK] at hc
          have hc : k < a10.length := by simpa using hc
          obtain ⟨x, hx, hx'⟩ := ea10.at hc
          obtain ⟨y, hy, hy'⟩ := eb10.at (k := k) (by omega)
          obtain ⟨p0, p1n, p1, p2n, p2, rfl, gp1, ep1, gp2, ep2⟩ := has_data hx'
          obtain ⟨q0, q1n, q1, q2n, q2, rfl, gq1, eq1, gq2, eq2⟩ := has_data hy'
          cbv
          refine ⟨k, _, hK, hx, rfl, ?_⟩
          cbv
          refine ⟨k, _, hK, hy, rfl, ?_⟩
          cbv
          cases hps0 : LB (.cmp .neq p0 q0)
          · rw [← hB, B_neq] at hps0
            have hps0 : (p0 == q0) = true := by simpa [bne] using hps0
            cbv
            have qp1 := spec106 p1n q1n p1 q1 ep1 eq1
            rw [hR] at qp1
            generalize hps1 : sameE p1 q1 = pq1 at qp1
            refine ⟨[], trivial, ?_⟩
            cbv
            refine ⟨[], rfl, _, qp1, Or.inl rfl, ?_⟩
            cbv
            cases hnpq1 : LB (.not pq1)
            · rw [← hB, B_not] at hnpq1
              have hnpq1 : pq1 = true := by simpa using hnpq1
              subst hnpq1
              cbv
              have qp2 := spec69 p2n q2n p2 q2 ep2 eq2
              rw [hR] at qp2
              generalize hps2 : sameE p2 q2 = pq2 at qp2
              refine ⟨[], trivial, ?_⟩
              cbv
              refine ⟨[], rfl, _, qp2, Or.inl rfl, ?_⟩
              cbv
              cases hnpq2 : LB (.not pq2)
              · rw [← hB, B_not] at hnpq2
                have hnpq2 : pq2 = true := by simpa using hnpq2
                subst hnpq2
                cbv
                refine ⟨[], _, ?_, hinv (k + 1, LI (.ari .add .i64 K 1)) ⟨?_, hc, firsts_succ hx hy ht (by simp only [sameC_cons, sameC_nil, same1_int, same1_bool, same1_str, same1_isl, hps0, hps1, hps2, Bool.true_and, Bool.false_and, Bool.and_true, Bool.and_false])⟩⟩
                · simp only; omega
                · simp only
                  rw [← hI, hK]
                  exact I_inc (by omega)
              · rw [← hB, B_not] at hnpq2
                have hnpq2 : pq2 = false := by simpa using hnpq2
                subst hnpq2
                cbv
                have has10 : sameE a10 b10 = false := sameE_at hx hy (by simp only [sameC_cons, sameC_nil, same1_int, same1_bool, same1_str, same1_isl, hps2, Bool.true_and, Bool.false_and, Bool.and_true, Bool.and_false])
                refine ⟨[], 0, Nat.le_refl _, ?_⟩
                cbv
                rw [show r = false by rw [← hr]; simp only [sameC_cons, sameC_nil, same1_int, same1_bool, same1_str, same1_isl, has10, Bool.true_and, Bool.false_and, Bool.and_true, Bool.and_false]]
            · rw [← hB, B_not] at hnpq1
              have hnpq1 : pq1 = false := by simpa using hnpq1
              subst hnpq1
              cbv
              have has10 : sameE a10 b10 = false := sameE_at hx hy (by simp only [sameC_cons, sameC_nil, same1_int, same1_bool, same1_str, same1_isl, hps1, Bool.true_and, Bool.false_and, Bool.and_true, Bool.and_false])
              refine ⟨[], 0, Nat.le_refl _, ?_⟩
              cbv
              rw [show r = false by rw [← hr]; simp only [sameC_cons, sameC_nil, same1_int, same1_bool, same1_str, same1_isl, has10, Bool.true_and, Bool.false_and, Bool.and_true, Bool.and_false]]
          · rw [← hB, B_neq] at hps0
            have hps0 : (p0 == q0) = false := by simpa [bne] using hps0
            cbv
            have has10 : sameE a10 b10 = false := sameE_at hx hy (by simp only [sameC_cons, sameC_nil, same1_int, same1_bool, same1_str, same1_isl, hps0, Bool.true_and, Bool.false_and, Bool.and_true, Bool.and_false])
            refine ⟨[], 0, Nat.le_refl _, ?_⟩
            cbv
            rw [show r = false by rw [← hr]; simp only [sameC_cons, sameC_nil, same1_int, same1_bool, same1_str, same1_isl, has10, Bool.true_and, Bool.false_and, Bool.and_true, Bool.and_false]]
      · rw [← hB, B_lss, la9, hK] at hc
        have hc : k < a9.length := by simpa using hc
        obtain ⟨x, hx, hx'⟩ := ea9.at hc
        obtain ⟨y, hy, hy'⟩ := eb9.at (k := k) (by omega)
        obtain ⟨p0n, p0, p1n, p1, rfl, gp0, ep0, gp1, ep1⟩ := has_code hx'
        obtain ⟨q0n, q0, q1n, q1, rfl, gq0, eq0, gq1, eq1⟩ := has_code hy'
        cbv
        refine ⟨k, _, hK, hx, rfl, ?_⟩
        cbv
        refine ⟨k, _, hK, hy, rfl, ?_⟩
        cbv
        have lp0 : LI (.len p0) = p0.length := by rw [← hI]; rfl
        have lq0 : LI (.len q0) = q0.length := by rw [← hI]; rfl
        cases hpl0 : LB (.cmp .neq (LI (.len p0)) (LI (.len q0)))
        · rw [← hB, B_neq, lp0, lq0] at hpl0
          have hpl0 : p0.length = q0.length := by simp only [bne_eq_false_iff_eq] at hpl0; omega
          cbv
          have qp1 := spec106 p1n q1n p1 q1 ep1 eq1
          rw [hR] at qp1
          generalize hps1 : sameE p1 q1 = pq1 at qp1
          refine ⟨[], trivial, ?_⟩
          cbv
          refine ⟨[], rfl, _, qp1, Or.inl rfl, ?_⟩
          cbv
          cases hnpq1 : LB (.not pq1)
          · rw [← hB, B_not] at hnpq1
            have hnpq1 : pq1 = true := by simpa using hnpq1
            subst hnpq1
            cbv
            refine loopR (α := Nat × Int) [] 4 (Nat.zero_le _) (fun s a => s.sett 14 (.p (.int .i64 a.2))) (fun a => p0.length - a.1) (fun a => a.2 = a.1 ∧ a.1 ≤ p0.length ∧ firsts a.1 p0 q0) (0, 0) ⟨rfl, Nat.zero_le _, firsts_zero _ _⟩ (by cbv) ?_
            rintro S1 hS1 inv1 hinv1 ⟨k1, K1⟩ ⟨hK1, hk1, ht1⟩
            subst hS1
            simp only at hK1 hk1 ht1
            have hb1 := ep0.1
            cbv
            cases hc1 : LB (.cmp .lss K1 (LI (.len p0)))
            · rw [← hB, B_lss, lp0, hK1] at hc1
              have hc1 : ¬ k1 < p0.length := by simpa using hc1
              cbv
              have hps0 : sameE p0 q0 = true := firsts_all ht1 (by omega) (by omega)
              clear hinv1
              refine ⟨[], _, ?_, hinv (k + 1, LI (.ari .add .i64 K 1)) ⟨?_, hc, firsts_succ hx hy ht (by simp only [sameC_cons, sameC_nil, same1_int, same1_bool, same1_str, same1_isl, hps0, hps1, Bool.true_and, Bool.false_and, Bool.and_true, Bool.and_false])⟩⟩
              · simp only; omega
              · simp only
                rw [← hI, hK]
                exact I_inc (by omega)
            · rw [← hB, B_lss, lp0, hK1] at hc1
              have hc1 : k1 < p0.length := by simpa using hc1
              obtain ⟨x1, hx1, hx'1⟩ := ep0.at hc1
              obtain ⟨y1, hy1, hy'1⟩ := eq0.at (k := k1) (by omega)
              obtain ⟨u0, u1, rfl⟩ := has_locals hx'1
              obtain ⟨v0, v1, rfl⟩ := has_locals hy'1
              cbv
              refine ⟨k1, _, hK1, hx1, rfl, ?_⟩
              cbv
              refine ⟨k1, _, hK1, hy1, rfl, ?_⟩
              cbv
              split
              · rename_i hd
                rw [← hB] at hd
                have hd : sameC [.int .i64 u0, .int .u8 u1] [.int .i64 v0, .int .u8 v1] = false := by
                  cases he : sameC [.int .i64 u0, .int .u8 u1] [.int .i64 v0, .int .u8 v1] with
                  | false => rfl
                  | true =>
                    simp [sameC_cons, sameC_nil, same1_int, same1_bool, same1_str, same1_isl] at he
                    simp [B_neq, B_eql, B_and, B_not, B_eq, B_seq, he] at hd
                have hps0 : sameE p0 q0 = false := sameE_at hx1 hy1 (by exact hd)
                have has9 : sameE a9 b9 = false := sameE_at hx hy (by simp only [sameC_cons, sameC_nil, same1_int, same1_bool, same1_str, same1_isl, hps0, Bool.true_and, Bool.false_and, Bool.and_true, Bool.and_false])
                refine ⟨[], 0, Nat.le_refl _, ?_⟩
                cbv
                rw [show r = false by rw [← hr]; simp only [sameC_cons, sameC_nil, same1_int, same1_bool, same1_str, same1_isl, has9, Bool.true_and, Bool.false_and, Bool.and_true, Bool.and_false]]
              · rename_i hd
                rw [← hB] at hd
                have hd : sameC [.int .i64 u0, .int .u8 u1] [.int .i64 v0, .int .u8 v1] = true := by
                  simpa [B_neq, B_eql, B_and, B_not, B_eq, B_seq, sameC_cons, sameC_nil, same1_int, same1_bool, same1_str, same1_isl] using hd
                cbv
                refine ⟨[], _, ?_, hinv1 (k1 + 1, LI (.ari .add .i64 K1 1)) ⟨?_, hc1, firsts_succ hx1 hy1 ht1 (by exact hd)⟩⟩
                · simp only; omega
                · simp only
                  rw [← hI, hK1]
                  exact I_inc (by omega)
          · rw [← hB, B_not] at hnpq1
            have hnpq1 : pq1 = false := by simpa using hnpq1
            subst hnpq1
            cbv
            have has9 : sameE a9 b9 = false := sameE_at hx hy (by simp only [sameC_cons, sameC_nil, same1_int, same1_bool, same1_str, same1_isl, hps1, Bool.true_and, Bool.false_and, Bool.and_true, Bool.and_false])
            refine ⟨[], 0, Nat.le_refl _, ?_⟩
            cbv
            rw [show r = false by rw [← hr]; simp only [sameC_cons, sameC_nil, same1_int, same1_bool, same1_str, same1_isl, has9, Bool.true_and, Bool.false_and, Bool.and_true, Bool.and_false]]
        · rw [← hB, B_neq, lp0, lq0] at hpl0
          have hps0 : sameE p0 q0 = false := sameE_len (fun h => by rw [h] at hpl0; simp at hpl0)
          cbv
          have has9 : sameE a9 b9 = false := sameE_at hx hy (by simp only [sameC_cons, sameC_nil, same1_int, same1_bool, same1_str, same1_isl, hps0, Bool.true_and, Bool.false_and, Bool.and_true, Bool.and_false])
          refine ⟨[], 0, Nat.le_refl _, ?_⟩
          cbv
          rw [show r = false by rw [← hr]; simp only [sameC_cons, sameC_nil, same1_int, same1_bool, same1_str, same1_isl, has9, Bool.true_and, Bool.false_and, Bool.and_true, Bool.and_false]]
    · rw [← hB, B_lss, la8, hK] at hc
      have hc : k < a8.length := by simpa using hc
      obtain ⟨x, hx, hx'⟩ := ea8.at hc
      obtain ⟨y, hy, hy'⟩ := eb8.at (k := k) (by omega)
      obtain ⟨p0, p1n, p1, p2n, p2, rfl, gp1, ep1, gp2, ep2⟩ := has_elem hx'
      obtain ⟨q0, q1n, q1, q2n, q2, rfl, gq1, eq1, gq2, eq2⟩ := has_elem hy'
      cbv
      refine ⟨k, _, hK, hx, rfl, ?_⟩
      cbv
      refine ⟨k, _, hK, hy, rfl, ?_⟩
      cbv
      cases hps0 : LB (.cmp .neq p0 q0)
      · rw [← hB, B_neq] at hps0
        have hps0 : (p0 == q0) = true := by simpa [bne] using hps0
        cbv
        have qp1 := spec106 p1n q1n p1 q1 ep1 eq1
        rw [hR] at qp1
        generalize hps1 : sameE p1 q1 = pq1 at qp1
        refine ⟨[], trivial, ?_⟩
        cbv
        refine ⟨[], rfl, _, qp1, Or.inl rfl, ?_⟩
        cbv
        cases hnpq1 : LB (.not pq1)
        · rw [← hB, B_not] at hnpq1
          have hnpq1 : pq1 = true := by simpa using hnpq1
          subst hnpq1
          cbv
          have qp2 := spec68 p2n q2n p2 q2 ep2 eq2
          rw [hR] at qp2
          generalize hps2 : sameE p2 q2 = pq2 at qp2
          refine ⟨[], trivial, ?_⟩
          cbv
          refine ⟨[], rfl, _, qp2, Or.inl rfl, ?_⟩
          cbv
          cases hnpq2 : LB (.not pq2)
          · rw [← hB, B_not] at hnpq2
            have hnpq2 : pq2 = true := by simpa using hnpq2
            subst hnpq2
            cbv
            refine ⟨[], _, ?_, hinv (k + 1, LI (.ari .add .i64 K 1)) ⟨?_, hc, firsts_succ hx hy ht (by simp only [sameC_cons, sameC_nil, same1_int, same1_bool, same1_str, same1_isl, hps0, hps1, hps2, Bool.true_and, Bool.false_and, Bool.and_true, Bool.and_false])⟩⟩
            · simp only; omega
            · simp only
              rw [← hI, hK]
              exact I_inc (by omega)
          · rw [← hB, B_not] at hnpq2
            have hnpq2 : pq2 = false := by simpa using hnpq2
            subst hnpq2
            cbv
            have has8 : sameE a8 b8 = false := sameE_at hx hy (by simp only [sameC_cons, sameC_nil, same1_int, same1_bool, same1_str, same1_isl, hps2, Bool.true_and, Bool.false_and, Bool.and_true, Bool.and_false])
            refine ⟨[], 0, Nat.le_refl _, ?_⟩
            cbv
            rw [show r = false by rw [← hr]; simp only [sameC_cons, sameC_nil, same1_int, same1_bool, same1_str, same1_isl, has8, Bool.true_and, Bool.false_and, Bool.and_true, Bool.and_false]]
        · rw [← hB, B_not] at hnpq1
          have hnpq1 : pq1 = false := by simpa using hnpq1
          subst hnpq1
          cbv
          have has8 : sameE a8 b8 = false := sameE_at hx hy (by simp only [sameC_cons, sameC_nil, same1_int, same1_bool, same1_str, same1_isl, hps1, Bool.true_and, Bool.false_and, Bool.and_true, Bool.and_false])
          refine ⟨[], 0, Nat.le_refl _, ?_⟩
          cbv
          rw [show r = false by rw [← hr]; simp only [sameC_cons, sameC_nil, same1_int, same1_bool, same1_str, same1_isl, has8, Bool.true_and, Bool.false_and, Bool.and_true, Bool.and_false]]
      · rw [← hB, B_neq] at hps0
        have hps0 : (p0 == q0) = false := by simpa [bne] using hps0
        cbv
        have has8 : sameE a8 b8 = false := sameE_at hx hy (by simp only [sameC_cons, sameC_nil, same1_int, same1_bool, same1_str, same1_isl, hps0, Bool.true_and, Bool.false_and, Bool.and_true, Bool.and_false])
        refine ⟨[], 0, Nat.le_refl _, ?_⟩
        cbv
        rw [show r = false by rw [← hr]; simp only [sameC_cons, sameC_nil, same1_int, same1_bool, same1_str, same1_isl, has8, Bool.true_and, Bool.false_and, Bool.and_true, Bool.and_false]]
  · rw [← hB, B_lss, la5, hK] at hc
    have hc : k < a5.length := by simpa using hc
    obtain ⟨x, hx, hx'⟩ := ea5.at hc
    obtain ⟨y, hy, hy'⟩ := eb5.at (k := k) (by omega)
    obtain ⟨p0, p1, p2n, p2, rfl, gp2, ep2⟩ := has_global hx'
    obtain ⟨q0, q1, q2n, q2, rfl, gq2, eq2⟩ := has_global hy'
    cbv
    refine ⟨k, _, hK, hx, rfl, ?_⟩
    cbv
    refine ⟨k, _, hK, hy, rfl, ?_⟩
    cbv
    cases hps0 : LB (.cmp .neq p0 q0)
    · rw [← hB, B_neq] at hps0
      have hps0 : (p0 == q0) = true := by simpa [bne] using hps0
      cbv
      cases hps1 : LB (.not (LB (.eq p1 q1)))
      · rw [← hB, B_not, B_eq] at hps1
        have hps1 : (p1 == q1) = true := by simpa [bne] using hps1
        cbv
        have qp2 := spec106 p2n q2n p2 q2 ep2 eq2
        rw [hR] at qp2
        generalize hps2 : sameE p2 q2 = pq2 at qp2
        refine ⟨[], trivial, ?_⟩
        cbv
        refine ⟨[], rfl, _, qp2, Or.inl rfl, ?_⟩
        cbv
        cases hnpq2 : LB (.not pq2)
        · rw [← hB, B_not] at hnpq2
          have hnpq2 : pq2 = true := by simpa using hnpq2
          subst hnpq2
          cbv
          refine ⟨[], _, ?_, hinv (k + 1, LI (.ari .add .i64 K 1)) ⟨?_, hc, firsts_succ hx hy ht (by simp only [sameC_cons, sameC_nil, same1_int, same1_bool, same1_str, same1_isl, hps0, hps1, hps2, Bool.true_and, Bool.false_and, Bool.and_true, Bool.and_false])⟩⟩
          · simp only; omega
          · simp only
            rw [← hI, hK]
            exact I_inc (by omega)
        · rw [← hB, B_not] at hnpq2
          have hnpq2 : pq2 = false := by simpa using hnpq2
          subst hnpq2
          cbv
          have has5 : sameE a5 b5 = false := sameE_at hx hy (by simp only [sameC_cons, sameC_nil, same1_int, same1_bool, same1_str, same1_isl, hps2, Bool.true_and, Bool.false_and, Bool.and_true, Bool.and_false])
          refine ⟨[], 0, Nat.le_refl _, ?_⟩
          cbv
          rw [show r = false by rw [← hr]; simp only [sameC_cons, sameC_nil, same1_int, same1_bool, same1_str, same1_isl, has5, Bool.true_and, Bool.false_and, Bool.and_true, Bool.and_false]]
      · rw [← hB, B_not, B_eq] at hps1
        have hps1 : (p1 == q1) = false := by simpa [bne] using hps1
        cbv
        have has5 : sameE a5 b5 = false := sameE_at hx hy (by simp only [sameC_cons, sameC_nil, same1_int, same1_bool, same1_str, same1_isl, hps1, Bool.true_and, Bool.false_and, Bool.and_true, Bool.and_false])
        refine ⟨[], 0, Nat.le_refl _, ?_⟩
        cbv
        rw [show r = false by rw [← hr]; simp only [sameC_cons, sameC_nil, same1_int, same1_bool, same1_str, same1_isl, has5, Bool.true_and, Bool.false_and, Bool.and_true, Bool.and_false]]
    · rw [← hB, B_neq] at hps0
      have hps0 : (p0 == q0) = false := by simpa [bne] using hps0
      cbv
      have has5 : sameE a5 b5 = false := sameE_at hx hy (by simp only [sameC_cons, sameC_nil, same1_int, same1_bool, same1_str, same1_isl, hps0, Bool.true_and, Bool.false_and, Bool.and_true, Bool.and_false])
      refine ⟨[], 0, Nat.le_refl _, ?_⟩
      cbv
      rw [show r = false by rw [← hr]; simp only [sameC_cons, sameC_nil, same1_int, same1_bool, same1_str, same1_isl, has5, Bool.true_and, Bool.false_and, Bool.and_true, Bool.and_false]]
end Go.Ab

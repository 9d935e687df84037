import Derived.Test.YtgcfomhlgipllaaGreatDoorCc4
set_option linter.unusedVariables false
set_option linter.unusedSimpArgs false
namespace Go.Proofs.YtgcfomhlgipllaaGreatDoor
open Go Go.Sx
set_option maxHeartbeats 16000000 in
theorem rfits_ret_true (c : CoV) (u : UnV) (x : InP) (k23 : x.1 = 23) (hr : u.result = true) : Does Tryz.prog 147 [.agg (coC c).toArray, .agg (unC u).toArray, .agg (insC x).toArray] [] (fun v hp' => v = .bool (fitsB c.p u.p x) ∧ hp' = []) := by
 have kz : ¬ opName x.1 = [] := fun h => (op_none x.1).1 h (by omega)
 have n0 : ¬ opName x.1 = [109, 97, 114, 107] := fun h => by have := (op_mark x.1).1 h; omega
 have n1 : ¬ opName x.1 = [105, 110, 116] := fun h => by have := (op_int x.1).1 h; omega
 have n2 : ¬ opName x.1 = [98, 111, 111, 108] := fun h => by have := (op_bool x.1).1 h; omega
 have n3 : ¬ opName x.1 = [115, 116, 114] := fun h => by have := (op_str x.1).1 h; omega
 have n28 : ¬ opName x.1 = [102, 105, 101, 108, 100] := fun h => by have := (op_field x.1).1 h; omega
 have n29 : ¬ opName x.1 = [115, 101, 116, 102, 105, 101, 108, 100] := fun h => by have := (op_setfield x.1).1 h; omega
 have n4 : ¬ opName x.1 = [108, 111, 97, 100] := fun h => by have := (op_load x.1).1 h; omega
 have n5 : ¬ opName x.1 = [115, 116, 111, 114, 101] := fun h => by have := (op_store x.1).1 h; omega
 have n20 : ¬ opName x.1 = [106, 117, 109, 112] := fun h => by have := (op_jump x.1).1 h; omega
 have n21 : ¬ opName x.1 = [117, 110, 108, 101, 115, 115] := fun h => by have := (op_unless x.1).1 h; omega
 have n22 : ¬ opName x.1 = [99, 97, 108, 108] := fun h => by have := (op_call x.1).1 h; omega
 have n25 : ¬ opName x.1 = [110, 101, 119] := fun h => by have := (op_new x.1).1 h; omega
 have n23 : opName x.1 = [114, 101, 116, 117, 114, 110] := (op_return x.1).2 k23
 by_cases h : x.2 = 1
 ·unfold coC unC insC
  rw [hr]
  refine fn_enter Tryz.func147 rfl 96 rfl fun w0 h0 => ?_
  refine SQ (RG ?_)
  refine RP [] (.d .a) 3 (.d (.k .a)) .a 26 [.slice c.sa c.strs.length c.sc, .slice c.ha c.shapes.length c.hc, .slice c.ua c.units.length c.uc, .int .i64 c.main] fun g1 => ?_
  refine RP [] (.d .a) 4 (.k (.d (.k .a))) .a 59 [.string (mkS u.name), .int .i64 u.params, .int .i64 u.slots, .int .i64 u.stack, .bool true, .slice u.ia u.ins.length u.ic, .slice u.va u.vars.length u.vc] fun g2 => ?_
  refine RP [] (.d .a) 5 (.k (.k .z)) .a 62 [.int .i64 x.fst, .int .i64 x.snd] fun g3 => ?_
  refine RR [] .z (.i 6 (.bool false) .a) .a ?_
  refine RZ (NT (SQ (SQ (RG ?_))))
  refine RR [2] (.d (.d .a)) (.i 8 (.int .i64 x.fst) .a) .a ?_
  refine RC (dst := some 9) [] .a (rname_spec x.1) ?_
  rintro v _ ⟨rfl, rfl⟩
  refine RZ (NT (BK (SQ (RG ?_))))
  refine RR [] .z (.i 10 (.bool (decide (opName x.fst = []))) (.k (.d (.k .a)))) .a ?_
  refine RZ (NT ?_)
  refine SC 10 (decide (opName x.fst = [])) false (decide_eq_false (by omega)) ?_
  refine CF (SQ (SQ (RG ?_)))
  refine RR [] .z (.i 12 (.bool (decide (opName x.fst = [(109 : UInt8), (97 : UInt8), (114 : UInt8), (107 : UInt8)]))) (.d (.d (.k .a)))) .a ?_
  refine RZ (NT ?_)
  refine SC 12 (decide (opName x.fst = [(109 : UInt8), (97 : UInt8), (114 : UInt8), (107 : UInt8)])) false (decide_eq_false (by omega)) ?_
  refine CF (RG ?_)
  refine RR [] .z (.i 12 (.bool (decide (opName x.fst = [(105 : UInt8), (110 : UInt8), (116 : UInt8)]))) (.d (.d (.k .a)))) .a ?_
  refine RZ (NT ?_)
  refine SC 12 (decide (opName x.fst = [(105 : UInt8), (110 : UInt8), (116 : UInt8)])) false (decide_eq_false (by omega)) ?_
  refine CF (SQ (RG ?_))
  refine RR [] .z (.i 15 (.bool (decide (opName x.fst = [(98 : UInt8), (111 : UInt8), (111 : UInt8), (108 : UInt8)]))) (.d (.d (.k .a)))) .a ?_
  refine RZ (NT ?_)
  refine SC 15 (decide (opName x.fst = [(98 : UInt8), (111 : UInt8), (111 : UInt8), (108 : UInt8)])) false (decide_eq_false (by omega)) ?_
  refine CF (SQ (SQ (RG ?_)))
  refine RR [] .z (.i 20 (.bool (decide (opName x.fst = [(115 : UInt8), (116 : UInt8), (114 : UInt8)]))) (.d (.d (.k .a)))) .a ?_
  refine RZ (NT ?_)
  refine SC 20 (decide (opName x.fst = [(115 : UInt8), (116 : UInt8), (114 : UInt8)])) false (decide_eq_false (by omega)) ?_
  refine CF (SQ (RG ?_))
  refine RR [] .z (.i 20 (.bool (decide (opName x.fst = [(102 : UInt8), (105 : UInt8), (101 : UInt8), (108 : UInt8), (100 : UInt8)]))) (.d (.d (.k .a)))) .a ?_
  refine RZ (NT ?_)
  refine SC 20 (decide (opName x.fst = [(102 : UInt8), (105 : UInt8), (101 : UInt8), (108 : UInt8), (100 : UInt8)])) false (decide_eq_false (by omega)) ?_
  refine CF (RG ?_)
  refine RR [] .z (.i 20 (.bool (decide (opName x.fst = [(115 : UInt8), (101 : UInt8), (116 : UInt8), (102 : UInt8), (105 : UInt8), (101 : UInt8), (108 : UInt8), (100 : UInt8)]))) (.d (.d (.k .a)))) .a ?_
  refine RZ (NT ?_)
  refine SC 20 (decide (opName x.fst = [(115 : UInt8), (101 : UInt8), (116 : UInt8), (102 : UInt8), (105 : UInt8), (101 : UInt8), (108 : UInt8), (100 : UInt8)])) false (decide_eq_false (by omega)) ?_
  refine CF (SQ (SQ (RG ?_)))
  refine RR [] .z (.i 30 (.bool (decide (opName x.fst = [(108 : UInt8), (111 : UInt8), (97 : UInt8), (100 : UInt8)]))) (.d (.d (.k .a)))) .a ?_
  refine RZ (NT ?_)
  refine SC 30 (decide (opName x.fst = [(108 : UInt8), (111 : UInt8), (97 : UInt8), (100 : UInt8)])) false (decide_eq_false (by omega)) ?_
  refine CF (RG ?_)
  refine RR [] .z (.i 30 (.bool (decide (opName x.fst = [(115 : UInt8), (116 : UInt8), (111 : UInt8), (114 : UInt8), (101 : UInt8)]))) (.d (.d (.k .a)))) .a ?_
  refine RZ (NT ?_)
  refine SC 30 (decide (opName x.fst = [(115 : UInt8), (116 : UInt8), (111 : UInt8), (114 : UInt8), (101 : UInt8)])) false (decide_eq_false (by omega)) ?_
  refine CF (SQ (SQ (RG ?_)))
  refine RR [] .z (.i 38 (.bool (decide (opName x.fst = [(106 : UInt8), (117 : UInt8), (109 : UInt8), (112 : UInt8)]))) (.d (.d (.k .a)))) .a ?_
  refine RZ (NT ?_)
  refine SC 38 (decide (opName x.fst = [(106 : UInt8), (117 : UInt8), (109 : UInt8), (112 : UInt8)])) false (decide_eq_false (by omega)) ?_
  refine CF (RG ?_)
  refine RR [] .z (.i 38 (.bool (decide (opName x.fst = [(117 : UInt8), (110 : UInt8), (108 : UInt8), (101 : UInt8), (115 : UInt8), (115 : UInt8)]))) (.d (.d (.k .a)))) .a ?_
  refine RZ (NT ?_)
  refine SC 38 (decide (opName x.fst = [(117 : UInt8), (110 : UInt8), (108 : UInt8), (101 : UInt8), (115 : UInt8), (115 : UInt8)])) false (decide_eq_false (by omega)) ?_
  refine CF (SQ (RG ?_))
  refine RR [] .z (.i 47 (.bool (decide (opName x.fst = [(99 : UInt8), (97 : UInt8), (108 : UInt8), (108 : UInt8)]))) (.d (.d (.k .a)))) .a ?_
  refine RZ (NT ?_)
  refine SC 47 (decide (opName x.fst = [(99 : UInt8), (97 : UInt8), (108 : UInt8), (108 : UInt8)])) false (decide_eq_false (by omega)) ?_
  refine CF (SQ (RG ?_))
  refine RR [] .z (.i 55 (.bool (decide (opName x.fst = [(110 : UInt8), (101 : UInt8), (119 : UInt8)]))) (.d (.d (.k .a)))) .a ?_
  refine RZ (NT ?_)
  refine SC 55 (decide (opName x.fst = [(110 : UInt8), (101 : UInt8), (119 : UInt8)])) false (decide_eq_false (by omega)) ?_
  refine CF (SQ (RG ?_))
  refine RR [] .z (.i 63 (.bool (decide (opName x.fst = [(114 : UInt8), (101 : UInt8), (116 : UInt8), (117 : UInt8), (114 : UInt8), (110 : UInt8)]))) (.d (.d (.k (.k (.k (.k .z))))))) .a ?_
  refine RZ (NT ?_)
  refine SC 63 (decide (opName x.fst = [(114 : UInt8), (101 : UInt8), (116 : UInt8), (117 : UInt8), (114 : UInt8), (110 : UInt8)])) true (decide_eq_true (by omega)) ?_
  refine CT (SQ (RG ?_))
  refine RR [1, 2] (.d (.d (.d (.d (.d (.d (.d (.d .a)))))))) (.i 72 (.bool (x.snd == (1 : Int))) (.d (.d (.d (.k .a))))) .a ?_
  refine SR 72 (x.snd == (1 : Int)) true (by simp only [bne_iff_ne, beq_iff_eq, ne_eq]; omega) ?_
  refine RR [] .z (.i 6 (.bool true) (.d (.d (.d (.k .z))))) .a ?_
  refine RZ (NT (RE (BR (TR ?_))))
  refine NE [] .z .a [] (.bool true) ?_
  exact ⟨by simp [fitsB, k23, UnV.p, hr, oneI, h], rfl⟩
 ·unfold coC unC insC
  rw [hr]
  refine fn_enter Tryz.func147 rfl 96 rfl fun w0 h0 => ?_
  refine SQ (RG ?_)
  refine RP [] (.d .a) 3 (.d (.k .a)) .a 26 [.slice c.sa c.strs.length c.sc, .slice c.ha c.shapes.length c.hc, .slice c.ua c.units.length c.uc, .int .i64 c.main] fun g1 => ?_
  refine RP [] (.d .a) 4 (.k (.d (.k .a))) .a 59 [.string (mkS u.name), .int .i64 u.params, .int .i64 u.slots, .int .i64 u.stack, .bool true, .slice u.ia u.ins.length u.ic, .slice u.va u.vars.length u.vc] fun g2 => ?_
  refine RP [] (.d .a) 5 (.k (.k .z)) .a 62 [.int .i64 x.fst, .int .i64 x.snd] fun g3 => ?_
  refine RR [] .z (.i 6 (.bool false) .a) .a ?_
  refine RZ (NT (SQ (SQ (RG ?_))))
  refine RR [2] (.d (.d .a)) (.i 8 (.int .i64 x.fst) .a) .a ?_
  refine RC (dst := some 9) [] .a (rname_spec x.1) ?_
  rintro v _ ⟨rfl, rfl⟩
  refine RZ (NT (BK (SQ (RG ?_))))
  refine RR [] .z (.i 10 (.bool (decide (opName x.fst = []))) (.k (.d (.k .a)))) .a ?_
  refine RZ (NT ?_)
  refine SC 10 (decide (opName x.fst = [])) false (decide_eq_false (by omega)) ?_
  refine CF (SQ (SQ (RG ?_)))
  refine RR [] .z (.i 12 (.bool (decide (opName x.fst = [(109 : UInt8), (97 : UInt8), (114 : UInt8), (107 : UInt8)]))) (.d (.d (.k .a)))) .a ?_
  refine RZ (NT ?_)
  refine SC 12 (decide (opName x.fst = [(109 : UInt8), (97 : UInt8), (114 : UInt8), (107 : UInt8)])) false (decide_eq_false (by omega)) ?_
  refine CF (RG ?_)
  refine RR [] .z (.i 12 (.bool (decide (opName x.fst = [(105 : UInt8), (110 : UInt8), (116 : UInt8)]))) (.d (.d (.k .a)))) .a ?_
  refine RZ (NT ?_)
  refine SC 12 (decide (opName x.fst = [(105 : UInt8), (110 : UInt8), (116 : UInt8)])) false (decide_eq_false (by omega)) ?_
  refine CF (SQ (RG ?_))
  refine RR [] .z (.i 15 (.bool (decide (opName x.fst = [(98 : UInt8), (111 : UInt8), (111 : UInt8), (108 : UInt8)]))) (.d (.d (.k .a)))) .a ?_
  refine RZ (NT ?_)
  refine SC 15 (decide (opName x.fst = [(98 : UInt8), (111 : UInt8), (111 : UInt8), (108 : UInt8)])) false (decide_eq_false (by omega)) ?_
  refine CF (SQ (SQ (RG ?_)))
  refine RR [] .z (.i 20 (.bool (decide (opName x.fst = [(115 : UInt8), (116 : UInt8), (114 : UInt8)]))) (.d (.d (.k .a)))) .a ?_
  refine RZ (NT ?_)
  refine SC 20 (decide (opName x.fst = [(115 : UInt8), (116 : UInt8), (114 : UInt8)])) false (decide_eq_false (by omega)) ?_
  refine CF (SQ (RG ?_))
  refine RR [] .z (.i 20 (.bool (decide (opName x.fst = [(102 : UInt8), (105 : UInt8), (101 : UInt8), (108 : UInt8), (100 : UInt8)]))) (.d (.d (.k .a)))) .a ?_
  refine RZ (NT ?_)
  refine SC 20 (decide (opName x.fst = [(102 : UInt8), (105 : UInt8), (101 : UInt8), (108 : UInt8), (100 : UInt8)])) false (decide_eq_false (by omega)) ?_
  refine CF (RG ?_)
  refine RR [] .z (.i 20 (.bool (decide (opName x.fst = [(115 : UInt8), (101 : UInt8), (116 : UInt8), (102 : UInt8), (105 : UInt8), (101 : UInt8), (108 : UInt8), (100 : UInt8)]))) (.d (.d (.k .a)))) .a ?_
  refine RZ (NT ?_)
  refine SC 20 (decide (opName x.fst = [(115 : UInt8), (101 : UInt8), (116 : UInt8), (102 : UInt8), (105 : UInt8), (101 : UInt8), (108 : UInt8), (100 : UInt8)])) false (decide_eq_false (by omega)) ?_
  refine CF (SQ (SQ (RG ?_)))
  refine RR [] .z (.i 30 (.bool (decide (opName x.fst = [(108 : UInt8), (111 : UInt8), (97 : UInt8), (100 : UInt8)]))) (.d (.d (.k .a)))) .a ?_
  refine RZ (NT ?_)
  refine SC 30 (decide (opName x.fst = [(108 : UInt8), (111 : UInt8), (97 : UInt8), (100 : UInt8)])) false (decide_eq_false (by omega)) ?_
  refine CF (RG ?_)
  refine RR [] .z (.i 30 (.bool (decide (opName x.fst = [(115 : UInt8), (116 : UInt8), (111 : UInt8), (114 : UInt8), (101 : UInt8)]))) (.d (.d (.k .a)))) .a ?_
  refine RZ (NT ?_)
  refine SC 30 (decide (opName x.fst = [(115 : UInt8), (116 : UInt8), (111 : UInt8), (114 : UInt8), (101 : UInt8)])) false (decide_eq_false (by omega)) ?_
  refine CF (SQ (SQ (RG ?_)))
  refine RR [] .z (.i 38 (.bool (decide (opName x.fst = [(106 : UInt8), (117 : UInt8), (109 : UInt8), (112 : UInt8)]))) (.d (.d (.k .a)))) .a ?_
  refine RZ (NT ?_)
  refine SC 38 (decide (opName x.fst = [(106 : UInt8), (117 : UInt8), (109 : UInt8), (112 : UInt8)])) false (decide_eq_false (by omega)) ?_
  refine CF (RG ?_)
  refine RR [] .z (.i 38 (.bool (decide (opName x.fst = [(117 : UInt8), (110 : UInt8), (108 : UInt8), (101 : UInt8), (115 : UInt8), (115 : UInt8)]))) (.d (.d (.k .a)))) .a ?_
  refine RZ (NT ?_)
  refine SC 38 (decide (opName x.fst = [(117 : UInt8), (110 : UInt8), (108 : UInt8), (101 : UInt8), (115 : UInt8), (115 : UInt8)])) false (decide_eq_false (by omega)) ?_
  refine CF (SQ (RG ?_))
  refine RR [] .z (.i 47 (.bool (decide (opName x.fst = [(99 : UInt8), (97 : UInt8), (108 : UInt8), (108 : UInt8)]))) (.d (.d (.k .a)))) .a ?_
  refine RZ (NT ?_)
  refine SC 47 (decide (opName x.fst = [(99 : UInt8), (97 : UInt8), (108 : UInt8), (108 : UInt8)])) false (decide_eq_false (by omega)) ?_
  refine CF (SQ (RG ?_))
  refine RR [] .z (.i 55 (.bool (decide (opName x.fst = [(110 : UInt8), (101 : UInt8), (119 : UInt8)]))) (.d (.d (.k .a)))) .a ?_
  refine RZ (NT ?_)
  refine SC 55 (decide (opName x.fst = [(110 : UInt8), (101 : UInt8), (119 : UInt8)])) false (decide_eq_false (by omega)) ?_
  refine CF (SQ (RG ?_))
  refine RR [] .z (.i 63 (.bool (decide (opName x.fst = [(114 : UInt8), (101 : UInt8), (116 : UInt8), (117 : UInt8), (114 : UInt8), (110 : UInt8)]))) (.d (.d (.k (.k (.k (.k .z))))))) .a ?_
  refine RZ (NT ?_)
  refine SC 63 (decide (opName x.fst = [(114 : UInt8), (101 : UInt8), (116 : UInt8), (117 : UInt8), (114 : UInt8), (110 : UInt8)])) true (decide_eq_true (by omega)) ?_
  refine CT (SQ (RG ?_))
  refine RR [1, 2] (.d (.d (.d (.d (.d (.d (.d (.d .a)))))))) (.i 72 (.bool (x.snd == (1 : Int))) (.d (.d (.d (.k .a))))) .a ?_
  refine SR 72 (x.snd == (1 : Int)) false (by simp only [bne_eq_false_iff_eq, beq_eq_false_iff_ne, ne_eq]; omega) ?_
  refine RR [1] .z (.d (.d (.k (.k .z)))) .a ?_
  refine RZ (NT (RE (BR (TR ?_))))
  refine NE [] .z .a [] (.bool false) ?_
  exact ⟨by simp [fitsB, k23, UnV.p, hr, oneI, h], rfl⟩
set_option maxHeartbeats 16000000 in
theorem rfits_ret_false (c : CoV) (u : UnV) (x : InP) (k23 : x.1 = 23) (hr : u.result = false) : Does Tryz.prog 147 [.agg (coC c).toArray, .agg (unC u).toArray, .agg (insC x).toArray] [] (fun v hp' => v = .bool (fitsB c.p u.p x) ∧ hp' = []) := by
 have kz : ¬ opName x.1 = [] := fun h => (op_none x.1).1 h (by omega)
 have n0 : ¬ opName x.1 = [109, 97, 114, 107] := fun h => by have := (op_mark x.1).1 h; omega
 have n1 : ¬ opName x.1 = [105, 110, 116] := fun h => by have := (op_int x.1).1 h; omega
 have n2 : ¬ opName x.1 = [98, 111, 111, 108] := fun h => by have := (op_bool x.1).1 h; omega
 have n3 : ¬ opName x.1 = [115, 116, 114] := fun h => by have := (op_str x.1).1 h; omega
 have n28 : ¬ opName x.1 = [102, 105, 101, 108, 100] := fun h => by have := (op_field x.1).1 h; omega
 have n29 : ¬ opName x.1 = [115, 101, 116, 102, 105, 101, 108, 100] := fun h => by have := (op_setfield x.1).1 h; omega
 have n4 : ¬ opName x.1 = [108, 111, 97, 100] := fun h => by have := (op_load x.1).1 h; omega
 have n5 : ¬ opName x.1 = [115, 116, 111, 114, 101] := fun h => by have := (op_store x.1).1 h; omega
 have n20 : ¬ opName x.1 = [106, 117, 109, 112] := fun h => by have := (op_jump x.1).1 h; omega
 have n21 : ¬ opName x.1 = [117, 110, 108, 101, 115, 115] := fun h => by have := (op_unless x.1).1 h; omega
 have n22 : ¬ opName x.1 = [99, 97, 108, 108] := fun h => by have := (op_call x.1).1 h; omega
 have n25 : ¬ opName x.1 = [110, 101, 119] := fun h => by have := (op_new x.1).1 h; omega
 have n23 : opName x.1 = [114, 101, 116, 117, 114, 110] := (op_return x.1).2 k23
 by_cases h : x.2 = 0
 ·unfold coC unC insC
  rw [hr]
  refine fn_enter Tryz.func147 rfl 96 rfl fun w0 h0 => ?_
  refine SQ (RG ?_)
  refine RP [] (.d .a) 3 (.d (.k .a)) .a 26 [.slice c.sa c.strs.length c.sc, .slice c.ha c.shapes.length c.hc, .slice c.ua c.units.length c.uc, .int .i64 c.main] fun g1 => ?_
  refine RP [] (.d .a) 4 (.k (.d (.k .a))) .a 59 [.string (mkS u.name), .int .i64 u.params, .int .i64 u.slots, .int .i64 u.stack, .bool false, .slice u.ia u.ins.length u.ic, .slice u.va u.vars.length u.vc] fun g2 => ?_
  refine RP [] (.d .a) 5 (.k (.k .z)) .a 62 [.int .i64 x.fst, .int .i64 x.snd] fun g3 => ?_
  refine RR [] .z (.i 6 (.bool false) .a) .a ?_
  refine RZ (NT (SQ (SQ (RG ?_))))
  refine RR [2] (.d (.d .a)) (.i 8 (.int .i64 x.fst) .a) .a ?_
  refine RC (dst := some 9) [] .a (rname_spec x.1) ?_
  rintro v _ ⟨rfl, rfl⟩
  refine RZ (NT (BK (SQ (RG ?_))))
  refine RR [] .z (.i 10 (.bool (decide (opName x.fst = []))) (.k (.d (.k .a)))) .a ?_
  refine RZ (NT ?_)
  refine SC 10 (decide (opName x.fst = [])) false (decide_eq_false (by omega)) ?_
  refine CF (SQ (SQ (RG ?_)))
  refine RR [] .z (.i 12 (.bool (decide (opName x.fst = [(109 : UInt8), (97 : UInt8), (114 : UInt8), (107 : UInt8)]))) (.d (.d (.k .a)))) .a ?_
  refine RZ (NT ?_)
  refine SC 12 (decide (opName x.fst = [(109 : UInt8), (97 : UInt8), (114 : UInt8), (107 : UInt8)])) false (decide_eq_false (by omega)) ?_
  refine CF (RG ?_)
  refine RR [] .z (.i 12 (.bool (decide (opName x.fst = [(105 : UInt8), (110 : UInt8), (116 : UInt8)]))) (.d (.d (.k .a)))) .a ?_
  refine RZ (NT ?_)
  refine SC 12 (decide (opName x.fst = [(105 : UInt8), (110 : UInt8), (116 : UInt8)])) false (decide_eq_false (by omega)) ?_
  refine CF (SQ (RG ?_))
  refine RR [] .z (.i 15 (.bool (decide (opName x.fst = [(98 : UInt8), (111 : UInt8), (111 : UInt8), (108 : UInt8)]))) (.d (.d (.k .a)))) .a ?_
  refine RZ (NT ?_)
  refine SC 15 (decide (opName x.fst = [(98 : UInt8), (111 : UInt8), (111 : UInt8), (108 : UInt8)])) false (decide_eq_false (by omega)) ?_
  refine CF (SQ (SQ (RG ?_)))
  refine RR [] .z (.i 20 (.bool (decide (opName x.fst = [(115 : UInt8), (116 : UInt8), (114 : UInt8)]))) (.d (.d (.k .a)))) .a ?_
  refine RZ (NT ?_)
  refine SC 20 (decide (opName x.fst = [(115 : UInt8), (116 : UInt8), (114 : UInt8)])) false (decide_eq_false (by omega)) ?_
  refine CF (SQ (RG ?_))
  refine RR [] .z (.i 20 (.bool (decide (opName x.fst = [(102 : UInt8), (105 : UInt8), (101 : UInt8), (108 : UInt8), (100 : UInt8)]))) (.d (.d (.k .a)))) .a ?_
  refine RZ (NT ?_)
  refine SC 20 (decide (opName x.fst = [(102 : UInt8), (105 : UInt8), (101 : UInt8), (108 : UInt8), (100 : UInt8)])) false (decide_eq_false (by omega)) ?_
  refine CF (RG ?_)
  refine RR [] .z (.i 20 (.bool (decide (opName x.fst = [(115 : UInt8), (101 : UInt8), (116 : UInt8), (102 : UInt8), (105 : UInt8), (101 : UInt8), (108 : UInt8), (100 : UInt8)]))) (.d (.d (.k .a)))) .a ?_
  refine RZ (NT ?_)
  refine SC 20 (decide (opName x.fst = [(115 : UInt8), (101 : UInt8), (116 : UInt8), (102 : UInt8), (105 : UInt8), (101 : UInt8), (108 : UInt8), (100 : UInt8)])) false (decide_eq_false (by omega)) ?_
  refine CF (SQ (SQ (RG ?_)))
  refine RR [] .z (.i 30 (.bool (decide (opName x.fst = [(108 : UInt8), (111 : UInt8), (97 : UInt8), (100 : UInt8)]))) (.d (.d (.k .a)))) .a ?_
  refine RZ (NT ?_)
  refine SC 30 (decide (opName x.fst = [(108 : UInt8), (111 : UInt8), (97 : UInt8), (100 : UInt8)])) false (decide_eq_false (by omega)) ?_
  refine CF (RG ?_)
  refine RR [] .z (.i 30 (.bool (decide (opName x.fst = [(115 : UInt8), (116 : UInt8), (111 : UInt8), (114 : UInt8), (101 : UInt8)]))) (.d (.d (.k .a)))) .a ?_
  refine RZ (NT ?_)
  refine SC 30 (decide (opName x.fst = [(115 : UInt8), (116 : UInt8), (111 : UInt8), (114 : UInt8), (101 : UInt8)])) false (decide_eq_false (by omega)) ?_
  refine CF (SQ (SQ (RG ?_)))
  refine RR [] .z (.i 38 (.bool (decide (opName x.fst = [(106 : UInt8), (117 : UInt8), (109 : UInt8), (112 : UInt8)]))) (.d (.d (.k .a)))) .a ?_
  refine RZ (NT ?_)
  refine SC 38 (decide (opName x.fst = [(106 : UInt8), (117 : UInt8), (109 : UInt8), (112 : UInt8)])) false (decide_eq_false (by omega)) ?_
  refine CF (RG ?_)
  refine RR [] .z (.i 38 (.bool (decide (opName x.fst = [(117 : UInt8), (110 : UInt8), (108 : UInt8), (101 : UInt8), (115 : UInt8), (115 : UInt8)]))) (.d (.d (.k .a)))) .a ?_
  refine RZ (NT ?_)
  refine SC 38 (decide (opName x.fst = [(117 : UInt8), (110 : UInt8), (108 : UInt8), (101 : UInt8), (115 : UInt8), (115 : UInt8)])) false (decide_eq_false (by omega)) ?_
  refine CF (SQ (RG ?_))
  refine RR [] .z (.i 47 (.bool (decide (opName x.fst = [(99 : UInt8), (97 : UInt8), (108 : UInt8), (108 : UInt8)]))) (.d (.d (.k .a)))) .a ?_
  refine RZ (NT ?_)
  refine SC 47 (decide (opName x.fst = [(99 : UInt8), (97 : UInt8), (108 : UInt8), (108 : UInt8)])) false (decide_eq_false (by omega)) ?_
  refine CF (SQ (RG ?_))
  refine RR [] .z (.i 55 (.bool (decide (opName x.fst = [(110 : UInt8), (101 : UInt8), (119 : UInt8)]))) (.d (.d (.k .a)))) .a ?_
  refine RZ (NT ?_)
  refine SC 55 (decide (opName x.fst = [(110 : UInt8), (101 : UInt8), (119 : UInt8)])) false (decide_eq_false (by omega)) ?_
  refine CF (SQ (RG ?_))
  refine RR [] .z (.i 63 (.bool (decide (opName x.fst = [(114 : UInt8), (101 : UInt8), (116 : UInt8), (117 : UInt8), (114 : UInt8), (110 : UInt8)]))) (.d (.d (.k (.k (.k (.k .z))))))) .a ?_
  refine RZ (NT ?_)
  refine SC 63 (decide (opName x.fst = [(114 : UInt8), (101 : UInt8), (116 : UInt8), (117 : UInt8), (114 : UInt8), (110 : UInt8)])) true (decide_eq_true (by omega)) ?_
  refine CT (SQ (RG ?_))
  refine RR [1, 1, 2] .z (.i 6 (.bool (x.snd == (0 : Int))) (.d (.d (.d (.d (.k .z)))))) .a ?_
  refine RZ (NT (RE (BR (TR ?_))))
  refine NE [] .z .a [] (.bool (x.snd == 0)) ?_
  exact ⟨by simp [fitsB, k23, UnV.p, hr, oneI, h], rfl⟩
 ·unfold coC unC insC
  rw [hr]
  refine fn_enter Tryz.func147 rfl 96 rfl fun w0 h0 => ?_
  refine SQ (RG ?_)
  refine RP [] (.d .a) 3 (.d (.k .a)) .a 26 [.slice c.sa c.strs.length c.sc, .slice c.ha c.shapes.length c.hc, .slice c.ua c.units.length c.uc, .int .i64 c.main] fun g1 => ?_
  refine RP [] (.d .a) 4 (.k (.d (.k .a))) .a 59 [.string (mkS u.name), .int .i64 u.params, .int .i64 u.slots, .int .i64 u.stack, .bool false, .slice u.ia u.ins.length u.ic, .slice u.va u.vars.length u.vc] fun g2 => ?_
  refine RP [] (.d .a) 5 (.k (.k .z)) .a 62 [.int .i64 x.fst, .int .i64 x.snd] fun g3 => ?_
  refine RR [] .z (.i 6 (.bool false) .a) .a ?_
  refine RZ (NT (SQ (SQ (RG ?_))))
  refine RR [2] (.d (.d .a)) (.i 8 (.int .i64 x.fst) .a) .a ?_
  refine RC (dst := some 9) [] .a (rname_spec x.1) ?_
  rintro v _ ⟨rfl, rfl⟩
  refine RZ (NT (BK (SQ (RG ?_))))
  refine RR [] .z (.i 10 (.bool (decide (opName x.fst = []))) (.k (.d (.k .a)))) .a ?_
  refine RZ (NT ?_)
  refine SC 10 (decide (opName x.fst = [])) false (decide_eq_false (by omega)) ?_
  refine CF (SQ (SQ (RG ?_)))
  refine RR [] .z (.i 12 (.bool (decide (opName x.fst = [(109 : UInt8), (97 : UInt8), (114 : UInt8), (107 : UInt8)]))) (.d (.d (.k .a)))) .a ?_
  refine RZ (NT ?_)
  refine SC 12 (decide (opName x.fst = [(109 : UInt8), (97 : UInt8), (114 : UInt8), (107 : UInt8)])) false (decide_eq_false (by omega)) ?_
  refine CF (RG ?_)
  refine RR [] .z (.i 12 (.bool (decide (opName x.fst = [(105 : UInt8), (110 : UInt8), (116 : UInt8)]))) (.d (.d (.k .a)))) .a ?_
  refine RZ (NT ?_)
  refine SC 12 (decide (opName x.fst = [(105 : UInt8), (110 : UInt8), (116 : UInt8)])) false (decide_eq_false (by omega)) ?_
  refine CF (SQ (RG ?_))
  refine RR [] .z (.i 15 (.bool (decide (opName x.fst = [(98 : UInt8), (111 : UInt8), (111 : UInt8), (108 : UInt8)]))) (.d (.d (.k .a)))) .a ?_
  refine RZ (NT ?_)
  refine SC 15 (decide (opName x.fst = [(98 : UInt8), (111 : UInt8), (111 : UInt8), (108 : UInt8)])) false (decide_eq_false (by omega)) ?_
  refine CF (SQ (SQ (RG ?_)))
  refine RR [] .z (.i 20 (.bool (decide (opName x.fst = [(115 : UInt8), (116 : UInt8), (114 : UInt8)]))) (.d (.d (.k .a)))) .a ?_
  refine RZ (NT ?_)
  refine SC 20 (decide (opName x.fst = [(115 : UInt8), (116 : UInt8), (114 : UInt8)])) false (decide_eq_false (by omega)) ?_
  refine CF (SQ (RG ?_))
  refine RR [] .z (.i 20 (.bool (decide (opName x.fst = [(102 : UInt8), (105 : UInt8), (101 : UInt8), (108 : UInt8), (100 : UInt8)]))) (.d (.d (.k .a)))) .a ?_
  refine RZ (NT ?_)
  refine SC 20 (decide (opName x.fst = [(102 : UInt8), (105 : UInt8), (101 : UInt8), (108 : UInt8), (100 : UInt8)])) false (decide_eq_false (by omega)) ?_
  refine CF (RG ?_)
  refine RR [] .z (.i 20 (.bool (decide (opName x.fst = [(115 : UInt8), (101 : UInt8), (116 : UInt8), (102 : UInt8), (105 : UInt8), (101 : UInt8), (108 : UInt8), (100 : UInt8)]))) (.d (.d (.k .a)))) .a ?_
  refine RZ (NT ?_)
  refine SC 20 (decide (opName x.fst = [(115 : UInt8), (101 : UInt8), (116 : UInt8), (102 : UInt8), (105 : UInt8), (101 : UInt8), (108 : UInt8), (100 : UInt8)])) false (decide_eq_false (by omega)) ?_
  refine CF (SQ (SQ (RG ?_)))
  refine RR [] .z (.i 30 (.bool (decide (opName x.fst = [(108 : UInt8), (111 : UInt8), (97 : UInt8), (100 : UInt8)]))) (.d (.d (.k .a)))) .a ?_
  refine RZ (NT ?_)
  refine SC 30 (decide (opName x.fst = [(108 : UInt8), (111 : UInt8), (97 : UInt8), (100 : UInt8)])) false (decide_eq_false (by omega)) ?_
  refine CF (RG ?_)
  refine RR [] .z (.i 30 (.bool (decide (opName x.fst = [(115 : UInt8), (116 : UInt8), (111 : UInt8), (114 : UInt8), (101 : UInt8)]))) (.d (.d (.k .a)))) .a ?_
  refine RZ (NT ?_)
  refine SC 30 (decide (opName x.fst = [(115 : UInt8), (116 : UInt8), (111 : UInt8), (114 : UInt8), (101 : UInt8)])) false (decide_eq_false (by omega)) ?_
  refine CF (SQ (SQ (RG ?_)))
  refine RR [] .z (.i 38 (.bool (decide (opName x.fst = [(106 : UInt8), (117 : UInt8), (109 : UInt8), (112 : UInt8)]))) (.d (.d (.k .a)))) .a ?_
  refine RZ (NT ?_)
  refine SC 38 (decide (opName x.fst = [(106 : UInt8), (117 : UInt8), (109 : UInt8), (112 : UInt8)])) false (decide_eq_false (by omega)) ?_
  refine CF (RG ?_)
  refine RR [] .z (.i 38 (.bool (decide (opName x.fst = [(117 : UInt8), (110 : UInt8), (108 : UInt8), (101 : UInt8), (115 : UInt8), (115 : UInt8)]))) (.d (.d (.k .a)))) .a ?_
  refine RZ (NT ?_)
  refine SC 38 (decide (opName x.fst = [(117 : UInt8), (110 : UInt8), (108 : UInt8), (101 : UInt8), (115 : UInt8), (115 : UInt8)])) false (decide_eq_false (by omega)) ?_
  refine CF (SQ (RG ?_))
  refine RR [] .z (.i 47 (.bool (decide (opName x.fst = [(99 : UInt8), (97 : UInt8), (108 : UInt8), (108 : UInt8)]))) (.d (.d (.k .a)))) .a ?_
  refine RZ (NT ?_)
  refine SC 47 (decide (opName x.fst = [(99 : UInt8), (97 : UInt8), (108 : UInt8), (108 : UInt8)])) false (decide_eq_false (by omega)) ?_
  refine CF (SQ (RG ?_))
  refine RR [] .z (.i 55 (.bool (decide (opName x.fst = [(110 : UInt8), (101 : UInt8), (119 : UInt8)]))) (.d (.d (.k .a)))) .a ?_
  refine RZ (NT ?_)
  refine SC 55 (decide (opName x.fst = [(110 : UInt8), (101 : UInt8), (119 : UInt8)])) false (decide_eq_false (by omega)) ?_
  refine CF (SQ (RG ?_))
  refine RR [] .z (.i 63 (.bool (decide (opName x.fst = [(114 : UInt8), (101 : UInt8), (116 : UInt8), (117 : UInt8), (114 : UInt8), (110 : UInt8)]))) (.d (.d (.k (.k (.k (.k .z))))))) .a ?_
  refine RZ (NT ?_)
  refine SC 63 (decide (opName x.fst = [(114 : UInt8), (101 : UInt8), (116 : UInt8), (117 : UInt8), (114 : UInt8), (110 : UInt8)])) true (decide_eq_true (by omega)) ?_
  refine CT (SQ (RG ?_))
  refine RR [1, 1, 2] .z (.i 6 (.bool (x.snd == (0 : Int))) (.d (.d (.d (.d (.k .z)))))) .a ?_
  refine RZ (NT (RE (BR (TR ?_))))
  refine NE [] .z .a [] (.bool (x.snd == 0)) ?_
  exact ⟨by simp [fitsB, k23, UnV.p, hr, oneI, h], rfl⟩
set_option maxHeartbeats 16000000 in
theorem rfits_not (c : CoV) (u : UnV) (x : InP) (k23n : ¬ x.1 = 23) : Does Tryz.prog 147 [.agg (coC c).toArray, .agg (unC u).toArray, .agg (insC x).toArray] [] (fun v hp' => v = .bool (fitsB c.p u.p x) ∧ hp' = []) := by
 obtain ⟨e1, e2, e3⟩ := coP_len c
 unfold coC unC insC
 refine fn_enter Tryz.func147 rfl 96 rfl fun w0 h0 => ?_
 refine SQ (RG ?_)
 refine RP [] (.d .a) 3 (.d (.k .a)) .a 26 [.slice c.sa c.strs.length c.sc, .slice c.ha c.shapes.length c.hc, .slice c.ua c.units.length c.uc, .int .i64 c.main] fun g1 => ?_
 refine RP [] (.d .a) 4 (.k (.d (.k .a))) .a 59 [.string (mkS u.name), .int .i64 u.params, .int .i64 u.slots, .int .i64 u.stack, .bool u.result, .slice u.ia u.ins.length u.ic, .slice u.va u.vars.length u.vc] fun g2 => ?_
 refine RP [] (.d .a) 5 (.k (.k .z)) .a 62 [.int .i64 x.fst, .int .i64 x.snd] fun g3 => ?_
 refine RR [] .z (.i 6 (.bool false) .a) .a ?_
 refine RZ (NT (SQ (SQ (RG ?_))))
 refine RR [2] (.d (.d .a)) (.i 8 (.int .i64 x.fst) .a) .a ?_
 refine RC (dst := some 9) [] .a (rname_spec x.1) ?_
 rintro v _ ⟨rfl, rfl⟩
 refine RZ (NT (BK (SQ (RG ?_))))
 refine RR [] .z (.i 10 (.bool (decide (opName x.fst = []))) (.k (.d (.k .a)))) .a ?_
 refine RZ (NT ?_)
 by_cases kz : opName x.1 = []
 ·have kz' := (op_none x.1).1 kz
  refine SC 10 (decide (opName x.fst = [])) true (decide_eq_true (by omega)) ?_
  refine CT (SQ (RG ?_))
  refine RR [] .z (.d (.d (.d (.k (.k .z))))) .a ?_
  refine RZ (NT (RE (BR (TR ?_))))
  refine NE [] .z .a [] (.bool false) ?_
  have hz : ∀ k : Int, 0 ≤ k → k < 35 → x.1 ≠ k := fun k h0 h1 e => kz' (by omega)
  exact ⟨by
   unfold fitsB
   rw [if_neg (by omega), if_neg (by omega), if_neg (by omega), if_neg (by omega), if_neg (by omega), if_neg (by omega), if_neg (by omega), if_neg (by omega), if_neg (by omega)]
   congr 1
   simp only [Bool.false_eq, Bool.and_eq_false_iff, decide_eq_false_iff_not]
   omega, rfl⟩
 refine SC 10 (decide (opName x.fst = [])) false (decide_eq_false (by omega)) ?_
 refine CF (SQ (SQ (RG ?_)))
 refine RR [] .z (.i 12 (.bool (decide (opName x.fst = [(109 : UInt8), (97 : UInt8), (114 : UInt8), (107 : UInt8)]))) (.d (.d (.k .a)))) .a ?_
 refine RZ (NT ?_)
 by_cases n0 : opName x.1 = [109, 97, 114, 107]
 ·have k0 := (op_mark x.1).1 n0
  refine SC 12 (decide (opName x.fst = [(109 : UInt8), (97 : UInt8), (114 : UInt8), (107 : UInt8)])) true (decide_eq_true (by omega)) ?_
  refine CT (SK (NT (CT (SQ (RG ?_)))))
  refine RR [] .z (.i 6 (.bool true) (.d (.d (.d (.d (.k .z)))))) .a ?_
  refine RZ (NT (RE (BR (TR ?_))))
  refine NE [] .z .a [] (.bool true) ?_
  exact ⟨by simp [fitsB, k0], rfl⟩
 have k0 : ¬ x.1 = 0 := fun h => n0 ((op_mark x.1).2 h)
 refine SC 12 (decide (opName x.fst = [(109 : UInt8), (97 : UInt8), (114 : UInt8), (107 : UInt8)])) false (decide_eq_false (by omega)) ?_
 refine CF (RG ?_)
 refine RR [] .z (.i 12 (.bool (decide (opName x.fst = [(105 : UInt8), (110 : UInt8), (116 : UInt8)]))) (.d (.d (.k .a)))) .a ?_
 refine RZ (NT ?_)
 by_cases n1 : opName x.1 = [105, 110, 116]
 ·have k1 := (op_int x.1).1 n1
  refine SC 12 (decide (opName x.fst = [(105 : UInt8), (110 : UInt8), (116 : UInt8)])) true (decide_eq_true (by omega)) ?_
  refine CT (SQ (RG ?_))
  refine RR [] .z (.i 6 (.bool true) (.d (.d (.d (.d (.k .z)))))) .a ?_
  refine RZ (NT (RE (BR (TR ?_))))
  refine NE [] .z .a [] (.bool true) ?_
  exact ⟨by simp [fitsB, k1], rfl⟩
 have k1 : ¬ x.1 = 1 := fun h => n1 ((op_int x.1).2 h)
 refine SC 12 (decide (opName x.fst = [(105 : UInt8), (110 : UInt8), (116 : UInt8)])) false (decide_eq_false (by omega)) ?_
 refine CF (SQ (RG ?_))
 refine RR [] .z (.i 15 (.bool (decide (opName x.fst = [(98 : UInt8), (111 : UInt8), (111 : UInt8), (108 : UInt8)]))) (.d (.d (.k .a)))) .a ?_
 refine RZ (NT ?_)
 by_cases n2 : opName x.1 = [98, 111, 111, 108]
 ·have k2 := (op_bool x.1).1 n2
  refine SC 15 (decide (opName x.fst = [(98 : UInt8), (111 : UInt8), (111 : UInt8), (108 : UInt8)])) true (decide_eq_true (by omega)) ?_
  refine CT (SQ (RG ?_))
  refine RR [2] (.d (.d .a)) (.i 18 (.int .i64 x.snd) (.d (.d (.d (.k (.k .z)))))) .a ?_
  refine RC (dst := some 19) [] .a (rupto_spec x.2 2) ?_
  rintro v _ ⟨rfl, rfl⟩
  refine RR [] .z (.i 6 (.bool (uptoB x.snd (2 : Int))) (.d (.d (.d (.k .a))))) .a ?_
  refine RZ (NT (RE (BR (TR ?_))))
  refine NE [] .z .a [] (.bool (uptoB x.snd 2)) ?_
  exact ⟨by simp [fitsB, k2, e1, e2, e3, UnV.p], rfl⟩
 have k2 : ¬ x.1 = 2 := fun h => n2 ((op_bool x.1).2 h)
 refine SC 15 (decide (opName x.fst = [(98 : UInt8), (111 : UInt8), (111 : UInt8), (108 : UInt8)])) false (decide_eq_false (by omega)) ?_
 refine CF (SQ (SQ (RG ?_)))
 refine RR [] .z (.i 20 (.bool (decide (opName x.fst = [(115 : UInt8), (116 : UInt8), (114 : UInt8)]))) (.d (.d (.k .a)))) .a ?_
 refine RZ (NT ?_)
 by_cases n3 : opName x.1 = [115, 116, 114]
 ·have k3 := (op_str x.1).1 n3
  refine SC 20 (decide (opName x.fst = [(115 : UInt8), (116 : UInt8), (114 : UInt8)])) true (decide_eq_true (by omega)) ?_
  refine CT (SK (NT (CT (SQ (RG ?_)))))
  refine RR [2, 0] (.d (.d (.d (.d (.d .a))))) (.i 28 (.int .i64 (↑c.strs.length : Int)) (.i 25 (.int .i64 x.snd) (.d (.d (.d (.k (.k .z))))))) .a ?_
  refine RC (dst := some 29) [] .a (rupto_spec x.2 c.strs.length) ?_
  rintro v _ ⟨rfl, rfl⟩
  refine RR [] .z (.i 6 (.bool (uptoB x.snd (↑c.strs.length : Int))) (.d (.d (.d (.d (.k .a)))))) .a ?_
  refine RZ (NT (RE (BR (TR ?_))))
  refine NE [] .z .a [] (.bool (uptoB x.snd (↑c.strs.length : Int))) ?_
  exact ⟨by simp [fitsB, k3, e1, e2, e3, UnV.p], rfl⟩
 have k3 : ¬ x.1 = 3 := fun h => n3 ((op_str x.1).2 h)
 refine SC 20 (decide (opName x.fst = [(115 : UInt8), (116 : UInt8), (114 : UInt8)])) false (decide_eq_false (by omega)) ?_
 refine CF (SQ (RG ?_))
 refine RR [] .z (.i 20 (.bool (decide (opName x.fst = [(102 : UInt8), (105 : UInt8), (101 : UInt8), (108 : UInt8), (100 : UInt8)]))) (.d (.d (.k .a)))) .a ?_
 refine RZ (NT ?_)
 by_cases n28 : opName x.1 = [102, 105, 101, 108, 100]
 ·have k28 := (op_field x.1).1 n28
  refine SC 20 (decide (opName x.fst = [(102 : UInt8), (105 : UInt8), (101 : UInt8), (108 : UInt8), (100 : UInt8)])) true (decide_eq_true (by omega)) ?_
  refine CT (SK (NT (CT (SQ (RG ?_)))))
  refine RR [2, 0] (.d (.d (.d (.d (.d .a))))) (.i 28 (.int .i64 (↑c.strs.length : Int)) (.i 25 (.int .i64 x.snd) (.d (.d (.d (.k (.k .z))))))) .a ?_
  refine RC (dst := some 29) [] .a (rupto_spec x.2 c.strs.length) ?_
  rintro v _ ⟨rfl, rfl⟩
  refine RR [] .z (.i 6 (.bool (uptoB x.snd (↑c.strs.length : Int))) (.d (.d (.d (.d (.k .a)))))) .a ?_
  refine RZ (NT (RE (BR (TR ?_))))
  refine NE [] .z .a [] (.bool (uptoB x.snd (↑c.strs.length : Int))) ?_
  exact ⟨by simp [fitsB, k28, e1, e2, e3, UnV.p], rfl⟩
 have k28 : ¬ x.1 = 28 := fun h => n28 ((op_field x.1).2 h)
 refine SC 20 (decide (opName x.fst = [(102 : UInt8), (105 : UInt8), (101 : UInt8), (108 : UInt8), (100 : UInt8)])) false (decide_eq_false (by omega)) ?_
 refine CF (RG ?_)
 refine RR [] .z (.i 20 (.bool (decide (opName x.fst = [(115 : UInt8), (101 : UInt8), (116 : UInt8), (102 : UInt8), (105 : UInt8), (101 : UInt8), (108 : UInt8), (100 : UInt8)]))) (.d (.d (.k .a)))) .a ?_
 refine RZ (NT ?_)
 by_cases n29 : opName x.1 = [115, 101, 116, 102, 105, 101, 108, 100]
 ·have k29 := (op_setfield x.1).1 n29
  refine SC 20 (decide (opName x.fst = [(115 : UInt8), (101 : UInt8), (116 : UInt8), (102 : UInt8), (105 : UInt8), (101 : UInt8), (108 : UInt8), (100 : UInt8)])) true (decide_eq_true (by omega)) ?_
  refine CT (SQ (RG ?_))
  refine RR [2, 0] (.d (.d (.d (.d (.d .a))))) (.i 28 (.int .i64 (↑c.strs.length : Int)) (.i 25 (.int .i64 x.snd) (.d (.d (.d (.k (.k .z))))))) .a ?_
  refine RC (dst := some 29) [] .a (rupto_spec x.2 c.strs.length) ?_
  rintro v _ ⟨rfl, rfl⟩
  refine RR [] .z (.i 6 (.bool (uptoB x.snd (↑c.strs.length : Int))) (.d (.d (.d (.d (.k .a)))))) .a ?_
  refine RZ (NT (RE (BR (TR ?_))))
  refine NE [] .z .a [] (.bool (uptoB x.snd (↑c.strs.length : Int))) ?_
  exact ⟨by simp [fitsB, k29, e1, e2, e3, UnV.p], rfl⟩
 have k29 : ¬ x.1 = 29 := fun h => n29 ((op_setfield x.1).2 h)
 refine SC 20 (decide (opName x.fst = [(115 : UInt8), (101 : UInt8), (116 : UInt8), (102 : UInt8), (105 : UInt8), (101 : UInt8), (108 : UInt8), (100 : UInt8)])) false (decide_eq_false (by omega)) ?_
 refine CF (SQ (SQ (RG ?_)))
 refine RR [] .z (.i 30 (.bool (decide (opName x.fst = [(108 : UInt8), (111 : UInt8), (97 : UInt8), (100 : UInt8)]))) (.d (.d (.k .a)))) .a ?_
 refine RZ (NT ?_)
 by_cases n4 : opName x.1 = [108, 111, 97, 100]
 ·have k4 := (op_load x.1).1 n4
  refine SC 30 (decide (opName x.fst = [(108 : UInt8), (111 : UInt8), (97 : UInt8), (100 : UInt8)])) true (decide_eq_true (by omega)) ?_
  refine CT (SK (NT (CT (SQ (RG ?_)))))
  refine RR [2, 1] (.d (.d (.d (.d .a)))) (.i 36 (.int .i64 u.slots) (.i 34 (.int .i64 x.snd) (.d (.d (.d (.k (.k .z))))))) .a ?_
  refine RC (dst := some 37) [] .a (rupto_spec x.2 u.slots) ?_
  rintro v _ ⟨rfl, rfl⟩
  refine RR [] .z (.i 6 (.bool (uptoB x.snd u.slots)) (.d (.d (.d (.d (.k .a)))))) .a ?_
  refine RZ (NT (RE (BR (TR ?_))))
  refine NE [] .z .a [] (.bool (uptoB x.snd u.slots)) ?_
  exact ⟨by simp [fitsB, k4, e1, e2, e3, UnV.p], rfl⟩
 have k4 : ¬ x.1 = 4 := fun h => n4 ((op_load x.1).2 h)
 refine SC 30 (decide (opName x.fst = [(108 : UInt8), (111 : UInt8), (97 : UInt8), (100 : UInt8)])) false (decide_eq_false (by omega)) ?_
 refine CF (RG ?_)
 refine RR [] .z (.i 30 (.bool (decide (opName x.fst = [(115 : UInt8), (116 : UInt8), (111 : UInt8), (114 : UInt8), (101 : UInt8)]))) (.d (.d (.k .a)))) .a ?_
 refine RZ (NT ?_)
 by_cases n5 : opName x.1 = [115, 116, 111, 114, 101]
 ·have k5 := (op_store x.1).1 n5
  refine SC 30 (decide (opName x.fst = [(115 : UInt8), (116 : UInt8), (111 : UInt8), (114 : UInt8), (101 : UInt8)])) true (decide_eq_true (by omega)) ?_
  refine CT (SQ (RG ?_))
  refine RR [2, 1] (.d (.d (.d (.d .a)))) (.i 36 (.int .i64 u.slots) (.i 34 (.int .i64 x.snd) (.d (.d (.d (.k (.k .z))))))) .a ?_
  refine RC (dst := some 37) [] .a (rupto_spec x.2 u.slots) ?_
  rintro v _ ⟨rfl, rfl⟩
  refine RR [] .z (.i 6 (.bool (uptoB x.snd u.slots)) (.d (.d (.d (.d (.k .a)))))) .a ?_
  refine RZ (NT (RE (BR (TR ?_))))
  refine NE [] .z .a [] (.bool (uptoB x.snd u.slots)) ?_
  exact ⟨by simp [fitsB, k5, e1, e2, e3, UnV.p], rfl⟩
 have k5 : ¬ x.1 = 5 := fun h => n5 ((op_store x.1).2 h)
 refine SC 30 (decide (opName x.fst = [(115 : UInt8), (116 : UInt8), (111 : UInt8), (114 : UInt8), (101 : UInt8)])) false (decide_eq_false (by omega)) ?_
 refine CF (SQ (SQ (RG ?_)))
 refine RR [] .z (.i 38 (.bool (decide (opName x.fst = [(106 : UInt8), (117 : UInt8), (109 : UInt8), (112 : UInt8)]))) (.d (.d (.k .a)))) .a ?_
 refine RZ (NT ?_)
 by_cases n20 : opName x.1 = [106, 117, 109, 112]
 ·have k20 := (op_jump x.1).1 n20
  refine SC 38 (decide (opName x.fst = [(106 : UInt8), (117 : UInt8), (109 : UInt8), (112 : UInt8)])) true (decide_eq_true (by omega)) ?_
  refine CT (SK (NT (CT (SQ (RG ?_)))))
  refine RR [2, 1] (.d (.d (.d (.d (.d .a))))) (.i 45 (.int .i64 (↑u.ins.length : Int)) (.i 42 (.int .i64 x.snd) (.d (.d (.d (.k (.k .z))))))) .a ?_
  refine RC (dst := some 46) [] .a (rupto_spec x.2 u.ins.length) ?_
  rintro v _ ⟨rfl, rfl⟩
  refine RR [] .z (.i 6 (.bool (uptoB x.snd (↑u.ins.length : Int))) (.d (.d (.d (.d (.k .a)))))) .a ?_
  refine RZ (NT (RE (BR (TR ?_))))
  refine NE [] .z .a [] (.bool (uptoB x.snd (↑u.ins.length : Int))) ?_
  exact ⟨by simp [fitsB, k20, e1, e2, e3, UnV.p], rfl⟩
 have k20 : ¬ x.1 = 20 := fun h => n20 ((op_jump x.1).2 h)
 refine SC 38 (decide (opName x.fst = [(106 : UInt8), (117 : UInt8), (109 : UInt8), (112 : UInt8)])) false (decide_eq_false (by omega)) ?_
 refine CF (RG ?_)
 refine RR [] .z (.i 38 (.bool (decide (opName x.fst = [(117 : UInt8), (110 : UInt8), (108 : UInt8), (101 : UInt8), (115 : UInt8), (115 : UInt8)]))) (.d (.d (.k .a)))) .a ?_
 refine RZ (NT ?_)
 by_cases n21 : opName x.1 = [117, 110, 108, 101, 115, 115]
 ·have k21 := (op_unless x.1).1 n21
  refine SC 38 (decide (opName x.fst = [(117 : UInt8), (110 : UInt8), (108 : UInt8), (101 : UInt8), (115 : UInt8), (115 : UInt8)])) true (decide_eq_true (by omega)) ?_
  refine CT (SQ (RG ?_))
  refine RR [2, 1] (.d (.d (.d (.d (.d .a))))) (.i 45 (.int .i64 (↑u.ins.length : Int)) (.i 42 (.int .i64 x.snd) (.d (.d (.d (.k (.k .z))))))) .a ?_
  refine RC (dst := some 46) [] .a (rupto_spec x.2 u.ins.length) ?_
  rintro v _ ⟨rfl, rfl⟩
  refine RR [] .z (.i 6 (.bool (uptoB x.snd (↑u.ins.length : Int))) (.d (.d (.d (.d (.k .a)))))) .a ?_
  refine RZ (NT (RE (BR (TR ?_))))
  refine NE [] .z .a [] (.bool (uptoB x.snd (↑u.ins.length : Int))) ?_
  exact ⟨by simp [fitsB, k21, e1, e2, e3, UnV.p], rfl⟩
 have k21 : ¬ x.1 = 21 := fun h => n21 ((op_unless x.1).2 h)
 refine SC 38 (decide (opName x.fst = [(117 : UInt8), (110 : UInt8), (108 : UInt8), (101 : UInt8), (115 : UInt8), (115 : UInt8)])) false (decide_eq_false (by omega)) ?_
 refine CF (SQ (RG ?_))
 refine RR [] .z (.i 47 (.bool (decide (opName x.fst = [(99 : UInt8), (97 : UInt8), (108 : UInt8), (108 : UInt8)]))) (.d (.d (.k .a)))) .a ?_
 refine RZ (NT ?_)
 by_cases n22 : opName x.1 = [99, 97, 108, 108]
 ·have k22 := (op_call x.1).1 n22
  refine SC 47 (decide (opName x.fst = [(99 : UInt8), (97 : UInt8), (108 : UInt8), (108 : UInt8)])) true (decide_eq_true (by omega)) ?_
  refine CT (SQ (RG ?_))
  refine RR [2, 0] (.d (.d (.d (.d (.d .a))))) (.i 53 (.int .i64 (↑c.units.length : Int)) (.i 50 (.int .i64 x.snd) (.d (.d (.d (.k (.k .z))))))) .a ?_
  refine RC (dst := some 54) [] .a (rupto_spec x.2 c.units.length) ?_
  rintro v _ ⟨rfl, rfl⟩
  refine RR [] .z (.i 6 (.bool (uptoB x.snd (↑c.units.length : Int))) (.d (.d (.d (.d (.k .a)))))) .a ?_
  refine RZ (NT (RE (BR (TR ?_))))
  refine NE [] .z .a [] (.bool (uptoB x.snd (↑c.units.length : Int))) ?_
  exact ⟨by simp [fitsB, k22, e1, e2, e3, UnV.p], rfl⟩
 have k22 : ¬ x.1 = 22 := fun h => n22 ((op_call x.1).2 h)
 refine SC 47 (decide (opName x.fst = [(99 : UInt8), (97 : UInt8), (108 : UInt8), (108 : UInt8)])) false (decide_eq_false (by omega)) ?_
 refine CF (SQ (RG ?_))
 refine RR [] .z (.i 55 (.bool (decide (opName x.fst = [(110 : UInt8), (101 : UInt8), (119 : UInt8)]))) (.d (.d (.k .a)))) .a ?_
 refine RZ (NT ?_)
 by_cases n25 : opName x.1 = [110, 101, 119]
 ·have k25 := (op_new x.1).1 n25
  refine SC 55 (decide (opName x.fst = [(110 : UInt8), (101 : UInt8), (119 : UInt8)])) true (decide_eq_true (by omega)) ?_
  refine CT (SQ (RG ?_))
  refine RR [2, 0] (.d (.d (.d (.d (.d .a))))) (.i 61 (.int .i64 (↑c.shapes.length : Int)) (.i 58 (.int .i64 x.snd) (.d (.d (.d (.k (.k .z))))))) .a ?_
  refine RC (dst := some 62) [] .a (rupto_spec x.2 c.shapes.length) ?_
  rintro v _ ⟨rfl, rfl⟩
  refine RR [] .z (.i 6 (.bool (uptoB x.snd (↑c.shapes.length : Int))) (.d (.d (.d (.d (.k .a)))))) .a ?_
  refine RZ (NT (RE (BR (TR ?_))))
  refine NE [] .z .a [] (.bool (uptoB x.snd (↑c.shapes.length : Int))) ?_
  exact ⟨by simp [fitsB, k25, e1, e2, e3, UnV.p], rfl⟩
 have k25 : ¬ x.1 = 25 := fun h => n25 ((op_new x.1).2 h)
 refine SC 55 (decide (opName x.fst = [(110 : UInt8), (101 : UInt8), (119 : UInt8)])) false (decide_eq_false (by omega)) ?_
 refine CF (SQ (RG ?_))
 refine RR [] .z (.i 63 (.bool (decide (opName x.fst = [(114 : UInt8), (101 : UInt8), (116 : UInt8), (117 : UInt8), (114 : UInt8), (110 : UInt8)]))) (.d (.d (.k (.k (.k (.k .z))))))) .a ?_
 refine RZ (NT ?_)
 by_cases n23 : opName x.1 = [114, 101, 116, 117, 114, 110]
 ·have k23 := (op_return x.1).1 n23
  exact absurd k23 k23n
 refine SC 63 (decide (opName x.fst = [(114 : UInt8), (101 : UInt8), (116 : UInt8), (117 : UInt8), (114 : UInt8), (110 : UInt8)])) false (decide_eq_false (by omega)) ?_
 refine CF (SQ (SQ (RG ?_)))
 refine RR [] .z (.i 82 (.bool (decide (opName x.fst = [(97 : UInt8), (114 : UInt8), (114 : UInt8), (97 : UInt8), (121 : UInt8)]))) (.d (.d (.k (.k (.k .z)))))) .a ?_
 refine RZ (NT ?_)
 by_cases n24 : opName x.1 = [97, 114, 114, 97, 121]
 ·have k24 := (op_array x.1).1 n24
  by_cases h : 1 ≤ x.2
  ·refine SC 82 (decide (opName x.fst = [(97 : UInt8), (114 : UInt8), (114 : UInt8), (97 : UInt8), (121 : UInt8)])) true (decide_eq_true (by omega)) ?_
   refine CT (SK (NT (CT (SQ (RG ?_)))))
   refine RR [2] (.d (.d (.d (.d .a)))) (.i 88 (.bool (decide (x.snd ≥ (1 : Int)))) (.d (.d (.d (.k .a))))) .a ?_
   refine SR 88 (decide (x.snd ≥ (1 : Int))) true (decide_eq_true (by omega)) ?_
   refine RR [2] .z (.i 6 (.bool (decide (x.snd ≤ (256 : Int)))) (.d (.d (.d (.k .a))))) .a ?_
   refine RZ (NT (RE (BR (TR ?_))))
   refine NE [] .z .a [] (.bool (decide (x.snd ≤ 256))) ?_
   exact ⟨by simp [fitsB, k24, h], rfl⟩
  ·refine SC 82 (decide (opName x.fst = [(97 : UInt8), (114 : UInt8), (114 : UInt8), (97 : UInt8), (121 : UInt8)])) true (decide_eq_true (by omega)) ?_
   refine CT (SK (NT (CT (SQ (RG ?_)))))
   refine RR [2] (.d (.d (.d (.d .a)))) (.i 88 (.bool (decide (x.snd ≥ (1 : Int)))) (.d (.d (.d (.k .a))))) .a ?_
   refine SR 88 (decide (x.snd ≥ (1 : Int))) false (decide_eq_false (by omega)) ?_
   refine RR [] .z (.d (.d (.k .a))) .a ?_
   refine RZ (NT (RE (BR (TR ?_))))
   refine NE [] .z .a [] (.bool false) ?_
   exact ⟨by simp [fitsB, k24, h], rfl⟩
 have k24 : ¬ x.1 = 24 := fun h => n24 ((op_array x.1).2 h)
 refine SC 82 (decide (opName x.fst = [(97 : UInt8), (114 : UInt8), (114 : UInt8), (97 : UInt8), (121 : UInt8)])) false (decide_eq_false (by omega)) ?_
 refine CF (RG ?_)
 refine RR [] .z (.i 82 (.bool (decide (opName x.fst = [(112 : UInt8), (114 : UInt8), (105 : UInt8), (110 : UInt8), (116 : UInt8)]))) (.d (.d (.d (.k .a))))) .a ?_
 refine RZ (NT ?_)
 by_cases n34 : opName x.1 = [112, 114, 105, 110, 116]
 ·have k34 := (op_print x.1).1 n34
  by_cases h : 1 ≤ x.2
  ·refine SC 82 (decide (opName x.fst = [(112 : UInt8), (114 : UInt8), (105 : UInt8), (110 : UInt8), (116 : UInt8)])) true (decide_eq_true (by omega)) ?_
   refine CT (SQ (RG ?_))
   refine RR [2] (.d (.d (.d (.d .a)))) (.i 88 (.bool (decide (x.snd ≥ (1 : Int)))) (.d (.d (.k .a)))) .a ?_
   refine SR 88 (decide (x.snd ≥ (1 : Int))) true (decide_eq_true (by omega)) ?_
   refine RR [2] .z (.i 6 (.bool (decide (x.snd ≤ (256 : Int)))) (.d (.d (.d (.k .a))))) .a ?_
   refine RZ (NT (RE (BR (TR ?_))))
   refine NE [] .z .a [] (.bool (decide (x.snd ≤ 256))) ?_
   exact ⟨by simp [fitsB, k34, h], rfl⟩
  ·refine SC 82 (decide (opName x.fst = [(112 : UInt8), (114 : UInt8), (105 : UInt8), (110 : UInt8), (116 : UInt8)])) true (decide_eq_true (by omega)) ?_
   refine CT (SQ (RG ?_))
   refine RR [2] (.d (.d (.d (.d .a)))) (.i 88 (.bool (decide (x.snd ≥ (1 : Int)))) (.d (.d (.k .a)))) .a ?_
   refine SR 88 (decide (x.snd ≥ (1 : Int))) false (decide_eq_false (by omega)) ?_
   refine RR [] .z (.d (.d (.k .a))) .a ?_
   refine RZ (NT (RE (BR (TR ?_))))
   refine NE [] .z .a [] (.bool false) ?_
   exact ⟨by simp [fitsB, k34, h], rfl⟩
 have k34 : ¬ x.1 = 34 := fun h => n34 ((op_print x.1).2 h)
 refine SC 82 (decide (opName x.fst = [(112 : UInt8), (114 : UInt8), (105 : UInt8), (110 : UInt8), (116 : UInt8)])) false (decide_eq_false (by omega)) ?_
 refine CF (SK (BN (NT (SQ (RG ?_)))))
 refine RR [2] .z (.i 6 (.bool (x.snd == (0 : Int))) .z) .a ?_
 refine RZ (NT (RE ?_))
 have hr := Decidable.not_not.1 (fun h => kz ((op_none x.1).2 h))
 refine NE [] .z .a [] (.bool (x.snd == 0)) ?_
 exact ⟨by
   unfold fitsB
   rw [if_neg (by omega), if_neg (by omega), if_neg (by omega), if_neg (by omega), if_neg (by omega), if_neg (by omega), if_neg (by omega), if_neg (by omega), if_neg (by omega)]
   rw [show decide (0 ≤ x.1) = true from decide_eq_true hr.1, show decide (x.1 ≤ 34) = true from decide_eq_true (by omega), Bool.and_true, Bool.and_true]
   rfl, rfl⟩
theorem rfits_spec (c : CoV) (u : UnV) (x : InP) : Does Tryz.prog 147 [.agg (coC c).toArray, .agg (unC u).toArray, .agg (insC x).toArray] [] (fun v hp' => v = .bool (fitsB c.p u.p x) ∧ hp' = []) := by
 by_cases k : x.1 = 23
 ·cases hr : u.result
  ·exact rfits_ret_false c u x k hr
  ·exact rfits_ret_true c u x k hr
 ·exact rfits_not c u x k
end Go.Proofs.YtgcfomhlgipllaaGreatDoor
namespace Go.Proofs.YtgcfomhlgipllaaGreatDoor
open Go Go.Sx
set_option maxHeartbeats 8000000 in
theorem rmoves22_spec (c : CoV) (hul : c.units.length ≤ 1048576) (j : Nat) (hj : j < c.units.length) :
  Does Tryz.prog 101 [.agg (coC c).toArray, .agg (insC (22, (j : Int))).toArray] [ro c.ua (c.units.flatMap unC), ro c.ha (c.shapes.flatMap shC)] (fun v hp' => v = .tuple #[.int .i64 (mvs c.p (22, (j : Int))).1, .int .i64 (mvs c.p (22, (j : Int))).2] ∧ hp' = []) := by
 rw [mvs22 hj]
 have n0 : ¬ opName (22 : Int) = [109, 97, 114, 107] := fun h => absurd ((op_mark (22 : Int)).1 h) (by decide)
 have n20 : ¬ opName (22 : Int) = [106, 117, 109, 112] := fun h => absurd ((op_jump (22 : Int)).1 h) (by decide)
 have n1 : ¬ opName (22 : Int) = [105, 110, 116] := fun h => absurd ((op_int (22 : Int)).1 h) (by decide)
 have n2 : ¬ opName (22 : Int) = [98, 111, 111, 108] := fun h => absurd ((op_bool (22 : Int)).1 h) (by decide)
 have n3 : ¬ opName (22 : Int) = [115, 116, 114] := fun h => absurd ((op_str (22 : Int)).1 h) (by decide)
 have n4 : ¬ opName (22 : Int) = [108, 111, 97, 100] := fun h => absurd ((op_load (22 : Int)).1 h) (by decide)
 have n33 : ¬ opName (22 : Int) = [105, 110, 112, 117, 116] := fun h => absurd ((op_input (22 : Int)).1 h) (by decide)
 have n5 : ¬ opName (22 : Int) = [115, 116, 111, 114, 101] := fun h => absurd ((op_store (22 : Int)).1 h) (by decide)
 have n6 : ¬ opName (22 : Int) = [112, 111, 112] := fun h => absurd ((op_pop (22 : Int)).1 h) (by decide)
 have n21 : ¬ opName (22 : Int) = [117, 110, 108, 101, 115, 115] := fun h => absurd ((op_unless (22 : Int)).1 h) (by decide)
 have n12 : ¬ opName (22 : Int) = [110, 101, 103] := fun h => absurd ((op_neg (22 : Int)).1 h) (by decide)
 have n13 : ¬ opName (22 : Int) = [110, 111, 116] := fun h => absurd ((op_not (22 : Int)).1 h) (by decide)
 have n28 : ¬ opName (22 : Int) = [102, 105, 101, 108, 100] := fun h => absurd ((op_field (22 : Int)).1 h) (by decide)
 have n30 : ¬ opName (22 : Int) = [108, 101, 110] := fun h => absurd ((op_len (22 : Int)).1 h) (by decide)
 have n31 : ¬ opName (22 : Int) = [115, 104, 111, 119] := fun h => absurd ((op_show (22 : Int)).1 h) (by decide)
 have n22 : opName (22 : Int) = [99, 97, 108, 108] := (op_call (22 : Int)).2 rfl
 unfold coC insC
 dsimp only
 refine fn_enter Tryz.func101 rfl 68 rfl fun w0 h0 => ?_
 refine SQ (RG ?_)
 refine RP [] (.d .a) 2 (.d (.k .a)) .a 26 [.slice c.sa c.strs.length c.sc, .slice c.ha c.shapes.length c.hc, .slice c.ua c.units.length c.uc, .int .i64 c.main] fun g1 => ?_
 refine RP [] (.d .a) 3 (.k .z) .a 62 [.int .i64 22, .int .i64 (↑j : Int)] fun g2 => ?_
 refine RR [] .z (.i 5 (.int .i64 0) (.i 4 (.int .i64 0) .a)) .a ?_
 refine RZ (NT (SQ (SQ (RG ?_))))
 refine RR [3] (.d (.d .a)) (.i 7 (.int .i64 22) .a) .a ?_
 refine RC (dst := some 8) [] .a (rname_spec 22) ?_
 rintro v _ ⟨rfl, rfl⟩
 refine RZ (NT (BK (SQ (SQ (RG ?_)))))
 refine RR [] .z (.i 9 (.bool false) (.k (.d (.k .a)))) .a ?_
 refine RZ (NT (CF (RG ?_)))
 refine RR [] .z .a .a ?_
 refine RZ (NT (CF (SQ (SQ (RG ?_)))))
 refine RR [] .z (.i 12 (.bool false) (.d (.k .a))) .a ?_
 refine RZ (NT (CF (SQ (RG ?_))))
 refine RR [] .z .a .a ?_
 refine RZ (NT (CF (SQ (RG ?_))))
 refine RR [] .z .a .a ?_
 refine RZ (NT (CF (SQ (RG ?_))))
 refine RR [] .z .a .a ?_
 refine RZ (NT (CF (RG ?_)))
 refine RR [] .z .a .a ?_
 refine RZ (NT (CF (SQ (SQ (RG ?_)))))
 refine RR [] .z (.i 18 (.bool false) (.d (.k .a))) .a ?_
 refine RZ (NT (CF (SQ (RG ?_))))
 refine RR [] .z .a .a ?_
 refine RZ (NT (CF (RG ?_)))
 refine RR [] .z .a .a ?_
 refine RZ (NT (CF (SQ (SQ (RG ?_)))))
 refine RR [] .z (.i 22 (.bool false) (.d (.k .a))) .a ?_
 refine RZ (NT (CF (SQ (RG ?_))))
 refine RR [] .z .a .a ?_
 refine RZ (NT (CF (SQ (RG ?_))))
 refine RR [] .z .a .a ?_
 refine RZ (NT (CF (SQ (RG ?_))))
 refine RR [] .z .a .a ?_
 refine RZ (NT (CF (RG ?_)))
 refine RR [] .z .a .a ?_
 refine RZ (NT (CF (SQ (RG ?_))))
 refine RR [] .z (.i 28 (.bool true) (.d (.k .a))) .a ?_
 refine RZ (NT (CT (SQ ?_)))
 refine wpc_fact (fun w h => ro_addr h 0 rfl (by rw [uns_len]; omega)) ?_
 rintro ⟨g9, o9, hua⟩
 rw [hua]
 refine wpc_draw (by kernel_rfl) [ro (some ⟨g9, o9, none⟩) (List.flatMap unC c.units), .blk g1 26 [.slice c.sa c.strs.length c.sc, .slice c.ha c.shapes.length c.hc, .slice (some ⟨g9, o9, none⟩) c.units.length c.uc, .int .i64 c.main], .blk g2 62 [.int .i64 22, .int .i64 (↑j : Int)]] (sub_of [0, 2, 3] (by kernel_rfl)) 17 (by kernel_rfl) ?_
 refine wpa_take true [(0, []), (1, [1]), (2, []), (3, [2]), (4, []), (5, []), (7, []), (8, [1]), (9, []), (10, [2]), (11, []), (12, [])] ([(42, .pointer (some ⟨g9, o9 + j * 7 + 4, none⟩)), (35, .pointer (some ⟨g9, o9 + j * 7 + 1, none⟩)), (5, .int .i64 0), (4, .int .i64 0)]) (#[true, true, true, true, true, true, false, true, true, true, true, true, true, false, false, false, false]) [(0 : Int) ≤ (↑j : Int) ∧ (↑j : Int) < (↑c.units.length : Int), (0 : Int) ≤ (↑j : Int) ∧ (↑j : Int) < (↑c.units.length : Int)] (n := 5) (by kernel_rfl) (by kernel_rfl) (by kernel_rfl) ⟨by omega, by omega, trivial⟩ ?_
 refine wpa_qld (i := 6) (n := 4) (by kernel_rfl) (by kernel_rfl) (by kernel_rfl) (t := 3) (a := ⟨g9, o9 + j * 7 + 1, none⟩) (dst := some 36) (by kernel_rfl) false 1 (by kernel_rfl) (by simp) [.int .i64 c.units[j].params] rfl (fun w h => ld_roL h 0 rfl (j * 7 + 1) (uns_fld hj 1 1 (by decide))) ?_
 refine wpa_qld (i := 13) (n := 3) (by kernel_rfl) (by kernel_rfl) (by kernel_rfl) (t := 4) (a := ⟨g9, o9 + j * 7 + 4, none⟩) (dst := some 43) (by kernel_rfl) false 1 (by kernel_rfl) (by simp) [.bool c.units[j].result] rfl (fun w h => ld_roL h 0 rfl (j * 7 + 4) (uns_fld hj 4 1 (by decide))) ?_
 refine AC (dst := some 44) 2 14 .a (rone_spec c.units[j].result) (GI []) [0, 2, 3] ?_
 rintro v _ ⟨rfl, rfl⟩
 refine TK 0 [(15, []), (16, [])] (.i 5 (.int .i64 (oneI c.units[j].result)) (.i 4 (.int .i64 c.units[j].params) .z)) (#[true, true, true, true, true, true, true, true, true, true, true, true, true, true, true, true, true]) ?_
 refine wpa_done 0 (by kernel_rfl) ?_
 refine NT (RE (BR (TR ?_)))
 refine NE [] .z .a [] (.tuple #[.int .i64 c.units[j].params, .int .i64 (oneI c.units[j].result)]) ?_
 exact ⟨rfl, rfl⟩
set_option maxHeartbeats 8000000 in
theorem rmoves25_spec (c : CoV) (hsl : c.shapes.length ≤ 1048576) (hfl : ∀ s ∈ c.shapes, s.fields.length ≤ 1048576) (j : Nat) (hj : j < c.shapes.length) :
  Does Tryz.prog 101 [.agg (coC c).toArray, .agg (insC (25, (j : Int))).toArray] [ro c.ua (c.units.flatMap unC), ro c.ha (c.shapes.flatMap shC)] (fun v hp' => v = .tuple #[.int .i64 (mvs c.p (25, (j : Int))).1, .int .i64 (mvs c.p (25, (j : Int))).2] ∧ hp' = []) := by
 have hf := hfl _ (List.getElem_mem hj)
 rw [mvs25 hj]
 have n0 : ¬ opName (25 : Int) = [109, 97, 114, 107] := fun h => absurd ((op_mark (25 : Int)).1 h) (by decide)
 have n20 : ¬ opName (25 : Int) = [106, 117, 109, 112] := fun h => absurd ((op_jump (25 : Int)).1 h) (by decide)
 have n1 : ¬ opName (25 : Int) = [105, 110, 116] := fun h => absurd ((op_int (25 : Int)).1 h) (by decide)
 have n2 : ¬ opName (25 : Int) = [98, 111, 111, 108] := fun h => absurd ((op_bool (25 : Int)).1 h) (by decide)
 have n3 : ¬ opName (25 : Int) = [115, 116, 114] := fun h => absurd ((op_str (25 : Int)).1 h) (by decide)
 have n4 : ¬ opName (25 : Int) = [108, 111, 97, 100] := fun h => absurd ((op_load (25 : Int)).1 h) (by decide)
 have n33 : ¬ opName (25 : Int) = [105, 110, 112, 117, 116] := fun h => absurd ((op_input (25 : Int)).1 h) (by decide)
 have n5 : ¬ opName (25 : Int) = [115, 116, 111, 114, 101] := fun h => absurd ((op_store (25 : Int)).1 h) (by decide)
 have n6 : ¬ opName (25 : Int) = [112, 111, 112] := fun h => absurd ((op_pop (25 : Int)).1 h) (by decide)
 have n21 : ¬ opName (25 : Int) = [117, 110, 108, 101, 115, 115] := fun h => absurd ((op_unless (25 : Int)).1 h) (by decide)
 have n12 : ¬ opName (25 : Int) = [110, 101, 103] := fun h => absurd ((op_neg (25 : Int)).1 h) (by decide)
 have n13 : ¬ opName (25 : Int) = [110, 111, 116] := fun h => absurd ((op_not (25 : Int)).1 h) (by decide)
 have n28 : ¬ opName (25 : Int) = [102, 105, 101, 108, 100] := fun h => absurd ((op_field (25 : Int)).1 h) (by decide)
 have n30 : ¬ opName (25 : Int) = [108, 101, 110] := fun h => absurd ((op_len (25 : Int)).1 h) (by decide)
 have n31 : ¬ opName (25 : Int) = [115, 104, 111, 119] := fun h => absurd ((op_show (25 : Int)).1 h) (by decide)
 have n22 : ¬ opName (25 : Int) = [99, 97, 108, 108] := fun h => absurd ((op_call (25 : Int)).1 h) (by decide)
 have n23 : ¬ opName (25 : Int) = [114, 101, 116, 117, 114, 110] := fun h => absurd ((op_return (25 : Int)).1 h) (by decide)
 have n34 : ¬ opName (25 : Int) = [112, 114, 105, 110, 116] := fun h => absurd ((op_print (25 : Int)).1 h) (by decide)
 have n24 : ¬ opName (25 : Int) = [97, 114, 114, 97, 121] := fun h => absurd ((op_array (25 : Int)).1 h) (by decide)
 have n25 : opName (25 : Int) = [110, 101, 119] := (op_new (25 : Int)).2 rfl
 unfold coC insC
 dsimp only
 refine fn_enter Tryz.func101 rfl 68 rfl fun w0 h0 => ?_
 refine wpc_fact (fun w h => ro_addr h 1 rfl (by rw [shs_len]; omega)) ?_
 rintro ⟨g9, o9, hua⟩
 rw [hua]
 refine SQ (RG ?_)
 refine RP [] (.d .a) 2 (.d (.k .a)) .a 26 [.slice c.sa c.strs.length c.sc, .slice (some ⟨g9, o9, none⟩) c.shapes.length c.hc, .slice c.ua c.units.length c.uc, .int .i64 c.main] fun g1 => ?_
 refine RP [] (.d .a) 3 (.k .z) .a 62 [.int .i64 25, .int .i64 (↑j : Int)] fun g2 => ?_
 refine RR [] .z (.i 5 (.int .i64 0) (.i 4 (.int .i64 0) .a)) .a ?_
 refine RZ (NT (SQ (SQ (RG ?_))))
 refine RR [3] (.d (.d .a)) (.i 7 (.int .i64 25) .a) .a ?_
 refine RC (dst := some 8) [] .a (rname_spec 25) ?_
 rintro v _ ⟨rfl, rfl⟩
 refine RZ (NT (BK (SQ (SQ (RG ?_)))))
 refine RR [] .z (.i 9 (.bool false) (.k (.d (.k .a)))) .a ?_
 refine RZ (NT (CF (RG ?_)))
 refine RR [] .z .a .a ?_
 refine RZ (NT (CF (SQ (SQ (RG ?_)))))
 refine RR [] .z (.i 12 (.bool false) (.d (.k .a))) .a ?_
 refine RZ (NT (CF (SQ (RG ?_))))
 refine RR [] .z .a .a ?_
 refine RZ (NT (CF (SQ (RG ?_))))
 refine RR [] .z .a .a ?_
 refine RZ (NT (CF (SQ (RG ?_))))
 refine RR [] .z .a .a ?_
 refine RZ (NT (CF (RG ?_)))
 refine RR [] .z .a .a ?_
 refine RZ (NT (CF (SQ (SQ (RG ?_)))))
 refine RR [] .z (.i 18 (.bool false) (.d (.k .a))) .a ?_
 refine RZ (NT (CF (SQ (RG ?_))))
 refine RR [] .z .a .a ?_
 refine RZ (NT (CF (RG ?_)))
 refine RR [] .z .a .a ?_
 refine RZ (NT (CF (SQ (SQ (RG ?_)))))
 refine RR [] .z (.i 22 (.bool false) (.d (.k .a))) .a ?_
 refine RZ (NT (CF (SQ (RG ?_))))
 refine RR [] .z .a .a ?_
 refine RZ (NT (CF (SQ (RG ?_))))
 refine RR [] .z .a .a ?_
 refine RZ (NT (CF (SQ (RG ?_))))
 refine RR [] .z .a .a ?_
 refine RZ (NT (CF (RG ?_)))
 refine RR [] .z .a .a ?_
 refine RZ (NT (CF (SQ (RG ?_))))
 refine RR [] .z (.i 28 (.bool false) (.d (.k .a))) .a ?_
 refine RZ (NT (CF (SQ (SQ (RG ?_)))))
 refine RR [] .z (.i 45 (.bool false) (.d (.k .a))) .a ?_
 refine RZ (NT (CF (RG ?_)))
 refine RR [] .z .a .a ?_
 refine RZ (NT (CF (SQ (RG ?_))))
 refine RR [] .z (.i 50 (.bool false) (.d (.k .a))) .a ?_
 refine RZ (NT (CF (SQ (RG ?_))))
 refine RR [] .z (.i 54 (.bool true) (.d (.k .a))) .a ?_
 refine RZ (NT (CT (SQ (RG ?_))))
 refine RV true [2, 3] (.d (.d (.d (.d (.d (.d .a)))))) (.i 61 (.pointer (some ⟨g9, o9 + j * 2 + 1, none⟩)) (.d (.d (.k (.k .z))))) .a [(0 : Int) ≤ (↑j : Int) ∧ (↑j : Int) < (↑c.shapes.length : Int)] ⟨by omega, trivial⟩ ?_
 refine wpr_eq (ld (t := 22) (a := ⟨g9, o9 + j * 2 + 1, none⟩) (dst := some 62) (by kernel_rfl) false 1 (by kernel_rfl) (by simp) [.slice c.shapes[j].fa c.shapes[j].fields.length c.shapes[j].fc] rfl (fun w h => ld_ro h 1 rfl (j * 2 + 1) (shs_fld hj 1 1 (by decide)))) ?_
 refine RR [] .z (.i 5 (.int .i64 1) (.i 4 (.int .i64 (↑c.shapes[j].fields.length : Int)) .z)) .a ?_
 refine RZ (NT (RE (BR (TR ?_))))
 refine NE [] .z .a [] (.tuple #[.int .i64 (↑c.shapes[j].fields.length : Int), .int .i64 1]) ?_
 exact ⟨rfl, rfl⟩
set_option maxHeartbeats 8000000 in
theorem rmoves_spec (c : CoV) (hul : c.units.length ≤ 1048576) (hsl : c.shapes.length ≤ 1048576) (hfl : ∀ s ∈ c.shapes, s.fields.length ≤ 1048576) (op a : Int) (h22 : op = 22 → 0 ≤ a ∧ a < c.units.length) (h25 : op = 25 → 0 ≤ a ∧ a < c.shapes.length) :
  Does Tryz.prog 101 [.agg (coC c).toArray, .agg (insC (op, a)).toArray] [ro c.ua (c.units.flatMap unC), ro c.ha (c.shapes.flatMap shC)] (fun v hp' => v = .tuple #[.int .i64 (mvs c.p (op, a)).1, .int .i64 (mvs c.p (op, a)).2] ∧ hp' = []) := by
 by_cases k22 : op = 22
 ·subst k22
  obtain ⟨h0, h1⟩ := h22 rfl
  obtain ⟨j, rfl⟩ := Int.eq_ofNat_of_zero_le h0
  exact rmoves22_spec c hul j (by omega)
 by_cases k25 : op = 25
 ·subst k25
  obtain ⟨h0, h1⟩ := h25 rfl
  obtain ⟨j, rfl⟩ := Int.eq_ofNat_of_zero_le h0
  exact rmoves25_spec c hsl hfl j (by omega)
 have n22 : ¬ opName op = [99, 97, 108, 108] := fun h => k22 ((op_call op).1 h)
 have n25 : ¬ opName op = [110, 101, 119] := fun h => k25 ((op_new op).1 h)
 unfold coC insC
 dsimp only
 refine fn_enter Tryz.func101 rfl 68 rfl fun w0 h0 => ?_
 refine SQ (RG ?_)
 refine RP [] (.d .a) 2 (.d (.k .a)) .a 26 [.slice c.sa c.strs.length c.sc, .slice c.ha c.shapes.length c.hc, .slice c.ua c.units.length c.uc, .int .i64 c.main] fun g1 => ?_
 refine RP [] (.d .a) 3 (.k .z) .a 62 [.int .i64 op, .int .i64 a] fun g2 => ?_
 refine RR [] .z (.i 5 (.int .i64 0) (.i 4 (.int .i64 0) .a)) .a ?_
 refine RZ (NT (SQ (SQ (RG ?_))))
 refine RR [3] (.d (.d .a)) (.i 7 (.int .i64 op) .a) .a ?_
 refine RC (dst := some 8) [] .a (rname_spec op) ?_
 rintro v _ ⟨rfl, rfl⟩
 refine RZ (NT (BK (SQ (SQ (RG ?_)))))
 refine RR [] .z (.i 9 (.bool (decide (opName op = [(109 : UInt8), (97 : UInt8), (114 : UInt8), (107 : UInt8)]))) (.k (.d (.k .a)))) .a ?_
 refine RZ (NT ?_)
 by_cases n0 : opName op = [109, 97, 114, 107]
 ·have k := (op_mark op).1 n0
  refine SC 9 (decide (opName op = [(109 : UInt8), (97 : UInt8), (114 : UInt8), (107 : UInt8)])) true (decide_eq_true (by omega)) ?_
  refine CT (SK (NT (CT (SQ (RG ?_)))))
  refine RR [] .z (.d (.d (.d (.k (.k .z))))) .a ?_
  refine RZ (NT (RE (BR (TR ?_))))
  refine NE [] .z .a [] (.tuple #[.int .i64 0, .int .i64 0]) ?_
  exact ⟨by rw [show mvs c.p (op, a) = (0, 0) from by unfold mvs; subst k; rfl], rfl⟩
 have k0 : ¬ op = 0 := fun h => n0 ((op_mark op).2 h)
 refine SC 9 (decide (opName op = [(109 : UInt8), (97 : UInt8), (114 : UInt8), (107 : UInt8)])) false (decide_eq_false (by omega)) ?_
 refine CF (RG ?_)
 refine RR [] .z (.i 9 (.bool (decide (opName op = [(106 : UInt8), (117 : UInt8), (109 : UInt8), (112 : UInt8)]))) (.d (.d (.k .a)))) .a ?_
 refine RZ (NT ?_)
 by_cases n20 : opName op = [106, 117, 109, 112]
 ·have k := (op_jump op).1 n20
  refine SC 9 (decide (opName op = [(106 : UInt8), (117 : UInt8), (109 : UInt8), (112 : UInt8)])) true (decide_eq_true (by omega)) ?_
  refine CT (SQ (RG ?_))
  refine RR [] .z (.d (.d (.d (.k (.k .z))))) .a ?_
  refine RZ (NT (RE (BR (TR ?_))))
  refine NE [] .z .a [] (.tuple #[.int .i64 0, .int .i64 0]) ?_
  exact ⟨by rw [show mvs c.p (op, a) = (0, 0) from by unfold mvs; subst k; rfl], rfl⟩
 have k20 : ¬ op = 20 := fun h => n20 ((op_jump op).2 h)
 refine SC 9 (decide (opName op = [(106 : UInt8), (117 : UInt8), (109 : UInt8), (112 : UInt8)])) false (decide_eq_false (by omega)) ?_
 refine CF (SQ (SQ (RG ?_)))
 refine RR [] .z (.i 12 (.bool (decide (opName op = [(105 : UInt8), (110 : UInt8), (116 : UInt8)]))) (.d (.d (.k .a)))) .a ?_
 refine RZ (NT ?_)
 by_cases n1 : opName op = [105, 110, 116]
 ·have k := (op_int op).1 n1
  refine SC 12 (decide (opName op = [(105 : UInt8), (110 : UInt8), (116 : UInt8)])) true (decide_eq_true (by omega)) ?_
  refine CT (SK (NT (CT (SQ (RG ?_)))))
  refine RR [] .z (.i 5 (.int .i64 1) (.d (.d (.d (.d (.k .z)))))) .a ?_
  refine RZ (NT (RE (BR (TR ?_))))
  refine NE [] .z .a [] (.tuple #[.int .i64 0, .int .i64 1]) ?_
  exact ⟨by rw [show mvs c.p (op, a) = (0, 1) from by unfold mvs; subst k; rfl], rfl⟩
 have k1 : ¬ op = 1 := fun h => n1 ((op_int op).2 h)
 refine SC 12 (decide (opName op = [(105 : UInt8), (110 : UInt8), (116 : UInt8)])) false (decide_eq_false (by omega)) ?_
 refine CF (SQ (RG ?_))
 refine RR [] .z (.i 12 (.bool (decide (opName op = [(98 : UInt8), (111 : UInt8), (111 : UInt8), (108 : UInt8)]))) (.d (.d (.k .a)))) .a ?_
 refine RZ (NT ?_)
 by_cases n2 : opName op = [98, 111, 111, 108]
 ·have k := (op_bool op).1 n2
  refine SC 12 (decide (opName op = [(98 : UInt8), (111 : UInt8), (111 : UInt8), (108 : UInt8)])) true (decide_eq_true (by omega)) ?_
  refine CT (SK (NT (CT (SQ (RG ?_)))))
  refine RR [] .z (.i 5 (.int .i64 1) (.d (.d (.d (.d (.k .z)))))) .a ?_
  refine RZ (NT (RE (BR (TR ?_))))
  refine NE [] .z .a [] (.tuple #[.int .i64 0, .int .i64 1]) ?_
  exact ⟨by rw [show mvs c.p (op, a) = (0, 1) from by unfold mvs; subst k; rfl], rfl⟩
 have k2 : ¬ op = 2 := fun h => n2 ((op_bool op).2 h)
 refine SC 12 (decide (opName op = [(98 : UInt8), (111 : UInt8), (111 : UInt8), (108 : UInt8)])) false (decide_eq_false (by omega)) ?_
 refine CF (SQ (RG ?_))
 refine RR [] .z (.i 12 (.bool (decide (opName op = [(115 : UInt8), (116 : UInt8), (114 : UInt8)]))) (.d (.d (.k .a)))) .a ?_
 refine RZ (NT ?_)
 by_cases n3 : opName op = [115, 116, 114]
 ·have k := (op_str op).1 n3
  refine SC 12 (decide (opName op = [(115 : UInt8), (116 : UInt8), (114 : UInt8)])) true (decide_eq_true (by omega)) ?_
  refine CT (SK (NT (CT (SQ (RG ?_)))))
  refine RR [] .z (.i 5 (.int .i64 1) (.d (.d (.d (.d (.k .z)))))) .a ?_
  refine RZ (NT (RE (BR (TR ?_))))
  refine NE [] .z .a [] (.tuple #[.int .i64 0, .int .i64 1]) ?_
  exact ⟨by rw [show mvs c.p (op, a) = (0, 1) from by unfold mvs; subst k; rfl], rfl⟩
 have k3 : ¬ op = 3 := fun h => n3 ((op_str op).2 h)
 refine SC 12 (decide (opName op = [(115 : UInt8), (116 : UInt8), (114 : UInt8)])) false (decide_eq_false (by omega)) ?_
 refine CF (SQ (RG ?_))
 refine RR [] .z (.i 12 (.bool (decide (opName op = [(108 : UInt8), (111 : UInt8), (97 : UInt8), (100 : UInt8)]))) (.d (.d (.k .a)))) .a ?_
 refine RZ (NT ?_)
 by_cases n4 : opName op = [108, 111, 97, 100]
 ·have k := (op_load op).1 n4
  refine SC 12 (decide (opName op = [(108 : UInt8), (111 : UInt8), (97 : UInt8), (100 : UInt8)])) true (decide_eq_true (by omega)) ?_
  refine CT (SK (NT (CT (SQ (RG ?_)))))
  refine RR [] .z (.i 5 (.int .i64 1) (.d (.d (.d (.d (.k .z)))))) .a ?_
  refine RZ (NT (RE (BR (TR ?_))))
  refine NE [] .z .a [] (.tuple #[.int .i64 0, .int .i64 1]) ?_
  exact ⟨by rw [show mvs c.p (op, a) = (0, 1) from by unfold mvs; subst k; rfl], rfl⟩
 have k4 : ¬ op = 4 := fun h => n4 ((op_load op).2 h)
 refine SC 12 (decide (opName op = [(108 : UInt8), (111 : UInt8), (97 : UInt8), (100 : UInt8)])) false (decide_eq_false (by omega)) ?_
 refine CF (RG ?_)
 refine RR [] .z (.i 12 (.bool (decide (opName op = [(105 : UInt8), (110 : UInt8), (112 : UInt8), (117 : UInt8), (116 : UInt8)]))) (.d (.d (.k .a)))) .a ?_
 refine RZ (NT ?_)
 by_cases n33 : opName op = [105, 110, 112, 117, 116]
 ·have k := (op_input op).1 n33
  refine SC 12 (decide (opName op = [(105 : UInt8), (110 : UInt8), (112 : UInt8), (117 : UInt8), (116 : UInt8)])) true (decide_eq_true (by omega)) ?_
  refine CT (SQ (RG ?_))
  refine RR [] .z (.i 5 (.int .i64 1) (.d (.d (.d (.d (.k .z)))))) .a ?_
  refine RZ (NT (RE (BR (TR ?_))))
  refine NE [] .z .a [] (.tuple #[.int .i64 0, .int .i64 1]) ?_
  exact ⟨by rw [show mvs c.p (op, a) = (0, 1) from by unfold mvs; subst k; rfl], rfl⟩
 have k33 : ¬ op = 33 := fun h => n33 ((op_input op).2 h)
 refine SC 12 (decide (opName op = [(105 : UInt8), (110 : UInt8), (112 : UInt8), (117 : UInt8), (116 : UInt8)])) false (decide_eq_false (by omega)) ?_
 refine CF (SQ (SQ (RG ?_)))
 refine RR [] .z (.i 18 (.bool (decide (opName op = [(115 : UInt8), (116 : UInt8), (111 : UInt8), (114 : UInt8), (101 : UInt8)]))) (.d (.d (.k .a)))) .a ?_
 refine RZ (NT ?_)
 by_cases n5 : opName op = [115, 116, 111, 114, 101]
 ·have k := (op_store op).1 n5
  refine SC 18 (decide (opName op = [(115 : UInt8), (116 : UInt8), (111 : UInt8), (114 : UInt8), (101 : UInt8)])) true (decide_eq_true (by omega)) ?_
  refine CT (SK (NT (CT (SQ (RG ?_)))))
  refine RR [] .z (.d (.d (.d (.k (.i 4 (.int .i64 1) .z))))) .a ?_
  refine RZ (NT (RE (BR (TR ?_))))
  refine NE [] .z .a [] (.tuple #[.int .i64 1, .int .i64 0]) ?_
  exact ⟨by rw [show mvs c.p (op, a) = (1, 0) from by unfold mvs; subst k; rfl], rfl⟩
 have k5 : ¬ op = 5 := fun h => n5 ((op_store op).2 h)
 refine SC 18 (decide (opName op = [(115 : UInt8), (116 : UInt8), (111 : UInt8), (114 : UInt8), (101 : UInt8)])) false (decide_eq_false (by omega)) ?_
 refine CF (SQ (RG ?_))
 refine RR [] .z (.i 18 (.bool (decide (opName op = [(112 : UInt8), (111 : UInt8), (112 : UInt8)]))) (.d (.d (.k .a)))) .a ?_
 refine RZ (NT ?_)
 by_cases n6 : opName op = [112, 111, 112]
 ·have k := (op_pop op).1 n6
  refine SC 18 (decide (opName op = [(112 : UInt8), (111 : UInt8), (112 : UInt8)])) true (decide_eq_true (by omega)) ?_
  refine CT (SK (NT (CT (SQ (RG ?_)))))
  refine RR [] .z (.d (.d (.d (.k (.i 4 (.int .i64 1) .z))))) .a ?_
  refine RZ (NT (RE (BR (TR ?_))))
  refine NE [] .z .a [] (.tuple #[.int .i64 1, .int .i64 0]) ?_
  exact ⟨by rw [show mvs c.p (op, a) = (1, 0) from by unfold mvs; subst k; rfl], rfl⟩
 have k6 : ¬ op = 6 := fun h => n6 ((op_pop op).2 h)
 refine SC 18 (decide (opName op = [(112 : UInt8), (111 : UInt8), (112 : UInt8)])) false (decide_eq_false (by omega)) ?_
 refine CF (RG ?_)
 refine RR [] .z (.i 18 (.bool (decide (opName op = [(117 : UInt8), (110 : UInt8), (108 : UInt8), (101 : UInt8), (115 : UInt8), (115 : UInt8)]))) (.d (.d (.k .a)))) .a ?_
 refine RZ (NT ?_)
 by_cases n21 : opName op = [117, 110, 108, 101, 115, 115]
 ·have k := (op_unless op).1 n21
  refine SC 18 (decide (opName op = [(117 : UInt8), (110 : UInt8), (108 : UInt8), (101 : UInt8), (115 : UInt8), (115 : UInt8)])) true (decide_eq_true (by omega)) ?_
  refine CT (SQ (RG ?_))
  refine RR [] .z (.d (.d (.d (.k (.i 4 (.int .i64 1) .z))))) .a ?_
  refine RZ (NT (RE (BR (TR ?_))))
  refine NE [] .z .a [] (.tuple #[.int .i64 1, .int .i64 0]) ?_
  exact ⟨by rw [show mvs c.p (op, a) = (1, 0) from by unfold mvs; subst k; rfl], rfl⟩
 have k21 : ¬ op = 21 := fun h => n21 ((op_unless op).2 h)
 refine SC 18 (decide (opName op = [(117 : UInt8), (110 : UInt8), (108 : UInt8), (101 : UInt8), (115 : UInt8), (115 : UInt8)])) false (decide_eq_false (by omega)) ?_
 refine CF (SQ (SQ (RG ?_)))
 refine RR [] .z (.i 22 (.bool (decide (opName op = [(110 : UInt8), (101 : UInt8), (103 : UInt8)]))) (.d (.d (.k .a)))) .a ?_
 refine RZ (NT ?_)
 by_cases n12 : opName op = [110, 101, 103]
 ·have k := (op_neg op).1 n12
  refine SC 22 (decide (opName op = [(110 : UInt8), (101 : UInt8), (103 : UInt8)])) true (decide_eq_true (by omega)) ?_
  refine CT (SK (NT (CT (SQ (RG ?_)))))
  refine RR [] .z (.i 5 (.int .i64 1) (.i 4 (.int .i64 1) .z)) .a ?_
  refine RZ (NT (RE (BR (TR ?_))))
  refine NE [] .z .a [] (.tuple #[.int .i64 1, .int .i64 1]) ?_
  exact ⟨by rw [show mvs c.p (op, a) = (1, 1) from by unfold mvs; subst k; rfl], rfl⟩
 have k12 : ¬ op = 12 := fun h => n12 ((op_neg op).2 h)
 refine SC 22 (decide (opName op = [(110 : UInt8), (101 : UInt8), (103 : UInt8)])) false (decide_eq_false (by omega)) ?_
 refine CF (SQ (RG ?_))
 refine RR [] .z (.i 22 (.bool (decide (opName op = [(110 : UInt8), (111 : UInt8), (116 : UInt8)]))) (.d (.d (.k .a)))) .a ?_
 refine RZ (NT ?_)
 by_cases n13 : opName op = [110, 111, 116]
 ·have k := (op_not op).1 n13
  refine SC 22 (decide (opName op = [(110 : UInt8), (111 : UInt8), (116 : UInt8)])) true (decide_eq_true (by omega)) ?_
  refine CT (SK (NT (CT (SQ (RG ?_)))))
  refine RR [] .z (.i 5 (.int .i64 1) (.i 4 (.int .i64 1) .z)) .a ?_
  refine RZ (NT (RE (BR (TR ?_))))
  refine NE [] .z .a [] (.tuple #[.int .i64 1, .int .i64 1]) ?_
  exact ⟨by rw [show mvs c.p (op, a) = (1, 1) from by unfold mvs; subst k; rfl], rfl⟩
 have k13 : ¬ op = 13 := fun h => n13 ((op_not op).2 h)
 refine SC 22 (decide (opName op = [(110 : UInt8), (111 : UInt8), (116 : UInt8)])) false (decide_eq_false (by omega)) ?_
 refine CF (SQ (RG ?_))
 refine RR [] .z (.i 22 (.bool (decide (opName op = [(102 : UInt8), (105 : UInt8), (101 : UInt8), (108 : UInt8), (100 : UInt8)]))) (.d (.d (.k .a)))) .a ?_
 refine RZ (NT ?_)
 by_cases n28 : opName op = [102, 105, 101, 108, 100]
 ·have k := (op_field op).1 n28
  refine SC 22 (decide (opName op = [(102 : UInt8), (105 : UInt8), (101 : UInt8), (108 : UInt8), (100 : UInt8)])) true (decide_eq_true (by omega)) ?_
  refine CT (SK (NT (CT (SQ (RG ?_)))))
  refine RR [] .z (.i 5 (.int .i64 1) (.i 4 (.int .i64 1) .z)) .a ?_
  refine RZ (NT (RE (BR (TR ?_))))
  refine NE [] .z .a [] (.tuple #[.int .i64 1, .int .i64 1]) ?_
  exact ⟨by rw [show mvs c.p (op, a) = (1, 1) from by unfold mvs; subst k; rfl], rfl⟩
 have k28 : ¬ op = 28 := fun h => n28 ((op_field op).2 h)
 refine SC 22 (decide (opName op = [(102 : UInt8), (105 : UInt8), (101 : UInt8), (108 : UInt8), (100 : UInt8)])) false (decide_eq_false (by omega)) ?_
 refine CF (SQ (RG ?_))
 refine RR [] .z (.i 22 (.bool (decide (opName op = [(108 : UInt8), (101 : UInt8), (110 : UInt8)]))) (.d (.d (.k .a)))) .a ?_
 refine RZ (NT ?_)
 by_cases n30 : opName op = [108, 101, 110]
 ·have k := (op_len op).1 n30
  refine SC 22 (decide (opName op = [(108 : UInt8), (101 : UInt8), (110 : UInt8)])) true (decide_eq_true (by omega)) ?_
  refine CT (SK (NT (CT (SQ (RG ?_)))))
  refine RR [] .z (.i 5 (.int .i64 1) (.i 4 (.int .i64 1) .z)) .a ?_
  refine RZ (NT (RE (BR (TR ?_))))
  refine NE [] .z .a [] (.tuple #[.int .i64 1, .int .i64 1]) ?_
  exact ⟨by rw [show mvs c.p (op, a) = (1, 1) from by unfold mvs; subst k; rfl], rfl⟩
 have k30 : ¬ op = 30 := fun h => n30 ((op_len op).2 h)
 refine SC 22 (decide (opName op = [(108 : UInt8), (101 : UInt8), (110 : UInt8)])) false (decide_eq_false (by omega)) ?_
 refine CF (RG ?_)
 refine RR [] .z (.i 22 (.bool (decide (opName op = [(115 : UInt8), (104 : UInt8), (111 : UInt8), (119 : UInt8)]))) (.d (.d (.k .a)))) .a ?_
 refine RZ (NT ?_)
 by_cases n31 : opName op = [115, 104, 111, 119]
 ·have k := (op_show op).1 n31
  refine SC 22 (decide (opName op = [(115 : UInt8), (104 : UInt8), (111 : UInt8), (119 : UInt8)])) true (decide_eq_true (by omega)) ?_
  refine CT (SQ (RG ?_))
  refine RR [] .z (.i 5 (.int .i64 1) (.i 4 (.int .i64 1) .z)) .a ?_
  refine RZ (NT (RE (BR (TR ?_))))
  refine NE [] .z .a [] (.tuple #[.int .i64 1, .int .i64 1]) ?_
  exact ⟨by rw [show mvs c.p (op, a) = (1, 1) from by unfold mvs; subst k; rfl], rfl⟩
 have k31 : ¬ op = 31 := fun h => n31 ((op_show op).2 h)
 refine SC 22 (decide (opName op = [(115 : UInt8), (104 : UInt8), (111 : UInt8), (119 : UInt8)])) false (decide_eq_false (by omega)) ?_
 refine CF (SQ (RG ?_))
 refine RR [] .z (.i 28 (.bool (decide (opName op = [(99 : UInt8), (97 : UInt8), (108 : UInt8), (108 : UInt8)]))) (.d (.d (.k .a)))) .a ?_
 refine RZ (NT ?_)
 refine SC 28 (decide (opName op = [(99 : UInt8), (97 : UInt8), (108 : UInt8), (108 : UInt8)])) false (decide_eq_false (by omega)) ?_
 refine CF (SQ (SQ (RG ?_)))
 refine RR [] .z (.i 45 (.bool (decide (opName op = [(114 : UInt8), (101 : UInt8), (116 : UInt8), (117 : UInt8), (114 : UInt8), (110 : UInt8)]))) (.d (.d (.k .a)))) .a ?_
 refine RZ (NT ?_)
 by_cases n23 : opName op = [114, 101, 116, 117, 114, 110]
 ·have k := (op_return op).1 n23
  refine SC 45 (decide (opName op = [(114 : UInt8), (101 : UInt8), (116 : UInt8), (117 : UInt8), (114 : UInt8), (110 : UInt8)])) true (decide_eq_true (by omega)) ?_
  refine CT (SK (NT (CT (SQ (RG ?_)))))
  refine RR [3] .z (.d (.d (.d (.k (.i 4 (.int .i64 a) .z))))) .a ?_
  refine RZ (NT (RE (BR (TR ?_))))
  refine NE [] .z .a [] (.tuple #[.int .i64 a, .int .i64 0]) ?_
  exact ⟨by rw [show mvs c.p (op, a) = (a, 0) from by unfold mvs; subst k; rfl], rfl⟩
 have k23 : ¬ op = 23 := fun h => n23 ((op_return op).2 h)
 refine SC 45 (decide (opName op = [(114 : UInt8), (101 : UInt8), (116 : UInt8), (117 : UInt8), (114 : UInt8), (110 : UInt8)])) false (decide_eq_false (by omega)) ?_
 refine CF (RG ?_)
 refine RR [] .z (.i 45 (.bool (decide (opName op = [(112 : UInt8), (114 : UInt8), (105 : UInt8), (110 : UInt8), (116 : UInt8)]))) (.d (.d (.k .a)))) .a ?_
 refine RZ (NT ?_)
 by_cases n34 : opName op = [112, 114, 105, 110, 116]
 ·have k := (op_print op).1 n34
  refine SC 45 (decide (opName op = [(112 : UInt8), (114 : UInt8), (105 : UInt8), (110 : UInt8), (116 : UInt8)])) true (decide_eq_true (by omega)) ?_
  refine CT (SQ (RG ?_))
  refine RR [3] .z (.d (.d (.d (.k (.i 4 (.int .i64 a) .z))))) .a ?_
  refine RZ (NT (RE (BR (TR ?_))))
  refine NE [] .z .a [] (.tuple #[.int .i64 a, .int .i64 0]) ?_
  exact ⟨by rw [show mvs c.p (op, a) = (a, 0) from by unfold mvs; subst k; rfl], rfl⟩
 have k34 : ¬ op = 34 := fun h => n34 ((op_print op).2 h)
 refine SC 45 (decide (opName op = [(112 : UInt8), (114 : UInt8), (105 : UInt8), (110 : UInt8), (116 : UInt8)])) false (decide_eq_false (by omega)) ?_
 refine CF (SQ (RG ?_))
 refine RR [] .z (.i 50 (.bool (decide (opName op = [(97 : UInt8), (114 : UInt8), (114 : UInt8), (97 : UInt8), (121 : UInt8)]))) (.d (.d (.k .a)))) .a ?_
 refine RZ (NT ?_)
 by_cases n24 : opName op = [97, 114, 114, 97, 121]
 ·have k := (op_array op).1 n24
  refine SC 50 (decide (opName op = [(97 : UInt8), (114 : UInt8), (114 : UInt8), (97 : UInt8), (121 : UInt8)])) true (decide_eq_true (by omega)) ?_
  refine CT (SQ (RG ?_))
  refine RR [3] .z (.i 5 (.int .i64 1) (.i 4 (.int .i64 a) .z)) .a ?_
  refine RZ (NT (RE (BR (TR ?_))))
  refine NE [] .z .a [] (.tuple #[.int .i64 a, .int .i64 1]) ?_
  exact ⟨by rw [show mvs c.p (op, a) = (a, 1) from by unfold mvs; subst k; rfl], rfl⟩
 have k24 : ¬ op = 24 := fun h => n24 ((op_array op).2 h)
 refine SC 50 (decide (opName op = [(97 : UInt8), (114 : UInt8), (114 : UInt8), (97 : UInt8), (121 : UInt8)])) false (decide_eq_false (by omega)) ?_
 refine CF (SQ (RG ?_))
 refine RR [] .z (.i 54 (.bool (decide (opName op = [(110 : UInt8), (101 : UInt8), (119 : UInt8)]))) (.d (.d (.k .a)))) .a ?_
 refine RZ (NT ?_)
 refine SC 54 (decide (opName op = [(110 : UInt8), (101 : UInt8), (119 : UInt8)])) false (decide_eq_false (by omega)) ?_
 refine CF (SQ (RG ?_))
 refine RR [] .z (.i 64 (.bool (decide (opName op = [(115 : UInt8), (101 : UInt8), (116 : UInt8), (105 : UInt8), (110 : UInt8), (100 : UInt8), (101 : UInt8), (120 : UInt8)]))) (.d (.d (.k (.k (.k .z)))))) .a ?_
 refine RZ (NT ?_)
 by_cases n27 : opName op = [115, 101, 116, 105, 110, 100, 101, 120]
 ·have k := (op_setindex op).1 n27
  refine SC 64 (decide (opName op = [(115 : UInt8), (101 : UInt8), (116 : UInt8), (105 : UInt8), (110 : UInt8), (100 : UInt8), (101 : UInt8), (120 : UInt8)])) true (decide_eq_true (by omega)) ?_
  refine CT (SQ (RG ?_))
  refine RR [] .z (.d (.d (.d (.k (.i 4 (.int .i64 3) .z))))) .a ?_
  refine RZ (NT (RE (BR (TR ?_))))
  refine NE [] .z .a [] (.tuple #[.int .i64 3, .int .i64 0]) ?_
  exact ⟨by rw [show mvs c.p (op, a) = (3, 0) from by unfold mvs; subst k; rfl], rfl⟩
 have k27 : ¬ op = 27 := fun h => n27 ((op_setindex op).2 h)
 refine SC 64 (decide (opName op = [(115 : UInt8), (101 : UInt8), (116 : UInt8), (105 : UInt8), (110 : UInt8), (100 : UInt8), (101 : UInt8), (120 : UInt8)])) false (decide_eq_false (by omega)) ?_
 refine CF (SQ (RG ?_))
 refine RR [] .z (.i 66 (.bool (decide (opName op = [(115 : UInt8), (101 : UInt8), (116 : UInt8), (102 : UInt8), (105 : UInt8), (101 : UInt8), (108 : UInt8), (100 : UInt8)]))) (.d (.d (.d (.k .a))))) .a ?_
 refine RZ (NT ?_)
 by_cases n29 : opName op = [115, 101, 116, 102, 105, 101, 108, 100]
 ·have k := (op_setfield op).1 n29
  refine SC 66 (decide (opName op = [(115 : UInt8), (101 : UInt8), (116 : UInt8), (102 : UInt8), (105 : UInt8), (101 : UInt8), (108 : UInt8), (100 : UInt8)])) true (decide_eq_true (by omega)) ?_
  refine CT (SQ (RG ?_))
  refine RR [] .z (.d (.d (.k (.i 4 (.int .i64 2) .z)))) .a ?_
  refine RZ (NT (RE (BR (TR ?_))))
  refine NE [] .z .a [] (.tuple #[.int .i64 2, .int .i64 0]) ?_
  exact ⟨by rw [show mvs c.p (op, a) = (2, 0) from by unfold mvs; subst k; rfl], rfl⟩
 have k29 : ¬ op = 29 := fun h => n29 ((op_setfield op).2 h)
 refine SC 66 (decide (opName op = [(115 : UInt8), (101 : UInt8), (116 : UInt8), (102 : UInt8), (105 : UInt8), (101 : UInt8), (108 : UInt8), (100 : UInt8)])) false (decide_eq_false (by omega)) ?_
 refine CF (SK (BN (NT (SQ (RG ?_)))))
 refine RR [] .z (.i 5 (.int .i64 1) (.i 4 (.int .i64 2) .z)) .a ?_
 refine RZ (NT (RE ?_))
 refine NE [] .z .a [] (.tuple #[.int .i64 2, .int .i64 1]) ?_
 exact ⟨by rw [show mvs c.p (op, a) = (2, 1) from by unfold mvs; dsimp only; rw [if_neg (by omega), if_neg (by omega), if_neg (by omega), if_neg (by omega), if_neg (by omega), if_neg (by omega), if_neg (by omega), if_neg (by omega), if_neg (by omega), if_neg (by omega)]], rfl⟩
end Go.Proofs.YtgcfomhlgipllaaGreatDoor
namespace Go.Proofs.YtgcfomhlgipllaaGreatDoor
open Go Go.Sx
set_option maxHeartbeats 8000000 in
theorem rbehind_spec (op a i : Int) (hi : 0 ≤ i ∧ i ≤ 1048576) : Does Tryz.prog 102 [.agg (insC (op, a)).toArray, .int .i64 i] [] (fun v hp' => ∃ a' c', v = .slice a' (nxP (op, a) i).length c' ∧ hp' = [row 3 1 a' (nxP (op, a) i).length c' (ints (nxP (op, a) i))]) := by
 unfold insC
 dsimp only
 refine fn_enter Tryz.func102 rfl 25 rfl fun w0 h0 => ?_
 refine SQ (RG ?_)
 refine RP [] (.d .a) 2 (.d (.k .a)) .a 62 [.int .i64 op, .int .i64 a] fun g1 => ?_
 refine RR [] .z (.i 4 (.slice none 0 0) .a) .a ?_
 refine RZ (NT (SQ (SQ (RG ?_))))
 refine RR [0] (.d (.d .a)) (.i 6 (.int .i64 op) .a) .a ?_
 refine RC (dst := some 7) [] .a (rname_spec op) ?_
 rintro v _ ⟨rfl, rfl⟩
 refine RZ (NT (BK (SQ (RG ?_))))
 refine RR [] .z (.i 8 (.bool (decide (opName op = [(106 : UInt8), (117 : UInt8), (109 : UInt8), (112 : UInt8)]))) (.k (.d (.k .a)))) .a ?_
 refine RZ (NT ?_)
 by_cases n20 : opName op = [106, 117, 109, 112]
 ·have k := (op_jump op).1 n20
  refine SC 8 (decide (opName op = [(106 : UInt8), (117 : UInt8), (109 : UInt8), (112 : UInt8)])) true (decide_eq_true (by omega)) ?_
  refine CT (SQ (RG ?_))
  refine RN [0] (.d (.d (.d .a))) 12 (fun g2 => (.slice (some ⟨g2, 0, none⟩) 1 1)) (.d (.d (.d (.k (.d (.k .a)))))) .a 3 [.int .i64 a] fun g2 => ?_
  refine RR [] .z (.i 4 (.slice (some ⟨g2, 0, none⟩) 1 1) (.d (.d (.k .a)))) .a ?_
  refine RZ (NT (RE (BR (TR ?_))))
  refine nx_ent (ent_turn 1 (row 3 1 (some ⟨g2, 0, none⟩) 1 1 (ints [a])) rfl (turn_blk rfl (ints_one [a]) (by decide)) rfl) ?_
  refine NE [1] (.d (.k .a)) (.k .z) [] (.slice (some ⟨g2, 0, none⟩) 1 1) ?_
  subst k
  exact ⟨_, 1, rfl, rfl⟩
 have k20 : ¬ op = 20 := fun h => n20 ((op_jump op).2 h)
 refine SC 8 (decide (opName op = [(106 : UInt8), (117 : UInt8), (109 : UInt8), (112 : UInt8)])) false (decide_eq_false (by omega)) ?_
 refine CF (SQ (RG ?_))
 refine RR [] .z (.i 13 (.bool (decide (opName op = [(117 : UInt8), (110 : UInt8), (108 : UInt8), (101 : UInt8), (115 : UInt8), (115 : UInt8)]))) (.d (.d (.k .a)))) .a ?_
 refine RZ (NT ?_)
 by_cases n21 : opName op = [117, 110, 108, 101, 115, 115]
 ·have k := (op_unless op).1 n21
  refine SC 13 (decide (opName op = [(117 : UInt8), (110 : UInt8), (108 : UInt8), (101 : UInt8), (115 : UInt8), (115 : UInt8)])) true (decide_eq_true (by omega)) ?_
  refine CT (SQ (RG ?_))
  refine wpr_new (l₂ := [5]) true [0, 1, 2, 3, 4] [0] (fun g2 => [(19, .slice (some ⟨g2, 0, none⟩) 2 2), (4, .slice none 0 0), (1, .int .i64 i)]) (fun g2 => ([.blk g1 62 [.int .i64 op, .int .i64 a], .blk g2 3 [.int .i64 (i + 1), .int .i64 a]])) (fun g2 => ([inI64 (i + (1 : Int))])) (fun g2 => by kernel_rfl) (fun g2 => by kernel_rfl) (fun g2 => ⟨by unfold inI64; omega, trivial⟩) fun g2 => ?_
  refine RR [] .z (.i 4 (.slice (some ⟨g2, 0, none⟩) 2 2) (.d (.d (.k .a)))) .a ?_
  refine RZ (NT (RE (BR (TR ?_))))
  refine nx_ent (ent_turn 1 (row 3 1 (some ⟨g2, 0, none⟩) 2 2 (ints [i + 1, a])) rfl (turn_blk rfl (ints_one [i + 1, a]) (by decide)) rfl) ?_
  refine NE [1] (.d (.k .a)) (.k .z) [] (.slice (some ⟨g2, 0, none⟩) 2 2) ?_
  subst k
  exact ⟨_, 2, rfl, rfl⟩
 have k21 : ¬ op = 21 := fun h => n21 ((op_unless op).2 h)
 refine SC 13 (decide (opName op = [(117 : UInt8), (110 : UInt8), (108 : UInt8), (101 : UInt8), (115 : UInt8), (115 : UInt8)])) false (decide_eq_false (by omega)) ?_
 refine CF (SQ (RG ?_))
 refine RR [] .z (.i 20 (.bool (decide (opName op = [(114 : UInt8), (101 : UInt8), (116 : UInt8), (117 : UInt8), (114 : UInt8), (110 : UInt8)]))) (.d (.d (.d (.k (.d (.k .a))))))) .a ?_
 refine RZ (NT ?_)
 by_cases n23 : opName op = [114, 101, 116, 117, 114, 110]
 ·have k := (op_return op).1 n23
  refine SC 20 (decide (opName op = [(114 : UInt8), (101 : UInt8), (116 : UInt8), (117 : UInt8), (114 : UInt8), (110 : UInt8)])) true (decide_eq_true (by omega)) ?_
  refine CT (SQ (RG ?_))
  refine RR [] .z (.d (.d (.k .a))) .a ?_
  refine RZ (NT (RE (BR (TR ?_))))
  refine nx_ent (ent_nil 3 1) ?_
  refine NE [0] (.k .z) (.d (.k .a)) [] (.slice none 0 0) ?_
  subst k
  exact ⟨none, 0, rfl, rfl⟩
 have k23 : ¬ op = 23 := fun h => n23 ((op_return op).2 h)
 refine SC 20 (decide (opName op = [(114 : UInt8), (101 : UInt8), (116 : UInt8), (117 : UInt8), (114 : UInt8), (110 : UInt8)])) false (decide_eq_false (by omega)) ?_
 refine CF (SK (BN (NT (SQ (RG ?_)))))
 refine wpr_new (l₂ := [3]) true [0, 1, 2] [] (fun g2 => [(24, .slice (some ⟨g2, 0, none⟩) 1 1), (4, .slice none 0 0)]) (fun g2 => ([.blk g1 62 [.int .i64 op, .int .i64 a], .blk g2 3 [.int .i64 (i + 1)]])) (fun g2 => ([inI64 (i + (1 : Int))])) (fun g2 => by kernel_rfl) (fun g2 => by kernel_rfl) (fun g2 => ⟨by unfold inI64; omega, trivial⟩) fun g2 => ?_
 refine RR [] .z (.i 4 (.slice (some ⟨g2, 0, none⟩) 1 1) .z) .a ?_
 refine RZ (NT (RE ?_))
 refine nx_ent (ent_turn 1 (row 3 1 (some ⟨g2, 0, none⟩) 1 1 (ints [i + 1])) rfl (turn_blk rfl (ints_one [i + 1]) (by decide)) rfl) ?_
 refine NE [1] (.d (.k .a)) (.k .z) [] (.slice (some ⟨g2, 0, none⟩) 1 1) ?_
 have e : nxP (op, a) i = [i + 1] := by unfold nxP; dsimp only; rw [if_neg k20, if_neg k21, if_neg k23]
 rw [e]
 exact ⟨_, 1, rfl, rfl⟩
end Go.Proofs.YtgcfomhlgipllaaGreatDoor
namespace Go.Proofs.YtgcfomhlgipllaaGreatDoor
open Go Go.Sx
theorem mem_take_i {l : List Tx} {i : Nat} {t : Tx} (h : ∀ k, (hk : k < l.length) → k < i → l[k] ≠ t) : t ∉ l.take i := fun hm => by
 obtain ⟨k, hk⟩ := List.getElem?_of_mem hm
 obtain ⟨h1, h2⟩ := List.getElem?_eq_some_iff.1 hk
 rw [List.length_take] at h1
 rw [List.getElem_take] at h2
 exact h k (by omega) (by omega) h2
set_option maxHeartbeats 4000000 in
theorem rnames_spec (a : Option Addr) (c : Nat) (l : List Tx) (hl : l.length ≤ 1048576) (ht : ∀ x ∈ l, x.length ≤ 1048576) :
  Does Tryz.prog 99 [.slice a l.length c] [ro a (strsC l)] (fun v hp' => v = .bool (namesB l) ∧ hp' = []) := by
 refine fn_enter Tryz.func99 rfl 31 rfl fun w0 h0 => ?_
 refine SQ (RG ?_)
 refine RR [] .z (.i 2 (.bool false) .a) .a ?_
 refine RZ (NT (SQ (SQ (RG ?_))))
 refine RR [] .z (.i 3 (.int .i64 0) .a) .a ?_
 refine RZ (NT (BK ?_))
 refine wpc_loop (X := {i : Nat // i ≤ l.length ∧ ∀ j, (hj : j < l.length) → j < i → nameB l[j] = true ∧ l[j] ∉ l.take j}) (fun x => St.mk [(3, .int .i64 (x.1 : Int)), (2, .bool false), (0, .slice a l.length c)] [ro a (strsC l)]) (fun x => l.length - x.1) ⟨0, Nat.zero_le _, fun j _ h => absurd h (Nat.not_lt_zero _)⟩ (ent_fr (by kernel_rfl)) ?_
 rintro ⟨i, hi, hall⟩
 dsimp only at hi hall ⊢
 by_cases hlt : i < l.length
 ·refine wpc_fact (fun w h => ro_addr h 0 rfl (by rw [strsC_len]; omega)) ?_
  rintro ⟨g0, o0, rfl⟩
  have hti := ht _ (List.getElem_mem hlt)
  refine SQ (SQ (RG ?_))
  refine RR [] .z (.i 8 (.bool (decide ((↑i : Int) < (↑l.length : Int)))) .a) .a ?_
  refine RZ (NT ?_)
  refine SC 8 (decide ((↑i : Int) < (↑l.length : Int))) true (decide_eq_true (by omega)) ?_
  refine CT (SK (NT (SQ (BK (SQ (SQ (RG ?_)))))))
  refine RV true [] (.d (.d (.d .a))) (.i 13 (.pointer (some ⟨g0, o0 + i * 1, none⟩)) (.d (.d (.k .a)))) .a [(0 : Int) ≤ (↑i : Int) ∧ (↑i : Int) < (↑l.length : Int)] ⟨by omega, trivial⟩ ?_
  refine wpr_eq (ld (t := 9) (a := ⟨g0, o0 + i * 1, none⟩) (dst := some 14) (by kernel_rfl) false 1 (by kernel_rfl) (by simp) ([.string (mkS l[i])]) rfl (fun w h => ld_ro h 0 rfl (i * 1) (strs_at hlt))) ?_
  refine RC (dst := some 15) [] .a (rName_spec l[i] hti) ?_
  rintro v _ ⟨rfl, rfl⟩
  cases hb : nameB l[i] with
  | false =>
   have hbad : namesB l = false := namesB_bad hlt (.inl hb)
   rw [hbad]
   refine RR [] .z (.i 16 (.bool true) (.d (.d (.d (.k .a))))) .a ?_
   refine RZ (NT (CT (SQ (RG ?_))))
   refine RR [] .z (.i 2 (.bool false) (.d (.k (.d (.k .a))))) .a ?_
   refine RZ (NT (RE (TR (BR (TR (TR (BR (TR ?_))))))))
   refine NE [] .z .a [] (.bool false) ?_
   exact ⟨rfl, rfl⟩
  | true =>
   refine RR [] .z (.i 16 (.bool false) (.d (.d (.d (.k .a))))) .a ?_
   refine RZ (NT (CF (SK (NT (SQ (RG ?_))))))
   refine RR [] .z (.i 4 (.int .i64 0) (.d (.k .a))) .a ?_
   refine RZ (NT (BK ?_))
   refine wpc_loop (X := {j : Nat // j ≤ i ∧ ∀ k, (hk : k < l.length) → k < j → l[k] ≠ l[i]}) (fun x => St.mk [(4, .int .i64 (x.1 : Int)), (3, .int .i64 (i : Int)), (2, .bool false), (0, .slice (some ⟨g0, o0, none⟩) l.length c)] [ro (some ⟨g0, o0, none⟩) (strsC l)]) (fun x => i - x.1) ⟨0, Nat.zero_le _, fun j _ h => absurd h (Nat.not_lt_zero _)⟩ (ent_fr (by kernel_rfl)) ?_
   rintro ⟨j, hj, hk⟩
   dsimp only at hj hk ⊢
   by_cases hji : j < i
   ·have hjl : j < l.length := by omega
    refine SQ (SQ (RG ?_))
    refine RR [] .z (.i 19 (.bool (decide ((↑j : Int) < (↑i : Int)))) .a) .a ?_
    refine RZ (NT ?_)
    refine SC 19 (decide ((↑j : Int) < (↑i : Int))) true (decide_eq_true (by omega)) ?_
    refine CT (SK (NT (SQ (BK (SQ ?_)))))
    refine wpc_draw (by kernel_rfl) [ro (some ⟨g0, o0, none⟩) (strsC l)] (sub_of [0] (by kernel_rfl)) 9 (by kernel_rfl) ?_
    refine wpa_take true [(0, []), (1, []), (2, []), (4, []), (5, []), (6, [])] ([(28, .pointer (some ⟨g0, o0 + i * 1, none⟩)), (24, .pointer (some ⟨g0, o0 + j * 1, none⟩)), (4, .int .i64 (↑j : Int)), (3, .int .i64 (↑i : Int)), (2, .bool false), (0, .slice (some ⟨g0, o0, none⟩) l.length c)]) (#[true, true, true, false, true, true, true, false, false]) [(0 : Int) ≤ (↑j : Int) ∧ (↑j : Int) < (↑l.length : Int), (0 : Int) ≤ (↑i : Int) ∧ (↑i : Int) < (↑l.length : Int)] (n := 3) (by kernel_rfl) (by kernel_rfl) (by kernel_rfl) ⟨by omega, by omega, trivial⟩ ?_
    refine wpa_qld (i := 3) (n := 2) (by kernel_rfl) (by kernel_rfl) (by kernel_rfl) (t := 9) (a := ⟨g0, o0 + j * 1, none⟩) (dst := some 25) (by kernel_rfl) false 1 (by kernel_rfl) (by simp) ([.string (mkS l[j])]) rfl (fun w h => ld_roL h 0 rfl (j * 1) (strs_at hjl)) ?_
    refine wpa_qld (i := 7) (n := 1) (by kernel_rfl) (by kernel_rfl) (by kernel_rfl) (t := 9) (a := ⟨g0, o0 + i * 1, none⟩) (dst := some 29) (by kernel_rfl) false 1 (by kernel_rfl) (by simp) ([.string (mkS l[i])]) rfl (fun w h => ld_roL h 0 rfl (i * 1) (strs_at hlt)) ?_
    refine TK 0 [(8, [])] (.i 30 (.bool (decide (l[j] = l[i]))) (.d (.d (.d (.d (.k .a)))))) (#[true, true, true, true, true, true, true, true, true]) ?_
    refine wpa_done 0 (by kernel_rfl) ?_
    refine NT ?_
    by_cases he : l[j] = l[i]
    ·have hbad : namesB l = false := namesB_bad hlt (.inr (List.mem_take_iff_getElem.2 ⟨j, by omega, he⟩))
     rw [hbad]
     refine SC 30 (decide (l[j] = l[i])) true (decide_eq_true (by omega)) ?_
     refine CT (SQ (RG ?_))
     refine RR [] .z (.i 2 (.bool false) (.d (.d (.k (.k (.d (.k .a))))))) .a ?_
     refine RZ (NT (RE (BR (TR (TR (BR (BR (TR (TR (BR (TR ?_)))))))))))
     refine NE [] .z .a [] (.bool false) ?_
     exact ⟨rfl, rfl⟩
    ·refine SC 30 (decide (l[j] = l[i])) false (decide_eq_false (by omega)) ?_
     refine CF (SK (BN (NT (RG ?_))))
     refine RV true [] .z (.i 4 (.int .i64 ((↑j : Int) + 1)) (.d (.d (.d (.k .a))))) .a ([inI64 ((↑j : Int) + (1 : Int))]) ⟨by unfold inI64; omega, trivial⟩ ?_
     refine RZ ?_
     exact fun a' w' hS' => ⟨⟨j + 1, hji, fun k hk1 h => by
                 rcases Nat.lt_or_ge k j with h1 | h1
                 · exact hk k hk1 h1
                 · obtain rfl : k = j := by omega
                   exact he⟩, by dsimp only; omega, ent_fr (by kernel_rfl) _ _ (ent_hp [0] rfl _ _ hS')⟩
   ·obtain rfl : j = i := by omega
    refine SQ (SQ (RG ?_))
    refine RR [] .z (.i 19 (.bool (decide ((↑j : Int) < (↑j : Int)))) .a) .a ?_
    refine RZ (NT ?_)
    refine SC 19 (decide ((↑j : Int) < (↑j : Int))) false (by simp) ?_
    refine CF (EX (TE (TE (BH (BN (NT (RG ?_)))))))
    refine RV true [] .z (.i 3 (.int .i64 ((↑j : Int) + 1)) (.d (.d (.d (.d (.k .a)))))) .a ([inI64 ((↑j : Int) + (1 : Int))]) ⟨by unfold inI64; omega, trivial⟩ ?_
    refine RZ ?_
    exact fun a' w' hS' => ⟨⟨j + 1, hlt, fun k hk1 h => by
              rcases Nat.lt_or_ge k j with h1 | h1
              · exact hall k hk1 h1
              · obtain rfl : k = j := by omega
                exact ⟨hb, mem_take_i hk⟩⟩, by dsimp only; omega, ent_fr (by kernel_rfl) _ _ (ent_hp [0] rfl _ _ hS')⟩
 ·obtain rfl : i = l.length := by omega
  have hok : namesB l = true := namesB_ok fun j hj => hall j hj hj
  rw [hok]
  refine SQ (SQ (RG ?_))
  refine RR [] .z (.i 8 (.bool (decide ((↑l.length : Int) < (↑l.length : Int)))) .a) .a ?_
  refine RZ (NT ?_)
  refine SC 8 (decide ((↑l.length : Int) < (↑l.length : Int))) false (by simp) ?_
  refine CF (EX (TE (TE (BH (NT (SQ (RG ?_)))))))
  refine RR [] .z (.i 2 (.bool true) .z) .a ?_
  refine RZ (NT (RE ?_))
  refine NE [] .z .a [] (.bool true) ?_
  exact ⟨rfl, rfl⟩
end Go.Proofs.YtgcfomhlgipllaaGreatDoor
namespace Go.Proofs.YtgcfomhlgipllaaGreatDoor
open Go Go.Sx
set_option maxHeartbeats 8000000 in
theorem runit_spec (c : CoV) (u : UnV) (hu : u.ok) : Does Tryz.prog 100 [.agg (coC c).toArray, .agg (unC u).toArray] [ro u.ia (u.ins.flatMap insC), ro u.va (u.vars.flatMap varC)] (fun v hp' => v = .bool (unitB c.p u.p) ∧ hp' = []) := by
 obtain ⟨hu0, hu1, hu2, hu3, hil, hvl, hio, hvo⟩ := hu
 have hno : headU u.p = false → unitB c.p u.p = false := fun h => by unfold unitB; rw [h]; rfl
 have hnh : ¬ (0 ≤ u.params ∧ u.params ≤ 8 ∧ u.params ≤ u.slots ∧ u.slots ≤ 32 ∧ 0 ≤ u.stack ∧ u.stack ≤ 256 ∧ 1 ≤ u.ins.length ∧ u.ins.length ≤ 4096) → unitB c.p u.p = false := fun h => hno (by
  cases h2 : headU u.p with
  | false => rfl
  | true => exact absurd ((headU_iff u.p).1 h2) h)
 unfold coC unC
 refine fn_enter Tryz.func100 rfl 110 rfl fun w0 h0 => ?_
 refine SQ (RG ?_)
 refine RP [] (.d .a) 2 (.d (.k .a)) .a 26 [.slice c.sa c.strs.length c.sc, .slice c.ha c.shapes.length c.hc, .slice c.ua c.units.length c.uc, .int .i64 c.main] fun g1 => ?_
 refine RP [] (.d .a) 3 (.k .z) .a 59 [.string (mkS u.name), .int .i64 u.params, .int .i64 u.slots, .int .i64 u.stack, .bool u.result, .slice u.ia u.ins.length u.ic, .slice u.va u.vars.length u.vc] fun g2 => ?_
 refine RR [] .z (.i 4 (.bool false) .a) .a ?_
 refine RZ (NT (SQ (SQ (RG ?_))))
 refine RR [3] (.d (.d (.d (.d .a)))) (.i 11 (.bool (decide (u.params < (0 : Int)))) .a) .a ?_
 by_cases k0 : ¬ 0 ≤ u.params
 ·rw [hnh (fun h => k0 h.1)]
  refine SR 11 (decide (u.params < (0 : Int))) true (decide_eq_true (by omega)) ?_
  refine RR [] .z (.i 49 (.bool true) (.d (.d (.k .a)))) .a ?_
  refine RZ (NT (CT (SQ (RG ?_))))
  refine RR [] .z (.d (.k .a)) .a ?_
  refine RZ (NT (RE (TR ?_)))
  refine NE [] .z .a [] (.bool false) ?_
  exact ⟨rfl, rfl⟩
 rw [Decidable.not_not] at k0
 refine SR 11 (decide (u.params < (0 : Int))) false (decide_eq_false (by omega)) ?_
 refine RR [3] (.d (.d (.d (.d (.d .a))))) (.i 16 (.bool (decide (u.params > (8 : Int)))) (.d (.d (.k .a)))) .a ?_
 by_cases k1 : ¬ u.params ≤ 8
 ·rw [hnh (fun h => k1 h.2.1)]
  refine SR 16 (decide (u.params > (8 : Int))) true (decide_eq_true (by omega)) ?_
  refine RR [] .z (.i 49 (.bool true) (.d (.d (.k .a)))) .a ?_
  refine RZ (NT (CT (SQ (RG ?_))))
  refine RR [] .z (.d (.k .a)) .a ?_
  refine RZ (NT (RE (TR ?_)))
  refine NE [] .z .a [] (.bool false) ?_
  exact ⟨rfl, rfl⟩
 rw [Decidable.not_not] at k1
 refine SR 16 (decide (u.params > (8 : Int))) false (decide_eq_false (by omega)) ?_
 refine RR [3, 3] (.d (.d (.d (.d (.d (.d (.d .a))))))) (.i 23 (.bool (decide (u.slots < u.params))) (.d (.d (.k .a)))) .a ?_
 by_cases k2 : ¬ u.params ≤ u.slots
 ·rw [hnh (fun h => k2 h.2.2.1)]
  refine SR 23 (decide (u.slots < u.params)) true (decide_eq_true (by omega)) ?_
  refine RR [] .z (.i 49 (.bool true) (.d (.d (.k .a)))) .a ?_
  refine RZ (NT (CT (SQ (RG ?_))))
  refine RR [] .z (.d (.k .a)) .a ?_
  refine RZ (NT (RE (TR ?_)))
  refine NE [] .z .a [] (.bool false) ?_
  exact ⟨rfl, rfl⟩
 rw [Decidable.not_not] at k2
 refine SR 23 (decide (u.slots < u.params)) false (decide_eq_false (by omega)) ?_
 refine RR [3] (.d (.d (.d (.d (.d .a))))) (.i 28 (.bool (decide (u.slots > (32 : Int)))) (.d (.d (.k .a)))) .a ?_
 by_cases k3 : ¬ u.slots ≤ 32
 ·rw [hnh (fun h => k3 h.2.2.2.1)]
  refine SR 28 (decide (u.slots > (32 : Int))) true (decide_eq_true (by omega)) ?_
  refine RR [] .z (.i 49 (.bool true) (.d (.d (.k .a)))) .a ?_
  refine RZ (NT (CT (SQ (RG ?_))))
  refine RR [] .z (.d (.k .a)) .a ?_
  refine RZ (NT (RE (TR ?_)))
  refine NE [] .z .a [] (.bool false) ?_
  exact ⟨rfl, rfl⟩
 rw [Decidable.not_not] at k3
 refine SR 28 (decide (u.slots > (32 : Int))) false (decide_eq_false (by omega)) ?_
 refine RR [3] (.d (.d (.d (.d (.d .a))))) (.i 33 (.bool (decide (u.stack < (0 : Int)))) (.d (.d (.k .a)))) .a ?_
 by_cases k4 : ¬ 0 ≤ u.stack
 ·rw [hnh (fun h => k4 h.2.2.2.2.1)]
  refine SR 33 (decide (u.stack < (0 : Int))) true (decide_eq_true (by omega)) ?_
  refine RR [] .z (.i 49 (.bool true) (.d (.d (.k .a)))) .a ?_
  refine RZ (NT (CT (SQ (RG ?_))))
  refine RR [] .z (.d (.k .a)) .a ?_
  refine RZ (NT (RE (TR ?_)))
  refine NE [] .z .a [] (.bool false) ?_
  exact ⟨rfl, rfl⟩
 rw [Decidable.not_not] at k4
 refine SR 33 (decide (u.stack < (0 : Int))) false (decide_eq_false (by omega)) ?_
 refine RR [3] (.d (.d (.d (.d (.d .a))))) (.i 38 (.bool (decide (u.stack > (256 : Int)))) (.d (.d (.k .a)))) .a ?_
 by_cases k5 : ¬ u.stack ≤ 256
 ·rw [hnh (fun h => k5 h.2.2.2.2.2.1)]
  refine SR 38 (decide (u.stack > (256 : Int))) true (decide_eq_true (by omega)) ?_
  refine RR [] .z (.i 49 (.bool true) (.d (.d (.k .a)))) .a ?_
  refine RZ (NT (CT (SQ (RG ?_))))
  refine RR [] .z (.d (.k .a)) .a ?_
  refine RZ (NT (RE (TR ?_)))
  refine NE [] .z .a [] (.bool false) ?_
  exact ⟨rfl, rfl⟩
 rw [Decidable.not_not] at k5
 refine SR 38 (decide (u.stack > (256 : Int))) false (decide_eq_false (by omega)) ?_
 refine RR [3] (.d (.d (.d (.d (.d (.d .a)))))) (.i 44 (.bool (decide ((↑u.ins.length : Int) < (1 : Int)))) (.d (.d (.k .a)))) .a ?_
 by_cases k6 : ¬ 1 ≤ u.ins.length
 ·rw [hnh (fun h => k6 h.2.2.2.2.2.2.1)]
  refine SR 44 (decide ((↑u.ins.length : Int) < (1 : Int))) true (decide_eq_true (by omega)) ?_
  refine RR [] .z (.i 49 (.bool true) (.d (.d (.k .a)))) .a ?_
  refine RZ (NT (CT (SQ (RG ?_))))
  refine RR [] .z (.d (.k .a)) .a ?_
  refine RZ (NT (RE (TR ?_)))
  refine NE [] .z .a [] (.bool false) ?_
  exact ⟨rfl, rfl⟩
 rw [Decidable.not_not] at k6
 refine SR 44 (decide ((↑u.ins.length : Int) < (1 : Int))) false (decide_eq_false (by omega)) ?_
 refine RR [3] .z (.i 49 (.bool (decide ((↑u.ins.length : Int) > (4096 : Int)))) (.d (.d (.k .a)))) .a ?_
 refine RZ (NT ?_)
 by_cases k7 : ¬ u.ins.length ≤ 4096
 ·rw [hnh (fun h => k7 h.2.2.2.2.2.2.2)]
  refine SC 49 (decide ((↑u.ins.length : Int) > (4096 : Int))) true (decide_eq_true (by omega)) ?_
  refine CT (SQ (RG ?_))
  refine RR [] .z (.d (.d (.k .a))) .a ?_
  refine RZ (NT (RE (TR ?_)))
  refine NE [] .z .a [] (.bool false) ?_
  exact ⟨rfl, rfl⟩
 rw [Decidable.not_not] at k7
 have hhd : headU u.p = true := (headU_iff u.p).2 ⟨k0, k1, k2, k3, k4, k5, k6, k7⟩
 refine SC 49 (decide ((↑u.ins.length : Int) > (4096 : Int))) false (decide_eq_false (by omega)) ?_
 refine CF (SK (NT (SQ (SQ (RG ?_)))))
 refine RR [] .z (.i 5 (.int .i64 0) (.d (.d (.k .a)))) .a ?_
 refine RZ (NT (BK ?_))
 have hub : unitB c.p u.p = (u.vars.all (varB u.p) && u.ins.all (fitsB c.p u.p)) := by unfold unitB; rw [hhd]; rfl
 rw [hub]
 refine wpc_loop (X := {i : Nat // ∃ h : i ≤ u.vars.length, ∀ j, (hj : j < i) → varB u.p (u.vars[j]'(by omega)) = true}) (fun x => St.mk [(5, .int .i64 (x.1 : Int)), (4, .bool false), (3, .pointer (some ⟨g2, 0, none⟩)), (2, .pointer (some ⟨g1, 0, none⟩))]
  [ro u.ia (u.ins.flatMap insC), ro u.va (u.vars.flatMap varC), .blk g1 26 (coC c), .blk g2 59 [.string (mkS u.name), .int .i64 u.params, .int .i64 u.slots, .int .i64 u.stack, .bool u.result, .slice u.ia u.ins.length u.ic, .slice u.va u.vars.length u.vc]]) (fun x => u.vars.length - x.1) ⟨0, Nat.zero_le _, fun j h => absurd h (Nat.not_lt_zero _)⟩ (ent_fr (by kernel_rfl)) ?_
 rintro ⟨i, hi, hall⟩
 dsimp only at hi hall ⊢
 by_cases hlt : i < u.vars.length
 ·have hbad : varB u.p u.vars[i] = false → (u.vars.all (varB u.p) && u.ins.all (fitsB c.p u.p)) = false := fun h => by
   have : u.vars.all (varB u.p) = false := by
    cases h2 : u.vars.all (varB u.p) with
    | false => rfl
    | true => rw [List.all_eq_true.1 h2 _ (List.getElem_mem hlt)] at h; cases h
   rw [this]; rfl
  obtain ⟨w1, w2, w3, w4⟩ := hvo _ (List.getElem_mem hlt)
  have hnm := rName_spec u.vars[i].name w1
  refine wpc_fact (fun w h => ro_addr h 1 rfl (by rw [vars_len]; omega)) ?_
  rintro ⟨g0, o0, hva⟩
  rw [hva]
  refine SQ (SQ (RG ?_))
  refine RR [3] .z (.i 54 (.bool (decide ((↑i : Int) < (↑u.vars.length : Int)))) .a) (.k (.k (.u .a .a))) ?_
  refine RZ (NT ?_)
  refine SC 54 (decide ((↑i : Int) < (↑u.vars.length : Int))) true (decide_eq_true (by omega)) ?_
  refine CT (SK (NT (SQ (BK (SQ (RG ?_))))))
  refine RV true [3] (.d (.d (.d (.d .a)))) (.i 60 (.pointer (some ⟨g0, o0 + i * 4, none⟩)) (.d (.d (.k .a)))) (.k (.k (.u .a .a))) [(0 : Int) ≤ (↑i : Int) ∧ (↑i : Int) < (↑u.vars.length : Int)] ⟨by omega, trivial⟩ ?_
  refine wpr_eq (ld (t := 116) (a := ⟨g0, o0 + i * 4, none⟩) (dst := some 61) (by kernel_rfl) true 4 (by kernel_rfl) (by simp) (varC u.vars[i]) rfl (fun w h => ld_ro h 1 rfl (i * 4) (vars_at hlt))) ?_
  refine RP [] (.d .a) 6 (.i 61 (.agg #[.string (mkS u.vars[i].name), .int .i64 u.vars[i].slot, .int .i64 u.vars[i].fr, .int .i64 u.vars[i].to]) (.d (.d (.k .a)))) (.k (.k (.u .a .a))) 116 [.string ⟨#[]⟩, .int .i64 0, .int .i64 0, .int .i64 0] fun g3 => ?_
  refine RR [4, 4, 4, 4] .z (.k (.d (.k .a))) (.k (.k (.u .a (.k (.u (.i (.string (mkS u.vars[i].name)) (.i (.int .i64 u.vars[i].slot) (.i (.int .i64 u.vars[i].fr) (.i (.int .i64 u.vars[i].to) .z)))) .a))))) ?_
  refine RZ (NT (SQ (RG ?_)))
  refine RR [4] (.d (.d .a)) (.i 63 (.string (mkS u.vars[i].name)) .a) (.k (.k (.u .a .a))) ?_
  refine RC (dst := some 64) [] (.k (.k (.u .a .a))) (hnm) ?_
  rintro v _ ⟨rfl, rfl⟩
  cases k8 : nameB u.vars[i].name with
  | false =>
   rw [hbad (by unfold varB; rw [k8]; rfl)]
   refine RR [] .z (.i 93 (.bool true) (.d (.d (.d (.k .a))))) (.k (.k (.u .a .a))) ?_
   refine RZ (NT (CT (SQ (RG ?_))))
   refine RR [] .z (.i 4 (.bool false) (.d (.k (.d (.k .a))))) (.k (.k (.u .a .a))) ?_
   refine RZ (NT (RE (BR (TR (TR (BR (TR ?_)))))))
   refine NE [] .z (.k (.k (.u .a .a))) [] (.bool false) ?_
   exact ⟨rfl, rfl⟩
  | true =>
  refine RR [4, 3] (.d (.d (.d (.d (.d (.d .a)))))) (.i 70 (.int .i64 u.slots) (.i 68 (.int .i64 u.vars[i].slot) (.i 66 (.bool false) (.d (.d (.k .a)))))) (.k (.k (.u .a .a))) ?_
  refine RC (dst := some 71) [] (.k (.k (.u .a .a))) (rupto_spec u.vars[i].slot u.slots) ?_
  rintro v _ ⟨rfl, rfl⟩
  cases k9 : uptoB u.vars[i].slot u.slots with
  | false =>
   rw [hbad (by unfold varB UnV.p; dsimp only; rw [k9]; simp)]
   refine RR [] .z (.i 93 (.bool true) (.d (.d (.d (.d (.d (.k .a))))))) (.k (.k (.u .a .a))) ?_
   refine RZ (NT (CT (SQ (RG ?_))))
   refine RR [] .z (.i 4 (.bool false) (.d (.k (.d (.k .a))))) (.k (.k (.u .a .a))) ?_
   refine RZ (NT (RE (BR (TR (TR (BR (TR ?_)))))))
   refine NE [] .z (.k (.k (.u .a .a))) [] (.bool false) ?_
   exact ⟨rfl, rfl⟩
  | true =>
  refine RR [4] (.d (.d (.d (.d (.d (.d (.d (.d .a)))))))) (.i 79 (.bool (decide (u.vars[i].fr < (0 : Int)))) (.d (.d (.d (.d (.k .a)))))) (.k (.k (.u .a .a))) ?_
  by_cases k10 : ¬ 0 ≤ u.vars[i].fr
  ·rw [hbad (by unfold varB; rw [decide_eq_false k10]; simp)]
   refine SR 79 (decide (u.vars[i].fr < (0 : Int))) true (decide_eq_true (by omega)) ?_
   refine RR [] .z (.i 93 (.bool true) (.d (.d (.d (.k .a))))) (.k (.k (.u .a .a))) ?_
   refine RZ (NT (CT (SQ (RG ?_))))
   refine RR [] .z (.i 4 (.bool false) (.d (.k (.d (.k .a))))) (.k (.k (.u .a .a))) ?_
   refine RZ (NT (RE (BR (TR (TR (BR (TR ?_)))))))
   refine NE [] .z (.k (.k (.u .a .a))) [] (.bool false) ?_
   exact ⟨rfl, rfl⟩
  rw [Decidable.not_not] at k10
  refine SR 79 (decide (u.vars[i].fr < (0 : Int))) false (decide_eq_false (by omega)) ?_
  refine RR [4, 4] (.d (.d (.d (.d (.d (.d (.d .a))))))) (.i 86 (.bool (decide (u.vars[i].to < u.vars[i].fr))) (.d (.d (.k .a)))) (.k (.k (.u .a .a))) ?_
  by_cases k11 : ¬ u.vars[i].fr ≤ u.vars[i].to
  ·rw [hbad (by unfold varB; rw [decide_eq_false k11]; simp)]
   refine SR 86 (decide (u.vars[i].to < u.vars[i].fr)) true (decide_eq_true (by omega)) ?_
   refine RR [] .z (.i 93 (.bool true) (.d (.d (.d (.k .a))))) (.k (.k (.u .a .a))) ?_
   refine RZ (NT (CT (SQ (RG ?_))))
   refine RR [] .z (.i 4 (.bool false) (.d (.k (.d (.k .a))))) (.k (.k (.u .a .a))) ?_
   refine RZ (NT (RE (BR (TR (TR (BR (TR ?_)))))))
   refine NE [] .z (.k (.k (.u .a .a))) [] (.bool false) ?_
   exact ⟨rfl, rfl⟩
  rw [Decidable.not_not] at k11
  refine SR 86 (decide (u.vars[i].to < u.vars[i].fr)) false (decide_eq_false (by omega)) ?_
  refine RR [4, 3] .z (.i 93 (.bool (decide (u.vars[i].to > (↑u.ins.length : Int)))) (.d (.d (.d (.k .a))))) (.k (.k (.u .a .a))) ?_
  refine RZ (NT ?_)
  by_cases k12 : ¬ u.vars[i].to ≤ u.ins.length
  ·rw [hbad (by unfold varB UnV.p; dsimp only; rw [decide_eq_false k12]; simp)]
   refine SC 93 (decide (u.vars[i].to > (↑u.ins.length : Int))) true (decide_eq_true (by omega)) ?_
   refine CT (SQ (RG ?_))
   refine RR [] .z (.i 4 (.bool false) (.d (.d (.k (.d (.k .a)))))) (.k (.k (.u .a .a))) ?_
   refine RZ (NT (RE (BR (TR (TR (BR (TR ?_)))))))
   refine NE [] .z (.k (.k (.u .a .a))) [] (.bool false) ?_
   exact ⟨rfl, rfl⟩
  rw [Decidable.not_not] at k12
  refine SC 93 (decide (u.vars[i].to > (↑u.ins.length : Int))) false (decide_eq_false (by omega)) ?_
  refine CF (SK (BN (NT (RG ?_))))
  refine RV true [] .z (.i 5 (.int .i64 ((↑i : Int) + 1)) (.d (.d (.d (.k .a))))) (.k (.k (.u .a .a))) ([inI64 ((↑i : Int) + (1 : Int))]) ⟨by unfold inI64; omega, trivial⟩ ?_
  refine RZ ?_
  rw [← hva]
  exact fun a' w' hS' => ⟨⟨i + 1, hlt, fun j hj => by
     rcases Nat.lt_or_ge j i with h | h
     ·exact hall j h
     ·obtain rfl : j = i := by omega
      unfold varB UnV.p; dsimp only
      rw [k8, k9, decide_eq_true k10, decide_eq_true k11, decide_eq_true k12]; rfl⟩, by dsimp only; omega, ent_fr (by kernel_rfl) _ _ (ent_hp [0, 0, 0, 0] rfl _ _ hS')⟩
 ·obtain rfl : i = u.vars.length := by omega
  have hvall : u.vars.all (varB u.p) = true := List.all_eq_true.2 fun x hx => by
   obtain ⟨j, hj⟩ := List.getElem?_of_mem hx
   obtain ⟨hj1, rfl⟩ := List.getElem?_eq_some_iff.1 hj
   exact hall j (by omega)
  rw [hvall]
  refine SQ (SQ (RG ?_))
  refine RR [3] .z (.i 54 (.bool (decide ((↑u.vars.length : Int) < (↑u.vars.length : Int)))) .a) (.k (.k (.u .a .a))) ?_
  refine RZ (NT ?_)
  refine SC 54 (decide ((↑u.vars.length : Int) < (↑u.vars.length : Int))) false (by simp) ?_
  refine CF (EX (TE (TE (BH (NT (SQ (SQ (RG ?_))))))))
  refine RR [] .z (.i 7 (.int .i64 0) (.d (.d (.d (.k .a))))) (.k (.k (.u .a .a))) ?_
  refine RZ (NT (BK ?_))
  refine wpc_loop (X := {i : Nat // ∃ h : i ≤ u.ins.length, ∀ j, (hj : j < i) → fitsB c.p u.p (u.ins[j]'(by omega)) = true}) (fun x => St.mk [(7, .int .i64 (x.1 : Int)), (4, .bool false), (3, .pointer (some ⟨g2, 0, none⟩)), (2, .pointer (some ⟨g1, 0, none⟩))]
   [ro u.ia (u.ins.flatMap insC), ro u.va (u.vars.flatMap varC), .blk g1 26 (coC c), .blk g2 59 [.string (mkS u.name), .int .i64 u.params, .int .i64 u.slots, .int .i64 u.stack, .bool u.result, .slice u.ia u.ins.length u.ic, .slice u.va u.vars.length u.vc]]) (fun x => u.ins.length - x.1) ⟨0, Nat.zero_le _, fun j h => absurd h (Nat.not_lt_zero _)⟩ (ent_fr (by kernel_rfl)) ?_
  rintro ⟨i, hi, hall⟩
  dsimp only at hi hall ⊢
  by_cases hlt : i < u.ins.length
  ·refine wpc_fact (fun w h => ro_addr h 0 rfl (by rw [ins_len]; omega)) ?_
   rintro ⟨g0, o0, hva⟩
   have hf := rfits_spec c u u.ins[i]
   unfold coC unC at hf
   rw [hva] at hf
   rw [hva]
   refine SQ (SQ (RG ?_))
   refine RR [3] .z (.i 98 (.bool (decide ((↑i : Int) < (↑u.ins.length : Int)))) .a) (.k (.k (.u .a .a))) ?_
   refine RZ (NT ?_)
   refine SC 98 (decide ((↑i : Int) < (↑u.ins.length : Int))) true (decide_eq_true (by omega)) ?_
   refine CT (SK (NT (SQ (BK (SQ ?_)))))
   refine wpc_draw (by kernel_rfl) [ro (some ⟨g0, o0, none⟩) (List.flatMap insC u.ins), .blk g1 26 [.slice c.sa c.strs.length c.sc, .slice c.ha c.shapes.length c.hc, .slice c.ua c.units.length c.uc, .int .i64 c.main], .blk g2 59 [.string (mkS u.name), .int .i64 u.params, .int .i64 u.slots, .int .i64 u.stack, .bool u.result, .slice (some ⟨g0, o0, none⟩) u.ins.length u.ic, .slice u.va u.vars.length u.vc]] (sub_of [0, 2, 3] (by kernel_rfl)) 9 (by kernel_rfl) ?_
   refine wpa_take true [(0, [1, 1, 1, 1]), (1, [2, 2, 2, 2, 2, 2, 2]), (2, []), (3, [2]), (4, []), (5, [])] ([(106, .pointer (some ⟨g0, o0 + i * 2, none⟩)), (102, .agg #[.string (mkS u.name), .int .i64 u.params, .int .i64 u.slots, .int .i64 u.stack, .bool u.result, .slice (some ⟨g0, o0, none⟩) u.ins.length u.ic, .slice u.va u.vars.length u.vc]), (101, .agg #[.slice c.sa c.strs.length c.sc, .slice c.ha c.shapes.length c.hc, .slice c.ua c.units.length c.uc, .int .i64 c.main]), (7, .int .i64 (↑i : Int)), (4, .bool false), (3, .pointer (some ⟨g2, 0, none⟩)), (2, .pointer (some ⟨g1, 0, none⟩))]) (#[true, true, true, true, true, true, false, false, false]) [(0 : Int) ≤ (↑i : Int) ∧ (↑i : Int) < (↑u.ins.length : Int)] (n := 3) (by kernel_rfl) (by kernel_rfl) (by kernel_rfl) ⟨by omega, trivial⟩ ?_
   refine wpa_qld (i := 6) (n := 2) (by kernel_rfl) (by kernel_rfl) (by kernel_rfl) (t := 62) (a := ⟨g0, o0 + i * 2, none⟩) (dst := some 107) (by kernel_rfl) true 2 (by kernel_rfl) (by simp) (insC u.ins[i]) rfl (fun w h => ld_roL h 0 rfl (i * 2) (ins_at hlt)) ?_
   refine AC (dst := some 108) 1 7 (.k (.k (.u .a .a))) (hf) (GI []) [0, 2, 3] ?_
   rintro v _ ⟨rfl, rfl⟩
   cases hb : fitsB c.p u.p u.ins[i] with
   | false =>
    have hbad : u.ins.all (fitsB c.p u.p) = false := by
     cases h2 : u.ins.all (fitsB c.p u.p) with
     | false => rfl
     | true => rw [List.all_eq_true.1 h2 _ (List.getElem_mem hlt)] at hb; cases hb
    rw [hbad]
    refine TK 0 [(8, [])] (.i 109 (.bool true) (.d (.d (.d (.d (.d (.k .a))))))) (#[true, true, true, true, true, true, true, true, true]) ?_
    refine wpa_done 0 (by kernel_rfl) ?_
    refine NT (CT (SQ (RG ?_)))
    refine RR [] .z (.i 4 (.bool false) (.d (.k (.d (.k .a))))) (.k (.k (.u .a .a))) ?_
    refine RZ (NT (RE (BR (TR (TR (BR (TR ?_)))))))
    refine NE [] .z (.k (.k (.u .a .a))) [] (.bool false) ?_
    exact ⟨rfl, rfl⟩
   | true =>
    refine TK 0 [(8, [])] (.i 109 (.bool false) (.d (.d (.d (.d (.d (.k .a))))))) (#[true, true, true, true, true, true, true, true, true]) ?_
    refine wpa_done 0 (by kernel_rfl) ?_
    refine NT (CF (SK (BN (NT (RG ?_)))))
    refine RV true [] .z (.i 7 (.int .i64 ((↑i : Int) + 1)) (.d (.d (.k .a)))) (.k (.k (.u .a .a))) ([inI64 ((↑i : Int) + (1 : Int))]) ⟨by unfold inI64; omega, trivial⟩ ?_
    refine RZ ?_
    rw [← hva]
    exact fun a' w' hS' => ⟨⟨i + 1, hlt, fun j hj => by
              rcases Nat.lt_or_ge j i with h | h
              · exact hall j h
              · obtain rfl : j = i := by omega
                exact hb⟩, by dsimp only; omega, ent_fr (by kernel_rfl) _ _ (ent_hp [0, 0, 0, 0] rfl _ _ hS')⟩
  ·obtain rfl : i = u.ins.length := by omega
   have hok : u.ins.all (fitsB c.p u.p) = true := List.all_eq_true.2 fun x hx => by
    obtain ⟨j, hj⟩ := List.getElem?_of_mem hx
    obtain ⟨hj1, rfl⟩ := List.getElem?_eq_some_iff.1 hj
    exact hall j (by omega)
   rw [hok]
   refine SQ (SQ (RG ?_))
   refine RR [3] .z (.i 98 (.bool (decide ((↑u.ins.length : Int) < (↑u.ins.length : Int)))) .a) (.k (.k (.u .a .a))) ?_
   refine RZ (NT ?_)
   refine SC 98 (decide ((↑u.ins.length : Int) < (↑u.ins.length : Int))) false (by simp) ?_
   refine CF (EX (TE (TE (BH (NT (SQ (RG ?_)))))))
   refine RR [] .z (.i 4 (.bool true) .z) (.k (.k (.u .a .a))) ?_
   refine RZ (NT (RE ?_))
   refine NE [] .z (.k (.k (.u .a .a))) [] (.bool true) ?_
   exact ⟨rfl, rfl⟩
end Go.Proofs.YtgcfomhlgipllaaGreatDoor
namespace Go.Proofs.YtgcfomhlgipllaaGreatDoor
open Go Go.Sx
theorem ints_set {l : List Int} {k : Nat} (hk : k < l.length) (v : Int) : (ints l).take k ++ [.int .i64 v] ++ (ints l).drop (k + 1) = ints (l.set k v) := by
 rw [List.set_eq_take_append_cons_drop, if_pos hk]
 simp only [ints, List.map_append, List.map_cons, List.map_take, List.map_drop, List.append_assoc, List.singleton_append]
theorem ld_rowL {hs : Hp} {w : World} (h : HL hs w) (i : Nat) {T sz n cap g off : Nat} {xs : List Value} (hi : hs[i]? = some (row T sz (some ⟨g, off, none⟩) n cap xs)) (q : Nat) {vs : List Value} (hv : (xs.drop q).take vs.length = vs) : cellsAt w ⟨g, off + q, none⟩ vs :=
 ld_roL (hs := [ro (some ⟨g, off, none⟩) xs]) (fun c hc => by rw [List.mem_singleton.1 hc]; exact view_row.holds w (h _ (List.mem_of_getElem? hi))) 0 rfl q hv
set_option maxHeartbeats 16000000 in
theorem rheights_spec (c : CoV) (hul : c.units.length ≤ 1048576) (hsl : c.shapes.length ≤ 1048576) (hfl : ∀ s ∈ c.shapes, s.fields.length ≤ 1048576) (hpu : ∀ y ∈ c.units, 0 ≤ y.params ∧ y.params ≤ 8) (u : UnV) (hU : unitB c.p u.p = true) :
  Does Tryz.prog 44 [.agg (coC c).toArray, .agg (unC u).toArray] [ro c.ua (c.units.flatMap unC), ro c.ha (c.shapes.flatMap shC), ro u.ia (u.ins.flatMap insC)]
   (fun v hp' => if fineB (gr c.p u.p) = true then ∃ a k, v = .tuple #[.slice a u.ins.length k, .bool true] ∧ hp' = [row 3 1 a u.ins.length k (ints (htsL (gr c.p u.p)))] else v = .tuple #[.slice none 0 0, .bool false] ∧ hp' = []) := by
 obtain ⟨-, -, -, -, hst0, hst1, hn1, hn2⟩ := unitB_head hU
 have hfits := unitB_fits hU
 have hn1 : 1 ≤ u.ins.length := hn1
 have hn2 : u.ins.length ≤ 4096 := hn2
 rw [show coC c = [.slice c.sa c.strs.length c.sc, .slice c.ha c.shapes.length c.hc, .slice c.ua c.units.length c.uc, .int .i64 c.main] from rfl,
  show unC u = [.string (mkS u.name), .int .i64 u.params, .int .i64 u.slots, .int .i64 u.stack, .bool u.result, .slice u.ia u.ins.length u.ic, .slice u.va u.vars.length u.vc] from rfl]
 refine fn_enter Tryz.func44 rfl 155 rfl fun w0 h0 => ?_
 refine SQ (RG ?_)
 refine RP [] (.d .a) 2 (.d (.k .a)) .a 26 [.slice c.sa c.strs.length c.sc, .slice c.ha c.shapes.length c.hc, .slice c.ua c.units.length c.uc, .int .i64 c.main] fun g1 => ?_
 refine RP [] (.d .a) 3 (.k .z) .a 59 [.string (mkS u.name), .int .i64 u.params, .int .i64 u.slots, .int .i64 u.stack, .bool u.result, .slice u.ia u.ins.length u.ic, .slice u.va u.vars.length u.vc] fun g2 => ?_
 refine RR [] .z (.i 5 (.bool false) (.i 4 (.slice none 0 0) .a)) .a ?_
 refine RZ (NT (SQ (RG ?_)))
 refine RR [4] (.d (.d (.d .a))) (.i 18 (.int .i64 (↑u.ins.length : Int)) .a) .a ?_
 refine wpr_make (m := u.ins.length) (t := 29) (dst := some 19) (by kernel_rfl) (e := 3) (sz := 1) (bytes := 8) (by kernel_rfl) (by omega) (by omega) ?_
 intro gb zs hzs
 refine RR [] .z (.i 6 (.slice (some ⟨gb, 0, none⟩) u.ins.length u.ins.length) (.d (.d (.k .a)))) .a ?_
 refine RZ (NT (SQ (SQ (RG ?_))))
 refine RR [] .z (.i 7 (.int .i64 0) .a) .a ?_
 refine RZ (NT (BK ?_))
 refine wpc_loop (X := {x : Nat × List Value // x.1 ≤ u.ins.length ∧ x.1 + x.2.length = u.ins.length}) (fun x => St.mk [(7, .int .i64 (x.1.1 : Int)), (6, .slice (some ⟨gb, 0, none⟩) u.ins.length u.ins.length), (5, .bool false), (4, .slice none 0 0), (3, .pointer (some ⟨g2, 0, none⟩)), (2, .pointer (some ⟨g1, 0, none⟩))]
  [ro c.ua (c.units.flatMap unC), ro c.ha (c.shapes.flatMap shC), ro u.ia (u.ins.flatMap insC),
   .blk g1 26 [.slice c.sa c.strs.length c.sc, .slice c.ha c.shapes.length c.hc, .slice c.ua c.units.length c.uc, .int .i64 c.main],
   .blk g2 59 [.string (mkS u.name), .int .i64 u.params, .int .i64 u.slots, .int .i64 u.stack, .bool u.result, .slice u.ia u.ins.length u.ic, .slice u.va u.vars.length u.vc],
   row 3 1 (some ⟨gb, 0, none⟩) u.ins.length u.ins.length (ints (List.replicate x.1.1 (-1)) ++ x.1.2)]) (fun x => u.ins.length - x.1.1) ⟨(0, zs), Nat.zero_le _, by dsimp only; omega⟩ (ent_fr (by kernel_rfl)) ?_
 rintro ⟨⟨i, ys⟩, hi, hys⟩
 dsimp only at hi hys ⊢
 by_cases hlt : i < u.ins.length
 ·refine SQ (SQ (RG ?_))
  refine RR [] .z (.i 23 (.bool (decide ((↑i : Int) < (↑u.ins.length : Int)))) .a) .a ?_
  refine RZ (NT ?_)
  refine SC 23 (decide ((↑i : Int) < (↑u.ins.length : Int))) true (decide_eq_true (by omega)) ?_
  refine CT (SK (NT (SQ (BK (RG ?_)))))
  refine RV true [] (.d (.d (.d .a))) (.i 28 (.pointer (some ⟨gb, 0 + i * 1, none⟩)) (.d (.d (.k .a)))) .a [(0 : Int) ≤ (↑i : Int) ∧ (↑i : Int) < (↑u.ins.length : Int)] ⟨by omega, trivial⟩ ?_
  refine wpr_eq (stq' (t := 3) (g := gb) (off := 0) (q := (i * 1)) (v := (.int .i64 (-1))) (dst := none) (by kernel_rfl) 5 (T := 3) (sz := 1) (n := u.ins.length) (cap := u.ins.length) (xs := (ints (List.replicate i (-1)) ++ ys)) (by kernel_rfl) [.int .i64 (-1)] (by kernel_rfl) (by kernel_rfl) (by simp [Go.Sx.One, Value.oneCell']) (by simp [ints]; omega) (xs' := (ints (List.replicate (i + 1) (-1)) ++ ys.drop 1)) (by
     rw [Nat.mul_one, List.take_left' (by rw [ints_len, List.length_replicate]), ← List.drop_drop, List.drop_left' (by rw [ints_len, List.length_replicate]), List.replicate_succ']
     simp [ints])) ?_
  refine RZ (BN (NT (RG ?_)))
  refine RV true [] .z (.i 7 (.int .i64 ((↑i : Int) + 1)) (.d (.d (.k .a)))) .a ([inI64 ((↑i : Int) + (1 : Int))]) ⟨by unfold inI64; omega, trivial⟩ ?_
  refine RZ ?_
  exact fun a' w' hS' => ⟨⟨(i + 1, ys.drop 1), hlt, by rw [List.length_drop]; omega⟩, by dsimp only; omega, ent_fr (by kernel_rfl) _ _ (ent_hp [0, 0, 0, 0, 0, 0] rfl _ _ hS')⟩
 obtain rfl : i = u.ins.length := by omega
 obtain rfl : ys = [] := List.eq_nil_of_length_eq_zero (by omega)
 rw [List.append_nil]
 refine SQ (SQ (RG ?_))
 refine RR [] .z (.i 23 (.bool (decide ((↑u.ins.length : Int) < (↑u.ins.length : Int)))) .a) .a ?_
 refine RZ (NT ?_)
 refine SC 23 (decide ((↑u.ins.length : Int) < (↑u.ins.length : Int))) false (by simp) ?_
 refine CF (EX (TE (TE (BH (NT (SQ (RG ?_)))))))
 refine RV true [] (.d (.d .a)) (.i 30 (.pointer (some ⟨gb, 0, none⟩)) (.d (.d (.d (.k .a))))) .a [(0 : Int) ≤ (0 : Int) ∧ (0 : Int) < (↑u.ins.length : Int)] ⟨by omega, trivial⟩ ?_
 refine wpr_eq (stq' (t := 3) (g := gb) (off := 0) (q := 0) (v := (.int .i64 0)) (dst := none) (by kernel_rfl) 5 (T := 3) (sz := 1) (n := u.ins.length) (cap := u.ins.length) (xs := (ints (List.replicate u.ins.length (-1)))) (by kernel_rfl) [.int .i64 0] (by kernel_rfl) (by kernel_rfl) (by simp [Go.Sx.One, Value.oneCell']) (by simp [ints]; omega) (xs' := (ints ((List.replicate u.ins.length (-1)).set 0 0))) (by
   exact ints_set (by rw [List.length_replicate]; omega) 0)) ?_
 refine RZ (NT (SQ (SQ (RG ?_))))
 refine RR [] .z (.i 8 (.bool true) (.d (.k .a))) .a ?_
 refine RZ (NT (BK ?_))
 refine wpc_loop (X := {x : List Int × Bool // RInv (gr c.p u.p) x.1 ∧ (x.2 = false → ∀ k, k < x.1.length → Shut (gr c.p u.p) x.1 k) ∧ ∀ v ∈ x.1, v ≤ 256}) (fun x => St.mk [(8, .bool x.1.2), (6, .slice (some ⟨gb, 0, none⟩) u.ins.length u.ins.length), (5, .bool false), (4, .slice none 0 0), (3, .pointer (some ⟨g2, 0, none⟩)), (2, .pointer (some ⟨g1, 0, none⟩))]
  [ro c.ua (c.units.flatMap unC), ro c.ha (c.shapes.flatMap shC), ro u.ia (u.ins.flatMap insC),
   .blk g1 26 [.slice c.sa c.strs.length c.sc, .slice c.ha c.shapes.length c.hc, .slice c.ua c.units.length c.uc, .int .i64 c.main],
   .blk g2 59 [.string (mkS u.name), .int .i64 u.params, .int .i64 u.slots, .int .i64 u.stack, .bool u.result, .slice u.ia u.ins.length u.ic, .slice u.va u.vars.length u.vc],
   row 3 1 (some ⟨gb, 0, none⟩) u.ins.length u.ins.length (ints x.1.1)]) (fun x => 2 * unset (setN x.1.1) u.ins.length + x.1.2.toNat) ⟨((List.replicate u.ins.length (-1)).set 0 0, true), rinv_first (g := gr c.p u.p) rfl (by omega), (fun h => by cases h), fun v hv => by
   rcases List.mem_or_eq_of_mem_set hv with h | h
   ·rw [List.eq_of_mem_replicate h]; decide
   ·rw [h]; decide⟩ (ent_fr (by kernel_rfl)) ?_
 rintro ⟨⟨l0, again⟩, hinv, hsh, hbd⟩
 dsimp only at hinv hsh hbd ⊢
 have hl0 : (l0.length : Int) = u.ins.length := hinv.len
 have hl0 : l0.length = u.ins.length := by omega
 cases again with
 | false =>
  have hF := rinv_fine hinv (hsh rfl)
  have hE := rinv_hts hinv (hsh rfl)
  rw [fineB_t hF]
  refine SQ (SQ (RG ?_))
  refine RR [] .z (.i 31 (.bool false) .a) .a ?_
  refine RZ (NT (CF (EX (TE (TE (BH (NT (SQ (RG ?_)))))))))
  refine RR [] .z (.i 5 (.bool true) (.i 4 (.slice (some ⟨gb, 0, none⟩) u.ins.length u.ins.length) .z)) .a ?_
  refine RZ (NT (RE ?_))
  refine NE [5] (.d (.d (.d (.d (.d (.k .a)))))) (.k (.k (.k (.k (.k .z))))) [] (.tuple #[.slice (some ⟨gb, 0, none⟩) u.ins.length u.ins.length, .bool true]) ?_
  rw [if_pos rfl, ← hE]
  exact ⟨_, _, rfl, rfl⟩
 | true =>
  refine SQ (SQ (RG ?_))
  refine RR [] .z (.i 31 (.bool true) .a) .a ?_
  refine RZ (NT (CT (SK (NT (BK (SQ (RG ?_)))))))
  refine RR [] .z (.i 8 (.bool false) (.d (.d (.k .a)))) .a ?_
  refine RZ (NT (SQ (RG ?_)))
  refine RR [] .z (.i 9 (.int .i64 0) .a) .a ?_
  refine RZ (NT (BK ?_))
  refine wpc_loop (X := {x : Nat × List Int × Bool // RInv (gr c.p u.p) x.2.1 ∧ x.1 ≤ u.ins.length ∧ (∀ v ∈ x.2.1, v ≤ 256) ∧ (x.2.2 = true → unset (setN x.2.1) u.ins.length < unset (setN l0) u.ins.length) ∧ (x.2.2 = false → x.2.1 = l0 ∧ ∀ k, k < x.1 → Shut (gr c.p u.p) l0 k)}) (fun x => St.mk [(9, .int .i64 (x.1.1 : Int)), (8, .bool x.1.2.2), (6, .slice (some ⟨gb, 0, none⟩) u.ins.length u.ins.length), (5, .bool false), (4, .slice none 0 0), (3, .pointer (some ⟨g2, 0, none⟩)), (2, .pointer (some ⟨g1, 0, none⟩))]
   [ro c.ua (c.units.flatMap unC), ro c.ha (c.shapes.flatMap shC), ro u.ia (u.ins.flatMap insC),
   .blk g1 26 [.slice c.sa c.strs.length c.sc, .slice c.ha c.shapes.length c.hc, .slice c.ua c.units.length c.uc, .int .i64 c.main],
   .blk g2 59 [.string (mkS u.name), .int .i64 u.params, .int .i64 u.slots, .int .i64 u.stack, .bool u.result, .slice u.ia u.ins.length u.ic, .slice u.va u.vars.length u.vc],
   row 3 1 (some ⟨gb, 0, none⟩) u.ins.length u.ins.length (ints x.1.2.1)]) (fun x => u.ins.length - x.1.1) ⟨(0, l0, false), hinv, Nat.zero_le _, hbd, (fun h => by cases h), fun _ => ⟨rfl, fun k h => absurd h (Nat.not_lt_zero _)⟩⟩ (ent_fr (by kernel_rfl)) ?_
  rintro ⟨⟨k, l, b⟩, hinv, hk, hbd, hb1, hb0⟩
  dsimp only at hinv hk hbd hb1 hb0 ⊢
  have hl : (l.length : Int) = u.ins.length := hinv.len
  have hl : l.length = u.ins.length := by omega
  by_cases hlt : k < u.ins.length
  ·have hkl : k < l.length := by omega
   refine SQ (SQ (RG ?_))
   refine RR [] .z (.i 35 (.bool (decide ((↑k : Int) < (↑u.ins.length : Int)))) .a) .a ?_
   refine RZ (NT ?_)
   refine SC 35 (decide ((↑k : Int) < (↑u.ins.length : Int))) true (decide_eq_true (by omega)) ?_
   refine CT (SK (NT (SQ (BK (SQ (SQ (RG ?_)))))))
   refine RV true [] (.d (.d (.d .a))) (.i 40 (.pointer (some ⟨gb, 0 + k * 1, none⟩)) (.d (.d (.k .a)))) .a [(0 : Int) ≤ (↑k : Int) ∧ (↑k : Int) < (↑u.ins.length : Int)] ⟨by omega, trivial⟩ ?_
   refine wpr_eq (ld (t := 3) (a := ⟨gb, 0 + k * 1, none⟩) (dst := some 41) (by kernel_rfl) false 1 (by kernel_rfl) (by simp) [.int .i64 l[k]] rfl (fun w h => ld_row h 5 rfl (k * 1) (ints_at hkl))) ?_
   by_cases hneg : l[k] < 0
   ·refine RR [] .z (.i 42 (.bool (decide (l[k] < (0 : Int)))) (.d (.d (.k .a)))) .a ?_
    refine RZ (NT ?_)
    refine SC 42 (decide (l[k] < (0 : Int))) true (decide_eq_true (by omega)) ?_
    refine CT (EX (TE (BH (NT (RG ?_)))))
    refine RV true [] .z (.i 9 (.int .i64 ((↑k : Int) + 1)) (.d (.d (.d (.k .a))))) .a ([inI64 ((↑k : Int) + (1 : Int))]) ⟨by unfold inI64; omega, trivial⟩ ?_
    refine RZ ?_
    exact fun a' w' hS' => ⟨⟨(k + 1, l, b), hinv, hlt, hbd, hb1, fun h => ⟨(hb0 h).1, fun j hj => by
              rcases Nat.lt_or_ge j k with h1 | h1
              · exact (hb0 h).2 j h1
              · obtain rfl : j = k := by omega
                intro v hv h0
                rw [← (hb0 h).1, List.getElem?_eq_getElem hkl] at hv
                cases hv
                omega⟩⟩, by dsimp only; omega, ent_fr (by kernel_rfl) _ _ (ent_hp [0, 0, 0, 0, 0, 0] rfl _ _ hS')⟩
   obtain ⟨v, hv⟩ : ∃ v, v = l[k] := ⟨_, rfl⟩
   have hR := hinv.reach k hkl (by omega)
   have hvb : v ≤ 256 := hv ▸ hbd _ (List.getElem_mem hkl)
   rw [← hv] at hneg hR
   have hxi : insAt u.p (k : Int) = u.ins[k] := insAt_eq hlt
   have hf := hfits u.ins[k] (List.getElem_mem hlt)
   have htk := mvs_take c hfl hpu hf
   have hpt := mvs_put c.p u.ins[k]
   obtain ⟨⟨op, aa⟩, hxe⟩ : ∃ x, x = u.ins[k] := ⟨_, rfl⟩
   have hat : ((u.ins.flatMap insC).drop (k * 2)).take 2 = insC (op, aa) := by rw [ins_at hlt, hxe]
   rw [← hxe] at hf hxi htk hpt
   have hmv := rmoves_spec c hul hsl hfl op aa (fun e => by have := fits_call hf e; exact ⟨this.1, by have h2 : aa < ((c.units.map UnV.p).length : Int) := this.2; rw [List.length_map] at h2; exact h2⟩) (fun e => by have := fits_new hf e; exact ⟨this.1, by have h2 : aa < ((c.shapes.map ShV.p).length : Int) := this.2; rw [List.length_map] at h2; exact h2⟩)
   refine wpr_fact (fun w h => ro_addr h 2 rfl (by rw [ins_len]; omega)) ?_
   rintro ⟨g9, o9, hia⟩
   rw [hia]
   refine RR [] .z (.i 42 (.bool (decide (l[k] < (0 : Int)))) (.d (.d (.k .a)))) .a ?_
   refine RZ (NT ?_)
   refine SC 42 (decide (l[k] < (0 : Int))) false (decide_eq_false (by omega)) ?_
   refine CF (SK (NT (SQ (RG ?_))))
   refine RV true [4] (.d (.d (.d (.d .a)))) (.i 46 (.pointer (some ⟨g9, o9 + k * 2, none⟩)) (.d (.d (.k .a)))) .a [(0 : Int) ≤ (↑k : Int) ∧ (↑k : Int) < (↑u.ins.length : Int)] ⟨by omega, trivial⟩ ?_
   refine wpr_eq (ld (t := 62) (a := ⟨g9, o9 + k * 2, none⟩) (dst := some 47) (by kernel_rfl) true 2 (by kernel_rfl) (by simp) (insC (op, aa)) rfl (fun w h => ld_ro h 2 rfl (k * 2) hat)) ?_
   refine RP [] (.d .a) 10 (.i 47 (.agg #[.int .i64 op, .int .i64 aa]) (.d (.d (.k .a)))) .a 62 [.int .i64 0, .int .i64 0] fun g3 => ?_
   refine RR [6, 6] .z (.k (.d (.k .a))) (.k (.k (.k (.k (.k (.k (.u (.i (.int .i64 op) (.i (.int .i64 aa) .z)) .a))))))) ?_
   refine RZ (NT (SQ (RG ?_)))
   refine RR [3, 3, 3, 3, 6, 6] (.d (.d .a)) (.i 50 (.agg #[.int .i64 op, .int .i64 aa]) (.i 49 (.agg #[.slice c.sa c.strs.length c.sc, .slice c.ha c.shapes.length c.hc, .slice c.ua c.units.length c.uc, .int .i64 c.main]) .a)) .a ?_
   rw [← hia]
   refine RCG (dst := some 51) .a (hmv) (GV (GV (GI []) 1 view_ro) 0 view_ro) ?_
   rintro v' _ ⟨rfl, rfl⟩
   have hnx : (gr c.p u.p).nx (k : Int) = nxP (op, aa) k := by show nxP (insAt u.p (k : Int)) k = _; rw [hxi]
   have hokE : (gr c.p u.p).ok (k : Int) v = okP c.p u.p (op, aa) v := by show okP c.p u.p (insAt u.p (k : Int)) v = _; rw [hxi]
   obtain ⟨T, hT⟩ : ∃ T, T = (mvs c.p (op, aa)).1 := ⟨_, rfl⟩
   obtain ⟨W, hW⟩ : ∃ W, W = (mvs c.p (op, aa)).2 := ⟨_, rfl⟩
   rw [← hT] at htk ⊢
   rw [← hW] at hpt ⊢
   have hlf : (gr c.p u.p).lf (k : Int) v = v - T + W := by show leftP c.p (insAt u.p (k : Int)) v = _; rw [hxi, hT, hW]; rfl
   have hokP : okP c.p u.p (op, aa) v = (decide (T ≤ v) && decide (v - T + W ≤ u.stack) && (!decide (op = 0) || decide (v = 0)) && (!decide (op = 23) || decide (v = aa))) := by
    unfold okP leftP; rw [← hT, ← hW]; rfl
   have hbad : okP c.p u.p (op, aa) v = false → fineB (gr c.p u.p) = false := fun e => fineB_f (not_fine_ok hR (hokE.trans e))
   obtain ⟨L, hL⟩ : ∃ L, L = v - T + W := ⟨_, rfl⟩
   rw [← hL] at hlf hokP
   have hst1 : u.stack ≤ 256 := hst1
   have hatv : ((ints l).drop (k * 1)).take 1 = [.int .i64 v] := by rw [hv]; exact ints_at hkl
   refine RR [] .z (.i 12 (.int .i64 W) (.i 11 (.int .i64 T) (.d (.d (.d (.k .a)))))) .a ?_
   refine RZ (NT (SQ (RG ?_)))
   refine RV true [] (.d (.d (.d .a))) (.i 56 (.pointer (some ⟨gb, 0 + k * 1, none⟩)) .a) .a [(0 : Int) ≤ (↑k : Int) ∧ (↑k : Int) < (↑u.ins.length : Int)] ⟨by omega, trivial⟩ ?_
   refine wpr_eq (ld (t := 3) (a := ⟨gb, 0 + k * 1, none⟩) (dst := some 57) (by kernel_rfl) false 1 (by kernel_rfl) (by simp) [.int .i64 v] rfl (fun w h => ld_row h 5 rfl (k * 1) hatv)) ?_
   refine RV true [] .z (.i 13 (.int .i64 (v - T + W)) (.d (.d (.d (.k .a))))) .a ([inI64 (v - T), inI64 (v - T + W)]) ⟨by unfold inI64; omega, by unfold inI64; omega, trivial⟩ ?_
   refine RZ (NT (SQ (SQ ?_)))
   rw [← hL]
   by_cases kA : ¬ T ≤ v
   ·rw [hbad (by rw [hokP, decide_eq_false kA]; rfl)]
    refine wpc_draw (by kernel_rfl) [.blk g2 59 [.string (mkS u.name), .int .i64 u.params, .int .i64 u.slots, .int .i64 u.stack, .bool u.result, .slice u.ia u.ins.length u.ic, .slice u.va u.vars.length u.vc], row 3 1 (some ⟨gb, 0, none⟩) u.ins.length u.ins.length (ints l), .blk g3 62 [.int .i64 op, .int .i64 aa]] (sub_of [4, 5, 6] (by kernel_rfl)) 40 (by kernel_rfl) ?_
    refine wpa_take true [(0, []), (1, []), (2, []), (4, [])] ([(66, .int .i64 T), (64, .pointer (some ⟨gb, 0 + k * 1, none⟩)), (13, .int .i64 L), (10, .pointer (some ⟨g3, 0, none⟩)), (9, .int .i64 (↑k : Int)), (8, .bool b), (6, .slice (some ⟨gb, 0, none⟩) u.ins.length u.ins.length), (5, .bool false), (4, .slice none 0 0), (3, .pointer (some ⟨g2, 0, none⟩)), (2, .pointer (some ⟨g1, 0, none⟩))]) (#[true, true, true, false, true, false, false, false, false, false, false, false, false, false, false, false, false, false, false, false, false, false, false, false, false, false, false, false, false, false, false, false, false, false, false, false, false, false, false, false]) [(0 : Int) ≤ (↑k : Int) ∧ (↑k : Int) < (↑u.ins.length : Int)] (n := 36) (by kernel_rfl) (by kernel_rfl) (by kernel_rfl) ⟨by omega, trivial⟩ ?_
    refine wpa_qld (i := 3) (n := 35) (by kernel_rfl) (by kernel_rfl) (by kernel_rfl) (t := 3) (a := ⟨gb, 0 + k * 1, none⟩) (dst := some 65) (by kernel_rfl) false 1 (by kernel_rfl) (by simp) [.int .i64 v] rfl (fun w h => ld_rowL h 1 rfl (k * 1) hatv) ?_
    refine TK 33 [(5, []), (6, [])] (.i 68 (.bool (decide (v < T))) (.d (.d (.d (.k .a))))) (#[true, true, true, true, true, true, true, false, false, false, false, false, false, false, false, false, false, false, false, false, false, false, false, false, false, false, false, false, false, false, false, false, false, false, false, false, false, false, false, false]) ?_
    refine SA 68 (decide (v < T)) true (decide_eq_true (by omega)) ?_
    refine TK 0 [(7, []), (8, []), (9, []), (10, []), (11, []), (12, []), (13, []), (14, []), (15, []), (16, []), (17, []), (18, []), (19, []), (20, []), (21, []), (22, []), (23, []), (24, []), (25, []), (26, []), (27, []), (28, []), (29, []), (30, []), (31, []), (32, []), (33, []), (34, []), (35, []), (36, []), (37, []), (38, []), (39, [])] (.i 101 (.bool true) (.d (.d (.k .a)))) (#[true, true, true, true, true, true, true, true, true, true, true, true, true, true, true, true, true, true, true, true, true, true, true, true, true, true, true, true, true, true, true, true, true, true, true, true, true, true, true, true]) ?_
    refine wpa_done 0 (by kernel_rfl) ?_
    refine NT (CT (SQ (RG ?_)))
    refine RR [] .z (.i 5 (.bool false) (.i 4 (.slice none 0 0) (.d (.k (.k (.k (.k (.k (.d (.d (.k .a))))))))))) .a ?_
    refine RZ (NT (RE (TR (BR (TR (TR (BR (BR (TR (BR (TR ?_)))))))))))
    refine NE [] .z .a [] (.tuple #[.slice none 0 0, .bool false]) ?_
    rw [if_neg (by decide)]
    exact ⟨rfl, rfl⟩
   rw [Decidable.not_not] at kA
   by_cases kB : ¬ L ≤ u.stack
   ·rw [hbad (by rw [hokP, decide_eq_false kB]; simp)]
    refine wpc_draw (by kernel_rfl) [.blk g2 59 [.string (mkS u.name), .int .i64 u.params, .int .i64 u.slots, .int .i64 u.stack, .bool u.result, .slice u.ia u.ins.length u.ic, .slice u.va u.vars.length u.vc], row 3 1 (some ⟨gb, 0, none⟩) u.ins.length u.ins.length (ints l), .blk g3 62 [.int .i64 op, .int .i64 aa]] (sub_of [4, 5, 6] (by kernel_rfl)) 40 (by kernel_rfl) ?_
    refine wpa_take true [(0, []), (1, []), (2, []), (4, [])] ([(66, .int .i64 T), (64, .pointer (some ⟨gb, 0 + k * 1, none⟩)), (13, .int .i64 L), (10, .pointer (some ⟨g3, 0, none⟩)), (9, .int .i64 (↑k : Int)), (8, .bool b), (6, .slice (some ⟨gb, 0, none⟩) u.ins.length u.ins.length), (5, .bool false), (4, .slice none 0 0), (3, .pointer (some ⟨g2, 0, none⟩)), (2, .pointer (some ⟨g1, 0, none⟩))]) (#[true, true, true, false, true, false, false, false, false, false, false, false, false, false, false, false, false, false, false, false, false, false, false, false, false, false, false, false, false, false, false, false, false, false, false, false, false, false, false, false]) [(0 : Int) ≤ (↑k : Int) ∧ (↑k : Int) < (↑u.ins.length : Int)] (n := 36) (by kernel_rfl) (by kernel_rfl) (by kernel_rfl) ⟨by omega, trivial⟩ ?_
    refine wpa_qld (i := 3) (n := 35) (by kernel_rfl) (by kernel_rfl) (by kernel_rfl) (t := 3) (a := ⟨gb, 0 + k * 1, none⟩) (dst := some 65) (by kernel_rfl) false 1 (by kernel_rfl) (by simp) [.int .i64 v] rfl (fun w h => ld_rowL h 1 rfl (k * 1) hatv) ?_
    refine TK 33 [(5, []), (6, [])] (.i 68 (.bool (decide (v < T))) (.d (.d (.d (.k .a))))) (#[true, true, true, true, true, true, true, false, false, false, false, false, false, false, false, false, false, false, false, false, false, false, false, false, false, false, false, false, false, false, false, false, false, false, false, false, false, false, false, false]) ?_
    refine SA 68 (decide (v < T)) false (decide_eq_false (by omega)) ?_
    refine TK 27 [(7, []), (8, []), (9, [0]), (10, []), (11, []), (12, [])] (.i 74 (.bool (decide (L > u.stack))) (.d (.d (.k .a)))) (#[true, true, true, true, true, true, true, true, true, true, true, true, true, false, false, false, false, false, false, false, false, false, false, false, false, false, false, false, false, false, false, false, false, false, false, false, false, false, false, false]) ?_
    refine SA 74 (decide (L > u.stack)) true (decide_eq_true (by omega)) ?_
    refine TK 0 [(13, []), (14, []), (15, []), (16, []), (17, []), (18, []), (19, []), (20, []), (21, []), (22, []), (23, []), (24, []), (25, []), (26, []), (27, []), (28, []), (29, []), (30, []), (31, []), (32, []), (33, []), (34, []), (35, []), (36, []), (37, []), (38, []), (39, [])] (.i 101 (.bool true) (.d (.d (.k .a)))) (#[true, true, true, true, true, true, true, true, true, true, true, true, true, true, true, true, true, true, true, true, true, true, true, true, true, true, true, true, true, true, true, true, true, true, true, true, true, true, true, true]) ?_
    refine wpa_done 0 (by kernel_rfl) ?_
    refine NT (CT (SQ (RG ?_)))
    refine RR [] .z (.i 5 (.bool false) (.i 4 (.slice none 0 0) (.d (.k (.k (.k (.k (.k (.d (.d (.k .a))))))))))) .a ?_
    refine RZ (NT (RE (TR (BR (TR (TR (BR (BR (TR (BR (TR ?_)))))))))))
    refine NE [] .z .a [] (.tuple #[.slice none 0 0, .bool false]) ?_
    rw [if_neg (by decide)]
    exact ⟨rfl, rfl⟩
   rw [Decidable.not_not] at kB
   by_cases kC : op = 0 ∧ v ≠ 0
   ·rw [hbad (by rw [hokP, decide_eq_true kC.1, decide_eq_false kC.2]; simp)]
    obtain ⟨kC1, kC2⟩ := kC
    subst kC1
    refine wpc_draw (by kernel_rfl) [.blk g2 59 [.string (mkS u.name), .int .i64 u.params, .int .i64 u.slots, .int .i64 u.stack, .bool u.result, .slice u.ia u.ins.length u.ic, .slice u.va u.vars.length u.vc], row 3 1 (some ⟨gb, 0, none⟩) u.ins.length u.ins.length (ints l), .blk g3 62 [.int .i64 0, .int .i64 aa]] (sub_of [4, 5, 6] (by kernel_rfl)) 40 (by kernel_rfl) ?_
    refine wpa_take true [(0, []), (1, []), (2, []), (4, [])] ([(66, .int .i64 T), (64, .pointer (some ⟨gb, 0 + k * 1, none⟩)), (13, .int .i64 L), (10, .pointer (some ⟨g3, 0, none⟩)), (9, .int .i64 (↑k : Int)), (8, .bool b), (6, .slice (some ⟨gb, 0, none⟩) u.ins.length u.ins.length), (5, .bool false), (4, .slice none 0 0), (3, .pointer (some ⟨g2, 0, none⟩)), (2, .pointer (some ⟨g1, 0, none⟩))]) (#[true, true, true, false, true, false, false, false, false, false, false, false, false, false, false, false, false, false, false, false, false, false, false, false, false, false, false, false, false, false, false, false, false, false, false, false, false, false, false, false]) [(0 : Int) ≤ (↑k : Int) ∧ (↑k : Int) < (↑u.ins.length : Int)] (n := 36) (by kernel_rfl) (by kernel_rfl) (by kernel_rfl) ⟨by omega, trivial⟩ ?_
    refine wpa_qld (i := 3) (n := 35) (by kernel_rfl) (by kernel_rfl) (by kernel_rfl) (t := 3) (a := ⟨gb, 0 + k * 1, none⟩) (dst := some 65) (by kernel_rfl) false 1 (by kernel_rfl) (by simp) [.int .i64 v] rfl (fun w h => ld_rowL h 1 rfl (k * 1) hatv) ?_
    refine TK 33 [(5, []), (6, [])] (.i 68 (.bool (decide (v < T))) (.d (.d (.d (.k .a))))) (#[true, true, true, true, true, true, true, false, false, false, false, false, false, false, false, false, false, false, false, false, false, false, false, false, false, false, false, false, false, false, false, false, false, false, false, false, false, false, false, false]) ?_
    refine SA 68 (decide (v < T)) false (decide_eq_false (by omega)) ?_
    refine TK 27 [(7, []), (8, []), (9, [0]), (10, []), (11, []), (12, [])] (.i 74 (.bool (decide (L > u.stack))) (.d (.d (.k .a)))) (#[true, true, true, true, true, true, true, true, true, true, true, true, true, false, false, false, false, false, false, false, false, false, false, false, false, false, false, false, false, false, false, false, false, false, false, false, false, false, false, false]) ?_
    refine SA 74 (decide (L > u.stack)) false (decide_eq_false (by omega)) ?_
    refine TK 25 [(13, []), (14, [2])] (.i 76 (.int .i64 0) (.k (.d (.k .a)))) (#[true, true, true, true, true, true, true, true, true, true, true, true, true, true, true, false, false, false, false, false, false, false, false, false, false, false, false, false, false, false, false, false, false, false, false, false, false, false, false, false]) ?_
    refine AC (dst := some 77) 24 15 .a (rname_spec 0) (GI []) [4, 5, 6] ?_
    rintro v' _ ⟨rfl, rfl⟩
    refine wpa_take true [(16, []), (17, []), (18, []), (19, []), (20, [])] ([(82, .pointer (some ⟨gb, 0 + k * 1, none⟩)), (79, .bool true), (74, .bool false), (13, .int .i64 L), (10, .pointer (some ⟨g3, 0, none⟩)), (9, .int .i64 (↑k : Int)), (8, .bool b), (6, .slice (some ⟨gb, 0, none⟩) u.ins.length u.ins.length), (5, .bool false), (4, .slice none 0 0), (3, .pointer (some ⟨g2, 0, none⟩)), (2, .pointer (some ⟨g1, 0, none⟩))]) (#[true, true, true, true, true, true, true, true, true, true, true, true, true, true, true, true, true, true, true, true, true, false, false, false, false, false, false, false, false, false, false, false, false, false, false, false, false, false, false, false]) [(0 : Int) ≤ (↑k : Int) ∧ (↑k : Int) < (↑u.ins.length : Int)] (n := 19) (by kernel_rfl) (by kernel_rfl) (by kernel_rfl) ⟨by omega, trivial⟩ ?_
    refine wpa_qld (i := 21) (n := 18) (by kernel_rfl) (by kernel_rfl) (by kernel_rfl) (t := 3) (a := ⟨gb, 0 + k * 1, none⟩) (dst := some 83) (by kernel_rfl) false 1 (by kernel_rfl) (by simp) [.int .i64 v] rfl (fun w h => ld_rowL h 1 rfl (k * 1) hatv) ?_
    refine TK 14 [(22, []), (23, []), (24, []), (25, [])] (.i 87 (.bool (v != (0 : Int))) (.d (.d (.d (.d (.k .a)))))) (#[true, true, true, true, true, true, true, true, true, true, true, true, true, true, true, true, true, true, true, true, true, true, true, true, true, true, false, false, false, false, false, false, false, false, false, false, false, false, false, false]) ?_
    refine SA 87 (v != (0 : Int)) true (by simp only [bne_iff_ne, beq_iff_eq, ne_eq]; omega) ?_
    refine TK 0 [(26, []), (27, []), (28, []), (29, []), (30, []), (31, []), (32, []), (33, []), (34, []), (35, []), (36, []), (37, []), (38, []), (39, [])] (.i 101 (.bool true) (.d (.d (.k .a)))) (#[true, true, true, true, true, true, true, true, true, true, true, true, true, true, true, true, true, true, true, true, true, true, true, true, true, true, true, true, true, true, true, true, true, true, true, true, true, true, true, true]) ?_
    refine wpa_done 0 (by kernel_rfl) ?_
    refine NT (CT (SQ (RG ?_)))
    refine RR [] .z (.i 5 (.bool false) (.i 4 (.slice none 0 0) (.d (.k (.k (.k (.k (.k (.d (.d (.k .a))))))))))) .a ?_
    refine RZ (NT (RE (TR (BR (TR (TR (BR (BR (TR (BR (TR ?_)))))))))))
    refine NE [] .z .a [] (.tuple #[.slice none 0 0, .bool false]) ?_
    rw [if_neg (by decide)]
    exact ⟨rfl, rfl⟩
   by_cases kD : op = 23 ∧ v ≠ aa
   ·rw [hbad (by rw [hokP, decide_eq_true kD.1, decide_eq_false kD.2]; simp)]
    obtain ⟨kD1, kD2⟩ := kD
    subst kD1
    refine wpc_draw (by kernel_rfl) [.blk g2 59 [.string (mkS u.name), .int .i64 u.params, .int .i64 u.slots, .int .i64 u.stack, .bool u.result, .slice u.ia u.ins.length u.ic, .slice u.va u.vars.length u.vc], row 3 1 (some ⟨gb, 0, none⟩) u.ins.length u.ins.length (ints l), .blk g3 62 [.int .i64 23, .int .i64 aa]] (sub_of [4, 5, 6] (by kernel_rfl)) 40 (by kernel_rfl) ?_
    refine wpa_take true [(0, []), (1, []), (2, []), (4, [])] ([(66, .int .i64 T), (64, .pointer (some ⟨gb, 0 + k * 1, none⟩)), (13, .int .i64 L), (10, .pointer (some ⟨g3, 0, none⟩)), (9, .int .i64 (↑k : Int)), (8, .bool b), (6, .slice (some ⟨gb, 0, none⟩) u.ins.length u.ins.length), (5, .bool false), (4, .slice none 0 0), (3, .pointer (some ⟨g2, 0, none⟩)), (2, .pointer (some ⟨g1, 0, none⟩))]) (#[true, true, true, false, true, false, false, false, false, false, false, false, false, false, false, false, false, false, false, false, false, false, false, false, false, false, false, false, false, false, false, false, false, false, false, false, false, false, false, false]) [(0 : Int) ≤ (↑k : Int) ∧ (↑k : Int) < (↑u.ins.length : Int)] (n := 36) (by kernel_rfl) (by kernel_rfl) (by kernel_rfl) ⟨by omega, trivial⟩ ?_
    refine wpa_qld (i := 3) (n := 35) (by kernel_rfl) (by kernel_rfl) (by kernel_rfl) (t := 3) (a := ⟨gb, 0 + k * 1, none⟩) (dst := some 65) (by kernel_rfl) false 1 (by kernel_rfl) (by simp) [.int .i64 v] rfl (fun w h => ld_rowL h 1 rfl (k * 1) hatv) ?_
    refine TK 33 [(5, []), (6, [])] (.i 68 (.bool (decide (v < T))) (.d (.d (.d (.k .a))))) (#[true, true, true, true, true, true, true, false, false, false, false, false, false, false, false, false, false, false, false, false, false, false, false, false, false, false, false, false, false, false, false, false, false, false, false, false, false, false, false, false]) ?_
    refine SA 68 (decide (v < T)) false (decide_eq_false (by omega)) ?_
    refine TK 27 [(7, []), (8, []), (9, [0]), (10, []), (11, []), (12, [])] (.i 74 (.bool (decide (L > u.stack))) (.d (.d (.k .a)))) (#[true, true, true, true, true, true, true, true, true, true, true, true, true, false, false, false, false, false, false, false, false, false, false, false, false, false, false, false, false, false, false, false, false, false, false, false, false, false, false, false]) ?_
    refine SA 74 (decide (L > u.stack)) false (decide_eq_false (by omega)) ?_
    refine TK 25 [(13, []), (14, [2])] (.i 76 (.int .i64 23) (.k (.d (.k .a)))) (#[true, true, true, true, true, true, true, true, true, true, true, true, true, true, true, false, false, false, false, false, false, false, false, false, false, false, false, false, false, false, false, false, false, false, false, false, false, false, false, false]) ?_
    refine AC (dst := some 77) 24 15 .a (rname_spec 23) (GI []) [4, 5, 6] ?_
    rintro v' _ ⟨rfl, rfl⟩
    refine TK 12 [(16, []), (17, []), (18, []), (19, []), (20, []), (21, []), (22, []), (23, []), (24, []), (25, []), (26, []), (27, [2])] (.i 89 (.int .i64 23) (.i 87 (.bool false) (.d (.d (.d (.k .a)))))) (#[true, true, true, true, true, true, true, true, true, true, true, true, true, true, true, true, true, true, true, true, true, true, true, true, true, true, true, true, false, false, false, false, false, false, false, false, false, false, false, false]) ?_
    refine AC (dst := some 90) 11 28 .a (rname_spec 23) (GI []) [4, 5, 6] ?_
    rintro v' _ ⟨rfl, rfl⟩
    refine wpa_take true [(29, []), (30, []), (31, []), (32, []), (33, []), (35, []), (36, [2])] ([(98, .int .i64 aa), (95, .pointer (some ⟨gb, 0 + k * 1, none⟩)), (92, .bool true), (87, .bool false), (13, .int .i64 L), (10, .pointer (some ⟨g3, 0, none⟩)), (9, .int .i64 (↑k : Int)), (8, .bool b), (6, .slice (some ⟨gb, 0, none⟩) u.ins.length u.ins.length), (5, .bool false), (4, .slice none 0 0), (3, .pointer (some ⟨g2, 0, none⟩)), (2, .pointer (some ⟨g1, 0, none⟩))]) (#[true, true, true, true, true, true, true, true, true, true, true, true, true, true, true, true, true, true, true, true, true, true, true, true, true, true, true, true, true, true, true, true, true, true, false, true, true, false, false, false]) [(0 : Int) ≤ (↑k : Int) ∧ (↑k : Int) < (↑u.ins.length : Int)] (n := 4) (by kernel_rfl) (by kernel_rfl) (by kernel_rfl) ⟨by omega, trivial⟩ ?_
    refine wpa_qld (i := 34) (n := 3) (by kernel_rfl) (by kernel_rfl) (by kernel_rfl) (t := 3) (a := ⟨gb, 0 + k * 1, none⟩) (dst := some 96) (by kernel_rfl) false 1 (by kernel_rfl) (by simp) [.int .i64 v] rfl (fun w h => ld_rowL h 1 rfl (k * 1) hatv) ?_
    refine TK 0 [(37, []), (38, []), (39, [])] (.i 101 (.bool (v != aa)) (.d (.d (.d (.d (.d (.k .a))))))) (#[true, true, true, true, true, true, true, true, true, true, true, true, true, true, true, true, true, true, true, true, true, true, true, true, true, true, true, true, true, true, true, true, true, true, true, true, true, true, true, true]) ?_
    refine wpa_done 0 (by kernel_rfl) ?_
    refine NT ?_
    refine SC 101 (v != aa) true (by simp only [bne_iff_ne, beq_iff_eq, ne_eq]; omega) ?_
    refine CT (SQ (RG ?_))
    refine RR [] .z (.i 5 (.bool false) (.i 4 (.slice none 0 0) (.d (.d (.k (.k (.k (.k (.k (.d (.d (.k .a)))))))))))) .a ?_
    refine RZ (NT (RE (TR (BR (TR (TR (BR (BR (TR (BR (TR ?_)))))))))))
    refine NE [] .z .a [] (.tuple #[.slice none 0 0, .bool false]) ?_
    rw [if_neg (by decide)]
    exact ⟨rfl, rfl⟩
   have hok1 : okP c.p u.p (op, aa) v = true := by
    rw [hokP, decide_eq_true kA, decide_eq_true kB]
    have h1 : (!decide (op = 0) || decide (v = 0)) = true := by
     by_cases h0 : op = 0
     ·rw [decide_eq_true (show v = 0 from Classical.byContradiction fun hn => kC ⟨h0, hn⟩)]; simp
     ·rw [decide_eq_false h0]; rfl
    have h2 : (!decide (op = 23) || decide (v = aa)) = true := by
     by_cases h0 : op = 23
     ·rw [decide_eq_true (show v = aa from Classical.byContradiction fun hn => kD ⟨h0, hn⟩)]; simp
     ·rw [decide_eq_false h0]; rfl
    rw [h1, h2]; rfl
   have hL0 : 0 ≤ L ∧ L ≤ 256 := by omega
   have hstep : ∀ j, j ∈ nxP (op, aa) (k : Int) → Reach (gr c.p u.p) j L := fun j hj => hlf ▸ Reach.step hR (hnx ▸ hj)
   refine wpc_join ⟨[(101, .bool false), (13, (.int .i64 L)), (10, (.pointer (some ⟨g3, 0, none⟩))), (9, (.int .i64 (↑k : Int))), (8, (.bool b)), (6, (.slice (some ⟨gb, 0, none⟩) u.ins.length u.ins.length)), (5, (.bool false)), (4, (.slice none 0 0)), (3, (.pointer (some ⟨g2, 0, none⟩))), (2, (.pointer (some ⟨g1, 0, none⟩)))], [ro c.ua (List.flatMap unC c.units), ro c.ha (List.flatMap shC c.shapes), ro u.ia (List.flatMap insC u.ins), .blk g1 26 [.slice c.sa c.strs.length c.sc, .slice c.ha c.shapes.length c.hc, .slice c.ua c.units.length c.uc, .int .i64 c.main], .blk g2 59 [.string (mkS u.name), .int .i64 u.params, .int .i64 u.slots, .int .i64 u.stack, .bool u.result, .slice u.ia u.ins.length u.ic, .slice u.va u.vars.length u.vc], row 3 1 (some ⟨gb, 0, none⟩) u.ins.length u.ins.length (ints l), .blk g3 62 [.int .i64 op, .int .i64 aa]]⟩ (fun Q1 hQ1 hk => ?_) ?_
   ·by_cases k0 : op = 0
    ·subst k0
     have hv0 : v = 0 := Classical.byContradiction fun hn => kC ⟨rfl, hn⟩
     refine wpc_draw (by kernel_rfl) [.blk g2 59 [.string (mkS u.name), .int .i64 u.params, .int .i64 u.slots, .int .i64 u.stack, .bool u.result, .slice u.ia u.ins.length u.ic, .slice u.va u.vars.length u.vc], row 3 1 (some ⟨gb, 0, none⟩) u.ins.length u.ins.length (ints l), .blk g3 62 [.int .i64 0, .int .i64 aa]] (sub_of [4, 5, 6] (by kernel_rfl)) 40 (by kernel_rfl) ?_
     refine wpa_take true [(0, []), (1, []), (2, []), (4, [])] ([(66, .int .i64 T), (64, .pointer (some ⟨gb, 0 + k * 1, none⟩)), (13, .int .i64 L), (10, .pointer (some ⟨g3, 0, none⟩)), (9, .int .i64 (↑k : Int)), (8, .bool b), (6, .slice (some ⟨gb, 0, none⟩) u.ins.length u.ins.length), (5, .bool false), (4, .slice none 0 0), (3, .pointer (some ⟨g2, 0, none⟩)), (2, .pointer (some ⟨g1, 0, none⟩))]) (#[true, true, true, false, true, false, false, false, false, false, false, false, false, false, false, false, false, false, false, false, false, false, false, false, false, false, false, false, false, false, false, false, false, false, false, false, false, false, false, false]) [(0 : Int) ≤ (↑k : Int) ∧ (↑k : Int) < (↑u.ins.length : Int)] (n := 36) (by kernel_rfl) (by kernel_rfl) (by kernel_rfl) ⟨by omega, trivial⟩ ?_
     refine wpa_qld (i := 3) (n := 35) (by kernel_rfl) (by kernel_rfl) (by kernel_rfl) (t := 3) (a := ⟨gb, 0 + k * 1, none⟩) (dst := some 65) (by kernel_rfl) false 1 (by kernel_rfl) (by simp) [.int .i64 v] rfl (fun w h => ld_rowL h 1 rfl (k * 1) hatv) ?_
     refine TK 33 [(5, []), (6, [])] (.i 68 (.bool (decide (v < T))) (.d (.d (.d (.k .a))))) (#[true, true, true, true, true, true, true, false, false, false, false, false, false, false, false, false, false, false, false, false, false, false, false, false, false, false, false, false, false, false, false, false, false, false, false, false, false, false, false, false]) ?_
     refine SA 68 (decide (v < T)) false (decide_eq_false (by omega)) ?_
     refine TK 27 [(7, []), (8, []), (9, [0]), (10, []), (11, []), (12, [])] (.i 74 (.bool (decide (L > u.stack))) (.d (.d (.k .a)))) (#[true, true, true, true, true, true, true, true, true, true, true, true, true, false, false, false, false, false, false, false, false, false, false, false, false, false, false, false, false, false, false, false, false, false, false, false, false, false, false, false]) ?_
     refine SA 74 (decide (L > u.stack)) false (decide_eq_false (by omega)) ?_
     refine TK 25 [(13, []), (14, [2])] (.i 76 (.int .i64 0) (.k (.d (.k .a)))) (#[true, true, true, true, true, true, true, true, true, true, true, true, true, true, true, false, false, false, false, false, false, false, false, false, false, false, false, false, false, false, false, false, false, false, false, false, false, false, false, false]) ?_
     refine AC (dst := some 77) 24 15 .a (rname_spec 0) (GI []) [4, 5, 6] ?_
     rintro v' _ ⟨rfl, rfl⟩
     refine wpa_take true [(16, []), (17, []), (18, []), (19, []), (20, [])] ([(82, .pointer (some ⟨gb, 0 + k * 1, none⟩)), (79, .bool true), (74, .bool false), (13, .int .i64 L), (10, .pointer (some ⟨g3, 0, none⟩)), (9, .int .i64 (↑k : Int)), (8, .bool b), (6, .slice (some ⟨gb, 0, none⟩) u.ins.length u.ins.length), (5, .bool false), (4, .slice none 0 0), (3, .pointer (some ⟨g2, 0, none⟩)), (2, .pointer (some ⟨g1, 0, none⟩))]) (#[true, true, true, true, true, true, true, true, true, true, true, true, true, true, true, true, true, true, true, true, true, false, false, false, false, false, false, false, false, false, false, false, false, false, false, false, false, false, false, false]) [(0 : Int) ≤ (↑k : Int) ∧ (↑k : Int) < (↑u.ins.length : Int)] (n := 19) (by kernel_rfl) (by kernel_rfl) (by kernel_rfl) ⟨by omega, trivial⟩ ?_
     refine wpa_qld (i := 21) (n := 18) (by kernel_rfl) (by kernel_rfl) (by kernel_rfl) (t := 3) (a := ⟨gb, 0 + k * 1, none⟩) (dst := some 83) (by kernel_rfl) false 1 (by kernel_rfl) (by simp) [.int .i64 v] rfl (fun w h => ld_rowL h 1 rfl (k * 1) hatv) ?_
     refine TK 14 [(22, []), (23, []), (24, []), (25, [])] (.i 87 (.bool (v != (0 : Int))) (.d (.d (.d (.d (.k .a)))))) (#[true, true, true, true, true, true, true, true, true, true, true, true, true, true, true, true, true, true, true, true, true, true, true, true, true, true, false, false, false, false, false, false, false, false, false, false, false, false, false, false]) ?_
     refine SA 87 (v != (0 : Int)) false (by simp only [bne_eq_false_iff_eq, beq_eq_false_iff_ne, ne_eq]; omega) ?_
     refine TK 12 [(26, []), (27, [2])] (.i 89 (.int .i64 0) (.k (.d (.k .a)))) (#[true, true, true, true, true, true, true, true, true, true, true, true, true, true, true, true, true, true, true, true, true, true, true, true, true, true, true, true, false, false, false, false, false, false, false, false, false, false, false, false]) ?_
     refine AC (dst := some 90) 11 28 .a (rname_spec 0) (GI []) [4, 5, 6] ?_
     rintro v' _ ⟨rfl, rfl⟩
     refine TK 0 [(29, []), (30, []), (31, []), (32, []), (33, []), (34, []), (35, []), (36, []), (37, []), (38, []), (39, [])] (.i 101 (.bool false) (.d (.d (.d (.k .a))))) (#[true, true, true, true, true, true, true, true, true, true, true, true, true, true, true, true, true, true, true, true, true, true, true, true, true, true, true, true, true, true, true, true, true, true, true, true, true, true, true, true]) ?_
     refine wpa_done 0 (by kernel_rfl) ?_
     exact nx_ent (ent_hp [0, 0, 0, 0, 0, 0, 0] rfl) (nx_ent (ent_fr (by kernel_rfl)) hk)
    ·have n0 : ¬ opName op = [109, 97, 114, 107] := fun h => k0 ((op_mark op).1 h)
     by_cases k23 : op = 23
     ·subst k23
      have hv0 : v = aa := Classical.byContradiction fun hn => kD ⟨rfl, hn⟩
      refine wpc_draw (by kernel_rfl) [.blk g2 59 [.string (mkS u.name), .int .i64 u.params, .int .i64 u.slots, .int .i64 u.stack, .bool u.result, .slice u.ia u.ins.length u.ic, .slice u.va u.vars.length u.vc], row 3 1 (some ⟨gb, 0, none⟩) u.ins.length u.ins.length (ints l), .blk g3 62 [.int .i64 23, .int .i64 aa]] (sub_of [4, 5, 6] (by kernel_rfl)) 40 (by kernel_rfl) ?_
      refine wpa_take true [(0, []), (1, []), (2, []), (4, [])] ([(66, .int .i64 T), (64, .pointer (some ⟨gb, 0 + k * 1, none⟩)), (13, .int .i64 L), (10, .pointer (some ⟨g3, 0, none⟩)), (9, .int .i64 (↑k : Int)), (8, .bool b), (6, .slice (some ⟨gb, 0, none⟩) u.ins.length u.ins.length), (5, .bool false), (4, .slice none 0 0), (3, .pointer (some ⟨g2, 0, none⟩)), (2, .pointer (some ⟨g1, 0, none⟩))]) (#[true, true, true, false, true, false, false, false, false, false, false, false, false, false, false, false, false, false, false, false, false, false, false, false, false, false, false, false, false, false, false, false, false, false, false, false, false, false, false, false]) [(0 : Int) ≤ (↑k : Int) ∧ (↑k : Int) < (↑u.ins.length : Int)] (n := 36) (by kernel_rfl) (by kernel_rfl) (by kernel_rfl) ⟨by omega, trivial⟩ ?_
      refine wpa_qld (i := 3) (n := 35) (by kernel_rfl) (by kernel_rfl) (by kernel_rfl) (t := 3) (a := ⟨gb, 0 + k * 1, none⟩) (dst := some 65) (by kernel_rfl) false 1 (by kernel_rfl) (by simp) [.int .i64 v] rfl (fun w h => ld_rowL h 1 rfl (k * 1) hatv) ?_
      refine TK 33 [(5, []), (6, [])] (.i 68 (.bool (decide (v < T))) (.d (.d (.d (.k .a))))) (#[true, true, true, true, true, true, true, false, false, false, false, false, false, false, false, false, false, false, false, false, false, false, false, false, false, false, false, false, false, false, false, false, false, false, false, false, false, false, false, false]) ?_
      refine SA 68 (decide (v < T)) false (decide_eq_false (by omega)) ?_
      refine TK 27 [(7, []), (8, []), (9, [0]), (10, []), (11, []), (12, [])] (.i 74 (.bool (decide (L > u.stack))) (.d (.d (.k .a)))) (#[true, true, true, true, true, true, true, true, true, true, true, true, true, false, false, false, false, false, false, false, false, false, false, false, false, false, false, false, false, false, false, false, false, false, false, false, false, false, false, false]) ?_
      refine SA 74 (decide (L > u.stack)) false (decide_eq_false (by omega)) ?_
      refine TK 25 [(13, []), (14, [2])] (.i 76 (.int .i64 23) (.k (.d (.k .a)))) (#[true, true, true, true, true, true, true, true, true, true, true, true, true, true, true, false, false, false, false, false, false, false, false, false, false, false, false, false, false, false, false, false, false, false, false, false, false, false, false, false]) ?_
      refine AC (dst := some 77) 24 15 .a (rname_spec 23) (GI []) [4, 5, 6] ?_
      rintro v' _ ⟨rfl, rfl⟩
      refine TK 12 [(16, []), (17, []), (18, []), (19, []), (20, []), (21, []), (22, []), (23, []), (24, []), (25, []), (26, []), (27, [2])] (.i 89 (.int .i64 23) (.i 87 (.bool false) (.d (.d (.d (.k .a)))))) (#[true, true, true, true, true, true, true, true, true, true, true, true, true, true, true, true, true, true, true, true, true, true, true, true, true, true, true, true, false, false, false, false, false, false, false, false, false, false, false, false]) ?_
      refine AC (dst := some 90) 11 28 .a (rname_spec 23) (GI []) [4, 5, 6] ?_
      rintro v' _ ⟨rfl, rfl⟩
      refine wpa_take true [(29, []), (30, []), (31, []), (32, []), (33, []), (35, []), (36, [2])] ([(98, .int .i64 aa), (95, .pointer (some ⟨gb, 0 + k * 1, none⟩)), (92, .bool true), (87, .bool false), (13, .int .i64 L), (10, .pointer (some ⟨g3, 0, none⟩)), (9, .int .i64 (↑k : Int)), (8, .bool b), (6, .slice (some ⟨gb, 0, none⟩) u.ins.length u.ins.length), (5, .bool false), (4, .slice none 0 0), (3, .pointer (some ⟨g2, 0, none⟩)), (2, .pointer (some ⟨g1, 0, none⟩))]) (#[true, true, true, true, true, true, true, true, true, true, true, true, true, true, true, true, true, true, true, true, true, true, true, true, true, true, true, true, true, true, true, true, true, true, false, true, true, false, false, false]) [(0 : Int) ≤ (↑k : Int) ∧ (↑k : Int) < (↑u.ins.length : Int)] (n := 4) (by kernel_rfl) (by kernel_rfl) (by kernel_rfl) ⟨by omega, trivial⟩ ?_
      refine wpa_qld (i := 34) (n := 3) (by kernel_rfl) (by kernel_rfl) (by kernel_rfl) (t := 3) (a := ⟨gb, 0 + k * 1, none⟩) (dst := some 96) (by kernel_rfl) false 1 (by kernel_rfl) (by simp) [.int .i64 v] rfl (fun w h => ld_rowL h 1 rfl (k * 1) hatv) ?_
      refine TK 0 [(37, []), (38, []), (39, [])] (.i 101 (.bool (v != aa)) (.d (.d (.d (.d (.d (.k .a))))))) (#[true, true, true, true, true, true, true, true, true, true, true, true, true, true, true, true, true, true, true, true, true, true, true, true, true, true, true, true, true, true, true, true, true, true, true, true, true, true, true, true]) ?_
      refine wpa_done 0 (by kernel_rfl) ?_
      refine nx_ent (ent_set 101 (.bool (v != aa)) (.bool false) (by kernel_rfl) (by simp [hv0])) ?_
      exact nx_ent (ent_hp [0, 0, 0, 0, 0, 0, 0] rfl) (nx_ent (ent_fr (by kernel_rfl)) hk)
     ·have n23 : ¬ opName op = [114, 101, 116, 117, 114, 110] := fun h => k23 ((op_return op).1 h)
      refine wpc_draw (by kernel_rfl) [.blk g2 59 [.string (mkS u.name), .int .i64 u.params, .int .i64 u.slots, .int .i64 u.stack, .bool u.result, .slice u.ia u.ins.length u.ic, .slice u.va u.vars.length u.vc], row 3 1 (some ⟨gb, 0, none⟩) u.ins.length u.ins.length (ints l), .blk g3 62 [.int .i64 op, .int .i64 aa]] (sub_of [4, 5, 6] (by kernel_rfl)) 40 (by kernel_rfl) ?_
      refine wpa_take true [(0, []), (1, []), (2, []), (4, [])] ([(66, .int .i64 T), (64, .pointer (some ⟨gb, 0 + k * 1, none⟩)), (13, .int .i64 L), (10, .pointer (some ⟨g3, 0, none⟩)), (9, .int .i64 (↑k : Int)), (8, .bool b), (6, .slice (some ⟨gb, 0, none⟩) u.ins.length u.ins.length), (5, .bool false), (4, .slice none 0 0), (3, .pointer (some ⟨g2, 0, none⟩)), (2, .pointer (some ⟨g1, 0, none⟩))]) (#[true, true, true, false, true, false, false, false, false, false, false, false, false, false, false, false, false, false, false, false, false, false, false, false, false, false, false, false, false, false, false, false, false, false, false, false, false, false, false, false]) [(0 : Int) ≤ (↑k : Int) ∧ (↑k : Int) < (↑u.ins.length : Int)] (n := 36) (by kernel_rfl) (by kernel_rfl) (by kernel_rfl) ⟨by omega, trivial⟩ ?_
      refine wpa_qld (i := 3) (n := 35) (by kernel_rfl) (by kernel_rfl) (by kernel_rfl) (t := 3) (a := ⟨gb, 0 + k * 1, none⟩) (dst := some 65) (by kernel_rfl) false 1 (by kernel_rfl) (by simp) [.int .i64 v] rfl (fun w h => ld_rowL h 1 rfl (k * 1) hatv) ?_
      refine TK 33 [(5, []), (6, [])] (.i 68 (.bool (decide (v < T))) (.d (.d (.d (.k .a))))) (#[true, true, true, true, true, true, true, false, false, false, false, false, false, false, false, false, false, false, false, false, false, false, false, false, false, false, false, false, false, false, false, false, false, false, false, false, false, false, false, false]) ?_
      refine SA 68 (decide (v < T)) false (decide_eq_false (by omega)) ?_
      refine TK 27 [(7, []), (8, []), (9, [0]), (10, []), (11, []), (12, [])] (.i 74 (.bool (decide (L > u.stack))) (.d (.d (.k .a)))) (#[true, true, true, true, true, true, true, true, true, true, true, true, true, false, false, false, false, false, false, false, false, false, false, false, false, false, false, false, false, false, false, false, false, false, false, false, false, false, false, false]) ?_
      refine SA 74 (decide (L > u.stack)) false (decide_eq_false (by omega)) ?_
      refine TK 25 [(13, []), (14, [2])] (.i 76 (.int .i64 op) (.k (.d (.k .a)))) (#[true, true, true, true, true, true, true, true, true, true, true, true, true, true, true, false, false, false, false, false, false, false, false, false, false, false, false, false, false, false, false, false, false, false, false, false, false, false, false, false]) ?_
      refine AC (dst := some 77) 24 15 .a (rname_spec op) (GI []) [4, 5, 6] ?_
      rintro v' _ ⟨rfl, rfl⟩
      refine TK 22 [(16, []), (17, [])] (.i 79 (.bool (decide (opName op = [(109 : UInt8), (97 : UInt8), (114 : UInt8), (107 : UInt8)]))) (.d (.d (.k .a)))) (#[true, true, true, true, true, true, true, true, true, true, true, true, true, true, true, true, true, true, false, false, false, false, false, false, false, false, false, false, false, false, false, false, false, false, false, false, false, false, false, false]) ?_
      refine SA 79 (decide (opName op = [(109 : UInt8), (97 : UInt8), (114 : UInt8), (107 : UInt8)])) false (decide_eq_false (by omega)) ?_
      refine TK 12 [(18, []), (19, []), (20, []), (21, []), (22, []), (23, []), (24, []), (25, []), (26, []), (27, [2])] (.i 89 (.int .i64 op) (.i 87 (.bool false) (.d (.d (.d (.k .a)))))) (#[true, true, true, true, true, true, true, true, true, true, true, true, true, true, true, true, true, true, true, true, true, true, true, true, true, true, true, true, false, false, false, false, false, false, false, false, false, false, false, false]) ?_
      refine AC (dst := some 90) 11 28 .a (rname_spec op) (GI []) [4, 5, 6] ?_
      rintro v' _ ⟨rfl, rfl⟩
      refine TK 9 [(29, []), (30, [])] (.i 92 (.bool (decide (opName op = [(114 : UInt8), (101 : UInt8), (116 : UInt8), (117 : UInt8), (114 : UInt8), (110 : UInt8)]))) (.d (.d (.k .a)))) (#[true, true, true, true, true, true, true, true, true, true, true, true, true, true, true, true, true, true, true, true, true, true, true, true, true, true, true, true, true, true, true, false, false, false, false, false, false, false, false, false]) ?_
      refine SA 92 (decide (opName op = [(114 : UInt8), (101 : UInt8), (116 : UInt8), (117 : UInt8), (114 : UInt8), (110 : UInt8)])) false (decide_eq_false (by omega)) ?_
      refine TK 0 [(31, []), (32, []), (33, []), (34, []), (35, []), (36, []), (37, []), (38, []), (39, [])] (.i 101 (.bool false) (.d (.d (.d (.k .a))))) (#[true, true, true, true, true, true, true, true, true, true, true, true, true, true, true, true, true, true, true, true, true, true, true, true, true, true, true, true, true, true, true, true, true, true, true, true, true, true, true, true]) ?_
      refine wpa_done 0 (by kernel_rfl) ?_
      exact nx_ent (ent_hp [0, 0, 0, 0, 0, 0, 0] rfl) (nx_ent (ent_fr (by kernel_rfl)) hk)
   refine NT (CF (SK (NT (SQ (RG ?_)))))
   refine RR [6, 6] (.d (.d .a)) (.i 103 (.int .i64 (↑k : Int)) (.i 102 (.agg #[.int .i64 op, .int .i64 aa]) (.d (.k (.d (.k .a)))))) .a ?_
   refine RC (dst := some 104) [] .a (rbehind_spec op aa (k : Int) (by omega)) ?_
   rintro v' _ ⟨an, cn, rfl, rfl⟩
   obtain ⟨NX, hNX⟩ : ∃ NX, NX = nxP (op, aa) (k : Int) := ⟨_, rfl⟩
   have hNXr : ∀ j ∈ NX, 0 ≤ j ∧ j ≤ 4096 := fun j hj => by
    rw [hNX] at hj
    unfold nxP at hj
    dsimp only at hj
    split at hj
    ·rename_i e
     have := fits_jump hf (.inl e)
     rw [List.mem_singleton.1 hj]
     have h2 : aa < (u.ins.length : Int) := this.2
     have h3 : 0 ≤ aa := this.1
     omega
    ·split at hj
     ·rename_i e
      have := fits_jump hf (.inr e)
      have h2 : aa < (u.ins.length : Int) := this.2
      have h3 : 0 ≤ aa := this.1
      rcases List.mem_cons.1 hj with h | h
      ·omega
      ·rw [List.mem_singleton.1 h]; omega
     ·split at hj
      ·cases hj
      ·rw [List.mem_singleton.1 hj]; omega
   have hNXl : NX.length ≤ 2 := by
    rw [hNX]; unfold nxP
    split
    ·exact Nat.le_succ 1
    ·split
     ·exact Nat.le_refl 2
     ·split
      ·exact Nat.zero_le 2
      ·exact Nat.le_succ 1
   rw [← hNX] at hnx hstep ⊢
   refine RR [] .z (.i 14 (.slice an NX.length cn) (.d (.d (.d (.k .a))))) .a ?_
   refine RZ (NT (SQ (RG ?_)))
   refine RR [] .z (.i 15 (.int .i64 0) .a) .a ?_
   refine RZ (NT (BK ?_))
   refine wpc_loop (X := {x : Nat × List Int × Bool // RInv (gr c.p u.p) x.2.1 ∧ x.1 ≤ NX.length ∧ (∀ v ∈ x.2.1, v ≤ 256) ∧ (∀ m, (hm : m < NX.length) → m < x.1 → x.2.1[(NX[m]).toNat]? = some L) ∧ (x.2.2 = true → unset (setN x.2.1) u.ins.length < unset (setN l0) u.ins.length) ∧ (x.2.2 = false → x.2.1 = l ∧ b = false)})
    (fun x => St.mk [(15, .int .i64 (x.1.1 : Int)), (14, .slice an NX.length cn), (13, .int .i64 L), (9, .int .i64 (k : Int)), (8, .bool x.1.2.2), (6, .slice (some ⟨gb, 0, none⟩) u.ins.length u.ins.length), (5, .bool false), (4, .slice none 0 0), (3, .pointer (some ⟨g2, 0, none⟩)), (2, .pointer (some ⟨g1, 0, none⟩))]
    [ro c.ua (c.units.flatMap unC), ro c.ha (c.shapes.flatMap shC), ro u.ia (u.ins.flatMap insC),
    .blk g1 26 [.slice c.sa c.strs.length c.sc, .slice c.ha c.shapes.length c.hc, .slice c.ua c.units.length c.uc, .int .i64 c.main],
    .blk g2 59 [.string (mkS u.name), .int .i64 u.params, .int .i64 u.slots, .int .i64 u.stack, .bool u.result, .slice u.ia u.ins.length u.ic, .slice u.va u.vars.length u.vc],
    row 3 1 an NX.length cn (ints NX),
    row 3 1 (some ⟨gb, 0, none⟩) u.ins.length u.ins.length (ints x.1.2.1)]) (fun x => NX.length - x.1.1) ⟨(0, l, b), hinv, Nat.zero_le _, hbd, (fun m _ h => absurd h (Nat.not_lt_zero _)), hb1, fun h => ⟨rfl, h⟩⟩ ?_ ?_
   ·exact Ent.trans (ent_hp [1, 1, 1, 1, 1, 0, 0] rfl) (ent_fr (by kernel_rfl))
   clear hk
   rintro ⟨⟨m, q, b2⟩, hq, hmn, hqb, hqm, hq1, hq0⟩
   dsimp only at hq hmn hqb hqm hq1 hq0 ⊢
   have hql : (q.length : Int) = u.ins.length := hq.len
   have hql : q.length = u.ins.length := by omega
   by_cases hmlt : m < NX.length
   ·obtain ⟨j, hj⟩ : ∃ j, j = NX[m] := ⟨_, rfl⟩
    have hjm : j ∈ NX := hj ▸ List.getElem_mem hmlt
    obtain ⟨hj0, hj1⟩ := hNXr j hjm
    have hjR := hstep j hjm
    have hNj : ((ints NX).drop (m * 1)).take 1 = [.int .i64 j] := by rw [hj]; exact ints_at hmlt
    refine wpc_fact (fun w h => row_addr h 5 rfl (by omega)) ?_
    rintro ⟨g8, o8, rfl⟩
    refine SQ (SQ (RG ?_))
    refine RR [] .z (.i 108 (.bool (decide ((↑m : Int) < (↑NX.length : Int)))) .a) .a ?_
    refine RZ (NT ?_)
    refine SC 108 (decide ((↑m : Int) < (↑NX.length : Int))) true (decide_eq_true (by omega)) ?_
    refine CT (SK (NT (SQ (BK (SQ (SQ (RG ?_)))))))
    refine RV true [] (.d (.d (.d .a))) (.i 113 (.pointer (some ⟨g8, o8 + m * 1, none⟩)) (.d (.d (.k .a)))) .a [(0 : Int) ≤ (↑m : Int) ∧ (↑m : Int) < (↑NX.length : Int)] ⟨by omega, trivial⟩ ?_
    refine wpr_eq (ld (t := 3) (a := ⟨g8, o8 + m * 1, none⟩) (dst := some 114) (by kernel_rfl) false 1 (by kernel_rfl) (by simp) [.int .i64 j] rfl (fun w h => ld_row h 5 rfl (m * 1) hNj)) ?_
    refine RR [] (.d (.d (.d (.d .a)))) (.i 118 (.bool (decide (j ≥ (↑u.ins.length : Int)))) (.d (.d (.k .a)))) .a ?_
    by_cases kE : ¬ j < (u.ins.length : Int)
    ·rw [fineB_f (not_fine_rng hjR (fun h => kE h.2))]
     refine SR 118 (decide (j ≥ (↑u.ins.length : Int))) true (decide_eq_true (by omega)) ?_
     refine RR [] .z (.i 138 (.bool true) (.d (.d (.k .a)))) .a ?_
     refine RZ (NT (CT (SQ (RG ?_))))
     refine RR [] .z (.i 5 (.bool false) (.i 4 (.slice none 0 0) (.d (.k (.k (.k (.k (.k (.k (.d (.d (.k .a)))))))))))) .a ?_
     refine RZ (NT (RE (TR (BR (TR (TR (BR (BR (TR (TR (BR (BR (TR (BR (TR ?_)))))))))))))))
     refine NE [] .z .a [] (.tuple #[.slice none 0 0, .bool false]) ?_
     rw [if_neg (by decide)]
     exact ⟨rfl, rfl⟩
    rw [Decidable.not_not] at kE
    obtain ⟨jn, rfl⟩ := Int.eq_ofNat_of_zero_le hj0
    have hjn : jn < u.ins.length := by omega
    have hjq : jn < q.length := by omega
    have hNn : (NX[m]'hmlt).toNat = jn := by rw [← hj]; rfl
    have hqj : ((ints q).drop (jn * 1)).take 1 = [.int .i64 q[jn]] := ints_at hjq
    obtain ⟨y, hy⟩ : ∃ y, y = q[jn] := ⟨_, rfl⟩
    rw [← hy] at hqj
    refine SR 118 (decide ((↑jn : Int) ≥ (↑u.ins.length : Int))) false (decide_eq_false (by omega)) ?_
    refine RV true [] (.d (.d (.d (.d .a)))) (.i 122 (.pointer (some ⟨g8, o8 + m * 1, none⟩)) (.i 119 (.slice (some ⟨gb, 0, none⟩) u.ins.length u.ins.length) (.k (.d (.k .a))))) .a [(0 : Int) ≤ (↑m : Int) ∧ (↑m : Int) < (↑NX.length : Int)] ⟨by omega, trivial⟩ ?_
    refine wpr_eq (ld (t := 3) (a := ⟨g8, o8 + m * 1, none⟩) (dst := some 123) (by kernel_rfl) false 1 (by kernel_rfl) (by simp) [.int .i64 ((jn : Nat) : Int)] rfl (fun w h => ld_row h 5 rfl (m * 1) hNj)) ?_
    refine RV true [] (.d .a) (.i 124 (.pointer (some ⟨gb, 0 + jn * 1, none⟩)) (.d (.d (.d (.k .a))))) .a [(0 : Int) ≤ (↑jn : Int) ∧ (↑jn : Int) < (↑u.ins.length : Int)] ⟨by omega, trivial⟩ ?_
    refine wpr_eq (ld (t := 3) (a := ⟨gb, 0 + jn * 1, none⟩) (dst := some 125) (by kernel_rfl) false 1 (by kernel_rfl) (by simp) [.int .i64 y] rfl (fun w h => ld_row h 6 rfl (jn * 1) hqj)) ?_
    refine RR [] (.d (.d .a)) (.i 127 (.bool (decide (y ≥ (0 : Int)))) (.d (.d (.k .a)))) .a ?_
    by_cases kF : 0 ≤ y
    ·by_cases kG : y = L
     ·refine SR 127 (decide (y ≥ (0 : Int))) true (decide_eq_true (by omega)) ?_
      refine RV true [] (.d (.d (.d (.d .a)))) (.i 131 (.pointer (some ⟨g8, o8 + m * 1, none⟩)) (.i 128 (.slice (some ⟨gb, 0, none⟩) u.ins.length u.ins.length) (.k (.d (.k .a))))) .a [(0 : Int) ≤ (↑m : Int) ∧ (↑m : Int) < (↑NX.length : Int)] ⟨by omega, trivial⟩ ?_
      refine wpr_eq (ld (t := 3) (a := ⟨g8, o8 + m * 1, none⟩) (dst := some 132) (by kernel_rfl) false 1 (by kernel_rfl) (by simp) [.int .i64 ((jn : Nat) : Int)] rfl (fun w h => ld_row h 5 rfl (m * 1) hNj)) ?_
      refine RV true [] (.d .a) (.i 133 (.pointer (some ⟨gb, 0 + jn * 1, none⟩)) (.d (.d (.d (.k .a))))) .a [(0 : Int) ≤ (↑jn : Int) ∧ (↑jn : Int) < (↑u.ins.length : Int)] ⟨by omega, trivial⟩ ?_
      refine wpr_eq (ld (t := 3) (a := ⟨gb, 0 + jn * 1, none⟩) (dst := some 134) (by kernel_rfl) false 1 (by kernel_rfl) (by simp) [.int .i64 y] rfl (fun w h => ld_row h 6 rfl (jn * 1) hqj)) ?_
      refine RR [] .z (.i 138 (.bool (y != L)) (.d (.d (.d (.d (.k .a)))))) .a ?_
      refine RZ (NT ?_)
      refine SC 138 (y != L) false (by simp only [bne_eq_false_iff_eq, beq_eq_false_iff_ne, ne_eq]; omega) ?_
      refine CF (SK (NT (SQ (RG ?_))))
      refine RV true [] (.d (.d (.d (.d .a)))) (.i 142 (.pointer (some ⟨g8, o8 + m * 1, none⟩)) (.i 139 (.slice (some ⟨gb, 0, none⟩) u.ins.length u.ins.length) (.d (.d (.k .a))))) .a [(0 : Int) ≤ (↑m : Int) ∧ (↑m : Int) < (↑NX.length : Int)] ⟨by omega, trivial⟩ ?_
      refine wpr_eq (ld (t := 3) (a := ⟨g8, o8 + m * 1, none⟩) (dst := some 143) (by kernel_rfl) false 1 (by kernel_rfl) (by simp) [.int .i64 ((jn : Nat) : Int)] rfl (fun w h => ld_row h 5 rfl (m * 1) hNj)) ?_
      refine RV true [] (.d .a) (.i 144 (.pointer (some ⟨gb, 0 + jn * 1, none⟩)) (.d (.d (.d (.k .a))))) .a [(0 : Int) ≤ (↑jn : Int) ∧ (↑jn : Int) < (↑u.ins.length : Int)] ⟨by omega, trivial⟩ ?_
      refine wpr_eq (ld (t := 3) (a := ⟨gb, 0 + jn * 1, none⟩) (dst := some 145) (by kernel_rfl) false 1 (by kernel_rfl) (by simp) [.int .i64 y] rfl (fun w h => ld_row h 6 rfl (jn * 1) hqj)) ?_
      refine RR [] .z (.i 146 (.bool (decide (y < (0 : Int)))) (.d (.d (.k .a)))) .a ?_
      refine RZ (NT ?_)
      refine SC 146 (decide (y < (0 : Int))) false (decide_eq_false (by omega)) ?_
      refine CF (SK (BN (NT (RG ?_))))
      refine RV true [] .z (.i 15 (.int .i64 ((↑m : Int) + 1)) (.d (.d (.d (.k .a))))) .a ([inI64 ((↑m : Int) + (1 : Int))]) ⟨by unfold inI64; omega, trivial⟩ ?_
      refine RZ ?_
      exact fun a' w' hS' => ⟨⟨(m + 1, q, b2), hq, hmlt, hqb, (fun n hn hnm => by
                    rcases Nat.lt_or_ge n m with h1 | h1
                    · exact hqm n hn h1
                    · obtain rfl : n = m := by omega
                      dsimp only
                      rw [hNn, List.getElem?_eq_getElem hjq, ← hy, kG]), hq1, hq0⟩, by dsimp only; omega, ent_fr (by kernel_rfl) _ _ (ent_hp [0, 0, 0, 0, 0, 0, 0] rfl _ _ hS')⟩
     ·rw [fineB_f (not_fine_two (hq.reach jn hjq (hy ▸ kF)) hjR (hy ▸ kG))]
      refine SR 127 (decide (y ≥ (0 : Int))) true (decide_eq_true (by omega)) ?_
      refine RV true [] (.d (.d (.d (.d .a)))) (.i 131 (.pointer (some ⟨g8, o8 + m * 1, none⟩)) (.i 128 (.slice (some ⟨gb, 0, none⟩) u.ins.length u.ins.length) (.k (.d (.k .a))))) .a [(0 : Int) ≤ (↑m : Int) ∧ (↑m : Int) < (↑NX.length : Int)] ⟨by omega, trivial⟩ ?_
      refine wpr_eq (ld (t := 3) (a := ⟨g8, o8 + m * 1, none⟩) (dst := some 132) (by kernel_rfl) false 1 (by kernel_rfl) (by simp) [.int .i64 ((jn : Nat) : Int)] rfl (fun w h => ld_row h 5 rfl (m * 1) hNj)) ?_
      refine RV true [] (.d .a) (.i 133 (.pointer (some ⟨gb, 0 + jn * 1, none⟩)) (.d (.d (.d (.k .a))))) .a [(0 : Int) ≤ (↑jn : Int) ∧ (↑jn : Int) < (↑u.ins.length : Int)] ⟨by omega, trivial⟩ ?_
      refine wpr_eq (ld (t := 3) (a := ⟨gb, 0 + jn * 1, none⟩) (dst := some 134) (by kernel_rfl) false 1 (by kernel_rfl) (by simp) [.int .i64 y] rfl (fun w h => ld_row h 6 rfl (jn * 1) hqj)) ?_
      refine RR [] .z (.i 138 (.bool (y != L)) (.d (.d (.d (.d (.k .a)))))) .a ?_
      refine RZ (NT ?_)
      refine SC 138 (y != L) true (by simp only [bne_iff_ne, beq_iff_eq, ne_eq]; omega) ?_
      refine CT (SQ (RG ?_))
      refine RR [] .z (.i 5 (.bool false) (.i 4 (.slice none 0 0) (.d (.d (.k (.k (.k (.k (.k (.k (.d (.d (.k .a))))))))))))) .a ?_
      refine RZ (NT (RE (TR (BR (TR (TR (BR (BR (TR (TR (BR (BR (TR (BR (TR ?_)))))))))))))))
      refine NE [] .z .a [] (.tuple #[.slice none 0 0, .bool false]) ?_
      rw [if_neg (by decide)]
      exact ⟨rfl, rfl⟩
    ·have kF2 : ¬ 0 ≤ q[jn] := hy ▸ kF
     refine SR 127 (decide (y ≥ (0 : Int))) false (decide_eq_false (by omega)) ?_
     refine RR [] .z (.i 138 (.bool false) (.d (.d (.d (.k .a))))) .a ?_
     refine RZ (NT (CF (SK (NT (SQ (RG ?_))))))
     refine RV true [] (.d (.d (.d (.d .a)))) (.i 142 (.pointer (some ⟨g8, o8 + m * 1, none⟩)) (.i 139 (.slice (some ⟨gb, 0, none⟩) u.ins.length u.ins.length) (.d (.k .a)))) .a [(0 : Int) ≤ (↑m : Int) ∧ (↑m : Int) < (↑NX.length : Int)] ⟨by omega, trivial⟩ ?_
     refine wpr_eq (ld (t := 3) (a := ⟨g8, o8 + m * 1, none⟩) (dst := some 143) (by kernel_rfl) false 1 (by kernel_rfl) (by simp) [.int .i64 ((jn : Nat) : Int)] rfl (fun w h => ld_row h 5 rfl (m * 1) hNj)) ?_
     refine RV true [] (.d .a) (.i 144 (.pointer (some ⟨gb, 0 + jn * 1, none⟩)) (.d (.d (.d (.k .a))))) .a [(0 : Int) ≤ (↑jn : Int) ∧ (↑jn : Int) < (↑u.ins.length : Int)] ⟨by omega, trivial⟩ ?_
     refine wpr_eq (ld (t := 3) (a := ⟨gb, 0 + jn * 1, none⟩) (dst := some 145) (by kernel_rfl) false 1 (by kernel_rfl) (by simp) [.int .i64 y] rfl (fun w h => ld_row h 6 rfl (jn * 1) hqj)) ?_
     refine RR [] .z (.i 146 (.bool (decide (y < (0 : Int)))) (.d (.d (.k .a)))) .a ?_
     refine RZ (NT ?_)
     refine SC 146 (decide (y < (0 : Int))) true (decide_eq_true (by omega)) ?_
     refine CT (SQ (RG ?_))
     refine RV true [] (.d (.d (.d (.d .a)))) (.i 150 (.pointer (some ⟨g8, o8 + m * 1, none⟩)) (.i 147 (.slice (some ⟨gb, 0, none⟩) u.ins.length u.ins.length) (.d (.d (.k .a))))) .a [(0 : Int) ≤ (↑m : Int) ∧ (↑m : Int) < (↑NX.length : Int)] ⟨by omega, trivial⟩ ?_
     refine wpr_eq (ld (t := 3) (a := ⟨g8, o8 + m * 1, none⟩) (dst := some 151) (by kernel_rfl) false 1 (by kernel_rfl) (by simp) [.int .i64 ((jn : Nat) : Int)] rfl (fun w h => ld_row h 5 rfl (m * 1) hNj)) ?_
     refine RV true [] (.d (.d .a)) (.i 153 (.pointer (some ⟨gb, 0 + jn * 1, none⟩)) (.i 152 (.int .i64 L) (.d (.d (.d (.k .a)))))) .a [(0 : Int) ≤ (↑jn : Int) ∧ (↑jn : Int) < (↑u.ins.length : Int)] ⟨by omega, trivial⟩ ?_
     refine wpr_eq (stq' (t := 3) (g := gb) (off := 0) (q := (jn * 1)) (v := (.int .i64 L)) (dst := none) (by kernel_rfl) 6 (T := 3) (sz := 1) (n := u.ins.length) (cap := u.ins.length) (xs := (ints q)) (by kernel_rfl) [.int .i64 L] (by kernel_rfl) (by kernel_rfl) (by simp [Go.Sx.One, Value.oneCell']) (by simp [ints]; omega) (xs' := (ints (q.set jn L))) (by
                 rw [Nat.mul_one]; exact ints_set hjq L)) ?_
     refine RZ (NT (RG ?_))
     refine RR [] .z (.i 8 (.bool true) (.d (.d (.k (.k (.k (.k (.d (.k .a))))))))) .a ?_
     refine RZ (BN (NT (RG ?_)))
     refine RV true [] .z (.i 15 (.int .i64 ((↑m : Int) + 1)) (.k (.d (.k .a)))) .a ([inI64 ((↑m : Int) + (1 : Int))]) ⟨by unfold inI64; omega, trivial⟩ ?_
     refine RZ ?_
     have hdec := set_unset hjq kF2 hL0.1 u.ins.length hjn
     exact fun a' w' hS' => ⟨⟨(m + 1, q.set jn L, true), rinv_set hq hjq kF2 hjR hL0.1, hmlt, (fun v hv => by
                 rcases List.mem_or_eq_of_mem_set hv with h | h
                 · exact hqb v h
                 · rw [h]; exact hL0.2), (fun n hn hnm => by
                   dsimp only
                   rcases Nat.lt_or_ge n m with h1 | h1
                   · have h2 := hqm n hn h1
                     rw [List.getElem?_set]
                     split
                     · first | rfl | rw [if_pos hjq]
                     · exact h2
                   · obtain rfl : n = m := by omega
                     rw [hNn, List.getElem?_set_self hjq]), (fun _ => by
                   dsimp only
                   cases b2 with
                   | true => have := hq1 rfl; omega
                   | false =>
                     obtain ⟨e1, e2⟩ := hq0 rfl
                     obtain ⟨e3, -⟩ := hb0 e2
                     rw [e1, e3] at hdec ⊢
                     exact hdec), fun h => by cases h⟩, by dsimp only; omega, ent_fr (by kernel_rfl) _ _ (ent_hp [0, 0, 0, 0, 0, 0, 0] rfl _ _ hS')⟩
   ·obtain rfl : m = NX.length := by omega
    refine SQ (SQ (RG ?_))
    refine RR [] .z (.i 108 (.bool (decide ((↑NX.length : Int) < (↑NX.length : Int)))) .a) .a ?_
    refine RZ (NT ?_)
    refine SC 108 (decide ((↑NX.length : Int) < (↑NX.length : Int))) false (by simp) ?_
    refine CF (EX (TE (TE (BH (BN (NT (RG ?_)))))))
    refine RV true [] .z (.i 9 (.int .i64 ((↑k : Int) + 1)) (.d (.d (.d (.d (.d (.d (.k .a)))))))) .a ([inI64 ((↑k : Int) + (1 : Int))]) ⟨by unfold inI64; omega, trivial⟩ ?_
    refine RZ ?_
    exact fun a' w' hS' => ⟨⟨(k + 1, q, b2), hq, hlt, hqb, hq1, fun h => by
              obtain ⟨e1, e2⟩ := hq0 h
              obtain ⟨e3, e4⟩ := hb0 e2
              subst e1
              refine ⟨e3, fun j hj => ?_⟩
              rcases Nat.lt_or_ge j k with h1 | h1
              · exact e4 j h1
              · obtain rfl : j = k := by omega
                intro w hw hw0
                rw [← e3, List.getElem?_eq_getElem hkl, ← hv] at hw
                cases hw
                refine ⟨hokE.trans hok1, fun i hi => ?_⟩
                rw [hnx] at hi
                rw [hlf]
                obtain ⟨n, hn, rfl⟩ := List.mem_iff_getElem.1 hi
                exact ⟨(hNXr _ (List.getElem_mem hn)).1, hL0.1, e3 ▸ hqm n hn hn⟩⟩, by dsimp only; omega, ent_fr (by kernel_rfl) _ _ (ent_hp [0, 0, 0, 0, 0, 1] rfl _ _ hS')⟩
  ·obtain rfl : k = u.ins.length := by omega
   refine SQ (SQ (RG ?_))
   refine RR [] .z (.i 35 (.bool (decide ((↑u.ins.length : Int) < (↑u.ins.length : Int)))) .a) .a ?_
   refine RZ (NT ?_)
   refine SC 35 (decide ((↑u.ins.length : Int) < (↑u.ins.length : Int))) false (by simp) ?_
   refine CF (EX (TE (TE (BH (BN ?_)))))
   have hmeas : 2 * unset (setN l) u.ins.length + b.toNat < 2 * unset (setN l0) u.ins.length + true.toNat := by
    cases b with
    | true => have := hb1 rfl; omega
    | false => rw [(hb0 rfl).1]; exact Nat.lt_succ_self _
   exact fun a' w' hS' => ⟨⟨(l, b), hinv, (fun h => by
       obtain ⟨e1, e2⟩ := hb0 h
       intro j hj
       dsimp only at hj ⊢
       rw [e1]; exact e2 j (by omega)), hbd⟩, by dsimp only; omega, ent_fr (by kernel_rfl) _ _ (ent_hp [0, 0, 0, 0, 0, 0] rfl _ _ hS')⟩
end Go.Proofs.YtgcfomhlgipllaaGreatDoor
namespace Go.Proofs.YtgcfomhlgipllaaGreatDoor
open Go Go.Sx
theorem strs_take {l : List Tx} {i : Nat} (h : i < l.length) : strsC (l.take i) ++ [.string (mkS l[i])] = strsC (l.take (i + 1)) := by
 rw [strs_app, List.take_append_getElem]
set_option maxHeartbeats 16000000 in
theorem rright_spec (c : CoV) (hc : c.ok) : Does Tryz.prog 42 [.agg (coC c).toArray] (coHp c) (fun v hp' => v = .bool (rightC c.p) ∧ hp' = []) := by
 obtain ⟨hs1, hs2, hh1, hh2, hu1, hu2, hmr⟩ := hc
 have hCo : coC c = [.slice c.sa c.strs.length c.sc, .slice c.ha c.shapes.length c.hc, .slice c.ua c.units.length c.uc, .int .i64 c.main] := rfl
 have hbad : ¬ (c.strs.length ≤ 1024 ∧ c.shapes.length ≤ 16 ∧ c.units.length ≤ 32 ∧ 0 ≤ c.main ∧ c.main < c.units.length) → rightC c.p = false := fun h => formB_f1 (by
  cases h2 : headC c.p with
  | false => rfl
  | true =>
   have h3 := (headC_iff c.p).1 h2
   have h4 : (c.shapes.map ShV.p).length ≤ 16 := h3.2.1
   have h5 : (c.units.map UnV.p).length ≤ 32 := h3.2.2.1
   have h6 : c.main < ((c.units.map UnV.p).length : Int) := h3.2.2.2.2
   rw [List.length_map] at h4 h5 h6
   exact absurd ⟨h3.1, h4, h5, h3.2.2.2.1, h6⟩ h)
 have eN1 : c.p.shapes.map (·.1) = c.shapes.map ShV.name := by show (c.shapes.map ShV.p).map (·.1) = _; rw [List.map_map]; rfl
 have eN2 : c.p.units.map (·.name) = c.units.map UnV.name := by show (c.units.map UnV.p).map (·.name) = _; rw [List.map_map]; rfl
 unfold coHp
 rw [hCo]
 refine fn_enter Tryz.func42 rfl 164 rfl fun w0 h0 => ?_
 refine SQ (RG ?_)
 refine RP [] (.d .a) 1 .z .a 26 [.slice c.sa c.strs.length c.sc, .slice c.ha c.shapes.length c.hc, .slice c.ua c.units.length c.uc, .int .i64 c.main] fun g1 => ?_
 refine RR [] .z (.i 2 (.bool false) .a) .a ?_
 refine RZ (NT (SQ (SQ (RG ?_))))
 refine RR [5] (.d (.d (.d (.d (.d .a))))) (.i 17 (.bool (decide ((↑c.strs.length : Int) > (1024 : Int)))) .a) .a ?_
 by_cases k0 : ¬ c.strs.length ≤ 1024
 ·rw [hbad (fun h => k0 h.1)]
  refine SR 17 (decide ((↑c.strs.length : Int) > (1024 : Int))) true (decide_eq_true (by omega)) ?_
  refine RR [] .z (.i 37 (.bool true) (.d (.d (.k .a)))) .a ?_
  refine RZ (NT (CT (SQ (RG ?_))))
  refine RR [] .z (.d (.k .a)) .a ?_
  refine RZ (NT (RE (TR ?_)))
  refine NE [] .z .a [] (.bool false) ?_
  exact ⟨rfl, rfl⟩
 rw [Decidable.not_not] at k0
 refine SR 17 (decide ((↑c.strs.length : Int) > (1024 : Int))) false (decide_eq_false (by omega)) ?_
 refine RR [5] (.d (.d (.d (.d (.d (.d .a)))))) (.i 23 (.bool (decide ((↑c.shapes.length : Int) > (16 : Int)))) (.d (.d (.k .a)))) .a ?_
 by_cases k1 : ¬ c.shapes.length ≤ 16
 ·rw [hbad (fun h => k1 h.2.1)]
  refine SR 23 (decide ((↑c.shapes.length : Int) > (16 : Int))) true (decide_eq_true (by omega)) ?_
  refine RR [] .z (.i 37 (.bool true) (.d (.d (.k .a)))) .a ?_
  refine RZ (NT (CT (SQ (RG ?_))))
  refine RR [] .z (.d (.k .a)) .a ?_
  refine RZ (NT (RE (TR ?_)))
  refine NE [] .z .a [] (.bool false) ?_
  exact ⟨rfl, rfl⟩
 rw [Decidable.not_not] at k1
 refine SR 23 (decide ((↑c.shapes.length : Int) > (16 : Int))) false (decide_eq_false (by omega)) ?_
 refine RR [5] (.d (.d (.d (.d (.d (.d .a)))))) (.i 29 (.bool (decide ((↑c.units.length : Int) > (32 : Int)))) (.d (.d (.k .a)))) .a ?_
 by_cases k2 : ¬ c.units.length ≤ 32
 ·rw [hbad (fun h => k2 h.2.2.1)]
  refine SR 29 (decide ((↑c.units.length : Int) > (32 : Int))) true (decide_eq_true (by omega)) ?_
  refine RR [] .z (.i 37 (.bool true) (.d (.d (.k .a)))) .a ?_
  refine RZ (NT (CT (SQ (RG ?_))))
  refine RR [] .z (.d (.k .a)) .a ?_
  refine RZ (NT (RE (TR ?_)))
  refine NE [] .z .a [] (.bool false) ?_
  exact ⟨rfl, rfl⟩
 rw [Decidable.not_not] at k2
 refine SR 29 (decide ((↑c.units.length : Int) > (32 : Int))) false (decide_eq_false (by omega)) ?_
 refine RR [5, 5] (.d (.d (.d (.d (.d .a))))) (.i 34 (.int .i64 (↑c.units.length : Int)) (.i 31 (.int .i64 c.main) (.k (.d (.k .a))))) .a ?_
 refine RC (dst := some 35) [] .a (rupto_spec c.main c.units.length) ?_
 rintro v _ ⟨rfl, rfl⟩
 cases k3 : uptoB c.main c.units.length with
 | false =>
  rw [hbad (fun h => by have := (uptoB_iff c.main c.units.length).2 h.2.2.2; rw [k3] at this; cases this)]
  refine RR [] .z (.i 37 (.bool true) (.d (.d (.d (.d (.k .a)))))) .a ?_
  refine RZ (NT (CT (SQ (RG ?_))))
  refine RR [] .z (.d (.k .a)) .a ?_
  refine RZ (NT (RE (TR ?_)))
  refine NE [] .z .a [] (.bool false) ?_
  exact ⟨rfl, rfl⟩
 | true =>
 obtain ⟨hm0, hm1⟩ := (uptoB_iff _ _).1 k3
 refine RR [] .z (.i 37 (.bool false) (.d (.d (.d (.d (.k .a)))))) .a ?_
 refine RZ (NT (CF (SK (NT (SQ (SQ (RG ?_)))))))
 refine RR [] .z (.i 3 (.int .i64 0) (.d (.k .a))) .a ?_
 refine RZ (NT (BK ?_))
 refine wpc_loop (X := {i : Nat // i ≤ c.strs.length ∧ ∀ j, (hj : j < c.strs.length) → j < i → plainB c.strs[j] = true}) (fun x => St.mk [(3, .int .i64 (x.1 : Int)), (2, .bool false), (1, .pointer (some ⟨g1, 0, none⟩))]
  [ro c.sa (strsC c.strs), ro c.ha (c.shapes.flatMap shC), gSh c.shapes, ro c.ua (c.units.flatMap unC), gUn c.units, .blk g1 26 [.slice c.sa c.strs.length c.sc, .slice c.ha c.shapes.length c.hc, .slice c.ua c.units.length c.uc, .int .i64 c.main]]) (fun x => c.strs.length - x.1) ⟨0, Nat.zero_le _, fun j _ h => absurd h (Nat.not_lt_zero _)⟩ (ent_fr (by kernel_rfl)) ?_
 rintro ⟨i, hi, hall⟩
 dsimp only at hi hall ⊢
 by_cases hlt : i < c.strs.length
 ·have hts := hs2 _ (List.getElem_mem hlt)
  unfold okText at hts
  refine wpc_fact (fun w h => ro_addr h 0 rfl (by rw [strsC_len]; omega)) ?_
  rintro ⟨g0, o0, hsa⟩
  rw [hsa]
  refine SQ (SQ (RG ?_))
  refine RR [5] .z (.i 42 (.bool (decide ((↑i : Int) < (↑c.strs.length : Int)))) .a) .a ?_
  refine RZ (NT ?_)
  refine SC 42 (decide ((↑i : Int) < (↑c.strs.length : Int))) true (decide_eq_true (by omega)) ?_
  refine CT (SK (NT (SQ (BK (SQ (RG ?_))))))
  refine RV true [5] (.d (.d (.d (.d .a)))) (.i 48 (.pointer (some ⟨g0, o0 + i * 1, none⟩)) (.d (.d (.k .a)))) .a [(0 : Int) ≤ (↑i : Int) ∧ (↑i : Int) < (↑c.strs.length : Int)] ⟨by omega, trivial⟩ ?_
  refine wpr_eq (ld (t := 9) (a := ⟨g0, o0 + i * 1, none⟩) (dst := some 49) (by kernel_rfl) false 1 (by kernel_rfl) (by simp) [.string (mkS c.strs[i])] rfl (fun w h => ld_ro h 0 rfl (i * 1) (strs_at hlt))) ?_
  refine RC (dst := some 50) [] .a (rPlain_spec c.strs[i] hts) ?_
  rintro v _ ⟨rfl, rfl⟩
  cases hb : plainB c.strs[i] with
  | false =>
   rw [formB_f2 (c := c.p) (all_f (l := c.strs) hlt hb)]
   refine RR [] .z (.i 51 (.bool true) (.d (.d (.d (.k .a))))) .a ?_
   refine RZ (NT (CT (SQ (RG ?_))))
   refine RR [] .z (.i 2 (.bool false) (.d (.k (.d (.k .a))))) .a ?_
   refine RZ (NT (RE (BR (TR (TR (BR (TR ?_)))))))
   refine NE [] .z .a [] (.bool false) ?_
   exact ⟨rfl, rfl⟩
  | true =>
   refine RR [] .z (.i 51 (.bool false) (.d (.d (.d (.k .a))))) .a ?_
   refine RZ (NT (CF (SK (BN (NT (RG ?_))))))
   refine RV true [] .z (.i 3 (.int .i64 ((↑i : Int) + 1)) (.d (.d (.k .a)))) .a ([inI64 ((↑i : Int) + (1 : Int))]) ⟨by unfold inI64; omega, trivial⟩ ?_
   refine RZ ?_
   rw [← hsa]
   exact fun a' w' hS' => ⟨⟨i + 1, hlt, all_next (p := plainB) hlt hall hb⟩, by dsimp only; omega, ent_fr (by kernel_rfl) _ _ (ent_hp [0, 0, 0, 0, 0, 0] rfl _ _ hS')⟩
 obtain rfl : i = c.strs.length := by omega
 have hA1 : c.p.strs.all plainB = true := all_t fun j hj => hall j hj hj
 clear hall
 refine SQ (SQ (RG ?_))
 refine RR [5] .z (.i 42 (.bool (decide ((↑c.strs.length : Int) < (↑c.strs.length : Int)))) .a) .a ?_
 refine RZ (NT ?_)
 refine SC 42 (decide ((↑c.strs.length : Int) < (↑c.strs.length : Int))) false (by simp) ?_
 refine CF (EX (TE (TE (BH (NT (SQ (RG ?_)))))))
 refine RR [] .z (.i 4 (.slice none 0 0) (.d (.d (.d (.k .a))))) .a ?_
 refine RZ (NT (SQ (SQ (RG ?_))))
 refine RR [] .z (.i 5 (.int .i64 0) .a) .a ?_
 refine RZ (NT (BK ?_))
 refine wpc_loop (X := {x : Nat × Option Addr × Nat // x.1 ≤ c.shapes.length ∧ ∀ j, (hj : j < c.shapes.length) → j < x.1 → shapeB c.shapes[j].p = true}) (fun x => St.mk [(5, .int .i64 (x.1.1 : Int)), (4, .slice x.1.2.1 ((c.shapes.map ShV.name).take x.1.1).length x.1.2.2), (2, .bool false), (1, .pointer (some ⟨g1, 0, none⟩))]
  [row 9 1 x.1.2.1 ((c.shapes.map ShV.name).take x.1.1).length x.1.2.2 (strsC ((c.shapes.map ShV.name).take x.1.1)), ro c.sa (strsC c.strs), ro c.ha (c.shapes.flatMap shC), gSh c.shapes, ro c.ua (c.units.flatMap unC), gUn c.units, .blk g1 26 [.slice c.sa c.strs.length c.sc, .slice c.ha c.shapes.length c.hc, .slice c.ua c.units.length c.uc, .int .i64 c.main]]) (fun x => c.shapes.length - x.1.1) ⟨(0, none, 0), Nat.zero_le _, fun j _ h => absurd h (Nat.not_lt_zero _)⟩ (Ent.trans (ent_nil 9 1) (ent_fr (by kernel_rfl))) ?_
 rintro ⟨⟨i, a1, c1⟩, hi, hall⟩
 dsimp only at hi hall ⊢
 by_cases hlt : i < c.shapes.length
 ·obtain ⟨ho1, ho2, ho3⟩ := hh2 _ (List.getElem_mem hlt)
  have hlm : i < (c.shapes.map ShV.name).length := by rw [List.length_map]; exact hlt
  have hnl : ((c.shapes.map ShV.name).take i).length = i := by rw [List.length_take, List.length_map]; omega
  have hshl : shapeB c.shapes[i].p = (decide (1 ≤ c.shapes[i].fields.length) && decide (c.shapes[i].fields.length ≤ 8) && namesB c.shapes[i].fields) := rfl
  have hno : shapeB c.shapes[i].p = false → rightC c.p = false := fun h => formB_f3 (c := c.p) (all_f (l := c.shapes.map ShV.p) (i := i) (by rw [List.length_map]; exact hlt) (by rw [List.getElem_map]; exact h))
  have hrn := rnames_spec c.shapes[i].fa c.shapes[i].fc c.shapes[i].fields ho2 ho3
  refine wpc_fact (fun w h => ro_addr h 2 rfl (by rw [shs_len]; omega)) ?_
  rintro ⟨g0, o0, hha⟩
  rw [hha]
  refine SQ (SQ (RG ?_))
  refine RR [6] .z (.i 56 (.bool (decide ((↑i : Int) < (↑c.shapes.length : Int)))) .a) .a ?_
  refine RZ (NT ?_)
  refine SC 56 (decide ((↑i : Int) < (↑c.shapes.length : Int))) true (decide_eq_true (by omega)) ?_
  refine CT (SK (NT (SQ (BK (SQ (RG ?_))))))
  refine RV true [6] (.d (.d (.d (.d (.d .a))))) (.i 63 (.pointer (some ⟨g0, o0 + i * 2 + 1, none⟩)) (.d (.d (.k .a)))) .a [(0 : Int) ≤ (↑i : Int) ∧ (↑i : Int) < (↑c.shapes.length : Int)] ⟨by omega, trivial⟩ ?_
  refine wpr_eq (ld (t := 22) (a := ⟨g0, o0 + i * 2 + 1, none⟩) (dst := some 64) (by kernel_rfl) false 1 (by kernel_rfl) (by simp) [.slice c.shapes[i].fa c.shapes[i].fields.length c.shapes[i].fc] rfl (fun w h => ld_ro h 2 rfl (i * 2 + 1) (shs_fld hlt 1 1 (by decide)))) ?_
  refine RR [] .z (.i 6 (.slice c.shapes[i].fa c.shapes[i].fields.length c.shapes[i].fc) (.d (.d (.k .a)))) .a ?_
  refine RZ (NT (SQ (SQ (RG ?_))))
  refine RR [] (.d (.d (.d (.d .a)))) (.i 68 (.bool (decide ((↑c.shapes[i].fields.length : Int) < (1 : Int)))) .a) .a ?_
  by_cases m1 : ¬ 1 ≤ c.shapes[i].fields.length
  ·rw [hno (by rw [hshl, decide_eq_false m1]; rfl)]
   refine SR 68 (decide ((↑c.shapes[i].fields.length : Int) < (1 : Int))) true (decide_eq_true (by omega)) ?_
   refine RR [] .z (.i 77 (.bool true) (.d (.d (.d (.k .a))))) .a ?_
   refine RZ (NT (CT (SQ (RG ?_))))
   refine RR [] .z (.i 2 (.bool false) (.d (.k (.k (.d (.k .a)))))) .a ?_
   refine RZ (NT (RE (TR (BR (TR (TR (BR (TR ?_))))))))
   refine NE [] .z .a [] (.bool false) ?_
   exact ⟨rfl, rfl⟩
  rw [Decidable.not_not] at m1
  refine SR 68 (decide ((↑c.shapes[i].fields.length : Int) < (1 : Int))) false (decide_eq_false (by omega)) ?_
  refine RR [] (.d (.d (.d (.d (.d .a))))) (.i 73 (.bool (decide ((↑c.shapes[i].fields.length : Int) > (8 : Int)))) (.d (.d (.k .a)))) .a ?_
  by_cases m2 : ¬ c.shapes[i].fields.length ≤ 8
  ·rw [hno (by rw [hshl, decide_eq_false m2]; simp)]
   refine SR 73 (decide ((↑c.shapes[i].fields.length : Int) > (8 : Int))) true (decide_eq_true (by omega)) ?_
   refine RR [] .z (.i 77 (.bool true) (.d (.d (.d (.k .a))))) .a ?_
   refine RZ (NT (CT (SQ (RG ?_))))
   refine RR [] .z (.i 2 (.bool false) (.d (.k (.k (.d (.k .a)))))) .a ?_
   refine RZ (NT (RE (TR (BR (TR (TR (BR (TR ?_))))))))
   refine NE [] .z .a [] (.bool false) ?_
   exact ⟨rfl, rfl⟩
  rw [Decidable.not_not] at m2
  refine SR 73 (decide ((↑c.shapes[i].fields.length : Int) > (8 : Int))) false (decide_eq_false (by omega)) ?_
  refine RR [] (.d .a) (.i 74 (.slice c.shapes[i].fa c.shapes[i].fields.length c.shapes[i].fc) (.k (.d (.d (.k .a))))) .a ?_
  refine wpr_ent (ent_copy 3 (ro c.shapes[i].fa (strsC c.shapes[i].fields)) rfl (fun h => h) (view_in (shRo_in hlt) view_ro)) ?_
  refine RCG (dst := some 75) .a (hrn) (GV (GI []) 0 view_ro) ?_
  rintro v _ ⟨rfl, rfl⟩
  cases hb : namesB c.shapes[i].fields with
  | false =>
   rw [hno (by rw [hshl, hb]; simp)]
   refine RR [] .z (.i 77 (.bool true) (.d (.d (.d (.k .a))))) .a ?_
   refine RZ (NT (CT (SQ (RG ?_))))
   refine RR [] .z (.i 2 (.bool false) (.d (.k (.k (.d (.k .a)))))) .a ?_
   refine RZ (NT (RE (TR (BR (TR (TR (BR (TR ?_))))))))
   refine NE [] .z .a [] (.bool false) ?_
   exact ⟨rfl, rfl⟩
  | true =>
   refine RR [] .z (.i 77 (.bool false) (.d (.d (.d (.k .a))))) .a ?_
   refine RZ (NT (CF (SK (NT (RG ?_)))))
   refine RV true [7] (.d (.d (.d (.d (.d (.d .a)))))) (.i 83 (.pointer (some ⟨g0, o0 + i * 2, none⟩)) (.i 78 (.slice a1 (List.take i (List.map ShV.name c.shapes)).length c1) (.d (.k .a)))) .a [(0 : Int) ≤ (↑i : Int) ∧ (↑i : Int) < (↑c.shapes.length : Int)] ⟨by omega, trivial⟩ ?_
   refine wpr_eq (ld (t := 9) (a := ⟨g0, o0 + i * 2, none⟩) (dst := some 84) (by kernel_rfl) false 1 (by kernel_rfl) (by simp) [.string (mkS c.shapes[i].name)] rfl (fun w h => ld_ro h 3 rfl (i * 2) (shs_fld hlt 0 1 (by decide)))) ?_
   refine RN [] (.d .a) 85 (fun g2 => (.slice (some ⟨g2, 0, none⟩) 1 1)) (.d (.d (.k .a))) .a 9 [.string (mkS c.shapes[i].name)] fun g2 => ?_
   refine wpr_ent (ent_turn 8 (ro (some ⟨g2, 0, none⟩) [.string (mkS c.shapes[i].name)]) rfl (turn_rblk (by intro v hv; rw [List.mem_singleton.1 hv]; rfl)) rfl) ?_
   refine wpr_app (a := a1) (n := ((List.take i (List.map ShV.name c.shapes)).length)) (cap := c1) (x := (.slice (some ⟨g2, 0, none⟩) 1 1)) (t := 22) (xt := 22) (dst := some 86) (by kernel_rfl) (e := 9) (sz := 1) (bytes := 16) (by kernel_rfl) 1 (xs := (strsC (List.take i (List.map ShV.name c.shapes)))) (by kernel_rfl) (m := 1) (news := [.string (mkS c.shapes[i].name)]) (fun w h => src_ro h 8 rfl rfl (fun e => by cases e)) (by unfold maxLen; omega) (by omega) ?_
   intro a3 c3 hn3
   have hE : strsC ((c.shapes.map ShV.name).take i) ++ [.string (mkS c.shapes[i].name)] = strsC ((c.shapes.map ShV.name).take (i + 1)) := by
    have := strs_take hlm
    rw [List.getElem_map] at this
    exact this
   rw [hE, show ((c.shapes.map ShV.name).take i).length + 1 = ((c.shapes.map ShV.name).take (i + 1)).length by rw [hnl, List.length_take, List.length_map]; omega]
   refine RR [] .z (.i 4 (.slice a3 (List.take (i + 1) (List.map ShV.name c.shapes)).length c3) (.d (.d (.d (.k (.d (.k .a))))))) .a ?_
   refine RZ (BN (NT (RG ?_)))
   refine RV true [] .z (.i 5 (.int .i64 ((↑i : Int) + 1)) (.k (.d (.k .a)))) .a ([inI64 ((↑i : Int) + (1 : Int))]) ⟨by unfold inI64; omega, trivial⟩ ?_
   refine RZ ?_
   rw [← hha]
   exact fun a' w' hS' => ⟨⟨(i + 1, a3, c3), hlt, all_next (p := fun x : ShV => shapeB x.p) hlt hall (by rw [hshl, decide_eq_true m1, decide_eq_true m2, hb]; rfl)⟩, by dsimp only; omega, ent_fr (by kernel_rfl) _ _ (ent_hp [1, 1, 1, 1, 1, 1, 1] rfl _ _ hS')⟩
 obtain rfl : i = c.shapes.length := by omega
 have hA2 : c.p.shapes.all shapeB = true := all_t (l := c.shapes.map ShV.p) fun j hj => by rw [List.length_map] at hj; rw [List.getElem_map]; exact hall j hj hj
 clear hall
 rw [show (c.shapes.map ShV.name).take c.shapes.length = c.shapes.map ShV.name from List.take_of_length_le (by rw [List.length_map]; exact Nat.le_refl _)]
 refine SQ (SQ (RG ?_))
 refine RR [6] .z (.i 56 (.bool (decide ((↑c.shapes.length : Int) < (↑c.shapes.length : Int)))) .a) .a ?_
 refine RZ (NT ?_)
 refine SC 56 (decide ((↑c.shapes.length : Int) < (↑c.shapes.length : Int))) false (by simp) ?_
 refine CF (EX (TE (TE (BH (NT (SQ (RG ?_)))))))
 refine RR [] .z (.i 7 (.slice none 0 0) (.d (.d (.d (.k .a))))) .a ?_
 refine RZ (NT (SQ (SQ (RG ?_))))
 refine RR [] .z (.i 8 (.int .i64 0) .a) .a ?_
 refine RZ (NT (BK ?_))
 refine wpc_loop (X := {x : Nat × Option Addr × Nat // x.1 ≤ c.units.length}) (fun x => St.mk [(8, .int .i64 (x.1.1 : Int)), (7, .slice x.1.2.1 ((c.units.map UnV.name).take x.1.1).length x.1.2.2), (4, .slice a1 (c.shapes.map ShV.name).length c1), (2, .bool false), (1, .pointer (some ⟨g1, 0, none⟩))]
  [row 9 1 x.1.2.1 ((c.units.map UnV.name).take x.1.1).length x.1.2.2 (strsC ((c.units.map UnV.name).take x.1.1)), row 9 1 a1 (c.shapes.map ShV.name).length c1 (strsC (c.shapes.map ShV.name)), ro c.sa (strsC c.strs), ro c.ha (c.shapes.flatMap shC), gSh c.shapes, ro c.ua (c.units.flatMap unC), gUn c.units, .blk g1 26 [.slice c.sa c.strs.length c.sc, .slice c.ha c.shapes.length c.hc, .slice c.ua c.units.length c.uc, .int .i64 c.main]]) (fun x => c.units.length - x.1.1) ⟨(0, none, 0), Nat.zero_le _⟩ (Ent.trans (ent_nil 9 1) (ent_fr (by kernel_rfl))) ?_
 rintro ⟨⟨i, a2, c2⟩, hi⟩
 dsimp only at hi ⊢
 by_cases hlt : i < c.units.length
 ·have hlm : i < (c.units.map UnV.name).length := by rw [List.length_map]; exact hlt
  have hnl : ((c.units.map UnV.name).take i).length = i := by rw [List.length_take, List.length_map]; omega
  refine wpc_fact (fun w h => ro_addr h 5 rfl (by rw [uns_len]; omega)) ?_
  rintro ⟨g0, o0, hua⟩
  rw [hua]
  refine SQ (SQ (RG ?_))
  refine RR [7] .z (.i 91 (.bool (decide ((↑i : Int) < (↑c.units.length : Int)))) .a) .a ?_
  refine RZ (NT ?_)
  refine SC 91 (decide ((↑i : Int) < (↑c.units.length : Int))) true (decide_eq_true (by omega)) ?_
  refine CT (SK (NT (SQ (BK (RG ?_)))))
  refine RV true [7] (.d (.d (.d (.d (.d (.d .a)))))) (.i 99 (.pointer (some ⟨g0, o0 + i * 7, none⟩)) (.i 94 (.slice a2 (List.take i (List.map UnV.name c.units)).length c2) (.d (.d (.k .a))))) .a [(0 : Int) ≤ (↑i : Int) ∧ (↑i : Int) < (↑c.units.length : Int)] ⟨by omega, trivial⟩ ?_
  refine wpr_eq (ld (t := 9) (a := ⟨g0, o0 + i * 7, none⟩) (dst := some 100) (by kernel_rfl) false 1 (by kernel_rfl) (by simp) [.string (mkS c.units[i].name)] rfl (fun w h => ld_ro h 5 rfl (i * 7) (uns_fld hlt 0 1 (by decide)))) ?_
  refine RN [] (.d .a) 101 (fun g2 => (.slice (some ⟨g2, 0, none⟩) 1 1)) (.d (.d (.k .a))) .a 9 [.string (mkS c.units[i].name)] fun g2 => ?_
  refine wpr_ent (ent_turn 8 (ro (some ⟨g2, 0, none⟩) [.string (mkS c.units[i].name)]) rfl (turn_rblk (by intro v hv; rw [List.mem_singleton.1 hv]; rfl)) rfl) ?_
  refine wpr_app (a := a2) (n := ((List.take i (List.map UnV.name c.units)).length)) (cap := c2) (x := (.slice (some ⟨g2, 0, none⟩) 1 1)) (t := 22) (xt := 22) (dst := some 102) (by kernel_rfl) (e := 9) (sz := 1) (bytes := 16) (by kernel_rfl) 0 (xs := (strsC (List.take i (List.map UnV.name c.units)))) (by kernel_rfl) (m := 1) (news := [.string (mkS c.units[i].name)]) (fun w h => src_ro h 8 rfl rfl (fun e => by cases e)) (by unfold maxLen; omega) (by omega) ?_
  intro a3 c3 hn3
  have hE : strsC ((c.units.map UnV.name).take i) ++ [.string (mkS c.units[i].name)] = strsC ((c.units.map UnV.name).take (i + 1)) := by
   have := strs_take hlm
   rw [List.getElem_map] at this
   exact this
  rw [hE, show ((c.units.map UnV.name).take i).length + 1 = ((c.units.map UnV.name).take (i + 1)).length by rw [hnl, List.length_take, List.length_map]; omega]
  refine RR [] .z (.i 7 (.slice a3 (List.take (i + 1) (List.map UnV.name c.units)).length c3) (.d (.d (.d (.k (.d (.k .a))))))) .a ?_
  refine RZ (BN (NT (RG ?_)))
  refine RV true [] .z (.i 8 (.int .i64 ((↑i : Int) + 1)) (.k (.d (.k .a)))) .a ([inI64 ((↑i : Int) + (1 : Int))]) ⟨by unfold inI64; omega, trivial⟩ ?_
  refine RZ ?_
  rw [← hua]
  exact fun a' w' hS' => ⟨⟨(i + 1, a3, c3), hlt⟩, by dsimp only; omega, ent_fr (by kernel_rfl) _ _ (ent_hp [0, 0, 0, 0, 0, 0, 0, 0] rfl _ _ hS')⟩
 obtain rfl : i = c.units.length := by omega
 rw [show (c.units.map UnV.name).take c.units.length = c.units.map UnV.name from List.take_of_length_le (by rw [List.length_map]; exact Nat.le_refl _)]
 refine SQ (SQ (RG ?_))
 refine RR [7] .z (.i 91 (.bool (decide ((↑c.units.length : Int) < (↑c.units.length : Int)))) .a) .a ?_
 refine RZ (NT ?_)
 refine SC 91 (decide ((↑c.units.length : Int) < (↑c.units.length : Int))) false (by simp) ?_
 refine CF (EX (TE (TE (BH (NT (SQ (SQ (RG ?_))))))))
 refine RR [] (.d .a) (.i 103 (.slice a1 (List.map ShV.name c.shapes).length c1) (.d (.d (.d (.k (.d (.k .a))))))) .a ?_
 refine RCG (dst := some 104) .a (rnames_spec a1 c1 (c.shapes.map ShV.name) (by rw [List.length_map]; exact hh1) (fun x hx => by obtain ⟨y, hy, rfl⟩ := List.mem_map.1 hx; exact (hh2 y hy).1)) (GV (GI []) 1 view_row) ?_
 rintro v _ ⟨rfl, rfl⟩
 cases hN1 : namesB (c.shapes.map ShV.name) with
 | false =>
  rw [formB_f4 (c := c.p) (by rw [eN1]; exact hN1)]
  refine RR [] .z (.i 129 (.bool true) (.d (.d (.d (.k .a))))) .a ?_
  refine RZ (NT (CT (SQ (RG ?_))))
  refine RR [] .z (.d (.k .a)) .a ?_
  refine RZ (NT (RE (TR ?_)))
  refine NE [] .z .a [] (.bool false) ?_
  exact ⟨rfl, rfl⟩
 | true =>
 refine RR [] (.d (.d (.d .a))) (.i 107 (.slice a2 (List.map UnV.name c.units).length c2) (.i 106 (.bool false) (.d (.d (.d (.k .a)))))) .a ?_
 refine RCG (dst := some 108) .a (rnames_spec a2 c2 (c.units.map UnV.name) (by rw [List.length_map]; exact hu1) (fun x hx => by obtain ⟨y, hy, rfl⟩ := List.mem_map.1 hx; exact (hu2 y hy).1)) (GV (GI []) 0 view_row) ?_
 rintro v _ ⟨rfl, rfl⟩
 cases hN2 : namesB (c.units.map UnV.name) with
 | false =>
  rw [formB_f5 (c := c.p) (by rw [eN2]; exact hN2)]
  refine RR [] .z (.i 129 (.bool true) (.d (.d (.d (.k .a))))) .a ?_
  refine RZ (NT (CT (SQ (RG ?_))))
  refine RR [] .z (.d (.k .a)) .a ?_
  refine RZ (NT (RE (TR ?_)))
  refine NE [] .z .a [] (.bool false) ?_
  exact ⟨rfl, rfl⟩
 | true =>
 obtain ⟨mn, hmn⟩ := Int.eq_ofNat_of_zero_le hm0
 have hmlt : mn < c.units.length := by omega
 have eM : mainB c.p = (decide (c.units[mn].params = 0) && !c.units[mn].result) := by
  unfold mainB
  have e : c.p.units[c.p.main.toNat]? = some c.units[mn].p := by
   show (c.units.map UnV.p)[c.main.toNat]? = _
   rw [hmn, Int.toNat_natCast, List.getElem?_map, List.getElem?_eq_getElem hmlt]; rfl
  rw [e]; rfl
 refine wpr_fact (fun w h => ro_addr h 5 rfl (by rw [uns_len]; omega)) ?_
 rintro ⟨g0, o0, hua⟩
 rw [hua, hmn]
 refine RV true [7, 7] (.d (.d (.d (.d (.d (.d (.d (.d (.d .a))))))))) (.i 117 (.pointer (some ⟨g0, o0 + mn * 7 + 1, none⟩)) (.i 111 (.bool false) (.d (.d (.d (.k .a)))))) .a [(0 : Int) ≤ (↑mn : Int) ∧ (↑mn : Int) < (↑c.units.length : Int)] ⟨by omega, trivial⟩ ?_
 refine wpr_eq (ld (t := 3) (a := ⟨g0, o0 + mn * 7 + 1, none⟩) (dst := some 118) (by kernel_rfl) false 1 (by kernel_rfl) (by simp) [.int .i64 c.units[mn].params] rfl (fun w h => ld_ro h 5 rfl (mn * 7 + 1) (uns_fld hmlt 1 1 (by decide)))) ?_
 refine RR [] (.d (.d (.d .a))) (.i 121 (.bool (c.units[mn].params != (0 : Int))) (.d (.d (.d (.k .a))))) .a ?_
 by_cases kP : ¬ c.units[mn].params = 0
 ·rw [formB_f6 (c := c.p) (by rw [eM, decide_eq_false kP]; rfl)]
  refine SR 121 (c.units[mn].params != (0 : Int)) true (by simp only [bne_iff_ne, beq_iff_eq, ne_eq]; omega) ?_
  refine RR [] .z (.i 129 (.bool true) (.d (.d (.k .a)))) .a ?_
  refine RZ (NT (CT (SQ (RG ?_))))
  refine RR [] .z (.d (.k .a)) .a ?_
  refine RZ (NT (RE (TR ?_)))
  refine NE [] .z .a [] (.bool false) ?_
  exact ⟨rfl, rfl⟩
 rw [Decidable.not_not] at kP
 refine SR 121 (c.units[mn].params != (0 : Int)) false (by simp only [bne_eq_false_iff_eq, beq_eq_false_iff_ne, ne_eq]; omega) ?_
 refine RV true [7, 7] (.d (.d (.d (.d (.d (.d .a)))))) (.i 127 (.pointer (some ⟨g0, o0 + mn * 7 + 4, none⟩)) (.k (.d (.k .a)))) .a [(0 : Int) ≤ (↑mn : Int) ∧ (↑mn : Int) < (↑c.units.length : Int)] ⟨by omega, trivial⟩ ?_
 refine wpr_eq (ld (t := 4) (a := ⟨g0, o0 + mn * 7 + 4, none⟩) (dst := some 128) (by kernel_rfl) false 1 (by kernel_rfl) (by simp) [.bool c.units[mn].result] rfl (fun w h => ld_ro h 5 rfl (mn * 7 + 4) (uns_fld hmlt 4 1 (by decide)))) ?_
 refine RR [] .z (.i 129 (.bool c.units[mn].result) (.d (.d (.d (.k .a))))) .a ?_
 refine RZ (NT ?_)
 cases hr : c.units[mn].result with
 | true =>
  rw [formB_f6 (c := c.p) (by rw [eM, hr]; simp)]
  refine CT (SQ (RG ?_))
  refine RR [] .z (.d (.k .a)) .a ?_
  refine RZ (NT (RE (TR ?_)))
  refine NE [] .z .a [] (.bool false) ?_
  exact ⟨rfl, rfl⟩
 | false =>
 have hA3 : mainB c.p = true := by rw [eM, hr, decide_eq_true kP]; rfl
 rw [← hua, ← hmn]
 refine CF (SK (NT (SQ (SQ (RG ?_)))))
 refine RR [] .z (.i 9 (.int .i64 0) (.d (.k .a))) .a ?_
 refine RZ (NT (BK ?_))
 refine wpc_loop (X := {i : Nat // i ≤ c.units.length ∧ ∀ j, (hj : j < c.units.length) → j < i → unitB c.p c.units[j].p = true}) (fun x => St.mk [(9, .int .i64 (x.1 : Int)), (2, .bool false), (1, .pointer (some ⟨g1, 0, none⟩))]
  [ro c.ua (c.units.flatMap unC), ro c.ha (c.shapes.flatMap shC), gUn c.units, .blk g1 26 [.slice c.sa c.strs.length c.sc, .slice c.ha c.shapes.length c.hc, .slice c.ua c.units.length c.uc, .int .i64 c.main]]) (fun x => c.units.length - x.1) ⟨0, Nat.zero_le _, fun j _ h => absurd h (Nat.not_lt_zero _)⟩ (Ent.trans (ent_hp [5, 3, 4, 4] rfl) (ent_fr (by kernel_rfl))) ?_
 rintro ⟨i, hi, hall⟩
 dsimp only at hi hall ⊢
 by_cases hlt : i < c.units.length
 ·have hun := runit_spec c c.units[i] (hu2 _ (List.getElem_mem hlt))
  rw [hCo] at hun
  unfold unC at hun
  refine wpc_fact (fun w h => ro_addr h 0 rfl (by rw [uns_len]; omega)) ?_
  rintro ⟨g0, o0, hua⟩
  rw [hua] at hun ⊢
  refine SQ (SQ (RG ?_))
  refine RR [3] .z (.i 134 (.bool (decide ((↑i : Int) < (↑c.units.length : Int)))) .a) .a ?_
  refine RZ (NT ?_)
  refine SC 134 (decide ((↑i : Int) < (↑c.units.length : Int))) true (decide_eq_true (by omega)) ?_
  refine CT (SK (NT (SQ (BK (SQ ?_)))))
  refine wpc_draw (by kernel_rfl) [ro (some ⟨g0, o0, none⟩) (List.flatMap unC c.units), .blk g1 26 [.slice c.sa c.strs.length c.sc, .slice c.ha c.shapes.length c.hc, .slice (some ⟨g0, o0, none⟩) c.units.length c.uc, .int .i64 c.main]] (sub_of [0, 3] (by kernel_rfl)) 8 (by kernel_rfl) ?_
  refine wpa_take true [(0, [1, 1, 1, 1]), (1, []), (2, [1]), (3, []), (4, [])] ([(141, .pointer (some ⟨g0, o0 + i * 7, none⟩)), (137, .agg #[.slice c.sa c.strs.length c.sc, .slice c.ha c.shapes.length c.hc, .slice (some ⟨g0, o0, none⟩) c.units.length c.uc, .int .i64 c.main]), (9, .int .i64 (↑i : Int)), (2, .bool false), (1, .pointer (some ⟨g1, 0, none⟩))]) (#[true, true, true, true, true, false, false, false]) [(0 : Int) ≤ (↑i : Int) ∧ (↑i : Int) < (↑c.units.length : Int)] (n := 3) (by kernel_rfl) (by kernel_rfl) (by kernel_rfl) ⟨by omega, trivial⟩ ?_
  refine wpa_qld (i := 5) (n := 2) (by kernel_rfl) (by kernel_rfl) (by kernel_rfl) (t := 59) (a := ⟨g0, o0 + i * 7, none⟩) (dst := some 142) (by kernel_rfl) true 7 (by kernel_rfl) (by simp) (unC c.units[i]) rfl (fun w h => ld_roL h 0 rfl (i * 7) (uns_at hlt)) ?_
  refine wpa_ent (ent_copy 2 (ro c.units[i].ia (c.units[i].ins.flatMap insC)) rfl (fun h => h) (view_in (unRo_in1 hlt) view_ro)) ?_
  refine wpa_ent (ent_copy 3 (ro c.units[i].va (c.units[i].vars.flatMap varC)) rfl (fun h => h) (view_in (unRo_in2 hlt) view_ro)) ?_
  refine AC (dst := some 143) 1 6 .a (hun) (GV (GV (GI []) 0 view_ro) 1 view_ro) [2, 5] ?_
  rintro v _ ⟨rfl, rfl⟩
  cases hb : unitB c.p c.units[i].p with
  | false =>
   rw [formB_f7 (c := c.p) (all_f (l := c.units.map UnV.p) (i := i) (by rw [List.length_map]; exact hlt) (by rw [List.getElem_map]; exact hb))]
   refine TK 0 [(7, [])] (.i 144 (.bool true) (.d (.d (.d (.d (.k .a)))))) (#[true, true, true, true, true, true, true, true]) ?_
   refine wpa_done 0 (by kernel_rfl) ?_
   refine NT (CT (SQ (RG ?_)))
   refine RR [] .z (.i 2 (.bool false) (.d (.k (.d (.k .a))))) .a ?_
   refine RZ (NT (RE (BR (TR (TR (BR (TR ?_)))))))
   refine NE [] .z .a [] (.bool false) ?_
   exact ⟨rfl, rfl⟩
  | true =>
   refine TK 0 [(7, [])] (.i 144 (.bool false) (.d (.d (.d (.d (.k .a)))))) (#[true, true, true, true, true, true, true, true]) ?_
   refine wpa_done 0 (by kernel_rfl) ?_
   refine NT (CF (SK (BN (NT (RG ?_)))))
   refine RV true [] .z (.i 9 (.int .i64 ((↑i : Int) + 1)) (.d (.d (.k .a)))) .a ([inI64 ((↑i : Int) + (1 : Int))]) ⟨by unfold inI64; omega, trivial⟩ ?_
   refine RZ ?_
   rw [← hua]
   exact fun a' w' hS' => ⟨⟨i + 1, hlt, all_next (p := fun x : UnV => unitB c.p x.p) hlt hall hb⟩, by dsimp only; omega, ent_fr (by kernel_rfl) _ _ (ent_hp [2, 2, 2, 2] rfl _ _ hS')⟩
 obtain rfl : i = c.units.length := by omega
 have hA4 : c.p.units.all (unitB c.p) = true := all_t (l := c.units.map UnV.p) fun j hj => by rw [List.length_map] at hj; rw [List.getElem_map]; exact hall j hj hj
 have hUall : ∀ j, (hj : j < c.units.length) → unitB c.p c.units[j].p = true := fun j hj => hall j hj hj
 clear hall
 have hpu : ∀ y ∈ c.units, 0 ≤ y.params ∧ y.params ≤ 8 := fun y hy => by
  obtain ⟨j, hj⟩ := List.getElem?_of_mem hy
  obtain ⟨hj1, rfl⟩ := List.getElem?_eq_some_iff.1 hj
  have := unitB_head (hUall j hj1)
  exact ⟨this.1, this.2.1⟩
 have hform : formB c.p = true := by
  have h1 : headC c.p = true := (headC_iff c.p).2 ⟨k0, by show (c.shapes.map ShV.p).length ≤ 16; rw [List.length_map]; exact k1, by show (c.units.map UnV.p).length ≤ 32; rw [List.length_map]; exact k2, hm0, by show c.main < ((c.units.map UnV.p).length : Int); rw [List.length_map]; exact hm1⟩
  unfold formB
  rw [h1, hA1, hA2, eN1, hN1, eN2, hN2, hA3, hA4]; rfl
 have hR : rightC c.p = c.p.units.all (fun u => fineB (gr c.p u)) := by unfold rightC; rw [hform]; rfl
 rw [hR]
 refine SQ (SQ (RG ?_))
 refine RR [3] .z (.i 134 (.bool (decide ((↑c.units.length : Int) < (↑c.units.length : Int)))) .a) .a ?_
 refine RZ (NT ?_)
 refine SC 134 (decide ((↑c.units.length : Int) < (↑c.units.length : Int))) false (by simp) ?_
 refine CF (EX (TE (TE (BH (NT (SQ (SQ (RG ?_))))))))
 refine RR [] .z (.i 10 (.int .i64 0) (.d (.d (.d (.k .a))))) .a ?_
 refine RZ (NT (BK ?_))
 refine wpc_loop (X := {i : Nat // i ≤ c.units.length ∧ ∀ j, (hj : j < c.units.length) → j < i → fineB (gr c.p c.units[j].p) = true}) (fun x => St.mk [(10, .int .i64 (x.1 : Int)), (2, .bool false), (1, .pointer (some ⟨g1, 0, none⟩))]
  [ro c.ua (c.units.flatMap unC), ro c.ha (c.shapes.flatMap shC), gUn c.units, .blk g1 26 [.slice c.sa c.strs.length c.sc, .slice c.ha c.shapes.length c.hc, .slice c.ua c.units.length c.uc, .int .i64 c.main]]) (fun x => c.units.length - x.1) ⟨0, Nat.zero_le _, fun j _ h => absurd h (Nat.not_lt_zero _)⟩ (ent_fr (by kernel_rfl)) ?_
 rintro ⟨i, hi, hall⟩
 dsimp only at hi hall ⊢
 by_cases hlt : i < c.units.length
 ·have hun := rheights_spec c hu1 hh1 (fun s hs => (hh2 s hs).2.1) hpu c.units[i] (hUall i hlt)
  rw [hCo, show unC c.units[i] = [.string (mkS c.units[i].name), .int .i64 c.units[i].params, .int .i64 c.units[i].slots, .int .i64 c.units[i].stack, .bool c.units[i].result, .slice c.units[i].ia c.units[i].ins.length c.units[i].ic, .slice c.units[i].va c.units[i].vars.length c.units[i].vc] from rfl] at hun
  refine wpc_fact (fun w h => ro_addr h 0 rfl (by rw [uns_len]; omega)) ?_
  rintro ⟨g0, o0, hua⟩
  rw [hua] at hun ⊢
  refine SQ (SQ (RG ?_))
  refine RR [3] .z (.i 149 (.bool (decide ((↑i : Int) < (↑c.units.length : Int)))) .a) .a ?_
  refine RZ (NT ?_)
  refine SC 149 (decide ((↑i : Int) < (↑c.units.length : Int))) true (decide_eq_true (by omega)) ?_
  refine CT (SK (NT (SQ (BK (SQ ?_)))))
  refine wpc_draw (by kernel_rfl) [ro (some ⟨g0, o0, none⟩) (List.flatMap unC c.units), .blk g1 26 [.slice c.sa c.strs.length c.sc, .slice c.ha c.shapes.length c.hc, .slice (some ⟨g0, o0, none⟩) c.units.length c.uc, .int .i64 c.main]] (sub_of [0, 3] (by kernel_rfl)) 12 (by kernel_rfl) ?_
  refine wpa_take true [(0, [1, 1, 1, 1]), (1, []), (2, [1]), (3, []), (4, [])] ([(157, .pointer (some ⟨g0, o0 + i * 7, none⟩)), (153, .agg #[.slice c.sa c.strs.length c.sc, .slice c.ha c.shapes.length c.hc, .slice (some ⟨g0, o0, none⟩) c.units.length c.uc, .int .i64 c.main]), (10, .int .i64 (↑i : Int)), (2, .bool false), (1, .pointer (some ⟨g1, 0, none⟩))]) (#[true, true, true, true, true, false, false, false, false, false, false, false]) [(0 : Int) ≤ (↑i : Int) ∧ (↑i : Int) < (↑c.units.length : Int)] (n := 7) (by kernel_rfl) (by kernel_rfl) (by kernel_rfl) ⟨by omega, trivial⟩ ?_
  refine wpa_qld (i := 5) (n := 6) (by kernel_rfl) (by kernel_rfl) (by kernel_rfl) (t := 59) (a := ⟨g0, o0 + i * 7, none⟩) (dst := some 158) (by kernel_rfl) true 7 (by kernel_rfl) (by simp) (unC c.units[i]) rfl (fun w h => ld_roL h 0 rfl (i * 7) (uns_at hlt)) ?_
  refine wpa_ent (ent_copy 2 (ro c.units[i].ia (c.units[i].ins.flatMap insC)) rfl (fun h => h) (view_in (unRo_in1 hlt) view_ro)) ?_
  refine AC (dst := some 159) 5 6 .a (hun) (GV (GV (GV (GI []) 0 view_ro) 2 view_ro) 1 view_ro) [1, 4] ?_
  intro v hp' hv
  cases hb : fineB (gr c.p c.units[i].p) with
  | false =>
   rw [if_neg (by rw [hb]; decide)] at hv
   obtain ⟨rfl, rfl⟩ := hv
   rw [show c.p.units.all (fun u => fineB (gr c.p u)) = false from all_f (l := c.units.map UnV.p) (p := fun u => fineB (gr c.p u)) (i := i) (by rw [List.length_map]; exact hlt) (by rw [List.getElem_map]; exact hb)]
   refine TK 0 [(7, []), (8, []), (9, []), (10, []), (11, [])] (.i 12 (.bool false) (.d (.d (.d (.d (.k .a)))))) (#[true, true, true, true, true, true, true, true, true, true, true, true]) ?_
   refine wpa_done 0 (by kernel_rfl) ?_
   refine NT (SQ (RG ?_))
   refine RR [] .z (.i 163 (.bool true) (.d (.k .a))) .a ?_
   refine RZ (NT (CT (SQ (RG ?_))))
   refine RR [] .z (.i 2 (.bool false) (.d (.k (.d (.k .a))))) .a ?_
   refine RZ (NT (RE (BR (TR (TR (BR (TR ?_)))))))
   refine NE [] .z .a [] (.bool false) ?_
   exact ⟨rfl, rfl⟩
  | true =>
   rw [if_pos hb] at hv
   obtain ⟨a5, c5, rfl, rfl⟩ := hv
   refine TK 0 [(7, []), (8, []), (9, []), (10, []), (11, [])] (.i 12 (.bool true) (.d (.d (.d (.d (.k .a)))))) (#[true, true, true, true, true, true, true, true, true, true, true, true]) ?_
   refine wpa_done 0 (by kernel_rfl) ?_
   refine NT (SQ (RG ?_))
   refine RR [] .z (.i 163 (.bool false) (.d (.k .a))) .a ?_
   refine RZ (NT (CF (SK (BN (NT (RG ?_))))))
   refine RV true [] .z (.i 10 (.int .i64 ((↑i : Int) + 1)) (.d (.d (.k .a)))) .a ([inI64 ((↑i : Int) + (1 : Int))]) ⟨by unfold inI64; omega, trivial⟩ ?_
   refine RZ ?_
   rw [← hua]
   exact fun a' w' hS' => ⟨⟨i + 1, hlt, all_next (p := fun x : UnV => fineB (gr c.p x.p)) hlt hall hb⟩, by dsimp only; omega, ent_fr (by kernel_rfl) _ _ (ent_hp [2, 2, 2, 2] rfl _ _ hS')⟩
 obtain rfl : i = c.units.length := by omega
 rw [show c.p.units.all (fun u => fineB (gr c.p u)) = true from all_t (l := c.units.map UnV.p) (p := fun u => fineB (gr c.p u)) (fun j hj => by rw [List.length_map] at hj; rw [List.getElem_map]; exact hall j hj hj)]
 refine SQ (SQ (RG ?_))
 refine RR [3] .z (.i 149 (.bool (decide ((↑c.units.length : Int) < (↑c.units.length : Int)))) .a) .a ?_
 refine RZ (NT ?_)
 refine SC 149 (decide ((↑c.units.length : Int) < (↑c.units.length : Int))) false (by simp) ?_
 refine CF (EX (TE (TE (BH (NT (SQ (RG ?_)))))))
 refine RR [] .z (.i 2 (.bool true) .z) .a ?_
 refine RZ (NT (RE ?_))
 refine NE [] .z .a [] (.bool true) ?_
 exact ⟨rfl, rfl⟩
end Go.Proofs.YtgcfomhlgipllaaGreatDoor
namespace Go.Proofs.YtgcfomhlgipllaaGreatDoor
open Go Go.Sx
/-! What bytes are read as: the fault, the code. What is told is read as it was; what is read is told as just these bytes; what is cut off ends too early. -/
noncomputable def ldE (bs : List UInt8) : Int :=
 if endE bs (rCo bs (0, 0)).2.1 (rCo bs (0, 0)).2.2 ≠ 0 then endE bs (rCo bs (0, 0)).2.1 (rCo bs (0, 0)).2.2 else if rightC (rCo bs (0, 0)).1 then 0 else 2
def noC : CodeP := ⟨[], [], [], 0⟩
noncomputable def ldC (bs : List UInt8) : CodeP := if ldE bs = 0 then (rCo bs (0, 0)).1 else noC
theorem ldC_bad {bs : List UInt8} (h : ldE bs ≠ 0) : ldC bs = noC := by unfold ldC; rw [if_neg h]
theorem cend_all (s : List UInt8) : endE s (s.length : Nat) 0 = 0 := by
 unfold endE
 rw [if_neg (fun h => h rfl), if_neg (by omega)]
theorem cendE_end {s : List UInt8} {a : Nat} {e : Int} (h : endE s a e = 0) : e = 0 ∧ s.length ≤ a := by
 unfold endE at h
 split at h
 ·rename_i h1; exact absurd h h1
 ·rename_i h1
  split at h
  ·omega
  ·exact ⟨Classical.not_not.1 h1, by omega⟩
theorem code_back {p : CodeP} (hn : nCo p) (hm : rightC p = true) : ldE (encCo p) = 0 ∧ ldC (encCo p) = p := by
 have h := codec_rCo.back (encCo p) 0 p [] hn (by rw [List.drop_zero, List.append_nil])
 rw [Nat.zero_add] at h
 have hE : ldE (encCo p) = 0 := by
  unfold ldE
  rw [h]
  dsimp only
  rw [cend_all, if_neg (fun h => h rfl), hm]
  rfl
 refine ⟨hE, ?_⟩
 unfold ldC
 rw [if_pos hE, h]
theorem code_form {bs : List UInt8} (h : ldE bs = 0) : encCo (ldC bs) = bs ∧ rightC (ldC bs) = true := by
 have hS : ldC bs = (rCo bs (0, 0)).1 := by unfold ldC; rw [if_pos h]
 rw [hS]
 unfold ldE at h
 split at h
 ·rename_i h1; exact absurd h h1
 ·rename_i h1
  obtain ⟨e0, ha⟩ := cendE_end (Classical.not_not.1 h1)
  split at h
  ·rename_i hm
   have hf := codec_rCo.form bs 0 (Nat.zero_le _) e0
   rw [List.drop_zero, List.drop_eq_nil_of_le ha, List.append_nil] at hf
   exact ⟨hf.symm, hm⟩
  ·omega
theorem code_pos (p : CodeP) (hn : nCo p) : 0 < (encCo p).length := by
 have h := codec_rCo.back (encCo p) 0 p [] hn (by rw [List.drop_zero, List.append_nil])
 have hg := codec_rCo.goes (encCo p) (0, 0) (Nat.zero_le _)
 rw [h] at hg
 have := hg.2.2.2 rfl rfl
 dsimp only at this
 omega
theorem rTx_ok (s : List UInt8) (p : At2) : okText (rTx s p).1 := by
 have := rT_len s 255 (by omega) p
 unfold okText rTx
 omega
theorem rIn_ok (s : List UInt8) (p : At2) : InP.ok (rIn s p).1 := ⟨rI_rng s p, rI_rng s _⟩
theorem rVr_ok (s : List UInt8) (p : At2) : VarP.ok (rVr s p).1 := ⟨rTx_ok s p, rI_rng s _, rI_rng s _, rI_rng s _⟩
def ShPok (x : ShP) : Prop := okText x.1 ∧ x.2.length ≤ 1048576 ∧ ∀ t ∈ x.2, okText t
def UnPok (x : UnitP) : Prop := okText x.name ∧ i64r x.params ∧ i64r x.slots ∧ i64r x.stack ∧ x.ins.length ≤ 1048576 ∧ x.vars.length ≤ 1048576 ∧ (∀ y ∈ x.ins, InP.ok y) ∧ ∀ v ∈ x.vars, v.ok
theorem rows_lenk {α : Type} (s : List UInt8) (f : At2 → α × At2) (p : At2) : (rRows s f p).1.length ≤ 1048576 := by
 have h1 := rC_rng s p
 have h2 := many_lenk f (rC s 1048576 p).1.toNat (rC s 1048576 p).2
 unfold rRows
 omega
theorem rSh_ok (s : List UInt8) (p : At2) : ShPok (rSh s p).1 := ⟨rTx_ok s p, rows_lenk _ _ _, rows_all (rTx_ok s) _⟩
theorem rU_ok (s : List UInt8) (p : At2) : UnPok (rU s p).1 := ⟨rTx_ok s p, rI_rng s _, rI_rng s _, rI_rng s _, rows_lenk _ _ _, rows_lenk _ _ _, rows_all (rIn_ok s) _, rows_all (rVr_ok s) _⟩
theorem co_ok {c : CoV} {s : List UInt8} {p : At2} (h : c.p = (rCo s p).1) : c.ok := by
 have h1 : c.strs = (rCo s p).1.strs := by rw [← h]; rfl
 have h2 : c.shapes.map ShV.p = (rCo s p).1.shapes := by rw [← h]; rfl
 have h3 : c.units.map UnV.p = (rCo s p).1.units := by rw [← h]; rfl
 have h4 : c.main = (rCo s p).1.main := by rw [← h]; rfl
 have l1 : (rCo s p).1.strs.length ≤ 1048576 := rows_lenk _ _ _
 have l2 : (rCo s p).1.shapes.length ≤ 1048576 := rows_lenk _ _ _
 have l3 : (rCo s p).1.units.length ≤ 1048576 := rows_lenk _ _ _
 have a1 : ∀ t ∈ (rCo s p).1.strs, okText t := rows_all (rTx_ok s) _
 have a2 : ∀ x ∈ (rCo s p).1.shapes, ShPok x := rows_all (rSh_ok s) _
 have a3 : ∀ x ∈ (rCo s p).1.units, UnPok x := rows_all (rU_ok s) _
 rw [← h2, List.length_map] at l2
 rw [← h3, List.length_map] at l3
 rw [← h1] at l1 a1
 rw [← h2] at a2
 rw [← h3] at a3
 exact ⟨l1, a1, l2, fun x hx => a2 x.p (List.mem_map.2 ⟨x, hx, rfl⟩), l3, fun x hx => a3 x.p (List.mem_map.2 ⟨x, hx, rfl⟩), by rw [h4]; exact rI_rng s _⟩
end Go.Proofs.YtgcfomhlgipllaaGreatDoor

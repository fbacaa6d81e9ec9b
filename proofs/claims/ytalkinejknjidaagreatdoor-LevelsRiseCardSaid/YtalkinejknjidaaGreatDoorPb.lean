/- Lemmas and walks of functions; no statement. -/
import Derived.Test.YtalkinejknjidaaGreatDoorPa
set_option linter.unusedVariables false
set_option linter.unusedSimpArgs false
set_option maxRecDepth 100000
namespace Go.Proofs.YtalkinejknjidaaGreatDoor
open Go.SL Go.RowKit Go.Proofs Tryz
theorem sz3:Sz prog 3 1 8 (.int .i64 0):=by
 have h:(prog.info? 3).map (fun i=>(i.zero,i.size,i.bytes))=some (some (.int .i64 0),1,8):=by kernel_rfl
 obtain ⟨i,h1,h2,h3,h4⟩:=info_parts h
 exact ⟨i,h1,h3,h4,h2⟩
theorem flat3:Flat prog 3:=jI underlying3 rfl
theorem sz4:Sz prog 4 1 1 (.bool false):=by
 have h:(prog.info? 4).map (fun i=>(i.zero,i.size,i.bytes))=some (some (.bool false),1,1):=by kernel_rfl
 obtain ⟨i,h1,h2,h3,h4⟩:=info_parts h
 exact ⟨i,h1,h3,h4,h2⟩
theorem yP7:Flat prog 4:=jI underlying4 rfl
theorem sz5:Sz prog 5 1 1 (.int .u8 0):=by
 have h:(prog.info? 5).map (fun i=>(i.zero,i.size,i.bytes))=some (some (.int .u8 0),1,1):=by kernel_rfl
 obtain ⟨i,h1,h2,h3,h4⟩:=info_parts h
 exact ⟨i,h1,h3,h4,h2⟩
theorem flat5:Flat prog 5:=jI underlying5 rfl
theorem sz22:Sz prog 22 1 24 (.slice none 0 0):=by
 have h:(prog.info? 22).map (fun i=>(i.zero,i.size,i.bytes))=some (some (.slice none 0 0),1,24):=by kernel_rfl
 obtain ⟨i,h1,h2,h3,h4⟩:=info_parts h
 exact ⟨i,h1,h3,h4,h2⟩
theorem flat22:Flat prog 22:=jI underlying22 rfl
theorem sz25:Sz prog 25 1 24 (.slice none 0 0):=by
 have h:(prog.info? 25).map (fun i=>(i.zero,i.size,i.bytes))=some (some (.slice none 0 0),1,24):=by kernel_rfl
 obtain ⟨i,h1,h2,h3,h4⟩:=info_parts h
 exact ⟨i,h1,h3,h4,h2⟩
theorem xD:Flat prog 25:=jI underlying25 rfl
theorem sz27:Sz prog 27 2 32 (.agg #[(.bool false),(.slice none 0 0)]):=by
 have h:(prog.info? 27).map (fun i=>(i.zero,i.size,i.bytes))=some (some (.agg #[(.bool false),(.slice none 0 0)]),2,32):=by kernel_rfl
 obtain ⟨i,h1,h2,h3,h4⟩:=info_parts h
 exact ⟨i,h1,h3,h4,h2⟩
theorem plc27:Plc prog 27 [1,1]:=bY (by kernel_rfl)
theorem zT8:Fold prog 27:=aM underlying27 rfl
theorem sz29:Sz prog 29 3 56 (.agg #[(.bool false),(.slice none 0 0),(.slice none 0 0)]):=by
 have h:(prog.info? 29).map (fun i=>(i.zero,i.size,i.bytes))=some (some (.agg #[(.bool false),(.slice none 0 0),(.slice none 0 0)]),3,56):=by kernel_rfl
 obtain ⟨i,h1,h2,h3,h4⟩:=info_parts h
 exact ⟨i,h1,h3,h4,h2⟩
theorem plc29:Plc prog 29 [2,1]:=bY (by kernel_rfl)
theorem oA:Fold prog 29:=aM underlying29 rfl
theorem sz30:Sz prog 30 1 24 (.slice none 0 0):=by
 have h:(prog.info? 30).map (fun i=>(i.zero,i.size,i.bytes))=some (some (.slice none 0 0),1,24):=by kernel_rfl
 obtain ⟨i,h1,h2,h3,h4⟩:=info_parts h
 exact ⟨i,h1,h3,h4,h2⟩
theorem flat30:Flat prog 30:=jI underlying30 rfl
theorem sz39:Sz prog 39 6 112 (.agg #[(.bool false),(.slice none 0 0),(.slice none 0 0),(.bool false),(.slice none 0 0),(.slice none 0 0)]):=by
 have h:(prog.info? 39).map (fun i=>(i.zero,i.size,i.bytes))=some (some (.agg #[(.bool false),(.slice none 0 0),(.slice none 0 0),(.bool false),(.slice none 0 0),(.slice none 0 0)]),6,112):=by kernel_rfl
 obtain ⟨i,h1,h2,h3,h4⟩:=info_parts h
 exact ⟨i,h1,h3,h4,h2⟩
theorem plc39:Plc prog 39 [3,3]:=bY (by kernel_rfl)
theorem lF:Fold prog 39:=aM underlying39 rfl
theorem sz41:Sz prog 41 12 224 (.agg #[(.bool false),(.slice none 0 0),(.slice none 0 0),(.bool false),(.slice none 0 0),(.slice none 0 0),(.bool false),(.slice none 0 0),(.slice none 0 0),(.bool false),(.slice none 0 0),(.slice none 0 0)]):=by
 have h:(prog.info? 41).map (fun i=>(i.zero,i.size,i.bytes))=some (some (.agg #[(.bool false),(.slice none 0 0),(.slice none 0 0),(.bool false),(.slice none 0 0),(.slice none 0 0),(.bool false),(.slice none 0 0),(.slice none 0 0),(.bool false),(.slice none 0 0),(.slice none 0 0)]),12,224):=by kernel_rfl
 obtain ⟨i,h1,h2,h3,h4⟩:=info_parts h
 exact ⟨i,h1,h3,h4,h2⟩
theorem plc41:Plc prog 41 [6,6]:=bY (by kernel_rfl)
theorem fold41:Fold prog 41:=aM underlying41 rfl
theorem sz43:Sz prog 43 1 24 (.slice none 0 0):=by
 have h:(prog.info? 43).map (fun i=>(i.zero,i.size,i.bytes))=some (some (.slice none 0 0),1,24):=by kernel_rfl
 obtain ⟨i,h1,h2,h3,h4⟩:=info_parts h
 exact ⟨i,h1,h3,h4,h2⟩
theorem flat43:Flat prog 43:=jI underlying43 rfl
theorem sz45:Sz prog 45 1 24 (.slice none 0 0):=by
 have h:(prog.info? 45).map (fun i=>(i.zero,i.size,i.bytes))=some (some (.slice none 0 0),1,24):=by kernel_rfl
 obtain ⟨i,h1,h2,h3,h4⟩:=info_parts h
 exact ⟨i,h1,h3,h4,h2⟩
theorem flat45:Flat prog 45:=jI underlying45 rfl
theorem sz49:Sz prog 49 1 24 (.slice none 0 0):=by
 have h:(prog.info? 49).map (fun i=>(i.zero,i.size,i.bytes))=some (some (.slice none 0 0),1,24):=by kernel_rfl
 obtain ⟨i,h1,h2,h3,h4⟩:=info_parts h
 exact ⟨i,h1,h3,h4,h2⟩
theorem flat49:Flat prog 49:=jI underlying49 rfl
theorem sz55:Sz prog 55 6 112 (.agg #[(.bool false),(.slice none 0 0),(.slice none 0 0),(.bool false),(.slice none 0 0),(.slice none 0 0)]):=by
 have h:(prog.info? 55).map (fun i=>(i.zero,i.size,i.bytes))=some (some (.agg #[(.bool false),(.slice none 0 0),(.slice none 0 0),(.bool false),(.slice none 0 0),(.slice none 0 0)]),6,112):=by kernel_rfl
 obtain ⟨i,h1,h2,h3,h4⟩:=info_parts h
 exact ⟨i,h1,h3,h4,h2⟩
theorem plc55:Plc prog 55 [3,3]:=bY (by kernel_rfl)
theorem yJ9:Fold prog 55:=aM underlying55 rfl
theorem sz56:Sz prog 56 1 8 .nilFunc:=by
 have h:(prog.info? 56).map (fun i=>(i.zero,i.size,i.bytes))=some (some .nilFunc,1,8):=by kernel_rfl
 obtain ⟨i,h1,h2,h3,h4⟩:=info_parts h
 exact ⟨i,h1,h3,h4,h2⟩
theorem flat56:Flat prog 56:=jI underlying56 rfl
theorem sz57:Sz prog 57 1 8 .nilFunc:=by
 have h:(prog.info? 57).map (fun i=>(i.zero,i.size,i.bytes))=some (some .nilFunc,1,8):=by kernel_rfl
 obtain ⟨i,h1,h2,h3,h4⟩:=info_parts h
 exact ⟨i,h1,h3,h4,h2⟩
theorem flat57:Flat prog 57:=jI underlying57 rfl
theorem sz83:Sz prog 83 1 1 (.int .i8 0):=by
 have h:(prog.info? 83).map (fun i=>(i.zero,i.size,i.bytes))=some (some (.int .i8 0),1,1):=by kernel_rfl
 obtain ⟨i,h1,h2,h3,h4⟩:=info_parts h
 exact ⟨i,h1,h3,h4,h2⟩
theorem yK0:Flat prog 83:=jI underlying83 rfl
theorem yG1:Sz prog 100 18 336 (.agg #[(.bool false),(.slice none 0 0),(.slice none 0 0),(.bool false),(.slice none 0 0),(.slice none 0 0),(.bool false),(.slice none 0 0),(.slice none 0 0),(.bool false),(.slice none 0 0),(.slice none 0 0),(.bool false),(.slice none 0 0),(.slice none 0 0),(.bool false),(.slice none 0 0),(.slice none 0 0)]):=by
 have h:(prog.info? 100).map (fun i=>(i.zero,i.size,i.bytes))=some (some (.agg #[(.bool false),(.slice none 0 0),(.slice none 0 0),(.bool false),(.slice none 0 0),(.slice none 0 0),(.bool false),(.slice none 0 0),(.slice none 0 0),(.bool false),(.slice none 0 0),(.slice none 0 0),(.bool false),(.slice none 0 0),(.slice none 0 0),(.bool false),(.slice none 0 0),(.slice none 0 0)]),18,336):=by kernel_rfl
 obtain ⟨i,h1,h2,h3,h4⟩:=info_parts h
 exact ⟨i,h1,h3,h4,h2⟩
theorem fold100:Fold prog 100:=aM underlying100 rfl
theorem yG0:Sz prog 109 12 224 (.agg #[(.bool false),(.slice none 0 0),(.slice none 0 0),(.bool false),(.slice none 0 0),(.slice none 0 0),(.bool false),(.slice none 0 0),(.slice none 0 0),(.bool false),(.slice none 0 0),(.slice none 0 0)]):=by
 have h:(prog.info? 109).map (fun i=>(i.zero,i.size,i.bytes))=some (some (.agg #[(.bool false),(.slice none 0 0),(.slice none 0 0),(.bool false),(.slice none 0 0),(.slice none 0 0),(.bool false),(.slice none 0 0),(.slice none 0 0),(.bool false),(.slice none 0 0),(.slice none 0 0)]),12,224):=by kernel_rfl
 obtain ⟨i,h1,h2,h3,h4⟩:=info_parts h
 exact ⟨i,h1,h3,h4,h2⟩
theorem plc109:Plc prog 109 [6,6]:=bY (by kernel_rfl)
theorem fold109:Fold prog 109:=aM underlying109 rfl
theorem yM0:Sz prog 131 1 8 .nilFunc:=by
 have h:(prog.info? 131).map (fun i=>(i.zero,i.size,i.bytes))=some (some .nilFunc,1,8):=by kernel_rfl
 obtain ⟨i,h1,h2,h3,h4⟩:=info_parts h
 exact ⟨i,h1,h3,h4,h2⟩
theorem flat131:Flat prog 131:=jI underlying131 rfl
theorem xF:Sz prog 155 1 4 (.int .u32 0):=by
 have h:(prog.info? 155).map (fun i=>(i.zero,i.size,i.bytes))=some (some (.int .u32 0),1,4):=by kernel_rfl
 obtain ⟨i,h1,h2,h3,h4⟩:=info_parts h
 exact ⟨i,h1,h3,h4,h2⟩
theorem jF:Flat prog 155:=jI underlying155 rfl
theorem sz176:Sz prog 176 1 24 (.slice none 0 0):=by
 have h:(prog.info? 176).map (fun i=>(i.zero,i.size,i.bytes))=some (some (.slice none 0 0),1,24):=by kernel_rfl
 obtain ⟨i,h1,h2,h3,h4⟩:=info_parts h
 exact ⟨i,h1,h3,h4,h2⟩
theorem flat176:Flat prog 176:=jI underlying176 rfl
theorem yL9:Sz prog 178 13 232 (.agg #[(.int .i8 0),(.bool false),(.slice none 0 0),(.slice none 0 0),(.bool false),(.slice none 0 0),(.slice none 0 0),(.bool false),(.slice none 0 0),(.slice none 0 0),(.bool false),(.slice none 0 0),(.slice none 0 0)]):=by
 have h:(prog.info? 178).map (fun i=>(i.zero,i.size,i.bytes))=some (some (.agg #[(.int .i8 0),(.bool false),(.slice none 0 0),(.slice none 0 0),(.bool false),(.slice none 0 0),(.slice none 0 0),(.bool false),(.slice none 0 0),(.slice none 0 0),(.bool false),(.slice none 0 0),(.slice none 0 0)]),13,232):=by kernel_rfl
 obtain ⟨i,h1,h2,h3,h4⟩:=info_parts h
 exact ⟨i,h1,h3,h4,h2⟩
theorem plc178:Plc prog 178 [1,6,6]:=bY (by kernel_rfl)
theorem fold178:Fold prog 178:=aM underlying178 rfl
theorem yL8:Sz prog 185 1 8 (.pointer none):=by
 have h:(prog.info? 185).map (fun i=>(i.zero,i.size,i.bytes))=some (some (.pointer none),1,8):=by kernel_rfl
 obtain ⟨i,h1,h2,h3,h4⟩:=info_parts h
 exact ⟨i,h1,h3,h4,h2⟩
theorem flat185:Flat prog 185:=jI underlying185 rfl
theorem plc189:Plc prog 189 [3]:=bY (by kernel_rfl)
theorem tB:Sz prog 196 1 8 (.int .u64 0):=by
 have h:(prog.info? 196).map (fun i=>(i.zero,i.size,i.bytes))=some (some (.int .u64 0),1,8):=by kernel_rfl
 obtain ⟨i,h1,h2,h3,h4⟩:=info_parts h
 exact ⟨i,h1,h3,h4,h2⟩
theorem mU:Flat prog 196:=jI underlying196 rfl
theorem yL7:Sz prog 233 1 8 (.pointer none):=by
 have h:(prog.info? 233).map (fun i=>(i.zero,i.size,i.bytes))=some (some (.pointer none),1,8):=by kernel_rfl
 obtain ⟨i,h1,h2,h3,h4⟩:=info_parts h
 exact ⟨i,h1,h3,h4,h2⟩
theorem flat233:Flat prog 233:=jI underlying233 rfl
theorem plc240:Plc prog 240 [2]:=bY (by kernel_rfl)
theorem yF9:Sz prog 320 3 24 (.agg #[(.int .i64 0),(.int .i64 0),(.int .i64 0)]):=by
 have h:(prog.info? 320).map (fun i=>(i.zero,i.size,i.bytes))=some (some (.agg #[(.int .i64 0),(.int .i64 0),(.int .i64 0)]),3,24):=by kernel_rfl
 obtain ⟨i,h1,h2,h3,h4⟩:=info_parts h
 exact ⟨i,h1,h3,h4,h2⟩
theorem fold320:Fold prog 320:=aM underlying320 rfl
theorem mT:Flat prog 353:=jI underlying353 rfl
theorem plc355:Plc prog 355 [1,1]:=bY (by kernel_rfl)
theorem bo {f:FuncId} {fn:Func} (h:prog.funcs[f]? = some fn) (k:fn.body.isNone=false∧(fn.name == "runtime.NumGoroutine")=false:=by exact ⟨rfl,by decide⟩):Bod prog f:=⟨fn,h,k⟩
theorem mixed:prog.follows .mixedOrders=true:=by kernel_rfl
theorem yu25:type_of% @underlying25:=@underlying25
theorem yu196:type_of% @underlying196:=@underlying196
theorem yu155:type_of% @underlying155:=@underlying155
theorem yu5:type_of% @underlying5:=@underlying5
theorem yu3:type_of% @underlying3:=@underlying3
theorem yu355:type_of% @underlying355:=@underlying355
end Go.Proofs.YtalkinejknjidaaGreatDoor
namespace Go.SL
open Go Go.RowKit
theorem on0 {P:Program} {r:Option Nat} {N:Nat} {all:Array Oper} {D:List Deferred} {E:Env} {w:World} {d:Nat} {u:Value} (h:get E d=some u):Ops P r N all (fun D' E' w'=>D'=D∧Rb w w'∧∃ v,get E' d=some v∧v=u) [] D E w :=
 zF ⟨rfl,xX _,_,h,rfl⟩
class Up (Fz M M':Nat→Prop) (w w':World) (A:Prop) (B:outParam Prop):Prop where
 up:Le Fz M w M' w'→A→B
class UpB (w w':World) (A:Prop) (B:outParam Prop):Prop where
 up:Bel w.heap.size w w'→A→B
section
variable {Fz M M' : Nat → Prop} {w w' : World}
section
variable {A0 A1 A2 A3 A4 A5 A6 A7 A8 A9 B0 B1 B2 B3 B4 B5 B6 B7 B8 B9 : Prop} [i0 : Up Fz M M' w w' A0 B0] [i1 : Up Fz M M' w w' A1 B1] [i2 : Up Fz M M' w w' A2 B2] [i3 : Up Fz M M' w w' A3 B3] [i4 : Up Fz M M' w w' A4 B4] [i5 : Up Fz M M' w w' A5 B5] [i6 : Up Fz M M' w w' A6 B6] [i7 : Up Fz M M' w w' A7 B7] [i8 : Up Fz M M' w w' A8 B8] [i9 : Up Fz M M' w w' A9 B9]
theorem up2 (h:Le Fz M w M' w') (a0:A0) (a1:A1):B0∧B1:=⟨i0.up h a0,i1.up h a1⟩
theorem up3 (h:Le Fz M w M' w') (a0:A0) (a1:A1) (a2:A2):B0∧B1∧B2:=⟨i0.up h a0,i1.up h a1,i2.up h a2⟩
theorem up4 (h:Le Fz M w M' w') (a0:A0) (a1:A1) (a2:A2) (a3:A3):B0∧B1∧B2∧B3:=⟨i0.up h a0,i1.up h a1,i2.up h a2,i3.up h a3⟩
theorem up5 (h:Le Fz M w M' w') (a0:A0) (a1:A1) (a2:A2) (a3:A3) (a4:A4):B0∧B1∧B2∧B3∧B4:=⟨i0.up h a0,i1.up h a1,i2.up h a2,i3.up h a3,i4.up h a4⟩
theorem up6 (h:Le Fz M w M' w') (a0:A0) (a1:A1) (a2:A2) (a3:A3) (a4:A4) (a5:A5):B0∧B1∧B2∧B3∧B4∧B5:=⟨i0.up h a0,i1.up h a1,i2.up h a2,i3.up h a3,i4.up h a4,i5.up h a5⟩
theorem up9 (h:Le Fz M w M' w') (a0:A0) (a1:A1) (a2:A2) (a3:A3) (a4:A4) (a5:A5) (a6:A6) (a7:A7) (a8:A8):B0∧B1∧B2∧B3∧B4∧B5∧B6∧B7∧B8:=⟨i0.up h a0,i1.up h a1,i2.up h a2,i3.up h a3,i4.up h a4,i5.up h a5,i6.up h a6,i7.up h a7,i8.up h a8⟩
theorem up10 (h:Le Fz M w M' w') (a0:A0) (a1:A1) (a2:A2) (a3:A3) (a4:A4) (a5:A5) (a6:A6) (a7:A7) (a8:A8) (a9:A9):B0∧B1∧B2∧B3∧B4∧B5∧B6∧B7∧B8∧B9:=⟨i0.up h a0,i1.up h a1,i2.up h a2,i3.up h a3,i4.up h a4,i5.up h a5,i6.up h a6,i7.up h a7,i8.up h a8,i9.up h a9⟩
end
section
variable {A0 A1 A2 A3 A4 A5 A6 A7 A8 A9 A10 A11 A12 A13 A14 A15 B0 B1 B2 B3 B4 B5 B6 B7 B8 B9 B10 B11 B12 B13 B14 B15 : Prop} [i0 : UpB w w' A0 B0] [i1 : UpB w w' A1 B1] [i2 : UpB w w' A2 B2] [i3 : UpB w w' A3 B3] [i4 : UpB w w' A4 B4] [i5 : UpB w w' A5 B5] [i6 : UpB w w' A6 B6] [i7 : UpB w w' A7 B7] [i8 : UpB w w' A8 B8] [i9 : UpB w w' A9 B9] [i10 : UpB w w' A10 B10] [i11 : UpB w w' A11 B11] [i12 : UpB w w' A12 B12] [i13 : UpB w w' A13 B13] [i14 : UpB w w' A14 B14] [i15 : UpB w w' A15 B15]
theorem ub1 (h:Bel w.heap.size w w') (a0:A0):B0:=i0.up h a0
theorem ub2 (h:Bel w.heap.size w w') (a0:A0) (a1:A1):B0∧B1:=⟨i0.up h a0,i1.up h a1⟩
theorem ub3 (h:Bel w.heap.size w w') (a0:A0) (a1:A1) (a2:A2):B0∧B1∧B2:=⟨i0.up h a0,i1.up h a1,i2.up h a2⟩
theorem ub4 (h:Bel w.heap.size w w') (a0:A0) (a1:A1) (a2:A2) (a3:A3):B0∧B1∧B2∧B3:=⟨i0.up h a0,i1.up h a1,i2.up h a2,i3.up h a3⟩
theorem ub5 (h:Bel w.heap.size w w') (a0:A0) (a1:A1) (a2:A2) (a3:A3) (a4:A4):B0∧B1∧B2∧B3∧B4:=⟨i0.up h a0,i1.up h a1,i2.up h a2,i3.up h a3,i4.up h a4⟩
theorem ub6 (h:Bel w.heap.size w w') (a0:A0) (a1:A1) (a2:A2) (a3:A3) (a4:A4) (a5:A5):B0∧B1∧B2∧B3∧B4∧B5:=⟨i0.up h a0,i1.up h a1,i2.up h a2,i3.up h a3,i4.up h a4,i5.up h a5⟩
theorem ub7 (h:Bel w.heap.size w w') (a0:A0) (a1:A1) (a2:A2) (a3:A3) (a4:A4) (a5:A5) (a6:A6):B0∧B1∧B2∧B3∧B4∧B5∧B6:=⟨i0.up h a0,i1.up h a1,i2.up h a2,i3.up h a3,i4.up h a4,i5.up h a5,i6.up h a6⟩
theorem ub8 (h:Bel w.heap.size w w') (a0:A0) (a1:A1) (a2:A2) (a3:A3) (a4:A4) (a5:A5) (a6:A6) (a7:A7):B0∧B1∧B2∧B3∧B4∧B5∧B6∧B7:=⟨i0.up h a0,i1.up h a1,i2.up h a2,i3.up h a3,i4.up h a4,i5.up h a5,i6.up h a6,i7.up h a7⟩
theorem ub9 (h:Bel w.heap.size w w') (a0:A0) (a1:A1) (a2:A2) (a3:A3) (a4:A4) (a5:A5) (a6:A6) (a7:A7) (a8:A8):B0∧B1∧B2∧B3∧B4∧B5∧B6∧B7∧B8:=⟨i0.up h a0,i1.up h a1,i2.up h a2,i3.up h a3,i4.up h a4,i5.up h a5,i6.up h a6,i7.up h a7,i8.up h a8⟩
theorem ub11 (h:Bel w.heap.size w w') (a0:A0) (a1:A1) (a2:A2) (a3:A3) (a4:A4) (a5:A5) (a6:A6) (a7:A7) (a8:A8) (a9:A9) (a10:A10):B0∧B1∧B2∧B3∧B4∧B5∧B6∧B7∧B8∧B9∧B10:=⟨i0.up h a0,i1.up h a1,i2.up h a2,i3.up h a3,i4.up h a4,i5.up h a5,i6.up h a6,i7.up h a7,i8.up h a8,i9.up h a9,i10.up h a10⟩
theorem ub12 (h:Bel w.heap.size w w') (a0:A0) (a1:A1) (a2:A2) (a3:A3) (a4:A4) (a5:A5) (a6:A6) (a7:A7) (a8:A8) (a9:A9) (a10:A10) (a11:A11):B0∧B1∧B2∧B3∧B4∧B5∧B6∧B7∧B8∧B9∧B10∧B11:=⟨i0.up h a0,i1.up h a1,i2.up h a2,i3.up h a3,i4.up h a4,i5.up h a5,i6.up h a6,i7.up h a7,i8.up h a8,i9.up h a9,i10.up h a10,i11.up h a11⟩
theorem ub13 (h:Bel w.heap.size w w') (a0:A0) (a1:A1) (a2:A2) (a3:A3) (a4:A4) (a5:A5) (a6:A6) (a7:A7) (a8:A8) (a9:A9) (a10:A10) (a11:A11) (a12:A12):B0∧B1∧B2∧B3∧B4∧B5∧B6∧B7∧B8∧B9∧B10∧B11∧B12:=⟨i0.up h a0,i1.up h a1,i2.up h a2,i3.up h a3,i4.up h a4,i5.up h a5,i6.up h a6,i7.up h a7,i8.up h a8,i9.up h a9,i10.up h a10,i11.up h a11,i12.up h a12⟩
theorem ub14 (h:Bel w.heap.size w w') (a0:A0) (a1:A1) (a2:A2) (a3:A3) (a4:A4) (a5:A5) (a6:A6) (a7:A7) (a8:A8) (a9:A9) (a10:A10) (a11:A11) (a12:A12) (a13:A13):B0∧B1∧B2∧B3∧B4∧B5∧B6∧B7∧B8∧B9∧B10∧B11∧B12∧B13:=⟨i0.up h a0,i1.up h a1,i2.up h a2,i3.up h a3,i4.up h a4,i5.up h a5,i6.up h a6,i7.up h a7,i8.up h a8,i9.up h a9,i10.up h a10,i11.up h a11,i12.up h a12,i13.up h a13⟩
theorem ub16 (h:Bel w.heap.size w w') (a0:A0) (a1:A1) (a2:A2) (a3:A3) (a4:A4) (a5:A5) (a6:A6) (a7:A7) (a8:A8) (a9:A9) (a10:A10) (a11:A11) (a12:A12) (a13:A13) (a14:A14) (a15:A15):B0∧B1∧B2∧B3∧B4∧B5∧B6∧B7∧B8∧B9∧B10∧B11∧B12∧B13∧B14∧B15:=⟨i0.up h a0,i1.up h a1,i2.up h a2,i3.up h a3,i4.up h a4,i5.up h a5,i6.up h a6,i7.up h a7,i8.up h a8,i9.up h a9,i10.up h a10,i11.up h a11,i12.up h a12,i13.up h a13,i14.up h a14,i15.up h a15⟩
end
instance:Up Fz M M' w w' (OkM M w) (OkM M' w'):=⟨fun l h=>h.mono l⟩
instance:UpB w w' (OkM M w) (OkM M w'):=⟨fun l h=>h.mono (lb l)⟩
instance {F:Nat→Prop}:Up Fz M M' w w' (FOk F w) (FOk F w'):=⟨fun l h=>h.mono l⟩
instance {F:Nat→Prop}:UpB w w' (FOk F w) (FOk F w'):=⟨fun l h=>h.mono (Fz':=fun _=>False) (M:=fun _=>False) (Le.of_below l)⟩
instance {M0:Nat→Prop} {w0:World}:Up Fz M M' w w' (Le Fz M0 w0 M w) (Le Fz M0 w0 M' w'):=⟨fun l h=>h.trans l⟩
instance {F M0:Nat→Prop} {w0:World}:UpB w w' (Le F M0 w0 M w) (Le F M0 w0 M w'):=⟨fun l h=>h.trans (Le.of_below l)⟩
instance {b:Nat} {t:TypeId} {cs:List Value}:UpB w w' (Blk w b t cs) (Blk w' b t cs):=⟨fun l h=>h.below l⟩
instance {v:Value} {xs:List Nat}:Up Fz M M' w w' (IsNat M w v xs) (IsNat M' w' v xs):=⟨fun l h=>h.mono l⟩
instance {v:Value} {xs:List Nat}:UpB w w' (IsNat M w v xs) (IsNat M w' v xs):=⟨fun l h=>h.mono (lb l)⟩
instance {sz n:Nat} {v:Value} {cs:List Value}:Up Fz M M' w w' (Slc M w sz v n cs) (Slc M' w' sz v n cs):=⟨fun l h=>h.mono l⟩
instance {sz n:Nat} {v:Value} {cs:List Value}:UpB w w' (Slc M w sz v n cs) (Slc M w' sz v n cs):=⟨fun l h=>h.mono (lb l)⟩
instance {n:Nat} {D:List Deferred}:Up Fz M M' w w' (Marks M n D w) (Marks M' n D w'):=⟨fun l h=>h.mono l⟩
instance {n:Nat} {D:List Deferred}:UpB w w' (Marks M n D w) (Marks M n D w'):=⟨fun l h=>h.mono (lb l)⟩
instance {e:TypeId} {w0:World} {v:Value} {xs:List Nat}:Up Fz M M' w w' (Own M e w0 w v xs) (Own M' e w0 w' v xs):=⟨fun l h=>h.mono l⟩
instance {e:TypeId} {w0:World} {v:Value} {xs:List Nat}:UpB w w' (Own M e w0 w v xs) (Own M e w0 w' v xs):=⟨fun l h=>h.mono (lb l)⟩
instance {l:Nat} {o:Obj}:Up Fz M M' w w' (Rec M w l o) (Rec M' w' l o):=⟨fun l h=>h.mono l⟩
instance {l:Nat} {o:Obj}:UpB w w' (Rec M w l o) (Rec M w' l o):=⟨fun l h=>h.mono (lb l)⟩
end
def LenV (v:Value) (n:Nat):Prop:=∃ ad c,v = .slice ad n c
theorem lv_lit {ad:Option Addr} {n c:Nat}:LenV (.slice ad n c) n:=⟨_,_,rfl⟩
theorem lv_nat {M:Nat→Prop} {w:World} {v:Value} {xs:List Nat} (h:IsNat M w v xs):LenV v xs.length:=by obtain ⟨_,_,ad,cap,rfl,_,_⟩:=h.slc; exact ⟨_,_,rfl⟩
theorem lv_own {w:World} {e:TypeId} {sz m:Nat} {v:Value} {xs:List Value} (h:w.ownsRow 0 e sz v m xs):LenV v m:=by obtain ⟨_,⟨rfl,rfl,_⟩ | ⟨_,_,_,rfl,_⟩⟩:=h <;> exact ⟨_,_,rfl⟩
theorem jB {P:Program} {r:Option Nat} {N:Nat} {all:Array Oper} {K:Pd} {D:List Deferred} {E:Env} {w:World} {rest:List Oper} {d n:Nat} {x:Operand} {t e t':TypeId} {pos:String} {af:Array Edge} {v:Value} (hd:Nat.blt d N=true)
    (ht:P.underlying t=some (.slice e)) (hx:ev E x=some v) (h:Ops P r N all K rest D ((d,.int .i64 (n:Int)) :: E) w) (hv:LenV v n:=by first | exact lv_nat (by assumption) | exact lv_lit | exact lv_own (by assumption)) :
    Ops P r N all K (⟨some d,.call ⟨.builtin .len,#[x],#[t]⟩,t',pos,af,none⟩ :: rest) D E w:=by
  obtain ⟨ad,c,rfl⟩:=hv
  exact fU hd ht hx h
theorem New.ne {w w':World} {b c:Nat} {o:Obj} (N:New w w' c o) (h:b < w.heap.size):b ≠ c:=by have:=N.at_; omega
theorem bn {w w':World} {b c:Nat} {o:Obj} {t:TypeId} {cs:List Value} (B:Blk w b t cs) (N:New w w' c o):Blk w' b t cs∧b ≠ c:=⟨B.below N.below,N.ne B.lt⟩
theorem nz {Fz M:Nat→Prop} {w w':World} {b:Nat} {t:TypeId} {cs:Array Value} (hF:FOk Fz w) (hM:OkM M w) (N:New w w' b (.cells cs t (0,0))):Bel w.heap.size w w'∧¬ Fz b∧¬ M b∧Le Fz M w (Ins b M) w'∧Blk w' b t cs.toList :=
  ⟨N.below,hF.new N,hM.new N,Le.of_new N,N.blk⟩
theorem nza {Fz M:Nat→Prop} {w w':World} {b:Nat} {t:TypeId} {us:List Value} (hF:FOk Fz w) (hM:OkM M w) (N:New w w' b (.cells (Value.agg us.toArray).cells t (0,0))):Bel w.heap.size w w'∧¬ Fz b∧¬ M b∧Le Fz M w (Ins b M) w'∧Blk w' b t us :=
  nz hF hM N
theorem lqb {Fz M:Nat→Prop} {w w':World} {b:Nat} (h:Rs (·=b) w w') (hm:M b) (hf:¬ Fz b):Le Fz M w M w':=Le.of_rs h (by rintro _ rfl; exact hm) (by rintro _ rfl; exact hf)
theorem Le.b {M M':Nat→Prop} {w w':World} (h:Le (· < w.heap.size) M w M' w'):Bel w.heap.size w w':=h.below (Nat.le_refl _)
class Mn (Ψ:VP):Prop where
  m:∀ v w w',Ψ v w→Rb w w'→Ψ v w'
theorem mn {Ψ:VP} [h:Mn Ψ]:∀ v w w',Ψ v w→Rb w w'→Ψ v w':=h.m
instance {α:Type} {Ψ:α→VP} [h:∀ x,Mn (Ψ x)]:Mn (fun v w=>∃ x,Ψ x v w):=⟨fun v w w' ⟨x,e⟩ r=>⟨x,(h x).m v w w' e r⟩⟩
instance {Φ Ψ:VP} [h:Mn Φ] [k:Mn Ψ]:Mn (fun v w=>Φ v w∧Ψ v w):=⟨fun v w w' e r=>⟨h.m v w w' e.1 r,k.m v w w' e.2 r⟩⟩
instance {p:Value→Prop}:Mn (fun v _=>p v):=⟨fun _ _ _ h _=>h⟩
instance {M:Nat→Prop} {xs:List Nat}:Mn (fun v w=>IsNat M w v xs):=⟨fun _ _ _ h r=>h.mono (lb r)⟩
instance {p:World→Prop} [h:∀ w w',UpB w w' (p w) (p w')]:Mn (fun _ w=>p w):=⟨fun _ w w' e r=>(h w w').up r e⟩
instance {w w':World} {b o:Nat} {cl:List Value}:UpB w w' (∀ (q:Nat) (u:Value),cl[q]? = some u→w.cell? ⟨b,o + q,none⟩=some u) (∀ (q:Nat) (u:Value),cl[q]? = some u→w'.cell? ⟨b,o + q,none⟩=some u):=⟨fun r h q u hq=>(World.cell?_of_block (w:=w) (a:=⟨b,o + q,none⟩) (r.block b (yD1 (h q u hq)))).trans (h q u hq)⟩
theorem lv1 {P:Program} {E:Env} {w:World} {rs:List ResultVar} {R:Value→World→Prop} {v:Value} (hr:Res P E w rs [v]) (h:R v w):Fin P rs R [] E w:=gU ⟨[v],hr,h⟩
theorem lc {F M0 M:Nat→Prop} {w0 w w':World} {b:Nat} (L:Le F M0 w0 M w) (C:Chg w w' b) (hm:M b) (hf:¬ F b):Le F M w M w':=Le.of_chg C hm hf
theorem lqc {F M0 M:Nat→Prop} {w0 w w':World} {b:Nat} (L:Le F M0 w0 M w) (h:Rs (·=b) w w') (hm:M b) (hf:¬ F b):Le F M w M w':=lqb h hm hf
section
variable {P : Program} {r : Option Nat} {N : Nat} {ops : Array Oper} {D : List Deferred} {E : Env} {w w0 : World} {Kn Kr : Pd} {Ke : Nat → Pd} {id : Nat}
theorem wd (hm:P.follows .mixedOrders=true) (m:Nat) (outs:List Nat) (hl:kS ops m=true)
    (h:DRs P r N ops D E w Rb Rb none (fun Γ=>∀ w',Rb w w'→(∀ k pre post,(none:Option (Nat × (World→Prop) × (World→Prop)))=some (k,pre,post)→post w')→Obl Γ E w' (fun F=>Ops P r N ops Kn (ops.toList.drop m) D F w') outs []) (ops.toList.take m) 0 []) :
    Wp P r N (.region id ops true) Kn Ke Kr D E w:=lJ (R:=Rb) (R':=Rb) (st:=none) hm m outs hl rb_trans rb_self (lU _) (fun _ _ _ h=>by cases h) h
theorem dv {F:List (Nat × VP)→Prop} {rest:List Oper} {i:Nat} {Γ:List (Nat × VP)} {R':World→World→Prop} {d:Nat} {op:Op} {t:TypeId} {pos:String} {af:Array Edge} {g:Option (Nat × Bool)} (Ψ:VP)
    (ho:∀ w,Rb w0 w→StI none (ancs ops.toList) i w→Obl Γ E w (fun F=>Ops P r N ops (fun D' E' w'=>D'=D∧R' w w'∧∃ v,get E' d=some v∧Ψ v w') [⟨some d,op,t,pos,af,g⟩] D F w) (zW ops ⟨some d,op,t,pos,af,g⟩) [])
    (h:DRs P r N ops D E w0 Rb R' none F rest (i + 1) ((d,Ψ) :: Γ)) (hm:∀ v w w',Ψ v w→Rb w w'→Ψ v w':=by exact mn):DRs P r N ops D E w0 Rb R' none F (⟨some d,op,t,pos,af,g⟩ :: rest) i Γ:=mX Ψ hm ho h
theorem on1 {all:Array Oper} {d:Nat} {Ψ:VP} {v:Value} (hB:Rb w0 w) (hg:get E d=some v) (h:Ψ v w):Ops P r N all (fun D' E' w'=>D'=D∧Rb w0 w'∧∃ v,get E' d=some v∧Ψ v w') [] D E w:=zF ⟨rfl,hB,v,hg,h⟩
end
theorem ci (M:Nat→Prop) {P:Program} {f:FuncId} {fn:Func} {c:Code} {args:List Value} {w:World} {R:Value→World→Prop} {N:Nat} (hf:P.funcs[f]? = some fn) (hn:fn.ntmps=N)
    (h:∀ Fz:Nat→Prop,Fz=(· < w.heap.size)→FOk Fz w→Le Fz M w M w→Wp P none N c (Fin P fn.results.toList R) (fun _ _ _ _=>False) (Fin P fn.results.toList R) [] (env0 0 args) w) (hb:fn.body=some c:=by rfl) (hN:Nat.ble args.length N=true:=by rfl):CallsV P f args w R:=gM hf hb hn hN (h _ rfl (fun _ h=>h) (Le.refl _ M w))
theorem nB {α:Type} (n:Nat) (x:α) (xs:List α):(x :: xs).drop (n + 1)=xs.drop n:=rfl
theorem nA {α:Type} (xs:List α):xs.drop 0=xs:=rfl
theorem mZ {α:Type} (n:Nat):([]:List α).drop n=[]:=List.drop_nil
theorem mY {α:Type} (xs:List α):xs.toArray.toList=xs:=rfl
end Go.SL
namespace Go.Proofs.YtalkinejknjidaaGreatDoor
open Go.SL Go.RowKit Go.Proofs Tryz
section
variable {M : Nat → Prop} {w : World}
theorem yI2 {v:Value} {xs:List Nat} {i:Int} (h:IsNat M w v xs) (k:Nat) (hi:i=(k:Int)) (hM:OkM M w) :
    CallsV prog 366 [v,.int .i64 i] w fun r w'=>Bel w.heap.size w w'∧r=lw (xs.getD k 0)∧xs.getD k 0 < 4294967296:=by
 have hl:=h.len
 refine ci M func366 ntmps366 fun Fz hFz hF LL=>?_
 refine zH (zC (zB rfl rfl (zF (zH (zH (zC (zA rfl rfl (zA rfl rfl ?_))))))))
 refine jB rfl yu25 rfl ?_
 refine bZ rfl rfl rfl (zF ?_)
 refine yI rfl (fun hc0=>?_) (fun hc0=>?_)
 ·refine zH (zC (zA rfl rfl (zA rfl rfl (uW (k) rfl yu25 xF rfl rfl (by assumption) (by omega) (by omega) (fun b11 o11 hc11 hb11=>?_)))))
  refine xC rfl jF rfl hc11 (zB rfl rfl (zF (yX ?_)))
  refine lv1 ⟨rfl,trivial⟩ ?_
  exact ⟨by subst hFz; exact LL.b,rfl,h.lim k⟩
 ·refine xH (zH (zC (zB rfl rfl (zF (yX ?_)))))
  refine lv1 ⟨rfl,trivial⟩ ?_
  exact ⟨by subst hFz; exact LL.b,by rw [yS (by omega)]; rfl,h.lim k⟩
theorem zK0 {v:Value} {xs:List Nat} (h:IsNat M w v xs) (hl:xs.length≤1099511627776) (hM:OkM M w) :
    CallsV prog 333 [v] w fun r w'=>Bel w.heap.size w w'∧Fresh 155 w w' r xs:=by
 have h0:=h
 obtain ⟨⟨_,_,ad,cap,rfl,hcap,h5⟩,hlt⟩:=h0
 refine ci M func333 ntmps333 fun Fz hFz hF LL=>?_
 refine zH (zC (zB rfl rfl (zF (zH (zH (zC (zA rfl rfl (tT rfl ⟨_,yu25⟩ rfl rfl (zF ?_)))))))))
 refine dD rfl (fun hc0=>?_) (fun hc0=>?_)
 ·refine zH (zC (zB rfl rfl (zF (yX ?_))))
  refine lv1 ⟨rfl,trivial⟩ ?_
  have hx:xs=[]:=by
    rcases h5 with h5 | ⟨b,off,rfl,_⟩
    · exact List.length_eq_zero_iff.1 h5
    · simp at hc0
  subst hx
  subst hFz
  exact ⟨LL.b,rZ wU zZ1 (by simp) (by simp)⟩
 ·refine xH (zH (zC (uX rfl yu25 xF rfl rfl rfl (by simp) rfl (fun w1 b5 N5=>?_))))
  have nF5:=hF.new N5
  have nM5:=hM.new N5
  have Lw1:=Le.of_new_mo (Fz:=Fz) (M:=M) (v:=Value.slice (some ⟨b5,0,none⟩) 0 0) N5 rfl
  obtain ⟨LL,hM,hF,h⟩:=up4 Lw1 LL hM hF h
  have Of:∀ k,(Value.slice (some ⟨b5,0,none⟩) 0 0).ownBlock=some k→¬ Fz k:=fN nF5
  have Om:∀ k,(Value.slice (some ⟨b5,0,none⟩) 0 0).ownBlock=some k→¬ M k:=fN nM5
  have Ow:=zY6 (n:=0) (c:=0) N5.blk rfl (Nat.le_refl _) (by omega)
  refine zA rfl rfl (iX rfl yu25 xF rfl rfl rfl Ow h.slc (lw_one _) (by omega) (by omega) (fun v7 w2 A7 G7 S7=>?_))
  have Lw2:=Le.of_grown (Fz:=Fz) (M:=M) G7 S7 A7 Of
  have Omo7:=Om
  replace Of:=iV (w':=w2) Of hF S7
  replace Om:=iU (w':=w2) Om (fun k hk=>hM k (.inr hk)) S7
  obtain ⟨LL,h⟩:=up2 Lw2 LL h
  clear Ow; have Ow:=A7
  refine zB rfl rfl (zF (yX ?_))
  refine lv1 ⟨rfl,trivial⟩ ?_
  subst hFz
  exact ⟨LL.b,rZ (by simpa using Ow) Of hlt (by omega)⟩
theorem eK {v:Value} {xs:List Nat} (h:IsNat M w v xs) (hl:xs.length≤1099511627776) (hM:OkM M w) :
    CallsV prog 283 [v] w fun r w'=>Bel w.heap.size w w'∧Fresh 155 w w' r (limbs (val xs)):=by
 refine ci M func283 ntmps283 fun Fz hFz hF LL=>?_
 refine zH (zC (zB rfl rfl (zF (zH (zC (zA rfl rfl ?_))))))
 refine jB rfl yu25 rfl ?_
 refine zB rfl rfl (zF (zH (yV ?_)))
 refine uO (σ:=Nat) [(0,_)] (fun s=>[(3,.int .i64 ((s:Nat):Int))]) (fun s w1=>w1=w∧s≤xs.length∧∀ j,s≤j→xs.getD j 0=0) (fun s=>s) (xs.length) (zD rfl (zD rfl yZ)) ?_ (fun s w1 hJ=>?_)
 · exact ⟨rfl,Nat.le_refl _,fun j hj=>yS hj⟩
 ·obtain ⟨rfl,hs,hz⟩:=hJ
  refine zH (zH (zC (zA rfl rfl (wX rfl rfl rfl (zA rfl rfl (tU (d:=8) rfl (fun hg2_2=>?_) (fun hg2_2=>?_)))))))
  ·refine jC rfl rfl (zA rfl rfl (jC rfl rfl (zA rfl rfl (jC rfl rfl (jR rfl rfl rfl (by omega) (jC rfl rfl (uW (s - 1) rfl yu25 xF rfl rfl (by assumption) (by omega) (by omega) (fun b12 o12 hc12 hb12=>?_))))))))
   refine jC rfl rfl (xC rfl jF rfl hc12 (jC rfl rfl (eW rfl rfl rfl (cP rfl rfl rfl (zF ?_)))))
   refine yI rfl (fun hc0=>?_) (fun hc0=>?_)
   ·refine xH (yV (zC (zA rfl rfl (jR rfl rfl rfl (by omega) (zB rfl rfl (zF ?_))))))
    refine ⟨rfl,s - 1,(yJ rfl (by congr 1; omega) (zD rfl yZ)),?_,?_⟩
    exact ⟨rfl,by omega,fun j hj=>by
      rcases Nat.lt_or_ge j s with h1 | h1
      · obtain rfl:j=s - 1:=by omega
        omega
      · exact hz j h1⟩
    omega
   ·refine gF (gP (zH (zC (zA rfl rfl (zA rfl rfl (zA rfl rfl ?_))))))
    refine bE (M:=M) 0 s rfl yu25 xF rfl h.slc rfl ⟨_,rfl⟩ ⟨rfl,_,rfl⟩ (Nat.zero_le _) hs (fun v21 hv21=>?_)
    have hn21:IsNat M w1 v21 (xs.take s):=⟨by simpa [List.map_take,hs] using hv21,fun x hx=>h.lt x (List.mem_of_mem_take hx)⟩
    refine zX rfl (bo func333) rfl rfl ?_
    refine (zK0 (by assumption) (by first | omega | (simp only [List.length_take]; omega)) hM).mono ?_
    rintro v22 w2 ⟨hB22,hf22⟩
    have hM22:=hM
    have hS22:=LL.size
    obtain ⟨LL,h⟩:=ub2 hB22 LL h
    have hn22:=hf22.nat hM22
    replace hf22:=hf22.less hS22
    refine zB rfl rfl (zF (yX ?_))
    refine lv1 ⟨rfl,trivial⟩ ?_
    have e:xs.take s=limbs (val xs):=dG h.lt hs hz (by first | (left; omega) | (right; omega))
    rw [e] at hf22
    subst hFz
    exact ⟨LL.b,hf22⟩
  ·refine jD rfl rfl rfl rfl (jD rfl rfl rfl rfl (jD rfl rfl rfl rfl (jD rfl rfl rfl rfl (jD rfl rfl rfl rfl (jD rfl rfl rfl rfl (cP rfl rfl rfl (zF (sU rfl (gF (gP (zH (zC (zA rfl rfl (zA rfl rfl ?_))))))))))))))
   refine zA rfl rfl ?_
   refine bE (M:=M) 0 s rfl yu25 xF rfl h.slc rfl ⟨_,rfl⟩ ⟨rfl,_,rfl⟩ (Nat.zero_le _) hs (fun v21 hv21=>?_)
   have hn21:IsNat M w1 v21 (xs.take s):=⟨by simpa [List.map_take,hs] using hv21,fun x hx=>h.lt x (List.mem_of_mem_take hx)⟩
   refine zX rfl (bo func333) rfl rfl ?_
   refine (zK0 (by assumption) (by first | omega | (simp only [List.length_take]; omega)) hM).mono ?_
   rintro v22 w3 ⟨hB22,hf22⟩
   have hM22:=hM
   have hS22:=LL.size
   obtain ⟨LL,h⟩:=ub2 hB22 LL h
   have hn22:=hf22.nat hM22
   replace hf22:=hf22.less hS22
   refine zB rfl rfl (zF (yX ?_))
   refine lv1 ⟨rfl,trivial⟩ ?_
   have e:xs.take s=limbs (val xs):=dG h.lt hs hz (by first | (left; omega) | (right; omega))
   rw [e] at hf22
   subst hFz
   exact ⟨LL.b,hf22⟩
theorem of_c {n:Nat} (hn:n < 18446744073709551616) (hM:OkM M w) :
    CallsV prog 267 [.int .u64 (n:Int)] w fun r w'=>Bel w.heap.size w w'∧Fresh 155 w w' r (limbs n):=by
 refine ci M func267 ntmps267 fun Fz hFz hF LL=>?_
 refine zH (zC (zB rfl rfl (zF (zH (zC (zA rfl rfl (qC rfl yu196 yu155 rfl (zA rfl rfl (jH rfl rfl rfl (by simp only [IntKind.bits]; omega) (qC rfl yu196 yu155 rfl (uX rfl yu25 xF rfl rfl rfl (by simp [Value.oneCell']) rfl (fun w1 b8 N8=>?_))))))))))))
 have hBw1:=N8.below
 have nM8:=hM.new N8
 have B8:=N8.blk
 obtain ⟨LL,hM⟩:=ub2 hBw1 LL hM
 have hn8:IsNat M w1 (.slice (some ⟨b8,0,none⟩) 2 2) [n % 4294967296,n / 4294967296 % 4294967296] :=
   ⟨B8.slc (M:=M) nM8 (n:=2) (c:=2) (ds:=[n % 4294967296,n / 4294967296 % 4294967296].map lw) rfl (fun j u hj=>hj) (by omega) (Nat.le_refl _),by intro x hx; simp at hx; omega⟩
 refine zX rfl (bo func283) rfl rfl ?_
 refine (eK hn8 (by simp) hM).mono ?_
 rintro v9 w2 ⟨hB9,hf9⟩
 have hM9:=hM
 have hS9:=LL.size
 replace LL:=ub1 hB9 LL
 replace hf9:=hf9.less hS9
 refine zB rfl rfl (zF (yX ?_))
 refine lv1 ⟨rfl,trivial⟩ ?_
 have e:val [n % 4294967296,n / 4294967296 % 4294967296]=n:=by simp only [val]; omega
 rw [e] at hf9
 subst hFz
 exact ⟨LL.b,hf9⟩
theorem cmp_c {v u:Value} {xs ys:List Nat} (h1:IsNat M w v xs) (h2:IsNat M w u ys) (hl1:xs.length≤1099511627776) (hl2:ys.length≤1099511627776) (hM:OkM M w) :
    CallsV prog 364 [v,u] w fun r w'=>Bel w.heap.size w w'∧r = .int .i64 (cmpN (val xs) (val ys)):=by
 refine ci M func364 ntmps364 fun Fz hFz hF LL=>?_
 refine zH (zC (zB rfl rfl (zF (lH (zH (lI (zH (zH (zC (zA rfl rfl ?_))))))))))
 refine jB rfl yu25 rfl ?_
 refine zA rfl rfl ?_
 refine jB rfl yu25 rfl ?_
 refine wW rfl rfl rfl (jR rfl rfl rfl (by omega) (zB rfl rfl (zF (yV ?_))))
 refine uO (σ:=Nat) [(0,_),(1,_)] (fun s=>[(4,.int .i64 0),(5,.int .i64 (((s:Nat):Int) - 1))]) (fun s w1=>Le Fz M w M w1∧s≤1099511627776∧∀ j,s≤j→xs.getD j 0=ys.getD j 0) (fun s=>s) (max xs.length ys.length) (zD rfl (yJ rfl (by congr 1; omega) (zD rfl (zD rfl yZ)))) ?_ (fun s w1 hJ=>?_)
 · exact ⟨Le.refl _ _ _,by omega,fun j hj=>by rw [yS (by omega),yS (by omega)]⟩
 ·obtain ⟨LR,hs,hz⟩:=hJ
  obtain ⟨LL,hM,h1,h2⟩:=up4 LR LL hM h1 h2
  refine zH (zH (zC (zA rfl rfl (dJ rfl rfl rfl (zF ?_)))))
  refine yI rfl (fun hc0=>?_) (fun hc0=>?_)
  ·refine xH (zH (yV (zH (zC (zA rfl rfl (zA rfl rfl (zX rfl (bo func366) rfl rfl ?_)))))))
   refine (yI2 (by assumption) (s - 1) (by omega) hM).mono ?_
   rintro v20 w2 ⟨hB20,rfl,hlt20⟩
   obtain ⟨LL,LR,hM,h1,h2⟩:=ub5 hB20 LL LR hM h1 h2
   refine zA rfl rfl (zA rfl rfl (zX rfl (bo func366) rfl rfl ?_))
   refine (yI2 (by assumption) (s - 1) (by omega) hM).mono ?_
   rintro v23 w3 ⟨hB23,rfl,hlt23⟩
   obtain ⟨LL,LR,h1,h2⟩:=ub4 hB23 LL LR h1 h2
   refine zB rfl rfl (zB rfl rfl (zF (yV (zH (zC (zA rfl rfl (zA rfl rfl (bZ rfl rfl rfl (zB rfl rfl (zF ?_))))))))))
   refine yI rfl (fun hc1=>?_) (fun hc1=>?_)
   ·refine zH (zC (zB rfl rfl (zF (gF (eI rfl (eI rfl (gP (zH (zC (zA rfl rfl (zB rfl rfl (zF (yX ?_)))))))))))))
    refine lv1 ⟨rfl,trivial⟩ ?_
    subst hFz
    exact ⟨LL.b,by rw [zJ7 (kH h1.lt h2.lt (j:=s - 1) (by omega) (fun j hj=>hz j (by omega)))]⟩
   ·refine zH (zC (zA rfl rfl (zA rfl rfl (wX rfl rfl rfl (zB rfl rfl (zF ?_))))))
    refine yI rfl (fun hc2=>?_) (fun hc2=>?_)
    ·refine zH (zC (zB rfl rfl (zF (gF (eI rfl (eI rfl (gP (zH (zC (zA rfl rfl (zB rfl rfl (zF (yX ?_)))))))))))))
     refine lv1 ⟨rfl,trivial⟩ ?_
     subst hFz
     exact ⟨LL.b,by rw [zJ8 (kH h2.lt h1.lt (j:=s - 1) (by omega) (fun j hj=>(hz j (by omega)).symm))]⟩
    ·refine xH (zC (zA rfl rfl (jR rfl rfl rfl (by omega) (zB rfl rfl (zF ?_)))))
     refine ⟨rfl,s - 1,(zD rfl (yJ rfl (by congr 1; omega) (zD rfl (zD rfl yZ)))),?_,?_⟩
     exact ⟨LR,by omega,fun j hj=>by
       rcases Nat.lt_or_ge j s with h1 | h1
       · obtain rfl:j=s - 1:=by omega
         omega
       · exact hz j h1⟩
     omega
  ·refine gF (gP (zH (zC (zA rfl rfl (zB rfl rfl (zF (yX ?_)))))))
   refine lv1 ⟨rfl,trivial⟩ ?_
   subst hFz
   exact ⟨LL.b,by rw [zJ9 (aP (fun j=>hz j (by omega)))]⟩
theorem count_c {k m:Int} (hm:0≤m) (hM:OkM M w) :
    CallsV prog 331 [.int .i64 k,.int .i64 m] w fun r w'=>Bel w.heap.size w w'∧r = .int .i64 ((cntN k m:Nat):Int):=by
 refine ci M func331 ntmps331 fun Fz hFz hF LL=>?_
 refine zH (zC (zB rfl rfl (zF (zH (zC (zA rfl rfl (zA rfl rfl (zY7 rfl rfl rfl (wW rfl rfl rfl (zB rfl rfl (zF (yX ?_))))))))))))
 refine lv1 ⟨rfl,trivial⟩ ?_
 subst hFz
 exact ⟨LL.b,by have h:=iH (k:=k) hm; first | rw [h.1] | rw [h.2.1]⟩
theorem yC7 {k m:Int} {q:Nat} (hq:cntN k m=q) (hm:0≤m) (hM:OkM M w) :
    CallsV prog 331 [.int .i64 k,.int .i64 m] w fun r w'=>Bel w.heap.size w w'∧r = .int .i64 ((q:Nat):Int):=by subst hq; exact count_c hm hM
theorem mul32_c {x s:Nat} (hx:x < 4294967296) (hs:s < 32) (hM:OkM M w) :
    CallsV prog 332 [.int .u32 (x:Int),.int .u32 ((1 * 2 ^ s % 4294967296:Nat):Int)] w fun r w'=>Bel w.heap.size w w'∧r = .tuple #[.int .u32 ((x * 2 ^ s / 4294967296:Nat):Int),.int .u32 ((x * 2 ^ s % 4294967296:Nat):Int)]:=by
 have hsl:=zS0 hx hs
 have e1:1 * 2 ^ s % 4294967296=2 ^ s:=by
   have h1:=Nat.pow_lt_pow_right (a:=2) (by omega) hs
   rw [Nat.one_mul]; exact Nat.mod_eq_of_lt h1
 rw [e1]
 have htl:=aW (r:=s) (by omega)
 refine ci M func332 ntmps332 fun Fz hFz hF LL=>?_
 refine zH (zC (zB rfl rfl (zB rfl rfl (zF (zH (zC (zA rfl rfl (jX (a:=x) rfl yu155 yu196 rfl (by omega) (zA rfl rfl (jX (a:=2 ^ s) rfl yu155 yu196 rfl (by omega) (bF (a:=x) (b:=2 ^ s) rfl rfl rfl hsl (zB rfl rfl (zF (zH ?_))))))))))))))
 refine zC (zA rfl rfl (jH rfl rfl rfl (by simp only [IntKind.bits]; omega) (qC rfl yu196 yu155 rfl (zA rfl rfl (qC rfl yu196 yu155 rfl (zB rfl rfl (zB rfl rfl (zF (yX ?_)))))))))
 refine gU ⟨[_,_],⟨rfl,rfl,trivial⟩,?_⟩
 dsimp only [xN]
 subst hFz
 refine ⟨LL.b,?_⟩
 have h2:x * 2 ^ s / 4294967296 < 4294967296:=by omega
 show Value.tuple #[.int .u32 ((x * 2 ^ s / 4294967296 % 4294967296:Nat):Int),_]=_
 rw [Nat.mod_eq_of_lt h2]
theorem up_c {v:Value} {xs:List Nat} {j:Int} (h:IsNat M w v xs) (hl:xs.length≤100000000) (hM:OkM M w) :
    CallsV prog 281 [v,.int .i64 j] w fun r w'=>Bel w.heap.size w w'∧Fresh 155 w w' r (limbs (val xs * 2 ^ cntN j 65536)):=by
 have hqq:=(iH (k:=j) (m:=65536) (by omega)).2.2
 generalize hq:cntN j 65536=q at hqq ⊢
 refine ci M func281 ntmps281 fun Fz hFz hF LL=>?_
 refine zH (zC (zB rfl rfl (zF (zH (zC (zA rfl rfl (zX rfl (bo func331) rfl rfl ?_)))))))
 refine (yC7 hq (by omega) hM).mono ?_
 rintro v12 w1 ⟨hB12,rfl⟩
 obtain ⟨LL,hM,hF,h⟩:=ub4 hB12 LL hM hF h
 refine zB rfl rfl (zF (zH (zC (zA rfl rfl (mC rfl rfl rfl (by omega) (zA rfl rfl (mC rfl rfl rfl (by omega) (zA rfl rfl ?_))))))))
 refine jB rfl yu25 rfl ?_
 refine xK rfl rfl rfl (by omega) (xK rfl rfl rfl (by omega) (mE (q / 32) (q / 32 + xs.length + 1) rfl yu25 xF rfl rfl rfl (by omega) (by omega) (by omega) (by omega) (by omega) (fun w2 b21 N21=>?_)))
 have nF21:=hF.new N21
 have nM21:=hM.new N21
 have Lw2:=Le.of_new_mo (Fz:=Fz) (M:=M) (v:=Value.slice (some ⟨b21,0,none⟩) (q / 32) (q / 32 + xs.length + 1)) N21 rfl
 obtain ⟨LL,hM,hF,h⟩:=up4 Lw2 LL hM hF h
 have Of:∀ k,(Value.slice (some ⟨b21,0,none⟩) (q / 32) (q / 32 + xs.length + 1)).ownBlock=some k→¬ Fz k:=fN nF21
 have Om:∀ k,(Value.slice (some ⟨b21,0,none⟩) (q / 32) (q / 32 + xs.length + 1)).ownBlock=some k→¬ M k:=fN nM21
 have Ow:=zY6 (n:=q / 32) (c:=q / 32 + xs.length + 1) N21.blk (by simp) (by omega) (by omega)
 have Ow:World.ownsRow w2 0 155 1 (Value.slice (some ⟨b21,0,none⟩) (q / 32) (q / 32 + xs.length + 1)) (List.replicate (q / 32) 0).length ((List.replicate (q / 32) 0).map lw):=by rw [List.take_replicate,Nat.min_eq_left (by omega)] at Ow; simpa [lw] using Ow
 refine zB rfl rfl (zF (zH (zC (zB rfl rfl (zF (zH (zH (zC (zA rfl rfl ?_)))))))))
 refine jB rfl yu25 rfl ?_
 refine zA rfl rfl (zF (yV ?_))
 refine uO (σ:=Nat × Value × Nat) [(1,_),(22,_),(23,_)] (fun s=>[(5,s.2.1),(6,.int .u32 ((s.2.2:Nat):Int)),(24,.int .i64 ((s.1:Nat):Int))]) (fun s w3=>Le Fz (Mo (Value.slice (some ⟨b21,0,none⟩) (q / 32) (q / 32 + xs.length + 1)) M) w2 (Mo s.2.1 M) w3∧s.1≤xs.length∧s.2.2 < 2 ^ (q % 32)∧(∀ k,s.2.1.ownBlock=some k→¬ Fz k)∧(∀ k,s.2.1.ownBlock=some k→¬ M k)∧∃ zs:List Nat,w3.ownsRow 0 155 1 s.2.1 zs.length (zs.map lw)∧zs.length=q / 32 + s.1∧(∀ z ∈ zs,z < 4294967296)∧val zs + 4294967296 ^ (q / 32 + s.1) * s.2.2=4294967296 ^ (q / 32) * (val (xs.take s.1) * 2 ^ (q % 32))) (fun s=>xs.length - s.1) ((0,_,0)) (zD rfl (zD rfl (zD rfl (zD rfl (zD rfl (zD rfl yZ)))))) ?_ (fun s w3 hJ=>?_)
 · dsimp only
   exact ⟨Le.refl _ _ _,by omega,yO _,Of,Om,_,Ow,by simp,by intro z hz; have:=(List.mem_replicate.1 hz).2; omega,by simp [qF,val]⟩
 ·clear Ow Of Om
  obtain ⟨i,u,l⟩:=s
  dsimp only at hJ ⊢
  obtain ⟨LR,hi,hlt,Of,Om,zs,Ow,hzl,hzlt,hzv⟩:=hJ
  have hbx:=h.lim i
  have hsl:=zS0 hbx (show q % 32 < 32 by omega)
  have htl:=aW (r:=q % 32) (by omega)
  obtain ⟨LL,hM,hF,h⟩:=up4 LR LL hM hF h
  refine zH (zC (bZ rfl rfl rfl (zF (zH ?_))))
  refine yI rfl (fun hc0=>?_) (fun hc0=>?_)
  ·refine xH (zH (yV (zH (zC (uW (i) rfl yu25 xF rfl rfl (by assumption) (by omega) (by omega) (fun b26 o26 hc26 hb26=>?_))))))
   refine xC rfl jF rfl hc26 (zB rfl rfl (zF (zH (zC (zA rfl rfl (zA rfl rfl (mB rfl rfl rfl (by omega) (cO (a:=1) (m:=4294967296) rfl rfl rfl (by simp only [IntKind.bits]; omega) rfl (.inr rfl) (zX rfl (bo func332) rfl rfl ?_)))))))))
   refine (mul32_c (s:=q % 32) hbx (by omega) hM).mono ?_
   rintro v33 w4 ⟨hB33,rfl⟩
   obtain ⟨LR,hM,hF,h⟩:=ub4 hB33 LR hM hF h
   replace Ow:=gT Ow hB33
   refine zA rfl rfl (jL rfl rfl rfl (jL rfl rfl rfl (zB rfl rfl (zB rfl rfl (zF (zC (zA rfl rfl (zA rfl rfl (zA rfl rfl (fT (a:=xs.getD i 0 * 2 ^ (q % 32) % 4294967296) (b:=l) rfl rfl rfl (by simp only [IntKind.bits]; omega) (by simp only [IntKind.bits]; omega) (.inr rfl) (uX rfl yu25 xF rfl rfl rfl (by simp [Value.oneCell',lw]) rfl (fun w5 b40 N40=>?_))))))))))))
   have hBw5:=N40.below
   have nM40:=hM.new N40
   have B40:=N40.blk
   obtain ⟨LR,hM,hF,h⟩:=ub4 hBw5 LR hM hF h
   replace Ow:=gT Ow hBw5
   refine iX rfl yu25 xF rfl rfl rfl Ow (B40.slc nM40 rfl (fun _ _ h=>h) (by omega) (Nat.le_refl _)) (by simp [Value.oneCell']) (by omega) (by omega) (fun v41 w6 A41 G41 S41=>?_)
   have Lw6:=Le.of_grown (Fz:=Fz) (M:=M) G41 S41 A41 Of
   have Omo41:=Om
   replace Of:=iV (w':=w6) Of hF S41
   replace Om:=iU (w':=w6) Om (fun k hk=>hM k (.inr hk)) S41
   obtain ⟨LR,h⟩:=up2 Lw6 LR h
   clear Ow; have Ow:=A41
   refine zA rfl rfl (zB rfl rfl (zB rfl rfl (zF (zC (xK rfl rfl rfl (by omega) (zA rfl rfl (zF ?_)))))))
   refine ⟨rfl,(i + 1,v41,xs.getD i 0 * 2 ^ (q % 32) / 4294967296),(yJ rfl (rfl) (yJ rfl (rfl) (yJ rfl (by rw [Int.natCast_add]; rfl) (zD rfl (zD rfl (zD rfl yZ)))))),?_,?_⟩
   dsimp only
   have hor:=zV2 (x:=xs.getD i 0) (by omega) hlt
   exact ⟨LR,by omega,zK8 hbx,Of,Om,zs ++ [xs.getD i 0 * 2 ^ (q % 32) % 4294967296 ||| l],by simpa [lw] using Ow,by simp [hzl]; omega,fun z hz=>by
     rcases List.mem_append.1 hz with hz | hz
     · exact hzlt z hz
     · rw [List.mem_singleton] at hz; rw [hz,hor.1]; exact hor.2,by rw [← Nat.add_assoc,zV1 hzl (by omega) hlt hzv,yF1]⟩
   dsimp only
   omega
  ·refine gF (gP (zH (zC (zA rfl rfl (zA rfl rfl (uX rfl yu25 xF rfl rfl rfl (by simp [Value.oneCell',lw]) rfl (fun w7 b46 N46=>?_)))))))
   have hBw7:=N46.below
   have nM46:=hM.new N46
   have B46:=N46.blk
   obtain ⟨LL,hM,hF,h⟩:=ub4 hBw7 LL hM hF h
   replace Ow:=gT Ow hBw7
   refine iX rfl yu25 xF rfl rfl rfl Ow (B46.slc nM46 rfl (fun _ _ h=>h) (by omega) (Nat.le_refl _)) (by simp [Value.oneCell']) (by omega) (by omega) (fun v47 w8 A47 G47 S47=>?_)
   have Lw8:=Le.of_grown (Fz:=Fz) (M:=M) G47 S47 A47 Of
   have Omo47:=Om
   replace Of:=iV (w':=w8) Of hF S47
   replace Om:=iU (w':=w8) Om (fun k hk=>hM k (.inr hk)) S47
   obtain ⟨LL,hM,h⟩:=up3 Lw8 LL hM h
   clear Ow; have Ow:=A47
   refine zX rfl (bo func283) rfl rfl ?_
   refine (eK (xs:=zs ++ [l]) ⟨by simpa [lw] using oW Ow (fun k hk c=>Om k hk c) (by omega),fun z hz=>by rcases List.mem_append.1 hz with hz | hz <;> first | exact hzlt z hz | (simp at hz; omega)⟩ (by simp; omega) (fun k hk=>hM k (.inr hk))).mono ?_
   rintro v48 w9 ⟨hB48,hf48⟩
   have hS48:=LL.size
   obtain ⟨LL,h⟩:=ub2 hB48 LL h
   replace hf48:=hf48.less hS48
   refine zB rfl rfl (zF (yX ?_))
   refine lv1 ⟨rfl,trivial⟩ ?_
   subst hFz
   obtain rfl:i=xs.length:=by omega
   rw [List.take_length,yF2] at hzv
   rw [qR,hzl,hzv] at hf48
   exact ⟨LL.b,hf48⟩
theorem down_c {v:Value} {xs:List Nat} {j:Int} (h:IsNat M w v xs) (hl:xs.length≤100000000) (hM:OkM M w) :
    CallsV prog 377 [v,.int .i64 j] w fun r w'=>Bel w.heap.size w w'∧Fresh 155 w w' r (limbs (val xs / 2 ^ cntN j 65536)):=by
 have hqq:=(iH (k:=j) (m:=65536) (by omega)).2.2
 generalize hq:cntN j 65536=q at hqq ⊢
 refine ci M func377 ntmps377 fun Fz hFz hF LL=>?_
 refine zH (zC (zB rfl rfl (zF (lH (zH (zC (zA rfl rfl (zX rfl (bo func331) rfl rfl ?_))))))))
 refine (yC7 hq (by omega) hM).mono ?_
 rintro v8 w1 ⟨hB8,rfl⟩
 obtain ⟨LL,hM,hF,h⟩:=ub4 hB8 LL hM hF h
 refine zB rfl rfl (zF (zH (zH (zC (zA rfl rfl (mC rfl rfl rfl (by omega) (zA rfl rfl ?_)))))))
 refine jB rfl yu25 rfl ?_
 refine dJ rfl rfl rfl (zF ?_)
 refine yI rfl (fun hc0=>?_) (fun hc0=>?_)
 ·refine zH (zC (zB rfl rfl (zF (yX ?_))))
  refine lv1 ⟨rfl,trivial⟩ ?_
  subst hFz
  have h0:val xs / 2 ^ q=0:=by
    have h1:=jM h.lt (show xs.length≤q / 32 by omega)
    have h2:2 ^ (32 * (q / 32))≤2 ^ q:=Nat.pow_le_pow_right (by omega) (by omega)
    rw [fG] at h1
    exact Nat.div_eq_of_lt (by omega)
  rw [h0,yB]
  exact ⟨LL.b,rZ wU zZ1 (by simp) (by simp)⟩
 ·have hsl1:q / 32 < xs.length:=by omega
  refine xH (zH (zC (zA rfl rfl (zA rfl rfl (mC rfl rfl rfl (by omega) ?_)))))
  refine bE (M:=M) (q / 32) xs.length rfl yu25 xF rfl h.slc ⟨_,rfl⟩ rfl trivial (by omega) (Nat.le_refl _) (fun v17 hv17=>?_)
  have hn17:IsNat M w1 v17 (xs.drop (q / 32)):=⟨by rw [List.length_drop]; simpa [List.map_drop,List.take_of_length_le] using hv17,fun x hx=>h.lt x (List.mem_of_mem_drop hx)⟩
  have hdl:(xs.drop (q / 32)).length=xs.length - q / 32:=List.length_drop
  refine zX rfl (bo func333) rfl rfl ?_
  refine (zK0 hn17 (by omega) hM).mono ?_
  rintro v18 w2 ⟨hB18,hf18⟩
  have F18:∀ k,v18.ownBlock=some k→¬ Fz k:=fun k hk c=>absurd (hF k c) (Nat.not_lt.2 (hf18.new k hk))
  have X18:∀ k,v18.ownBlock=some k→¬ M k:=fun k hk c=>absurd (hM k c) (Nat.not_lt.2 (hf18.new k hk))
  have Lw2:=Le.of_fresh (Fz:=Fz) (M:=M) hB18 hf18
  obtain ⟨LL,hM,h⟩:=up3 Lw2 LL hM h
  have O18:=hf18.own
  have T18:=hf18.lt
  have Z18:=hf18.len
  have Ow:=O18
  have Of:=F18
  have Om:=X18
  clear O18
  refine zB rfl rfl (zF (zH (lI (zH (zH (zC (zA rfl rfl ?_)))))))
  refine jB rfl yu25 rfl ?_
  refine zA rfl rfl (zF (yV ?_))
  refine uO (σ:=Nat) [(1,_),(5,_),(20,_)] (fun i=>[(21,.int .i64 ((i:Nat):Int))]) (fun i w3=>Le Fz (Mo v18 M) w2 (Mo v18 M) w3∧i≤(xs.drop (q / 32)).length∧∃ zs:List Nat,w3.ownsRow 0 155 1 v18 zs.length (zs.map lw)∧zs.length=(xs.drop (q / 32)).length∧(∀ z ∈ zs,z < 4294967296)∧zs.drop i=xs.drop (q / 32 + i)∧val (zs.take i) + 4294967296 ^ i * (val (xs.drop (q / 32 + i)) / 2 ^ (q % 32))=val (xs.drop (q / 32)) / 2 ^ (q % 32)) (fun i=>(xs.drop (q / 32)).length - i) (0) (zD rfl (zD rfl (zD rfl (zD rfl yZ)))) ?_ (fun i w3 hJ=>?_)
  · exact ⟨Le.refl _ _ _,by omega,_,Ow,rfl,T18,by simp,by simp [val]⟩
  ·clear Ow
   obtain ⟨LR,hi,zs,Ow,hzl,hzlt,hzd,hzv⟩:=hJ
   obtain ⟨LL,hM,h⟩:=up3 LR LL hM h
   refine zH (zC (bZ rfl rfl rfl (zF (zH ?_))))
   refine yI rfl (fun hc1=>?_) (fun hc1=>?_)
   ·have hil:i < zs.length:=by omega
    have e0:zs.getD i 0=xs.getD (q / 32 + i) 0:=vN hzd 0
    have e1:zs.getD (i + 1) 0=xs.getD (q / 32 + i + 1) 0:=vN hzd 1
    have hbx:=h.lim (q / 32 + i)
    have hby:=h.lim (q / 32 + i + 1)
    have hd1:=kU (xs:=xs) (s:=q / 32 + i) (by omega)
    have hms:=mod_self_of (q % 32) hbx
    have hle:=Nat.div_le_self (xs.getD (q / 32 + i) 0) (2 ^ (q % 32))
    refine xH (zH (yV (zH (zC (zA rfl rfl (zB rfl rfl (zF (zH (zC (zA rfl rfl (zA rfl rfl ?_)))))))))))
    refine eV (i) rfl yu25 xF rfl rfl Ow (by omega) (by omega) (fun b26 cur26 cap26 B26=>?_)
    have hc26:w3.cell? ⟨b26,i,none⟩=some (lw (zs.getD (i) 0)):=by rw [B26.blk.cell]; exact B26.get (uE (by omega))
    refine xC rfl jF rfl hc26 (zA rfl rfl (mB rfl rfl rfl (by omega) (jH rfl rfl rfl (by simp only [IntKind.bits]; omega) ?_)))
    refine eV (i) rfl yu25 xF rfl rfl Ow (by omega) (by omega) (fun b31 cur31 cap31 B31=>?_)
    have hc31:w3.cell? ⟨b31,i,none⟩=some (lw (zs.getD (i) 0)):=by rw [B31.blk.cell]; exact B31.get (uE (by omega))
    refine qK rfl rfl xF B31.blk rfl (by have:=B31.len; have:=B31.le; omega) (by simp [Value.cells,Value.oneCell']) (fun w4 Cw4 BN=>?_)
    have Lw4:=Le.of_chg (M:=(Mo v18 M)) Cw4 (.inl B31.own) (Of b31 B31.own)
    obtain ⟨LR,h⟩:=up2 Lw4 LR h
    have Ow2:=B31.set (by omega) BN
    replace Ow2:World.ownsRow w4 0 155 1 v18 (zs.set (i) (zs.getD i 0 / 2 ^ (q % 32))).length ((zs.set (i) (zs.getD i 0 / 2 ^ (q % 32))).map lw):=by rw [List.length_set,List.map_set]; exact Ow2
    clear Ow; have Ow:=Ow2; clear Ow2 BN
    obtain ⟨zs1,hz1⟩:∃ z,z=zs.set i (zs.getD i 0 / 2 ^ (q % 32)):=⟨_,rfl⟩
    rw [← hz1] at Ow
    have hzl1:zs1.length=zs.length:=by rw [hz1]; simp
    have e2:zs1.getD i 0=xs.getD (q / 32 + i) 0 / 2 ^ (q % 32):=by rw [hz1,← e0]; simp [List.getD_eq_getElem?_getD,hil]
    have e3:zs1.getD (i + 1) 0=xs.getD (q / 32 + i + 1) 0:=by rw [hz1,gN (by omega),e1]
    refine zF (zH (zH (zC (zA rfl rfl (xK rfl rfl rfl (by omega) (zA rfl rfl ?_))))))
    refine jB rfl yu25 rfl ?_
    refine dJ rfl rfl rfl (zA rfl rfl (tU (d:=37) rfl (fun hg9_5=>?_) (fun hg9_5=>?_)))
    ·refine jD rfl rfl rfl rfl (jD rfl rfl rfl rfl (jD rfl rfl rfl rfl (cP rfl rfl rfl (zF (sT rfl (gF (gP (zC (xK rfl rfl rfl (by omega) (zA rfl rfl (zF ?_)))))))))))
     refine ⟨rfl,i + 1,(yJ rfl (by rw [Int.natCast_add]; rfl) (zD rfl (zD rfl (zD rfl yZ)))),?_,?_⟩
     have hev:zs.getD i 0 / 2 ^ (q % 32)=val (xs.drop (q / 32 + i)) / 2 ^ (q % 32) % 4294967296:=by rw [e0,hd1,show val (xs.drop (q / 32 + i + 1))=0 by rw [List.drop_of_length_le (by omega)]; rfl]; simpa using hms.symm
     have hin:=zJ1 (r:=q % 32) (e:=zs.getD i 0 / 2 ^ (q % 32)) hil (by omega) h.lt hzd hzv hev
     exact ⟨LR,by omega,zs.set i (zs.getD i 0 / 2 ^ (q % 32)),by rw [← hz1]; exact Ow,by simp [hzl],aZ hzlt (by rw [hev]; exact Nat.mod_lt _ (by omega)),hin.1,hin.2⟩
     omega
    ·refine jC rfl rfl (zA rfl rfl (jC rfl rfl (mB rfl rfl rfl (by omega) (jC rfl rfl (eW rfl rfl rfl (cP rfl rfl rfl (zF ?_)))))))
     refine yI rfl (fun hc2=>?_) (fun hc2=>?_)
     ·refine gF (gP (zC (xK rfl rfl rfl (by omega) (zA rfl rfl (zF ?_)))))
      refine ⟨rfl,i + 1,(yJ rfl (by rw [Int.natCast_add]; rfl) (zD rfl (zD rfl (zD rfl yZ)))),?_,?_⟩
      have hev:zs.getD i 0 / 2 ^ (q % 32)=val (xs.drop (q / 32 + i)) / 2 ^ (q % 32) % 4294967296:=by rw [e0,hd1,show q % 32=0 by omega,Nat.pow_zero,Nat.div_one,Nat.div_one]; omega
      have hin:=zJ1 (r:=q % 32) (e:=zs.getD i 0 / 2 ^ (q % 32)) hil (by omega) h.lt hzd hzv hev
      exact ⟨LR,by omega,zs.set i (zs.getD i 0 / 2 ^ (q % 32)),by rw [← hz1]; exact Ow,by simp [hzl],aZ hzlt (by rw [hev]; exact Nat.mod_lt _ (by omega)),hin.1,hin.2⟩
      omega
     ·refine xH ?_
      refine wd mixed 13 [1,5,20,21,42,43,45,54] (by decide +kernel) ?_
      apply zP
      ·intro wq hR hst
       refine yL rfl rfl (zI ?_)
       replace h:=ub1 hR h
       exact zA rfl rfl (on0 rfl)
      apply zP
      ·intro wq hR hst
       refine yL rfl rfl (zI ?_)
       replace h:=ub1 hR h
       exact zA rfl rfl (on0 rfl)
      apply yC1
      ·intro wq hR hst
       refine zN rfl (zN rfl (zI ?_))
       replace h:=ub1 hR h
       replace Ow:=gT Ow hR
       refine eV (i) rfl yu25 xF rfl rfl Ow (by omega) (by omega) (fun b44 cur44 cap44 B44=>?_)
       have hc44:wq.cell? ⟨b44,i,none⟩=some (lw (zs1.getD (i) 0)):=by rw [B44.blk.cell]; exact B44.get (uE (by omega))
       exact on1 (xX _) rfl ⟨_,_,rfl,hc44⟩
      apply zP
      ·intro wq hR hst
       refine tX rfl (fun v44 hp44=>?_)
       obtain ⟨b44,o44,rfl,hc44⟩:=hp44
       refine zI ?_
       replace h:=ub1 hR h
       exact xC rfl jF rfl hc44 (on0 rfl)
      apply zP
      ·intro wq hR hst
       refine yL rfl rfl (zI ?_)
       replace h:=ub1 hR h
       exact zA rfl rfl (on0 rfl)
      apply zP
      ·intro wq hR hst
       refine yL rfl rfl (zI ?_)
       replace h:=ub1 hR h
       exact zA rfl rfl (on0 rfl)
      apply zP
      ·intro wq hR hst
       refine zN rfl (zI ?_)
       replace h:=ub1 hR h
       exact xK rfl rfl rfl (by omega) (on0 rfl)
      apply yC1
      ·intro wq hR hst
       refine zN rfl (zN rfl (zI ?_))
       replace h:=ub1 hR h
       replace Ow:=gT Ow hR
       refine eV (i + 1) rfl yu25 xF rfl rfl Ow (by omega) (by omega) (fun b49 cur49 cap49 B49=>?_)
       have hc49:wq.cell? ⟨b49,i + 1,none⟩=some (lw (zs1.getD (i + 1) 0)):=by rw [B49.blk.cell]; exact B49.get (uE (by omega))
       exact on1 (xX _) rfl ⟨_,_,rfl,hc49⟩
      apply zP
      ·intro wq hR hst
       refine tX rfl (fun v49 hp49=>?_)
       obtain ⟨b49,o49,rfl,hc49⟩:=hp49
       refine zI ?_
       replace h:=ub1 hR h
       exact xC rfl jF rfl hc49 (on0 rfl)
      apply zP
      ·intro wq hR hst
       refine yL rfl rfl (zI ?_)
       replace h:=ub1 hR h
       exact zA rfl rfl (on0 rfl)
      apply zP
      ·intro wq hR hst
       refine zN rfl (zI ?_)
       replace h:=ub1 hR h
       exact mB rfl rfl rfl (by omega) (on0 rfl)
      apply zP
      ·intro wq hR hst
       refine zN rfl (zI ?_)
       replace h:=ub1 hR h
       exact jR rfl rfl rfl (by omega) (on0 rfl)
      apply zP
      ·intro wq hR hst
       refine zN rfl (zN rfl (zI ?_))
       replace h:=ub1 hR h
       refine cO (a:=zs1.getD (i + 1) 0) (m:=4294967296) rfl rfl rfl (by simp only [IntKind.bits]; omega) rfl (.inr rfl) ?_
       rw [show Int.toNat (32 - (q:Int) % 32)=32 - q % 32 by omega]
       exact on0 rfl
      refine aN (fun wq10 hR10 hpost10=>?_)
      refine yL rfl rfl (yL rfl rfl (yL rfl rfl (yL rfl rfl (zN rfl (zN rfl (zN rfl (zN rfl (zI ?_))))))))
      simp only [nB,nA,mZ,mY]
      obtain ⟨LR,h⟩:=ub2 hR10 LR h
      replace Ow:=gT Ow hR10
      refine fT (a:=zs1.getD i 0) (b:=zs1.getD (i + 1) 0 * 2 ^ (32 - q % 32) % 4294967296) rfl rfl rfl (by simp only [IntKind.bits]; omega) (by simp only [IntKind.bits]; omega) (.inr rfl) ?_
      refine eV (i) rfl yu25 xF rfl rfl Ow (by omega) (by omega) (fun b56 cur56 cap56 B56=>?_)
      have hc56:wq10.cell? ⟨b56,i,none⟩=some (lw (zs1.getD (i) 0)):=by rw [B56.blk.cell]; exact B56.get (uE (by omega))
      refine qK rfl rfl xF B56.blk rfl (by have:=B56.len; have:=B56.le; omega) (by simp [Value.cells,Value.oneCell']) (fun w5 Cw5 BN=>?_)
      have Lw5:=Le.of_chg (M:=(Mo v18 M)) Cw5 (.inl B56.own) (Of b56 B56.own)
      obtain ⟨LR,h⟩:=up2 Lw5 LR h
      have Ow2:=B56.set (by omega) BN
      replace Ow2:World.ownsRow w5 0 155 1 v18 (zs1.set (i) (zs1.getD i 0 ||| zs1.getD (i + 1) 0 * 2 ^ (32 - q % 32) % 4294967296)).length ((zs1.set (i) (zs1.getD i 0 ||| zs1.getD (i + 1) 0 * 2 ^ (32 - q % 32) % 4294967296)).map lw):=by rw [List.length_set,List.map_set]; exact Ow2
      clear Ow; have Ow:=Ow2; clear Ow2 BN
      refine zF (zC (xK rfl rfl rfl (by omega) (zA rfl rfl (zF ?_))))
      refine ⟨rfl,i + 1,(yJ rfl (by rw [Int.natCast_add]; rfl) (zD rfl (zD rfl (zD rfl yZ)))),?_,?_⟩
      have hd2:=kU (xs:=xs) (s:=q / 32 + i + 1) (by omega)
      have hev:(zs1.getD i 0 ||| zs1.getD (i + 1) 0 * 2 ^ (32 - q % 32) % 4294967296)=val (xs.drop (q / 32 + i)) / 2 ^ (q % 32) % 4294967296:=by rw [e2,e3,hd1,hd2,vO (by omega),down_or hbx (by omega) (by omega)]
      have hin:=zJ1 (r:=q % 32) (e:=(zs1.getD i 0 ||| zs1.getD (i + 1) 0 * 2 ^ (32 - q % 32) % 4294967296)) hil (by omega) h.lt hzd hzv hev
      exact ⟨LR,by omega,zs.set i ((zs1.getD i 0 ||| zs1.getD (i + 1) 0 * 2 ^ (32 - q % 32) % 4294967296)),by rw [hz1,List.set_set] at Ow; rw [hz1]; exact Ow,by simp [hzl],aZ hzlt (by rw [hev]; exact Nat.mod_lt _ (by omega)),hin.1,hin.2⟩
      omega
   ·refine gF (gP (zH (zC (zA rfl rfl (zX rfl (bo func283) rfl rfl ?_)))))
    refine (eK (xs:=zs) ⟨oW Ow (fun k hk c=>Om k hk c) (by omega),hzlt⟩ (by omega) (fun k hk=>hM k (.inr hk))).mono ?_
    rintro v59 w6 ⟨hB59,hf59⟩
    have hS59:=LL.size
    obtain ⟨LL,h⟩:=ub2 hB59 LL h
    replace hf59:=hf59.less hS59
    refine zB rfl rfl (zF (yX ?_))
    refine lv1 ⟨rfl,trivial⟩ ?_
    subst hFz
    have hd0:val (xs.drop (q / 32 + i))=0:=by rw [List.drop_of_length_le (by omega)]; rfl
    rw [hd0,Nat.zero_div,Nat.mul_zero,Nat.add_zero,zQ1 h.lt,List.take_of_length_le (by omega)] at hzv
    rw [hzv] at hf59
    exact ⟨LL.b,hf59⟩
theorem len32_c {x:Nat} (hx:x < 4294967296) (hM:OkM M w) :
    CallsV prog 235 [.int .u32 (x:Int)] w fun r w'=>Bel w.heap.size w w'∧r = .int .i64 ((xU x:Nat):Int):=by
 refine ci M func235 ntmps235 fun Fz hFz hF LL=>?_
 refine zH (zC (zB rfl rfl (zF (zH (zH (zC (zA rfl rfl (dJ rfl rfl rfl (zF ?_)))))))))
 refine yI rfl (fun hc0=>?_) (fun hc0=>?_)
 ·refine zH (zC (zA rfl rfl (jH rfl rfl rfl (by simp only [IntKind.bits]; omega) ?_)))
  rw [show (2 ^ Int.toNat 16:Nat)=65536 from rfl]
  refine zB rfl rfl (zF (zC (zB rfl rfl (zF (zH (zH (zC (zA rfl rfl (dJ rfl rfl rfl (zF ?_))))))))))
  refine yI rfl (fun hc1=>?_) (fun hc1=>?_)
  ·refine zH (zC (zA rfl rfl (jH rfl rfl rfl (by simp only [IntKind.bits]; omega) ?_)))
   rw [show (2 ^ Int.toNat 8:Nat)=256 from rfl]
   refine zB rfl rfl (zF (zC (zA rfl rfl (xK rfl rfl rfl (by omega) (zB rfl rfl (zF (zH (zC (zA rfl rfl (zA rfl rfl (oX rfl yu155 yu5 rfl (by omega) (mF rfl underlying9 rfl (by decide +kernel) rfl (by omega) (fun hbw=>?_)))))))))))))
   refine lY rfl yu5 yu3 rfl (by omega) (xK rfl rfl rfl (by omega) (zB rfl rfl (zF (yX ?_))))
   refine lv1 ⟨rfl,trivial⟩ ?_
   subst hFz
   have e1:=iI (x:=x) (k:=16) (by omega)
   rw [show (2:Nat) ^ 16=65536 from rfl] at e1
   have e2:=iI (x:=x / 65536) (k:=8) (by omega)
   rw [show (2:Nat) ^ 8=256 from rfl] at e2
   exact ⟨LL.b,by congr 1; omega⟩
  ·refine xH (zH (zC (zA rfl rfl (zA rfl rfl (oX rfl yu155 yu5 rfl (by omega) (mF rfl underlying9 rfl (by decide +kernel) rfl (by omega) (fun hbw=>?_)))))))
   refine lY rfl yu5 yu3 rfl (by omega) (xK rfl rfl rfl (by omega) (zB rfl rfl (zF (yX ?_))))
   refine lv1 ⟨rfl,trivial⟩ ?_
   subst hFz
   have e1:=iI (x:=x) (k:=16) (by omega)
   rw [show (2:Nat) ^ 16=65536 from rfl] at e1
   exact ⟨LL.b,by congr 1; omega⟩
 ·refine xH (zH (zH (zC (zA rfl rfl (dJ rfl rfl rfl (zF ?_))))))
  refine yI rfl (fun hc2=>?_) (fun hc2=>?_)
  ·refine zH (zC (zA rfl rfl (jH rfl rfl rfl (by simp only [IntKind.bits]; omega) ?_)))
   rw [show (2 ^ Int.toNat 8:Nat)=256 from rfl]
   refine zB rfl rfl (zF (zC (zA rfl rfl (xK rfl rfl rfl (by omega) (zB rfl rfl (zF (zH (zC (zA rfl rfl (zA rfl rfl (oX rfl yu155 yu5 rfl (by omega) (mF rfl underlying9 rfl (by decide +kernel) rfl (by omega) (fun hbw=>?_)))))))))))))
   refine lY rfl yu5 yu3 rfl (by omega) (xK rfl rfl rfl (by omega) (zB rfl rfl (zF (yX ?_))))
   refine lv1 ⟨rfl,trivial⟩ ?_
   subst hFz
   have e2:=iI (x:=x) (k:=8) (by omega)
   rw [show (2:Nat) ^ 8=256 from rfl] at e2
   exact ⟨LL.b,by congr 1; omega⟩
  ·refine xH (zH (zC (zA rfl rfl (zA rfl rfl (oX rfl yu155 yu5 rfl (by omega) (mF rfl underlying9 rfl (by decide +kernel) rfl (by omega) (fun hbw=>?_)))))))
   refine lY rfl yu5 yu3 rfl (by omega) (xK rfl rfl rfl (by omega) (zB rfl rfl (zF (yX ?_))))
   refine lv1 ⟨rfl,trivial⟩ ?_
   subst hFz
   exact ⟨LL.b,by congr 1; omega⟩
theorem ext387:ExtF prog 387 add64Entry:=⟨_,func387,by kernel_rfl,by kernel_rfl,by kernel_rfl,by kernel_rfl⟩
def encB (p:Nat × Nat):List Value:=[.int .i64 (p.1:Int),.int .u32 (p.2:Int)]
theorem back1_c {M:Nat→Prop} {w0:World} {b:Nat} {v:Value} {xs:List Nat} (B1:Blk w0 b 25 [v]) (n1:¬ M b) (h1:IsNat M w0 v xs) (hl1:xs.length≤1099511627776) (hM:OkM M w0) :
    IterC prog 385 [.pointer (some ⟨b,0,none⟩)] M NoT w0 ((List.range xs.length).map (fun j=>(xs.length - 1 - j,xs.getD (xs.length - 1 - j) 0))) encB (fun _=>True):=by
 intro n l w J X hn0 hn hdr hJ hkeep hJd hXd hy
 have B1':=B1
 have h1':=h1
 have hM':=hM
 replace B1:=(hkeep _ _ hJ).blk B1 n1
 replace h1:=(hkeep _ _ hJ).nat h1
 replace hM:=(hkeep _ _ hJ).okM hM
 obtain ⟨Fz,hFz⟩:∃ Fz:Nat→Prop,Fz=fun _=>False:=⟨_,rfl⟩
 have hFa:∀ w,FOk Fz w:=by subst hFz; exact fun _ _ h=>h.elim
 have hF:=hFa w
 refine gM func385 rfl ntmps385 rfl ?_
 refine zH (zC (zT rfl xD rfl B1 rfl ?_))
 refine jB rfl yu25 rfl ?_
 refine jR rfl rfl rfl (by omega) (zB rfl rfl (zF (yV ?_)))
 refine uO (σ:=Nat) [(0,_),(1,_)] (fun s=>[(3,.int .i64 ((xs.length:Int) - 1 - ((s:Nat):Int)))]) (fun s w1=>J ((List.range s).map (fun j=>(xs.length - 1 - j,xs.getD (xs.length - 1 - j) 0))) w1∧n≤w1.heap.size∧s≤xs.length) (fun s=>xs.length - s) (0) (yJ rfl (by show Value.int .i64 _=Value.int .i64 _; congr 1; omega) (zD rfl (zD rfl yZ))) ?_ (fun s w1 hJ=>?_)
 · exact ⟨hJ,hn,by omega⟩
 ·obtain ⟨hJ1,hn1,hs⟩:=hJ
  have hk:=hkeep _ _ hJ1
  replace B1:=hk.blk B1' n1
  replace h1:=hk.nat h1'
  have hF:=hFa w1
  have hBJ:=Bel.refl w1.heap.size w1
  refine zH (zH (zC (zA rfl rfl (dJ rfl rfl rfl (zF ?_)))))
  refine yI rfl (fun hc0=>?_) (fun hc0=>?_)
  ·have hs2:s < xs.length:=by omega
   have hb1:=h1.lim (xs.length - 1 - s)
   have hev:encB (xs.length - 1 - s,xs.getD (xs.length - 1 - s) 0)=[.int .i64 ((xs.length:Int) - 1 - (s:Int)),lw (xs.getD (xs.length - 1 - s) 0)]:=by unfold encB lw; congr 2; dsimp only; omega
   refine xH (zH (yV (zH (zC (zA rfl rfl (zA rfl rfl (zT rfl xD rfl B1 rfl (zA rfl rfl (uW (xs.length - 1 - s) rfl yu25 xF rfl rfl (by assumption) (by omega) (by omega) (fun b15 o15 hc15 hb15=>?_))))))))))
   refine xC rfl jF rfl hc15 (cM rfl rfl rfl ?_)
   rw [← hev]
   refine (hy _ _ _ _ ((zS4 _ hs2).choose_spec) (hJd _ _ _ hJ1 (Drift.of_below hBJ hn1)) (Nat.le_trans hn1 hBJ.size)).mono ?_
   rintro v17 w2 ⟨hn2,_,hyn⟩
   refine mD rfl rfl (zF ?_)
   refine dD rfl (fun hc1=>?_) (fun hc1=>?_)
   ·refine yX ?_
    refine gU ⟨[],trivial,?_⟩
    dsimp only [xN]
    right
    rcases hyn with ⟨e,_⟩ | ⟨_,h⟩
    · subst e; simp at hc1
    · exact h
   ·refine xH (zC (zA rfl rfl (jR rfl rfl rfl (by omega) (zB rfl rfl (zF ?_)))))
    refine ⟨rfl,s + 1,(yJ rfl (by show Value.int .i64 _=Value.int .i64 _; congr 1; omega) (zD rfl (zD rfl yZ))),?_,?_⟩
    exact ⟨by
      rw [pT]
      rcases hyn with ⟨_,h⟩ | ⟨e,_⟩
      · exact h
      · subst e; simp at hc1,hn2,by omega⟩
    omega
  ·refine gF (gP ?_)
   refine gU ⟨[],trivial,?_⟩
   dsimp only [xN]
   left
   obtain rfl:s=xs.length:=by omega
   exact ⟨hJ1,trivial⟩
theorem back_c {v:Value} {xs:List Nat} (h1:IsNat M w v xs) (hl1:xs.length≤1099511627776) (hM:OkM M w) :
    CallsV prog 380 [v] w fun r w'=>Bel w.heap.size w w'∧∃ cap,r = .func (.func 385) #[] cap∧IterC prog 385 cap.toList M NoT w' ((List.range xs.length).map (fun j=>(xs.length - 1 - j,xs.getD (xs.length - 1 - j) 0))) encB (fun _=>True):=by
 refine ci M func380 ntmps380 fun Fz hFz hF LL=>?_
 refine zH (zC (fW rfl rfl (fun w1 b1 N1=>?_)))
 obtain ⟨_,nF1,nM1,Lw1,B1⟩:=nz hF hM N1
 obtain ⟨LL,hM,h1⟩:=up3 Lw1 LL hM h1
 rw [h1.one] at B1
 refine zB rfl rfl (zF (zH (zC (dI rfl rfl (zB rfl rfl (zF (yX ?_)))))))
 refine lv1 ⟨rfl,trivial⟩ ?_
 subst hFz
 refine ⟨LL.b,_,rfl,?_⟩
 exact back1_c B1 (fun c=>nM1 c) (h1.less fun k c=>nW c) hl1 (fun k c=>hM k (nW c))
theorem short_c {v:Value} {xs:List Nat} {n:Nat} (h1:IsNat M w v xs) (hl1:xs.length≤1000000000) (hn:n < 4294967296) (hM:OkM M w) :
    CallsV prog 374 [v,.int .u32 (n:Int)] w fun r w'=>Bel w.heap.size w w'∧∃ q,r = .tuple #[q,.int .u32 ((if n=0 then 0 else val xs % n:Nat):Int),.int .i64 (if n=0 then 30 else 0)]∧Fresh 155 w w' q (limbs (val xs / n)):=by
 have Mk:Marks M w.heap.size [] w:=qM
 refine ci M func374 ntmps374 fun Fz hFz hF LL=>?_
 refine zH (zC (fW rfl rfl (fun w1 b3 N3=>?_)))
 obtain ⟨_,nF3,nM3,Lw1,B3⟩:=nz hF hM N3
 obtain ⟨LL,hM,hF,h1,Mk⟩:=up5 Lw1 LL hM hF h1 Mk
 refine cU rfl sz25 (fun w2 b4 N4=>?_)
 obtain ⟨hBw2,nF4,nM4,Lw2,B4⟩:=nz hF hM N4
 obtain ⟨B3,ne3_4⟩:=bn B3 N4
 obtain ⟨LL,hM,hF,h1,Mk⟩:=up5 Lw2 LL hM hF h1 Mk
 refine zB rfl rfl (zB rfl rfl (zF (zH (zH (zC (zT rfl jF rfl B3 rfl (eW rfl rfl rfl (zF ?_))))))))
 refine yI rfl (fun hc0=>?_) (fun hc0=>?_)
 ·have hn0:n=0:=by omega
  refine zH (zC (jP rfl rfl sz25 B4 (by first | rfl | exact gY (by assumption) | assumption | exact jY (by assumption)) (fun w3 Cw3 B4=>?_)))
  obtain ⟨LL,Mk⟩:=up2 (lc LL Cw3 yA nF4) LL Mk
  refine zB rfl rfl (zB rfl rfl (zF (yX ?_)))
  refine gA Mk (fun wz hz=>⟨[_,_,_],⟨⟨_,rfl,bI xD (B4.drift hz (fun c=>c)) rfl⟩,rfl,rfl,trivial⟩,?_⟩)
  dsimp only [xN]
  subst hFz; subst hn0
  exact ⟨SL.Bel.drift (LL.b) hz (Nat.le_refl _),.slice none 0 0,by simp,by rw [Nat.div_zero,yB]; exact Fresh.nil⟩
 ·have hn0:0 < n:=by omega
  refine xH (zH (zC (zA rfl rfl ?_)))
  refine jB rfl yu25 rfl ?_
  refine mE (xs.length) (xs.length) rfl yu25 xF rfl rfl rfl (by omega) (by omega) (by omega) (by omega) (by omega) (fun w4 b14 N14=>?_)
  obtain ⟨hBw4,nF14,nM14,Lw4,B14⟩:=nz hF hM N14
  obtain ⟨B3,ne3_14⟩:=bn B3 N14
  obtain ⟨B4,ne4_14⟩:=bn B4 N14
  obtain ⟨LL,hM,hF,h1,Mk⟩:=up5 Lw4 LL hM hF h1 Mk
  replace B14:Blk w4 b14 155 ((List.replicate xs.length 0).map lw):=by simpa [lw] using B14
  refine jP rfl rfl sz25 B4 (by first | rfl | exact gY (by assumption) | assumption | exact jY (by assumption)) (fun w5 Cw5 B4=>?_)
  obtain ⟨LL,hM,hF,h1,Mk⟩:=up5 (lc LL Cw5 (.inr yA) nF4) LL hM hF h1 Mk
  replace B3:=B3.other Cw5 ne3_4
  replace B14:=B14.other Cw5 ne4_14.symm
  refine zF (zH (zC (cU rfl tB (fun w6 b7 N7=>?_))))
  obtain ⟨hBw6,nF7,nM7,Lw6,B7⟩:=nz hF hM N7
  obtain ⟨B3,ne3_7⟩:=bn B3 N7
  obtain ⟨B4,ne4_7⟩:=bn B4 N7
  have lt14_7:=B14.lt
  replace B14:=B14.below hBw6
  have ne7_14:b7 ≠ b14:=by have:=N7.at_; omega
  obtain ⟨LL,hM,h1,Mk⟩:=up4 Lw6 LL hM h1 Mk
  refine jP rfl rfl tB B7 (by first | rfl | exact gY (by assumption) | assumption | exact jY (by assumption)) (fun w7 Cw7 B7=>?_)
  obtain ⟨LL,hM,h1,Mk⟩:=up4 (lc LL Cw7 yA nF7) LL hM h1 Mk
  replace B3:=B3.other Cw7 ne3_7
  replace B4:=B4.other Cw7 ne4_7
  replace B14:=B14.other Cw7 ne7_14.symm
  refine zF (zH (zH (zC (zA rfl rfl (zX rfl (bo func380) rfl rfl ?_)))))
  refine (back_c (by assumption) (by omega) hM).mono ?_
  rintro v16 w8 ⟨hB16,cap16,rfl,hit16⟩
  obtain ⟨LL,hM,h1,Mk,B3,B4,B14,B7⟩:=ub8 hB16 LL hM h1 Mk B3 B4 B14 B7
  refine zF (yV ?_)
  have hMS0:=hM
  have hszLL:=LL.size
  have Mold0:=Mk.old (Nat.le_refl _)
  refine zK5 (M:=(Ins b7 (Ins b14 (Ins b4 (Ins b3 M))))) (T:=NoT) ((List.range xs.length).map (fun j=>(xs.length - 1 - j,xs.getD (xs.length - 1 - j) 0))) (encB) rfl (bo func385) (hit16) noT (trivial) (fun _=>rfl) rfl [(3,_),(4,_),(7,_)] (zD rfl (zD rfl (zD rfl yZ))) (fun pre w9=>Le Fz (Ins b7 (Ins b14 (Ins b4 (Ins b3 M)))) w8 (Ins b7 (Ins b14 (Ins b4 (Ins b3 M)))) w9∧Blk w9 b3 155 [.int .u32 (n:Int)]∧Blk w9 b4 25 [.slice (some ⟨b14,0,none⟩) xs.length xs.length]∧∃ (o:Nat) (zs:List Nat),Blk w9 b7 196 [.int .u64 (o:Int)]∧Blk w9 b14 155 (zs.map lw)∧zs.length=xs.length∧(∀ z ∈ zs,z < 4294967296)∧o=val (xs.drop (xs.length - pre.length)) % n∧val zs=4294967296 ^ (xs.length - pre.length) * (val (xs.drop (xs.length - pre.length)) / n)∧∀ j,j < xs.length - pre.length→zs.getD j 0=0) (fun _ _=>False) (fun _=>False) (⟨Le.refl _ _ _,B3,B4,0,_,B7,B14,by simp,by intro z hz; have:=(List.mem_replicate.1 hz).2; omega,by simp [val],by simp [val,qF],fun j _=>by simp [List.getD_eq_getElem?_getD,List.getElem?_replicate]; split <;> rfl⟩) (fun pre w h=>h.1.keep) (fun pre w1 w2 hJ hd=>(by obtain ⟨h1,h2,h3,o,zs,h4,h5,h6⟩:=hJ; exact ⟨h1.drift0 hd (Nat.le_refl _),h2.drift hd (fun c=>c),h3.drift hd (fun c=>c),o,zs,h4.drift hd (fun c=>c),h5.drift hd (fun c=>c),h6⟩)) (fun _ _ _ h _=>h) (fun _ _ h _=>h) (fun _ _ _ _=>trivial) ?_ ?_ (fun _ _ h _=>h.elim) (fun _ h _=>h.elim)
  ·intro pre x post l b w9 ρ δ hx hJ hnl hnb hl hb hbc
   obtain ⟨LS0,B3,B4,o,zs,B7,B14,hzl,hzlt,ho,hzv,hz0⟩:=hJ
   obtain ⟨h1,Mk⟩:=up2 LS0 h1 Mk
   have RL:Rec (Ins b7 (Ins b14 (Ins b4 (Ins b3 M)))) w9 l (.loop ρ):=⟨hl,(fZ hMS0 hnl)⟩
   have RB:Rec (Ins b7 (Ins b14 (Ins b4 (Ins b3 M)))) w9 b δ:=⟨hb,(fZ hMS0 hnb)⟩
   have hs1:w9.heap.size≤w9.heap.size:=Nat.le_refl _
   obtain ⟨hk,hxe⟩:=tK hx
   have hx1:x.1=xs.length - 1 - pre.length:=by rw [hxe]
   have hx2:x.2=xs.getD x.1 0:=by rw [hx1,hxe]
   have hxb:x.2 < 4294967296:=by rw [hx2]; exact h1.lim _
   have hon:o < n:=by rw [ho]; exact Nat.mod_lt _ hn0
   have hov:(o * 2 ^ (32:Int).toNat % 18446744073709551616 ||| x.2)=o * 4294967296 + x.2:=by
     have e:(2:Nat) ^ (32:Int).toNat=4294967296:=by decide
     rw [e,Nat.mod_eq_of_lt (by omega),yH3 _ _ (by omega)]
   rw [show xs.length - pre.length=x.1 + 1 by omega] at ho hzv hz0
   have hst:=short_step hn0 hxb ho hzv
   rw [show x.2 + 4294967296 * val (xs.drop (x.1 + 1))=val (xs.drop x.1) by rw [kU (show x.1 < xs.length by omega),hx2]] at hst
   refine zH (zC (zB rfl rfl (zF (zC (zB rfl rfl (zF ?_))))))
   refine ⟨RL.at_,RB.at_,rfl,fun w10 ρ' δ' hdr hl' hb' hbc'=>?_⟩
   replace LS0:=LS0.drift0 hdr (Nat.le_refl _)
   replace hs1:=Nat.le_trans hs1 hdr.size
   replace RL:Rec (Ins b7 (Ins b14 (Ins b4 (Ins b3 M)))) w10 l (.loop ρ'):=⟨hl',RL.not⟩
   replace RB:Rec (Ins b7 (Ins b14 (Ins b4 (Ins b3 M)))) w10 b δ':=⟨hb',RB.not⟩
   replace B3:=B3.drift hdr (fun c=>c)
   replace B4:=B4.drift hdr (fun c=>c)
   replace B7:=B7.drift hdr (fun c=>c)
   replace B14:=B14.drift hdr (fun c=>c)
   refine yV (zH (zC (zT rfl mU rfl B7 rfl (cO (m:=18446744073709551616) rfl rfl rfl (by simp only [IntKind.bits]; omega) rfl (.inl rfl) (zA rfl rfl (jX rfl yu155 yu196 rfl (by omega) (fT rfl rfl rfl (by simp only [IntKind.bits]; omega) (by simp only [IntKind.bits]; omega) (.inl rfl) (jP rfl rfl tB B7 (by first | rfl | exact gY (by assumption) | assumption | exact jY (by assumption)) (fun w11 Cw11 B7=>?_)))))))))
   have Lw11:=lc LS0 Cw11 yA nF7
   obtain ⟨LS0,RL,RB⟩:=up3 Lw11 LS0 RL RB
   replace hs1:=Nat.le_trans hs1 Lw11.size
   replace B3:=B3.other Cw11 ne3_7
   replace B4:=B4.other Cw11 ne4_7
   replace B14:=B14.other Cw11 ne7_14.symm
   replace B7:Blk w11 b7 196 [.int .u64 ((o * 4294967296 + x.2:Nat):Int)]:=by rw [← hov]; exact B7
   refine zF ?_
   refine lJ (R:=Rs (·=b14)) (R':=Rb) (st:=some (12,(fun w=>Blk w b14 155 (zs.map lw)),(fun w=>Blk w b14 155 ((zs.set x.1 ((o * 4294967296 + x.2) / n % 4294967296)).map lw)))) mixed 13 [4,7,34] (by decide +kernel) pR zX8 (wL _) (fun _ _ _ h=>by cases h; exact ⟨by decide,B14,fun _ _ h r=>h.below r,fun _ _ h r=>h.below r,_,rfl⟩) ?_
   apply xA rfl
   ·intro wq hR hst
    refine yL rfl rfl (zI ?_)
    obtain ⟨LS0,RL,RB⟩:=up3 (lqc LS0 hR (.inr yA) nF14) LS0 RL RB
    replace B4:=B4.rs hR ne4_14
    exact zT rfl xD rfl B4 rfl (on0 rfl)
   apply xA rfl
   ·intro wq hR hst
    refine yL rfl rfl (zI ?_)
    obtain ⟨LS0,RL,RB⟩:=up3 (lqc LS0 hR (.inr yA) nF14) LS0 RL RB
    exact zA rfl rfl (on0 rfl)
   apply xA rfl
   ·intro wq hR hst
    refine yL rfl rfl (zI ?_)
    obtain ⟨LS0,RL,RB⟩:=up3 (lqc LS0 hR (.inr yA) nF14) LS0 RL RB
    replace B7:=B7.rs hR ne7_14
    exact zT rfl mU rfl B7 rfl (on0 rfl)
   apply xA rfl
   ·intro wq hR hst
    refine yL rfl rfl (zI ?_)
    obtain ⟨LS0,RL,RB⟩:=up3 (lqc LS0 hR (.inr yA) nF14) LS0 RL RB
    replace B3:=B3.rs hR ne3_14
    exact zT rfl jF rfl B3 rfl (on0 rfl)
   apply xA rfl
   ·intro wq hR hst
    refine zN rfl (zI ?_)
    obtain ⟨LS0,RL,RB⟩:=up3 (lqc LS0 hR (.inr yA) nF14) LS0 RL RB
    exact jX rfl yu155 yu196 rfl (by omega) (on0 rfl)
   apply xA rfl
   ·intro wq hR hst
    refine zN rfl (zN rfl (zI ?_))
    obtain ⟨LS0,RL,RB⟩:=up3 (lqc LS0 hR (.inr yA) nF14) LS0 RL RB
    exact rF rfl rfl rfl (by omega) (by omega) (on0 rfl)
   apply xA rfl
   ·intro wq hR hst
    refine zN rfl (zI ?_)
    obtain ⟨LS0,RL,RB⟩:=up3 (lqc LS0 hR (.inr yA) nF14) LS0 RL RB
    exact qC rfl yu196 yu155 rfl (on0 rfl)
   apply xA rfl
   ·intro wq hR hst
    refine yL rfl rfl (zI ?_)
    obtain ⟨LS0,RL,RB⟩:=up3 (lqc LS0 hR (.inr yA) nF14) LS0 RL RB
    replace B7:=B7.rs hR ne7_14
    exact zT rfl mU rfl B7 rfl (on0 rfl)
   apply xA rfl
   ·intro wq hR hst
    refine yL rfl rfl (zI ?_)
    obtain ⟨LS0,RL,RB⟩:=up3 (lqc LS0 hR (.inr yA) nF14) LS0 RL RB
    replace B3:=B3.rs hR ne3_14
    exact zT rfl jF rfl B3 rfl (on0 rfl)
   apply xA rfl
   ·intro wq hR hst
    refine zN rfl (zI ?_)
    obtain ⟨LS0,RL,RB⟩:=up3 (lqc LS0 hR (.inr yA) nF14) LS0 RL RB
    exact jX rfl yu155 yu196 rfl (by omega) (on0 rfl)
   apply xA rfl
   ·intro wq hR hst
    refine zN rfl (zN rfl (zI ?_))
    obtain ⟨LS0,RL,RB⟩:=up3 (lqc LS0 hR (.inr yA) nF14) LS0 RL RB
    exact ops_remu rfl rfl rfl (by omega) (on0 rfl)
   apply xA rfl
   ·intro wq hR hst
    refine zN rfl (zN rfl (zI ?_))
    obtain ⟨LS0,RL,RB⟩:=up3 (lqc LS0 hR (.inr yA) nF14) LS0 RL RB
    exact aQ (x.1) rfl yu25 xF rfl rfl rfl (by omega) (on0 rfl)
   refine yC2 rfl (fun wq hR hp=>?_) ?_
   ·refine zN rfl (zN rfl (zI ?_))
    obtain ⟨LS0,RL,RB⟩:=up3 (lqc LS0 hR (.inr yA) nF14) LS0 RL RB
    replace B14:=hp
    exact bD (i:=x.1) rfl rfl xF B14 rfl (by simp; omega) (fun wz C14 BN=>(zF ⟨rfl,zS3 C14,by rw [List.map_set]; exact BN⟩))
   refine aN (fun wq9 hR9 hpost9=>?_)
   refine yL rfl rfl (yL rfl rfl (zN rfl (zI ?_)))
   simp only [nB,nA,mZ,mY]
   have Lq:=lqc LS0 hR9 (.inr yA) nF14
   obtain ⟨LS0,RL,RB⟩:=up3 Lq LS0 RL RB
   replace hs1:=Nat.le_trans hs1 Lq.size
   replace B3:=B3.rs hR9 ne3_14
   replace B4:=B4.rs hR9 ne4_14
   replace B7:=B7.rs hR9 ne7_14
   have B14:=hpost9 _ _ _ rfl
   refine jP rfl rfl tB B7 (by first | rfl | exact gY (by assumption) | assumption | exact jY (by assumption)) (fun w12 Cw12 B7=>?_)
   have Lw12:=lc LS0 Cw12 yA nF7
   obtain ⟨LS0,RL,RB⟩:=up3 Lw12 LS0 RL RB
   replace hs1:=Nat.le_trans hs1 Lw12.size
   replace B3:=B3.other Cw12 ne3_7
   replace B4:=B4.other Cw12 ne4_7
   replace B14:=B14.other Cw12 ne7_14.symm
   refine zF ?_
   refine ⟨RL.at_,RB.at_,hs1,fun _ c=>c.elim,?_⟩
   have hvs:=bQ (zs:=zs) (j:=x.1) ((o * 4294967296 + x.2) / n % 4294967296) (by omega)
   rw [hz0 x.1 (by omega),Nat.mod_eq_of_lt hst.2.2] at hvs
   exact ⟨LS0,B3,B4,_,zs.set x.1 ((o * 4294967296 + x.2) / n % 4294967296),B7,B14,by simp [hzl],aZ hzlt (Nat.mod_lt _ (by omega)),by
     rw [List.length_append,List.length_singleton,show xs.length - (pre.length + 1)=x.1 by omega]; exact hst.2.1,by
     rw [List.length_append,List.length_singleton,show xs.length - (pre.length + 1)=x.1 by omega,← hst.1,Nat.mod_eq_of_lt hst.2.2]; omega,fun j hj=>by
     rw [List.length_append,List.length_singleton] at hj
     rw [gN (by omega)]; exact hz0 j (by omega)⟩
  ·intro w13 hJ hZ hDd
   obtain ⟨LS0,B3,B4,o,zs,B7,B14,hzl,hzlt,ho,hzv,hz0⟩:=hJ
   obtain ⟨LL,h1,Mk⟩:=up3 LS0 LL h1 Mk
   have hdd:=hDd _ rfl rfl
   have RD:Rec (Ins b7 (Ins b14 (Ins b4 (Ins b3 M)))) w13 w8.heap.size (.deferred (some [])):=⟨hdd,(fZ hMS0 (Nat.le_refl _))⟩
   replace Mk:=Mk.cons hszLL RD Mold0
   simp only [List.length_map,List.length_range,Nat.sub_self,List.drop_zero,Nat.pow_zero,Nat.one_mul] at ho hzv
   have hzb:val zs=val xs / n:=hzv
   refine zH ?_
   have hlt4:=B4.lt
   have hszd:=LL.size
   refine lJ (R:=Rs (·=b4)) (R':=Rb) (st:=some (4,(fun w=>Blk w b4 25 [.slice (some ⟨b14,0,none⟩) xs.length xs.length]),(fun w=>∃ v,Blk w b4 25 [v]∧Fresh 155 w13 w v (limbs (val xs / n))))) mixed 5 [4,5,6,39] (by decide +kernel) pR zX8 (wL _) (fun _ _ _ h=>by cases h; exact ⟨by decide,B4,fun _ _ h r=>h.below r,fun _ _ ⟨v,h1,h2⟩ r=>⟨v,h1.below r,h2.below r⟩,_,rfl⟩) ?_
   apply xA rfl
   ·intro wq hR hst
    refine yL rfl rfl (zI ?_)
    obtain ⟨LS0,Mk⟩:=up2 (lqc LS0 hR (.inr (.inr yA)) nF4) LS0 Mk
    replace B4:=(hst.2 (by decide +kernel))
    exact zT rfl xD rfl B4 rfl (on0 rfl)
   refine zP9 rfl (fun v w=>Fresh 155 w13 w v (limbs (val xs / n))) (fun v a b h r=>h.rs hlt4 r) (fun wq hR hst=>?_) ?_
   ·refine zN rfl (zI ?_)
    obtain ⟨LS0,Mk⟩:=up2 (lqc LS0 hR (.inr (.inr yA)) nF4) LS0 Mk
    replace B14:=B14.rs hR ne4_14.symm
    refine zX rfl (bo func283) rfl rfl ?_
    have hq:IsNat (fun _=>False) wq (.slice (some ⟨b14,0,none⟩) xs.length xs.length) zs:=by have:=yD4 (M:=fun _=>False) B14 (fun c=>c) rfl (by omega) hzlt; rw [hzl] at this; exact this
    refine (eK (xs:=zs) hq (by omega) (fun _ c=>c.elim)).mono ?_
    rintro v37 w14 ⟨hB37,hf37⟩
    obtain ⟨LS0,Mk⟩:=ub2 hB37 LS0 Mk
    rw [hzb] at hf37
    exact on1 hB37 rfl (hf37.less hR.2.2.2.1)
   apply xA rfl
   ·intro wq hR hst
    refine yL rfl rfl (zI ?_)
    obtain ⟨LS0,Mk⟩:=up2 (lqc LS0 hR (.inr (.inr yA)) nF4) LS0 Mk
    replace B7:=B7.rs hR ne4_7.symm
    exact zT rfl mU rfl B7 rfl (on0 rfl)
   apply xA rfl
   ·intro wq hR hst
    refine zN rfl (zI ?_)
    obtain ⟨LS0,Mk⟩:=up2 (lqc LS0 hR (.inr (.inr yA)) nF4) LS0 Mk
    exact qC rfl yu196 yu155 rfl (on0 rfl)
   refine yC2 rfl (fun wq hR hp=>?_) ?_
   ·refine yL rfl rfl (tX rfl (fun v37 hn37=>?_))
    refine zI ?_
    obtain ⟨LS0,Mk⟩:=up2 (lqc LS0 hR (.inr (.inr yA)) nF4) LS0 Mk
    replace B4:=hp
    have ho37:=hn37.own
    refine jP rfl rfl sz25 B4 (by first | rfl | exact gY (by assumption) | assumption | exact jY (by assumption)) (fun w15 Cw15 B4=>?_)
    obtain ⟨LS0,Mk⟩:=up2 (lc LS0 Cw15 (.inr (.inr yA)) nF4) LS0 Mk
    exact zF ⟨rfl,zS3 Cw15,_,B4,hn37.rs hlt4 (zS3 Cw15)⟩
   refine aN (fun wq10 hR10 hpost10=>?_)
   refine yL rfl rfl (yL rfl rfl (yL rfl rfl (zN rfl (zI ?_))))
   simp only [nB,nA,mZ,mY]
   obtain ⟨LL,LS0,Mk⟩:=up3 (lqc LL hR10 (.inr (.inr yA)) nF4) LL LS0 Mk
   obtain ⟨q37,B4,hf37⟩:=hpost10 _ _ _ rfl
   refine zB rfl rfl (zB rfl rfl (zF (yX ?_)))
   refine gA Mk (fun wz hz=>⟨[_,_,_],⟨⟨_,rfl,bI xD (B4.drift hz (fun c=>c)) rfl⟩,rfl,rfl,trivial⟩,?_⟩)
   dsimp only [xN]
   have e1:o % 4294967296=val xs % n:=by rw [← ho]; exact Nat.mod_eq_of_lt (by have:=Nat.mod_lt (val xs) hn0; omega)
   have hsz:=LL.size
   subst hFz
   exact ⟨SL.Bel.drift (LL.b) hz (Nat.le_refl _),_,by rw [if_neg (by omega),if_neg (by omega),e1],(hf37.less (by assumption)).drift hz⟩
theorem mul64_c {a b:Nat} (ha:a < 4294967296) (hb:b < 4294967296) (hM:OkM M w) :
    CallsV prog 386 [.int .u64 (a:Int),.int .u64 (b:Int)] w fun r w'=>Bel w.heap.size w w'∧r = .tuple #[.int .u64 ((0:Nat):Int),.int .u64 ((a * b:Nat):Int)]:=by
 have hab:a * b≤4294967295 * 4294967295:=Nat.mul_le_mul (by omega) (by omega)
 have e32:(2:Nat) ^ (32:Int).toNat=4294967296:=by decide
 refine ci M func386 ntmps386 fun Fz hFz hF LL=>?_
 refine zH (zC (zB rfl rfl (zB rfl rfl (zF (zH (zC (zA rfl rfl (cT rfl rfl rfl (by simp only [IntKind.bits]; omega) (by simp only [IntKind.bits]; omega) (.inl rfl) (xY (d:=15) (u:=.int .u64 ((a:Nat):Int)) rfl (by show Value.int .u64 _=Value.int .u64 _; congr 2; rw [pG]; omega) (zB rfl rfl (zF (zH (zC (zA rfl rfl ?_))))))))))))))
 refine jH rfl rfl rfl (by simp only [IntKind.bits]; omega) (xY (d:=17) (u:=.int .u64 ((0:Nat):Int)) rfl (by show Value.int .u64 _=Value.int .u64 _; congr 2; rw [e32]; omega) (zB rfl rfl (zF (zH (zC (zA rfl rfl (cT rfl rfl rfl (by simp only [IntKind.bits]; omega) (by simp only [IntKind.bits]; omega) (.inl rfl) (xY (d:=19) (u:=.int .u64 ((b:Nat):Int)) rfl (by show Value.int .u64 _=Value.int .u64 _; congr 2; rw [pG]; omega) (zB rfl rfl (zF (zH (zC (zA rfl rfl (jH rfl rfl rfl (by simp only [IntKind.bits]; omega) ?_))))))))))))))
 refine xY (d:=21) (u:=.int .u64 ((0:Nat):Int)) rfl (by show Value.int .u64 _=Value.int .u64 _; congr 2; rw [e32]; omega) (zB rfl rfl (zF (zH (zC (zA rfl rfl (zA rfl rfl ?_))))))
 first | refine bF rfl rfl rfl (by omega) ?_ | refine cQ rfl rfl rfl ?_
 refine zB rfl rfl (zF (zH (zC (zA rfl rfl (zA rfl rfl ?_)))))
 first | refine bF rfl rfl rfl (by omega) ?_ | refine cQ rfl rfl rfl ?_
 refine zA rfl rfl (jH rfl rfl rfl (by simp only [IntKind.bits]; omega) ?_)
 first | refine kR rfl rfl rfl (by omega) ?_ | refine bG rfl rfl rfl ?_
 refine xY (d:=30) (u:=.int .u64 ((a * b / 4294967296:Nat):Int)) rfl (by show Value.int .u64 _=Value.int .u64 _; congr 2; rw [e32]; omega) (zB rfl rfl (zF (zH (zC (zA rfl rfl (cT rfl rfl rfl (by simp only [IntKind.bits]; omega) (by simp only [IntKind.bits]; omega) (.inl rfl) (xY (d:=32) (u:=.int .u64 ((a * b / 4294967296:Nat):Int)) rfl (by show Value.int .u64 _=Value.int .u64 _; congr 2; rw [pG]; omega) (zB rfl rfl (zF (zH (zC (zA rfl rfl (jH rfl rfl rfl (by simp only [IntKind.bits]; omega) (xY (d:=34) (u:=.int .u64 ((0:Nat):Int)) rfl (by show Value.int .u64 _=Value.int .u64 _; congr 2; rw [e32]; omega) ?_))))))))))))))
 refine zB rfl rfl (zF (zH (zC (zA rfl rfl (zA rfl rfl (zA rfl rfl ?_))))))
 first | refine bF rfl rfl rfl (by omega) ?_ | refine cQ rfl rfl rfl ?_
 first | refine kR rfl rfl rfl (by omega) ?_ | refine bG rfl rfl rfl ?_
 refine xY (d:=39) (u:=.int .u64 ((a * b / 4294967296:Nat):Int)) rfl (by show Value.int .u64 _=Value.int .u64 _; congr 2 <;> omega) (zB rfl rfl (zF (zH (zC (zA rfl rfl (zA rfl rfl ?_))))))
 first | refine bF rfl rfl rfl (by omega) ?_ | refine cQ rfl rfl rfl ?_
 refine zA rfl rfl ?_
 first | refine kR rfl rfl rfl (by omega) ?_ | refine bG rfl rfl rfl ?_
 refine zA rfl rfl (jH rfl rfl rfl (by simp only [IntKind.bits]; omega) ?_)
 first | refine kR rfl rfl rfl (by omega) ?_ | refine bG rfl rfl rfl ?_
 refine xY (d:=47) (u:=.int .u64 ((0:Nat):Int)) rfl (by show Value.int .u64 _=Value.int .u64 _; congr 2; rw [e32]; omega) (zB rfl rfl (zF (zH (zC (zA rfl rfl (zA rfl rfl ?_))))))
 first | refine bF rfl rfl rfl (by omega) ?_ | refine cQ rfl rfl rfl ?_
 refine zB rfl rfl (zF (yX ?_))
 refine gU ⟨[_,_],⟨rfl,rfl,trivial⟩,?_⟩
 dsimp only [xN]
 subst hFz
 exact ⟨LL.b,rfl⟩
theorem qguess_c {bd br cap p L:Nat} {vb:Value} {rs ys:List Nat} {ex:List Value} (hL:rs.length=L) (Bd:Blk w bd 355 [.slice (some ⟨br,0,none⟩) L cap,vb]) (BR:Blk w br 155 (rs.map lw ++ ex)) (hb:IsNat M w vb ys) (hr:∀ x ∈ rs,x < 4294967296) (hn:0 < ys.length) (ht:0 < ys.getD (ys.length - 1) 0) (hat:p + ys.length < rs.length) (hrl:rs.length≤1099511627776) (hM:OkM M w) :
    CallsV prog 382 [.pointer (some ⟨bd,0,none⟩),.int .i64 (p:Int)] w fun r w'=>Bel w.heap.size w w'∧r = .int .u64 ((min ((rs.getD (p + ys.length) 0 * 4294967296 + rs.getD (p + ys.length - 1) 0) / ys.getD (ys.length - 1) 0) 4294967295:Nat):Int):=by
 have hb1:=yK hr (p + ys.length)
 have hb2:=yK hr (p + ys.length - 1)
 have hb3:=hb.lim (ys.length - 1)
 have hyl:=hb.len
 have hov:(rs.getD (p + ys.length) 0 * 2 ^ (32:Int).toNat % 18446744073709551616 ||| rs.getD (p + ys.length - 1) 0)=rs.getD (p + ys.length) 0 * 4294967296 + rs.getD (p + ys.length - 1) 0:=by
   have e:(2:Nat) ^ (32:Int).toNat=4294967296:=by decide
   rw [e,Nat.mod_eq_of_lt (by omega),yH3 _ _ (by omega)]
 refine ci M func382 ntmps382 fun Fz hFz hF LL=>?_
 refine zH (zC (zB rfl rfl (zF (zH (zC (zA rfl rfl (yP rfl rfl (yH 1 rfl yu355 rfl rfl sz25 rfl rfl (zT rfl xD rfl Bd rfl ?_)))))))))
 refine jB rfl yu25 rfl ?_
 refine zB rfl rfl (zF (zH ?_))
 refine wd mixed 22 [0,5,22,33] (by decide +kernel) ?_
 apply zP
 ·intro wq hR hst
  refine yL rfl rfl (zI ?_)
  replace Bd:=Bd.below hR
  replace BR:=BR.below hR
  refine zA rfl rfl ?_
  exact on0 rfl
 apply zP
 ·intro wq hR hst
  refine zN rfl (zI ?_)
  replace Bd:=Bd.below hR
  replace BR:=BR.below hR
  refine yP rfl rfl ?_
  exact on0 rfl
 apply zP
 ·intro wq hR hst
  refine zN rfl (zI ?_)
  replace Bd:=Bd.below hR
  replace BR:=BR.below hR
  refine yH 0 rfl yu355 rfl rfl sz25 rfl rfl ?_
  exact on0 rfl
 apply zP
 ·intro wq hR hst
  refine zN rfl (zI ?_)
  replace Bd:=Bd.below hR
  replace BR:=BR.below hR
  refine zT rfl xD rfl Bd rfl ?_
  exact on0 rfl
 apply zP
 ·intro wq hR hst
  refine yL rfl rfl (zI ?_)
  replace Bd:=Bd.below hR
  replace BR:=BR.below hR
  refine zA rfl rfl ?_
  exact on0 rfl
 apply zP
 ·intro wq hR hst
  refine yL rfl rfl (zI ?_)
  replace Bd:=Bd.below hR
  replace BR:=BR.below hR
  refine zA rfl rfl ?_
  exact on0 rfl
 apply zP
 ·intro wq hR hst
  refine zN rfl (zN rfl (zI ?_))
  replace Bd:=Bd.below hR
  replace BR:=BR.below hR
  refine xK rfl rfl rfl (by omega) ?_
  exact on0 rfl
 apply zP
 ·intro wq hR hst
  refine zN rfl (zN rfl (zI ?_))
  replace Bd:=Bd.below hR
  replace BR:=BR.below hR
  refine aQ (p + ys.length) rfl yu25 xF rfl rfl (by omega) (by omega) ?_
  exact on0 rfl
 apply zP
 ·intro wq hR hst
  refine zN rfl (zI ?_)
  replace Bd:=Bd.below hR
  replace BR:=BR.below hR
  have hc19:=nG BR (j:=p + ys.length) (by omega)
  refine xC rfl jF rfl hc19 ?_
  exact on0 rfl
 apply zP
 ·intro wq hR hst
  refine zN rfl (zI ?_)
  replace Bd:=Bd.below hR
  replace BR:=BR.below hR
  refine jX rfl yu155 yu196 rfl (by omega) ?_
  exact on0 rfl
 apply zP
 ·intro wq hR hst
  refine zN rfl (zI ?_)
  replace Bd:=Bd.below hR
  replace BR:=BR.below hR
  refine cO (m:=18446744073709551616) rfl rfl rfl (by simp only [IntKind.bits]; omega) rfl (.inl rfl) ?_
  exact on0 rfl
 apply zP
 ·intro wq hR hst
  refine yL rfl rfl (zI ?_)
  replace Bd:=Bd.below hR
  replace BR:=BR.below hR
  refine zA rfl rfl ?_
  exact on0 rfl
 apply zP
 ·intro wq hR hst
  refine zN rfl (zI ?_)
  replace Bd:=Bd.below hR
  replace BR:=BR.below hR
  refine yP rfl rfl ?_
  exact on0 rfl
 apply zP
 ·intro wq hR hst
  refine zN rfl (zI ?_)
  replace Bd:=Bd.below hR
  replace BR:=BR.below hR
  refine yH 0 rfl yu355 rfl rfl sz25 rfl rfl ?_
  exact on0 rfl
 apply zP
 ·intro wq hR hst
  refine zN rfl (zI ?_)
  replace Bd:=Bd.below hR
  replace BR:=BR.below hR
  refine zT rfl xD rfl Bd rfl ?_
  exact on0 rfl
 apply zP
 ·intro wq hR hst
  refine yL rfl rfl (zI ?_)
  replace Bd:=Bd.below hR
  replace BR:=BR.below hR
  refine zA rfl rfl ?_
  exact on0 rfl
 apply zP
 ·intro wq hR hst
  refine yL rfl rfl (zI ?_)
  replace Bd:=Bd.below hR
  replace BR:=BR.below hR
  refine zA rfl rfl ?_
  exact on0 rfl
 apply zP
 ·intro wq hR hst
  refine zN rfl (zN rfl (zI ?_))
  replace Bd:=Bd.below hR
  replace BR:=BR.below hR
  refine xK rfl rfl rfl (by omega) ?_
  exact on0 rfl
 apply zP
 ·intro wq hR hst
  refine zN rfl (zI ?_)
  replace Bd:=Bd.below hR
  replace BR:=BR.below hR
  refine jR rfl rfl rfl (by omega) ?_
  exact on0 rfl
 apply zP
 ·intro wq hR hst
  refine zN rfl (zN rfl (zI ?_))
  replace Bd:=Bd.below hR
  replace BR:=BR.below hR
  refine aQ (p + ys.length - 1) rfl yu25 xF rfl rfl (by omega) (by omega) ?_
  exact on0 rfl
 apply zP
 ·intro wq hR hst
  refine zN rfl (zI ?_)
  replace Bd:=Bd.below hR
  replace BR:=BR.below hR
  have hc31:=nG BR (j:=p + ys.length - 1) (by omega)
  refine xC rfl jF rfl hc31 ?_
  exact on0 rfl
 apply zP
 ·intro wq hR hst
  refine zN rfl (zI ?_)
  replace Bd:=Bd.below hR
  replace BR:=BR.below hR
  refine jX rfl yu155 yu196 rfl (by omega) ?_
  exact on0 rfl
 refine aN (fun wq2 hR2 hpost2=>?_)
 refine yL rfl rfl (yL rfl rfl (zN rfl (zN rfl (zI ?_))))
 simp only [nB,nA,mZ,mY]
 obtain ⟨LL,hM,hF,hb,Bd,BR⟩:=ub6 hR2 LL hM hF hb Bd BR
 refine fT rfl rfl rfl (by simp only [IntKind.bits]; omega) (by simp only [IntKind.bits]; omega) (.inl rfl) (xY (d:=34) (u:=.int .u64 ((rs.getD (p + ys.length) 0 * 4294967296 + rs.getD (p + ys.length - 1) 0:Nat):Int)) rfl (by rw [hov]) (zB rfl rfl (zF (zH (zC (zA rfl rfl (zA rfl rfl (yP rfl rfl (yH 1 rfl yu355 rfl rfl sz25 rfl rfl (zT rfl xD rfl Bd rfl (zA rfl rfl (jR rfl rfl rfl (by omega) (uW (ys.length - 1) rfl yu25 xF rfl rfl (by assumption) (by omega) (by omega) (fun b42 o42 hc42 hb42=>?_))))))))))))))
 refine xC rfl jF rfl hc42 (jX rfl yu155 yu196 rfl (by omega) (rF rfl rfl rfl (by omega) (by omega) (zY7 rfl rfl rfl (zB rfl rfl (zF (yX ?_))))))
 refine lv1 ⟨rfl,trivial⟩ ?_
 subst hFz
 exact ⟨LL.b,by show Value.int .u64 _=Value.int .u64 _; congr 1; omega⟩
theorem qless_c {Fz:Nat→Prop} {bd br cap p L:Nat} {vb:Value} {rs ys:List Nat} {ex:List Value} {m:Nat} (hL:rs.length=L) (Bd:Blk w bd 355 [.slice (some ⟨br,0,none⟩) L cap,vb]) (BR:Blk w br 155 (rs.map lw ++ ex)) (hb:IsNat M w vb ys) (hr:∀ x ∈ rs,x < 4294967296) (hm:m < 4294967296) (hat:p + ys.length < rs.length) (hrl:rs.length≤1099511627776) (hcap:cap=rs.length + ex.length) (hmr:M br) (nFr:¬ Fz br) (hF:FOk Fz w) (hM:OkM M w) :
    CallsV prog 383 [.pointer (some ⟨bd,0,none⟩),.int .i64 (p:Int),.int .u64 (m:Int)] w fun r w'=>Le Fz M w M w'∧Blk w' bd 355 [.slice (some ⟨br,0,none⟩) L cap,vb]∧∃ (u:Nat) (zs:List Nat),Blk w' br 155 (zs.map lw ++ ex)∧zs.length=rs.length∧(∀ z ∈ zs,z < 4294967296)∧u≤1∧(∀ j,p + ys.length < j→zs.getD j 0=rs.getD j 0)∧val zs + 4294967296 ^ p * (m * val ys)=val rs + 4294967296 ^ (p + (ys.length + 1)) * u∧r = .bool (decide (u=0)):=by
 have hyl:=hb.len
 have ner:bd ≠ br:=zK1 Bd BR (.inl rfl)
 have ned_r:=ner
 have e32:(2:Nat) ^ (32:Int).toNat=4294967296:=by decide
 have e63:(2:Nat) ^ (63:Int).toNat=9223372036854775808:=by decide
 have LL:=Le.refl Fz M w
 refine gM func383 rfl ntmps383 rfl ?_
 refine zH (zC (zB rfl rfl (zF (zH ?_))))
 refine wd mixed 13 [0,2,19,20,28] (by decide +kernel) ?_
 apply zP
 ·intro wq hR hst
  refine yL rfl rfl (zI ?_)
  replace Bd:=Bd.below hR
  replace BR:=BR.below hR
  refine zA rfl rfl ?_
  exact on0 rfl
 apply zP
 ·intro wq hR hst
  refine zN rfl (zI ?_)
  replace Bd:=Bd.below hR
  replace BR:=BR.below hR
  refine yP rfl rfl ?_
  exact on0 rfl
 apply zP
 ·intro wq hR hst
  refine zN rfl (zI ?_)
  replace Bd:=Bd.below hR
  replace BR:=BR.below hR
  refine yH 0 rfl yu355 rfl rfl sz25 rfl rfl ?_
  exact on0 rfl
 apply zP
 ·intro wq hR hst
  refine zN rfl (zI ?_)
  replace Bd:=Bd.below hR
  replace BR:=BR.below hR
  refine zT rfl xD rfl Bd rfl ?_
  exact on0 rfl
 apply zP
 ·intro wq hR hst
  refine yL rfl rfl (zI ?_)
  replace Bd:=Bd.below hR
  replace BR:=BR.below hR
  refine zA rfl rfl ?_
  exact on0 rfl
 apply zP
 ·intro wq hR hst
  refine yL rfl rfl (zI ?_)
  replace Bd:=Bd.below hR
  replace BR:=BR.below hR
  refine zA rfl rfl ?_
  exact on0 rfl
 apply zP
 ·intro wq hR hst
  refine yL rfl rfl (zI ?_)
  replace Bd:=Bd.below hR
  replace BR:=BR.below hR
  refine zA rfl rfl ?_
  exact on0 rfl
 apply zP
 ·intro wq hR hst
  refine zN rfl (zI ?_)
  replace Bd:=Bd.below hR
  replace BR:=BR.below hR
  refine yP rfl rfl ?_
  exact on0 rfl
 apply zP
 ·intro wq hR hst
  refine zN rfl (zI ?_)
  replace Bd:=Bd.below hR
  replace BR:=BR.below hR
  refine yH 1 rfl yu355 rfl rfl sz25 rfl rfl ?_
  exact on0 rfl
 apply zP
 ·intro wq hR hst
  refine zN rfl (zI ?_)
  replace Bd:=Bd.below hR
  replace BR:=BR.below hR
  refine zT rfl xD rfl Bd rfl ?_
  exact on0 rfl
 apply zP
 ·intro wq hR hst
  refine zN rfl (zI ?_)
  obtain ⟨LL,hM,hF,hb,Bd,BR⟩:=ub6 hR LL hM hF hb Bd BR
  refine jB rfl yu25 rfl ?_
  exact on0 rfl
 apply zP
 ·intro wq hR hst
  refine zN rfl (zN rfl (zI ?_))
  replace Bd:=Bd.below hR
  replace BR:=BR.below hR
  refine xK rfl rfl rfl (by omega) ?_
  exact on0 rfl
 apply zP
 ·intro wq hR hst
  refine zN rfl (zI ?_)
  replace Bd:=Bd.below hR
  replace BR:=BR.below hR
  refine xK rfl rfl rfl (by omega) ?_
  exact on0 rfl
 refine aN (fun wq1 hR1 hpost1=>?_)
 refine yL rfl rfl (yL rfl rfl (zN rfl (zN rfl (zN rfl (zI ?_)))))
 simp only [nB,nA,mZ,mY]
 obtain ⟨LL,hM,hF,hb,Bd,BR⟩:=ub6 hR1 LL hM hF hb Bd BR
 refine ops_sliceb p (p + ys.length + 1) rfl yu25 xF rfl rfl (by show some (Value.int _ _)=some (Value.int _ _); congr 2) (by omega) (by omega) (zB rfl rfl (zB rfl rfl (zF (zH (zC (zB rfl rfl (zF (zH (zH (zC (zA rfl rfl ?_)))))))))))
 refine jB rfl yu25 rfl ?_
 refine zA rfl rfl (zF (yV ?_))
 refine uO (σ:=Nat × Nat × Nat) [(0,_),(2,_),(7,_),(31,_)] (fun s=>[(8,.int .u64 ((s.2.1:Nat):Int)),(9,.int .u64 ((s.2.2:Nat):Int)),(32,.int .i64 ((s.1:Nat):Int))]) (fun s w1=>Le Fz M wq1 M w1∧Blk w1 bd 355 [.slice (some ⟨br,0,none⟩) L cap,vb]∧∃ zs:List Nat,Blk w1 br 155 (zs.map lw ++ ex)∧zs.length=rs.length∧(∀ z ∈ zs,z < 4294967296)∧(∀ j,p + ys.length < j→zs.getD j 0=rs.getD j 0)∧s.1≤ys.length + 1∧s.2.1 < 4294967296∧s.2.2≤1∧(s.1≤ys.length ∨ s.2.1=0)∧val zs + 4294967296 ^ p * (m * val (ys.take s.1))=val rs + 4294967296 ^ (p + s.1) * (s.2.1 + s.2.2)) (fun s=>ys.length + 1 - s.1) ((0,0,0)) (zD rfl (zD rfl (zD rfl (zD rfl (zD rfl (zD rfl (zD rfl yZ))))))) ?_ (fun s w1 hJ=>?_)
 · dsimp only
   exact ⟨Le.refl _ _ _,Bd,rs,BR,rfl,hr,fun _ _=>rfl,by omega,by omega,by omega,.inl (by omega),by simp [val]⟩
 ·clear Bd BR
  obtain ⟨i,o,u⟩:=s
  dsimp only at hJ ⊢
  obtain ⟨LR,Bd,zs,BR,hzl,hzlt,hzh,hi,ho,hu,hi0,hzv⟩:=hJ
  have hby:=hb.lim i
  have hbz:=yK hzlt (p + i)
  have hxy:ys.getD i 0 * m≤4294967295 * 4294967295:=Nat.mul_le_mul (by omega) (by omega)
  obtain ⟨LL,hM,hF,hb⟩:=up4 LR LL hM hF hb
  refine zH (zC (bZ rfl rfl rfl (zF (zH ?_))))
  refine yI rfl (fun hc0=>?_) (fun hc0=>?_)
  ·refine xH (zH (yV (zH (zC (zA rfl rfl (zB rfl rfl (zF (zH (zC (zB rfl rfl (zF (zH (zH (zC ?_))))))))))))))
   refine zA rfl rfl (zA rfl rfl (yP rfl rfl (yH 1 rfl yu355 rfl rfl sz25 rfl rfl (zT rfl xD rfl Bd rfl ?_))))
   refine jB rfl yu25 rfl ?_
   refine bZ rfl rfl rfl (zF ?_)
   refine zU6 [(11,.int .u64 ((ys.getD i 0:Nat):Int))] [(0,_),(2,_),(7,_),(8,_),(9,_),(10,_),(31,_),(32,_),(33,_),(34,_),(35,_),(36,_),(37,_),(38,_),(39,_),(40,_),(41,_)] (zD rfl (zD rfl (zD rfl (zD rfl (zD rfl (zD rfl (zD rfl (zD rfl (zD rfl (zD rfl (zD rfl (zD rfl (zD rfl (zD rfl (zD rfl (zD rfl (zD rfl yZ))))))))))))))))) ?_ ?_
   ·refine yI rfl (fun hc1=>?_) (fun hc1=>?_)
    ·refine zC (zA rfl rfl (yP rfl rfl (yH 1 rfl yu355 rfl rfl sz25 rfl rfl (zT rfl xD rfl Bd rfl (zA rfl rfl (uW (i) rfl yu25 xF rfl rfl (by assumption) (by omega) (by omega) (fun b47 o47 hc47 hb47=>?_)))))))
     refine xC rfl jF rfl hc47 (jX rfl yu155 yu196 rfl (by omega) (zB rfl rfl (zF ?_)))
     exact ⟨rfl,rfl,(yJ rfl (rfl) (zD rfl (zD rfl (zD rfl (zD rfl (zD rfl (zD rfl (zD rfl (zD rfl (zD rfl (zD rfl (zD rfl (zD rfl (zD rfl (zD rfl (zD rfl (zD rfl (zD rfl yZ))))))))))))))))))⟩
    ·refine xH ?_
     exact ⟨rfl,rfl,(yJ rfl (by rw [yS (by omega)]; rfl) (zD rfl (zD rfl (zD rfl (zD rfl (zD rfl (zD rfl (zD rfl (zD rfl (zD rfl (zD rfl (zD rfl (zD rfl (zD rfl (zD rfl (zD rfl (zD rfl (zD rfl yZ))))))))))))))))))⟩
   refine zH (zC (zA rfl rfl (zA rfl rfl (zX rfl (bo func386) rfl rfl ?_))))
   refine (mul64_c (by omega) (by omega) hM).mono ?_
   rintro v53 w2 ⟨hB53,rfl⟩
   obtain ⟨LR,Bd,BR⟩:=ub3 hB53 LR Bd BR
   refine zA rfl rfl (jL rfl rfl rfl (jL rfl rfl rfl (zB rfl rfl (zB rfl rfl (zF (zH (zC (zA rfl rfl (zA rfl rfl (ops_add64' (a:=ys.getD i 0 * m) (b:=o) (c:=0) rfl ext387 rfl (by omega) (zA rfl rfl (jL rfl rfl rfl (xY (d:=60) (u:=.int .u64 ((ys.getD i 0 * m + o:Nat):Int)) rfl (by show Value.int .u64 _=Value.int .u64 _; congr 2 <;> omega) (jL rfl rfl rfl ?_))))))))))))))
   refine xY (d:=61) (u:=.int .u64 ((0:Nat):Int)) rfl (by show Value.int .u64 _=Value.int .u64 _; congr 2 <;> omega) (zB rfl rfl (zB rfl rfl (zF (zH (zC (zA rfl rfl (zA rfl rfl ?_)))))))
   first | refine kR rfl rfl rfl (by omega) ?_ | refine bG rfl rfl rfl ?_
   refine cO (m:=18446744073709551616) rfl rfl rfl (by simp only [IntKind.bits]; omega) rfl (.inl rfl) (zA rfl rfl (jH rfl rfl rfl (by simp only [IntKind.bits]; omega) (xY (d:=67) (u:=.int .u64 (((ys.getD i 0 * m + o) / 4294967296:Nat):Int)) rfl (by rw [← e32]) (fT rfl rfl rfl (by simp only [IntKind.bits]; omega) (by simp only [IntKind.bits]; omega) (.inl rfl) (xY (d:=68) (u:=.int .u64 (((ys.getD i 0 * m + o) / 4294967296:Nat):Int)) rfl (by show Value.int .u64 _=Value.int .u64 _; congr 2; simp) (zB rfl rfl (zF (zH (zC (zA rfl rfl (zA rfl rfl (rG (i) rfl yu25 xF rfl rfl rfl (by omega) ?_))))))))))))
   have hc71:=nG BR (j:=p + i) (by omega)
   refine xC rfl jF rfl hc71 (jX rfl yu155 yu196 rfl (by omega) (zA rfl rfl (cT rfl rfl rfl (by simp only [IntKind.bits]; omega) (by simp only [IntKind.bits]; omega) (.inl rfl) (xY (d:=75) (u:=.int .u64 (((ys.getD i 0 * m + o) % 4294967296:Nat):Int)) rfl (by show Value.int .u64 _=Value.int .u64 _; congr 2; exact pG _) ?_))))
   first | refine lZ rfl rfl rfl (by omega) (by omega) ?_ | refine mA rfl rfl rfl (by omega) ?_
   refine zA rfl rfl ?_
   first | refine lZ rfl rfl rfl (by omega) (by omega) ?_ | refine mA rfl rfl rfl (by omega) ?_
   refine zB rfl rfl (zF (zC (zA rfl rfl (zA rfl rfl (zA rfl rfl (qC rfl yu196 yu155 rfl (zA rfl rfl (jH rfl rfl rfl (by simp only [IntKind.bits]; omega) (xY (d:=84) (u:=.int .u64 ((subD (zs.getD (p + i) 0) ((ys.getD i 0 * m + o) % 4294967296) u / 9223372036854775808:Nat):Int)) rfl (by rw [← e63]; rfl) (rG (i) rfl yu25 xF rfl rfl rfl (by omega) (bD (i:=p + i) rfl rfl xF BR rfl (by simp; omega) (fun w3 Cw3 BN=>?_))))))))))))
   have Lw3:=Le.of_chg (M:=M) Cw3 hmr nFr
   replace LR:=LR.trans Lw3
   replace Bd:=Bd.other Cw3 ned_r
   replace BN:=BN.eq (zM1 (rs:=zs) (ex:=ex) (v:=subD (zs.getD (p + i) 0) ((ys.getD i 0 * m + o) % 4294967296) u % 4294967296) (show p + i < zs.length by omega))
   clear BR; have BR:=BN; clear BN
   refine zB rfl rfl (zF (zC (xK rfl rfl rfl (by omega) (zA rfl rfl (zF ?_)))))
   refine ⟨rfl,(i + 1,(ys.getD i 0 * m + o) / 4294967296,subD (zs.getD (p + i) 0) ((ys.getD i 0 * m + o) % 4294967296) u / 9223372036854775808),(yJ rfl (rfl) (yJ rfl (rfl) (yJ rfl (by rw [Int.natCast_add]; rfl) (zD rfl (zD rfl (zD rfl (zD rfl yZ))))))),?_,?_⟩
   have hsd:=zW9 hbz (Nat.mod_lt (ys.getD i 0 * m + o) (show 0 < 4294967296 by omega)) hu
   dsimp only
   refine ⟨LR,Bd,_,BR,by simp [hzl],aZ hzlt (Nat.mod_lt _ (by omega)),fun j hj=>by rw [gN (by omega)]; exact hzh j hj,by omega,by omega,hsd.2.1,?_,?_⟩
   · rcases Nat.lt_or_ge i ys.length with h | h
     · exact .inl (by omega)
     · right; rw [yS h]; omega
   · have:=less_step (zs:=zs) (p:=p) (i:=i) (x:=ys.getD i 0) (by omega) hzv (Nat.mod_add_div (ys.getD i 0 * m + o) 4294967296).symm hsd.1 rfl
     rw [xE]; exact this
   dsimp only
   omega
  ·refine gF (gP (zH (zC (zA rfl rfl (eW rfl rfl rfl (zB rfl rfl (zF (yX ?_))))))))
   refine lv1 ⟨rfl,trivial⟩ ?_
   obtain rfl:i=ys.length + 1:=by omega
   obtain rfl:o=0:=by omega
   rw [List.take_of_length_le (by omega),Nat.zero_add] at hzv
   exact ⟨LL,Bd,u,zs,BR,hzl,hzlt,hu,hzh,hzv,by congr 1; simp only [decide_eq_decide]; omega⟩
theorem qmore_c {Fz:Nat→Prop} {bd br cap p L:Nat} {vb:Value} {rs ys:List Nat} {ex:List Value} (hL:rs.length=L) (Bd:Blk w bd 355 [.slice (some ⟨br,0,none⟩) L cap,vb]) (BR:Blk w br 155 (rs.map lw ++ ex)) (hb:IsNat M w vb ys) (hr:∀ x ∈ rs,x < 4294967296) (hat:p + ys.length < rs.length) (hrl:rs.length≤1099511627776) (hcap:cap=rs.length + ex.length) (hmr:M br) (nFr:¬ Fz br) (hF:FOk Fz w) (hM:OkM M w) :
    CallsV prog 384 [.pointer (some ⟨bd,0,none⟩),.int .i64 (p:Int)] w fun r w'=>Le Fz M w M w'∧Blk w' bd 355 [.slice (some ⟨br,0,none⟩) L cap,vb]∧∃ (u:Nat) (zs:List Nat),Blk w' br 155 (zs.map lw ++ ex)∧zs.length=rs.length∧(∀ z ∈ zs,z < 4294967296)∧u≤1∧(∀ j,p + ys.length < j→zs.getD j 0=rs.getD j 0)∧val zs + 4294967296 ^ (p + (ys.length + 1)) * u=val rs + 4294967296 ^ p * val ys∧r = .bool (decide ((u:Int) > 0)):=by
 have hyl:=hb.len
 have ned_r:bd ≠ br:=zK1 Bd BR (.inl rfl)
 have e32:(2:Nat) ^ (32:Int).toNat=4294967296:=by decide
 have LL:=Le.refl Fz M w
 refine gM func384 rfl ntmps384 rfl ?_
 refine zH (zC (zB rfl rfl (zF (zH (zC (zB rfl rfl (zF (zH (zH (zC (zA rfl rfl (yP rfl rfl (yH 1 rfl yu355 rfl rfl sz25 rfl rfl (zT rfl xD rfl Bd rfl ?_))))))))))))))
 refine jB rfl yu25 rfl ?_
 refine xK rfl rfl rfl (by omega) (zA rfl rfl (zF (yV ?_)))
 refine uO (σ:=Nat × Nat) [(0,_),(1,_),(12,_)] (fun s=>[(5,.int .u64 ((s.2:Nat):Int)),(13,.int .i64 ((s.1:Nat):Int))]) (fun s w1=>Le Fz M w M w1∧Blk w1 bd 355 [.slice (some ⟨br,0,none⟩) L cap,vb]∧∃ zs:List Nat,Blk w1 br 155 (zs.map lw ++ ex)∧zs.length=rs.length∧(∀ z ∈ zs,z < 4294967296)∧(∀ j,p + ys.length < j→zs.getD j 0=rs.getD j 0)∧s.1≤ys.length + 1∧s.2≤1∧val zs + 4294967296 ^ (p + s.1) * s.2=val rs + 4294967296 ^ p * val (ys.take s.1)) (fun s=>ys.length + 1 - s.1) ((0,0)) (zD rfl (zD rfl (zD rfl (zD rfl (zD rfl yZ))))) ?_ (fun s w1 hJ=>?_)
 · exact ⟨Le.refl _ _ _,Bd,rs,BR,rfl,hr,fun _ _=>rfl,by omega,by omega,by simp [val]⟩
 ·clear Bd BR
  obtain ⟨i,o⟩:=s
  dsimp only at hJ ⊢
  obtain ⟨LR,Bd,zs,BR,hzl,hzlt,hzh,hi,ho,hzv⟩:=hJ
  have hby:=hb.lim i
  have hbz:=yK hzlt (p + i)
  obtain ⟨LL,hM,hF,hb⟩:=up4 LR LL hM hF hb
  refine zH (zC (bZ rfl rfl rfl (zF (zH ?_))))
  refine yI rfl (fun hc0=>?_) (fun hc0=>?_)
  ·refine xH (zH (yV (zH (zC (zA rfl rfl (zB rfl rfl (zF (zH (zH (zC (zA rfl rfl (zA rfl rfl (yP rfl rfl (yH 1 rfl yu355 rfl rfl sz25 rfl rfl ?_))))))))))))))
   refine zT rfl xD rfl Bd rfl ?_
   refine jB rfl yu25 rfl ?_
   refine bZ rfl rfl rfl (zF ?_)
   refine zU6 [(5,.int .u64 ((o + ys.getD i 0:Nat):Int))] [(0,_),(1,_),(6,_),(12,_),(13,_),(14,_),(15,_),(16,_),(17,_),(18,_),(19,_),(20,_),(21,_),(22,_)] (zD rfl (zD rfl (zD rfl (zD rfl (zD rfl (zD rfl (zD rfl (zD rfl (zD rfl (zD rfl (zD rfl (zD rfl (zD rfl (zD rfl yZ)))))))))))))) ?_ ?_
   ·refine yI rfl (fun hc1=>?_) (fun hc1=>?_)
    ·refine zC (zA rfl rfl (zA rfl rfl (yP rfl rfl (yH 1 rfl yu355 rfl rfl sz25 rfl rfl (zT rfl xD rfl Bd rfl (zA rfl rfl (uW (i) rfl yu25 xF rfl rfl (by assumption) (by omega) (by omega) (fun b29 o29 hc29 hb29=>?_))))))))
     refine xC rfl jF rfl hc29 (jX rfl yu155 yu196 rfl (by omega) ?_)
     first | refine kR rfl rfl rfl (by omega) ?_ | refine bG rfl rfl rfl ?_
     refine zB rfl rfl (zF ?_)
     exact ⟨rfl,rfl,(yJ rfl (rfl) (zD rfl (zD rfl (zD rfl (zD rfl (zD rfl (zD rfl (zD rfl (zD rfl (zD rfl (zD rfl (zD rfl (zD rfl (zD rfl (zD rfl yZ)))))))))))))))⟩
    ·refine xH ?_
     exact ⟨rfl,rfl,(yJ rfl (by rw [yS (by omega)]; rfl) (zD rfl (zD rfl (zD rfl (zD rfl (zD rfl (zD rfl (zD rfl (zD rfl (zD rfl (zD rfl (zD rfl (zD rfl (zD rfl (zD rfl yZ)))))))))))))))⟩
   refine zH (zC (zA rfl rfl (zA rfl rfl (yP rfl rfl (yH 0 rfl yu355 rfl rfl sz25 rfl rfl (zT rfl xD rfl Bd rfl (zA rfl rfl (zA rfl rfl (xK rfl rfl rfl (by omega) (aQ (p + i) rfl yu25 xF rfl rfl (by omega) (by omega) ?_))))))))))
   have hc41:=nG BR (j:=p + i) (by omega)
   refine xC rfl jF rfl hc41 (jX rfl yu155 yu196 rfl (by omega) ?_)
   first | refine kR rfl rfl rfl (by omega) ?_ | refine bG rfl rfl rfl ?_
   refine zB rfl rfl (zF (zH (zC (zA rfl rfl (yP rfl rfl (yH 0 rfl yu355 rfl rfl sz25 rfl rfl (zT rfl xD rfl Bd rfl (zA rfl rfl (zA rfl rfl (xK rfl rfl rfl (by omega) (zA rfl rfl (qC rfl yu196 yu155 rfl (aQ (p + i) rfl yu25 xF rfl rfl (by omega) (by omega) (bD (i:=p + i) rfl rfl xF BR rfl (by simp; omega) (fun w2 Cw2 BN=>?_)))))))))))))))
   have Lw2:=Le.of_chg (M:=M) Cw2 hmr nFr
   replace LR:=LR.trans Lw2
   replace Bd:=Bd.other Cw2 ned_r
   replace BN:=BN.eq (zM1 (rs:=zs) (ex:=ex) (v:=(o + ys.getD i 0 + zs.getD (p + i) 0) % 4294967296) (show p + i < zs.length by omega))
   clear BR; have BR:=BN; clear BN
   refine zF (zC (zA rfl rfl (jH rfl rfl rfl (by simp only [IntKind.bits]; omega) (zB rfl rfl (zF (zC (xK rfl rfl rfl (by omega) (zA rfl rfl (zF ?_)))))))))
   refine ⟨rfl,(i + 1,(o + ys.getD i 0 + zs.getD (p + i) 0) / 4294967296),(yJ rfl (rfl) (yJ rfl (rfl) (zD rfl (zD rfl (zD rfl yZ))))),?_,?_⟩
   dsimp only
   refine ⟨LR,Bd,_,BR,by simp [hzl],aZ hzlt (Nat.mod_lt _ (by omega)),fun j hj=>by rw [gN (by omega)]; exact hzh j hj,by omega,by omega,?_⟩
   have:=more_step (zs:=zs) (p:=p) (i:=i) (x:=ys.getD i 0) (by omega) hzv rfl rfl
   rw [xE]; exact this
   dsimp only
   omega
  ·refine gF (gP (zH (zC (zA rfl rfl (wX rfl rfl rfl (zB rfl rfl (zF (yX ?_))))))))
   refine lv1 ⟨rfl,trivial⟩ ?_
   obtain rfl:i=ys.length + 1:=by omega
   rw [List.take_of_length_le (by omega)] at hzv
   exact ⟨LL,Bd,o,zs,BR,hzl,hzlt,ho,hzh,hzv,rfl⟩
theorem qlimbs1_c {M0 M:Nat→Prop} {w0:World} {b1 bd br cap m L:Nat} {vb:Value} {rs ys:List Nat} {ex:List Value} (B1:Blk w0 b1 353 [.pointer (some ⟨bd,0,none⟩)]) (hL:rs.length=L) (Bd:Blk w0 bd 355 [.slice (some ⟨br,0,none⟩) L cap,vb]) (BR:Blk w0 br 155 (rs.map lw ++ ex)) (hb:IsNat M0 w0 vb ys) (hr:∀ x ∈ rs,x < 4294967296)
    (hy0:0 < ys.length) (ht:0 < ys.getD (ys.length - 1) 0) (hrm:rs.length=m + ys.length) (hQ:val rs < 4294967296 ^ m * val ys) (hrl:rs.length≤1099511627776) (hcap:cap=rs.length + ex.length)
    (n1:¬ M0 b1) (nd:¬ M0 bd) (hmr:M br) (hall:∀ k,M k→k=br) (hMs:∀ k,M k→M0 k) :
    IterC prog 381 [.pointer (some ⟨b1,0,none⟩)] M0 M w0 ((List.range m).map (fun j=>(m - j - 1,val rs / (4294967296 ^ (m - j - 1) * val ys) % 4294967296))) encB (fun w=>∃ zs:List Nat,Blk w br 155 (zs.map lw ++ ex)∧zs.length=rs.length∧(∀ z ∈ zs,z < 4294967296)∧val zs=val rs % val ys):=by
 intro n l w J X hn0 hn hdr hJ hkeep hJd hXd hy
 have B1':=B1
 have Bd':=Bd
 have hb':=hb
 have hk0:=hkeep _ _ hJ
 have nM1:¬ M b1:=fun c=>n1 (hMs _ c)
 have nMd:¬ M bd:=fun c=>nd (hMs _ c)
 replace BR:=BR.drift hdr (fun c=>c)
 replace B1:=hk0.blk B1 n1
 replace Bd:=hk0.blk Bd nd
 replace hb:=(hk0.nat hb).less hMs
 have hM:OkM M w:=fun k hk=>by rw [hall k hk]; exact BR.lt
 have hyl:=hb.len
 have hV:0 < val ys:=kY ys (by intro e; subst e; simp at hy0) (by omega)
 obtain ⟨Fz,hFz⟩:∃ Fz:Nat→Prop,Fz=fun _=>False:=⟨_,rfl⟩
 have hFa:∀ w,FOk Fz w:=by subst hFz; exact fun _ _ h=>h.elim
 have hF:=hFa w
 have nFr:¬ Fz br:=by subst hFz; exact fun c=>c
 have LL:=Le.refl Fz M w
 refine gM func381 rfl ntmps381 rfl ?_
 refine zH ?_
 refine wd mixed 10 [0,1,10,15] (by decide +kernel) ?_
 apply zP
 ·intro wq hR hst
  refine yL rfl rfl (zI ?_)
  replace B1:=B1.below hR
  replace Bd:=Bd.below hR
  replace BR:=BR.below hR
  refine zT rfl mT rfl B1 rfl ?_
  exact on0 rfl
 apply zP
 ·intro wq hR hst
  refine zN rfl (zI ?_)
  replace Bd:=Bd.below hR
  replace BR:=BR.below hR
  refine yP rfl rfl ?_
  exact on0 rfl
 apply zP
 ·intro wq hR hst
  refine zN rfl (zI ?_)
  replace Bd:=Bd.below hR
  replace BR:=BR.below hR
  refine yH 0 rfl yu355 rfl rfl sz25 rfl rfl ?_
  exact on0 rfl
 apply zP
 ·intro wq hR hst
  refine zN rfl (zI ?_)
  replace Bd:=Bd.below hR
  replace BR:=BR.below hR
  refine zT rfl xD rfl Bd rfl ?_
  exact on0 rfl
 apply zP
 ·intro wq hR hst
  refine zN rfl (zI ?_)
  obtain ⟨LL,hM,hF,hb,B1,Bd,BR⟩:=ub7 hR LL hM hF hb B1 Bd BR
  refine jB rfl yu25 rfl ?_
  exact on0 rfl
 apply zP
 ·intro wq hR hst
  refine yL rfl rfl (zI ?_)
  replace B1:=B1.below hR
  replace Bd:=Bd.below hR
  replace BR:=BR.below hR
  refine zT rfl mT rfl B1 rfl ?_
  exact on0 rfl
 apply zP
 ·intro wq hR hst
  refine zN rfl (zI ?_)
  replace Bd:=Bd.below hR
  replace BR:=BR.below hR
  refine yP rfl rfl ?_
  exact on0 rfl
 apply zP
 ·intro wq hR hst
  refine zN rfl (zI ?_)
  replace Bd:=Bd.below hR
  replace BR:=BR.below hR
  refine yH 1 rfl yu355 rfl rfl sz25 rfl rfl ?_
  exact on0 rfl
 apply zP
 ·intro wq hR hst
  refine zN rfl (zI ?_)
  replace Bd:=Bd.below hR
  replace BR:=BR.below hR
  refine zT rfl xD rfl Bd rfl ?_
  exact on0 rfl
 apply zP
 ·intro wq hR hst
  refine zN rfl (zI ?_)
  obtain ⟨LL,hM,hF,hb,B1,Bd,BR⟩:=ub7 hR LL hM hF hb B1 Bd BR
  refine jB rfl yu25 rfl ?_
  exact on0 rfl
 refine aN (fun wq0 hR0 hpost0=>?_)
 refine yL rfl rfl (yL rfl rfl (zN rfl (zN rfl (zI ?_))))
 simp only [nB,nA,mZ,mY]
 obtain ⟨LL,hM,hF,hb,B1,Bd,BR⟩:=ub7 hR0 LL hM hF hb B1 Bd BR
 refine jR rfl rfl rfl (by omega) (jR rfl rfl rfl (by omega) (zB rfl rfl (zF (yV ?_))))
 refine uO (σ:=Nat) [(0,_),(1,_)] (fun s=>[(3,.int .i64 (((m - s:Nat):Int) - 1))]) (fun s w1=>J ((List.range s).map (fun j=>(m - j - 1,val rs / (4294967296 ^ (m - j - 1) * val ys) % 4294967296))) w1∧n≤w1.heap.size∧s≤m∧∃ zs:List Nat,Blk w1 br 155 (zs.map lw ++ ex)∧zs.length=rs.length∧(∀ z ∈ zs,z < 4294967296)∧val zs=val rs % (4294967296 ^ (m - s) * val ys)) (fun s=>m - s) (0) (yJ rfl (by show Value.int .i64 _=Value.int .i64 _; congr 1; omega) (zD rfl (zD rfl yZ))) ?_ (fun s w1 hJ=>?_)
 · have hJ2:=hJd _ _ _ hJ (LL.drift_to hn)
   exact ⟨hJ2,Nat.le_trans hn LL.size,by omega,rs,BR,rfl,hr,by rw [Nat.sub_zero,Nat.mod_eq_of_lt hQ]⟩
 ·clear BR
  obtain ⟨hJ1,hn1,hs,zs,BR,hzl,hzlt,hzv⟩:=hJ
  have hk:=hkeep _ _ hJ1
  replace B1:=hk.blk B1' n1
  replace Bd:=hk.blk Bd' nd
  replace hb:=(hk.nat hb').less hMs
  replace hM:OkM M w1:=fun k hk=>by rw [hall k hk]; exact BR.lt
  have hF:=hFa w1
  have LL:=Le.refl Fz M w1
  refine zH (zH (zC (zA rfl rfl (dJ rfl rfl rfl (zF ?_)))))
  refine yI rfl (fun hc0=>?_) (fun hc0=>?_)
  ·obtain ⟨p,hpe⟩:∃ p,p=m - s - 1:=⟨_,rfl⟩
   have hs2:s < m:=by omega
   have hat:((m - s:Nat):Int) - 1=(p:Int):=by omega
   rw [hat]
   have hzv':val zs=val rs % (4294967296 ^ p * val ys * 4294967296):=by rw [hzv,show m - s=p + 1 by omega,Nat.pow_succ,Nat.mul_right_comm]
   have hS:val zs < 4294967296 ^ (p + 1) * val ys:=by rw [hzv,show m - s=p + 1 by omega]; exact Nat.mod_lt _ (Nat.mul_pos (Nat.pow_pos (by omega)) hV)
   have hhi:∀ j,p + ys.length < j→zs.getD j 0=0:=fun j hj=>high_zero (n:=p + 1 + ys.length) (Nat.lt_of_lt_of_le hS (by
     rw [Nat.pow_add _ (p + 1)]; exact Nat.mul_le_mul_left _ (Nat.le_of_lt (yM ys hb.lt)))) j (by omega)
   have hgu:=guess_ok hzlt hhi hS hy0 ht
   refine xH (zH (yV (lH (zH (zC (zT rfl mT rfl B1 rfl (zA rfl rfl (zX rfl (bo func382) rfl rfl ?_))))))))
   refine (qguess_c (p:=p) (hzl.trans hL) Bd BR hb hzlt hy0 ht (by omega) (by omega) hM).mono ?_
   rintro v24 w2 ⟨hB24,rfl⟩
   obtain ⟨LL,hM,hF,hb,B1,Bd,BR⟩:=ub7 hB24 LL hM hF hb B1 Bd BR
   obtain ⟨g,hge⟩:∃ g,min ((zs.getD (p + ys.length) 0 * 4294967296 + zs.getD (p + ys.length - 1) 0) / ys.getD (ys.length - 1) 0) 4294967295=g:=⟨_,rfl⟩
   rw [hge]; rw [hge] at hgu
   have hgb:g < 4294967296:=by rw [← hge]; exact Nat.lt_of_le_of_lt (Nat.min_le_right _ _) (by decide)
   clear hge
   refine zB rfl rfl (zF (zH (lI (zH (zH (zC (zT rfl mT rfl B1 rfl (zA rfl rfl (zA rfl rfl (zX rfl (bo func383) rfl rfl ?_))))))))))
   refine (qless_c (Fz:=Fz) (M:=M) (p:=p) (m:=g) (hzl.trans hL) Bd BR hb hzlt hgb (by omega) (by omega) (by omega) hmr nFr hF hM).mono ?_
   rintro v28 w3 ⟨Lw3,Bd2,u,z1,BR2,hl1,hz1,hu1,hh1,hv1,rfl⟩
   obtain ⟨LL,hM,hF,hb⟩:=up4 Lw3 LL hM hF hb
   replace B1:=B1.le Lw3 nM1
   replace Bd:=Bd2
   replace BR:=BR2
   refine zB rfl rfl (zF (yV ?_))
   refine uO (σ:=Nat) [(0,_),(1,_),(3,_),(5,_)] (fun q=>[(4,.int .u64 ((q:Nat):Int))]) (fun q w4=>Le Fz M w3 M w4∧Blk w4 bd 355 [.slice (some ⟨br,0,none⟩) L cap,vb]∧Blk w4 b1 353 [.pointer (some ⟨bd,0,none⟩)]∧∃ zq:List Nat,Blk w4 br 155 (zq.map lw ++ ex)∧zq.length=rs.length∧(∀ z ∈ zq,z < 4294967296)∧(∀ j,p + ys.length < j→zq.getD j 0=0)∧q < 4294967296∧val zq + (4294967296 ^ p * val ys) * q=val zs + 4294967296 ^ (p + (ys.length + 1)) * u∧val zs < (4294967296 ^ p * val ys) * (q + 1)) (fun q=>q) (g) (zD rfl (zD rfl (zD rfl (zD rfl (zD rfl yZ))))) ?_ (fun q w4 hJ=>?_)
   · exact ⟨Le.refl _ _ _,Bd,B1,z1,BR,by omega,hz1,fun j hj=>by rw [hh1 j hj]; exact hhi j hj,hgb,by rw [← Nat.mul_assoc,Nat.mul_right_comm] at hv1; exact hv1,hgu⟩
   ·clear Bd B1 BR
    obtain ⟨LR,Bd,B1,zq,BR,hzql,hql,hqh,hqb0,hqv,hqu⟩:=hJ
    obtain ⟨LL,hM,hF,hb⟩:=up4 LR LL hM hF hb
    refine zH (zH (zC (zA rfl rfl (mD rfl rfl (zF ?_)))))
    refine dD rfl (fun hc1=>?_) (fun hc1=>?_)
    ·have hu1:u=1:=by
       have:¬ u=0:=by simpa using hc1
       omega
     have hlt:=val_high (n:=p + (ys.length + 1)) hql (fun j hj=>hqh j (by omega))
     have hqlt:val zs < (4294967296 ^ p * val ys) * (q - 1 + 1):=by
       rw [hu1,Nat.mul_one] at hqv
       rcases Nat.eq_zero_or_pos q with h | h
       · subst h; omega
       · rw [Nat.sub_add_cancel h]; omega
     have hq1:1≤q:=by
       rcases Nat.eq_zero_or_pos q with h | h
       · subst h; rw [hu1] at hqv; omega
       · exact h
     have hqn:(4294967296 ^ p * val ys) * q=(4294967296 ^ p * val ys) * (q - 1) + (4294967296 ^ p * val ys):=by
       have:q=(q - 1) + 1:=by omega
       conv=>lhs; rw [this,Nat.mul_add,Nat.mul_one]
     refine xH (yV (zH (zC (zA rfl rfl ?_))))
     first | refine lZ (b:=1) rfl rfl rfl (by omega) (by omega) ?_ | refine mA (b:=1) rfl rfl rfl (by omega) ?_
     refine zB rfl rfl (zF (zH (zC (zT rfl mT rfl B1 rfl (zA rfl rfl (zX rfl (bo func384) rfl rfl ?_))))))
     refine (qmore_c (Fz:=Fz) (M:=M) (p:=p) (hzql.trans hL) Bd BR hb hql (by omega) (by omega) (by omega) hmr nFr hF hM).mono ?_
     rintro v35 w5 ⟨Lw5,Bd2,u2,z2,BR2,hl2,hz2,hu2,hh2,hv2,rfl⟩
     obtain ⟨LL,LR⟩:=up2 Lw5 LL LR
     replace B1:=B1.le Lw5 nM1
     replace Bd:=Bd2
     replace BR:=BR2
     refine zF ?_
     refine yI rfl (fun hc2=>?_) (fun hc2=>?_)
     ·obtain rfl:u2=1:=by omega
      rw [hu1,hqn] at hqv
      have hqe:val z2 + (4294967296 ^ p * val ys) * (q - 1)=val zs:=by omega
      obtain ⟨hq,hz⟩:=vP hqe hqlt
      obtain ⟨zq,rfl⟩:∃ zq,zq=z2:=⟨_,rfl⟩
      have hzql:=hl2.trans hzql
      have hql:=hz2
      have hqb:(q - 1) % 4294967296=val rs / (4294967296 ^ (m - s - 1) * val ys) % 4294967296:=by rw [hq,← hpe,hzv',Nat.mod_mul_right_div_self,Nat.mod_mod]
      have hev:encB (m - s - 1,val rs / (4294967296 ^ (m - s - 1) * val ys) % 4294967296)=[.int .i64 (p:Int),.int .u32 (((q - 1) % 4294967296:Nat):Int)]:=by rw [← hqb,← hpe]; rfl
      have hzn:val zq=val rs % (4294967296 ^ (m - (s + 1)) * val ys):=by rw [hz,hzv',Nat.mod_mul_right_mod,hpe,show m - s - 1=m - (s + 1) by omega]
      refine gF (eI rfl (gP (zH (zC (zA rfl rfl (zA rfl rfl (zA rfl rfl (qC rfl yu196 yu155 rfl (cM rfl rfl rfl ?_)))))))))
      rw [← hev]
      refine (hy _ _ _ _ ((zS4 _ hs2).choose_spec) (hJd _ _ _ hJ1 (LL.drift_to hn1)) (Nat.le_trans hn1 LL.size)).mono ?_
      rintro v40 w6 ⟨hn2,hTk,hyn⟩
      replace BR:Blk w6 br 155 (zq.map lw ++ ex):=(hTk br hmr).trans BR
      refine mD rfl rfl (zF ?_)
      refine dD rfl (fun hc3=>?_) (fun hc3=>?_)
      ·refine yX ?_
       refine gU ⟨[],trivial,?_⟩
       dsimp only [xN]
       right
       rcases hyn with ⟨e,_⟩ | ⟨_,h⟩
       · subst e; simp at hc3
       · exact h
      ·refine xH (zC (zA rfl rfl (jR rfl rfl rfl (by omega) (zB rfl rfl (zF ?_)))))
       refine ⟨rfl,s + 1,(yJ rfl (by show Value.int .i64 _=Value.int .i64 _; congr 1; omega) (zD rfl (zD rfl yZ))),?_,?_⟩
       exact ⟨by
         rw [pT]
         rcases hyn with ⟨_,h⟩ | ⟨e,_⟩
         · exact h
         · subst e; simp at hc3,hn2,by omega,zq,BR,by omega,hql,hzn⟩
       omega
     ·refine xH ?_
      refine ⟨rfl,q - 1,(yJ rfl (rfl) (zD rfl (zD rfl (zD rfl (zD rfl yZ))))),?_,?_⟩
      exact ⟨LR,Bd,B1,z2,BR,by omega,hz2,fun j hj=>by rw [hh2 j hj]; exact hqh j hj,by omega,by
        obtain rfl:u2=0:=by omega
        rw [hu1]; rw [hqn] at hqv; rw [hu1] at hqv; omega,hqlt⟩
      omega
    ·have hu0:u=0:=by simpa using hc1
     rw [hu0,Nat.mul_zero,Nat.add_zero] at hqv
     obtain ⟨hq,hz⟩:=vP hqv hqu
     have hqb:q % 4294967296=val rs / (4294967296 ^ (m - s - 1) * val ys) % 4294967296:=by rw [hq,← hpe,hzv',Nat.mod_mul_right_div_self,Nat.mod_mod]
     have hev:encB (m - s - 1,val rs / (4294967296 ^ (m - s - 1) * val ys) % 4294967296)=[.int .i64 (p:Int),.int .u32 ((q % 4294967296:Nat):Int)]:=by rw [← hqb,← hpe]; rfl
     have hzn:val zq=val rs % (4294967296 ^ (m - (s + 1)) * val ys):=by rw [hz,hzv',Nat.mod_mul_right_mod,hpe,show m - s - 1=m - (s + 1) by omega]
     refine gF (gP (zH (zC (zA rfl rfl (zA rfl rfl (zA rfl rfl (qC rfl yu196 yu155 rfl (cM rfl rfl rfl ?_))))))))
     rw [← hev]
     refine (hy _ _ _ _ ((zS4 _ hs2).choose_spec) (hJd _ _ _ hJ1 (LL.drift_to hn1)) (Nat.le_trans hn1 LL.size)).mono ?_
     rintro v40 w7 ⟨hn2,hTk,hyn⟩
     replace BR:Blk w7 br 155 (zq.map lw ++ ex):=(hTk br hmr).trans BR
     refine mD rfl rfl (zF ?_)
     refine dD rfl (fun hc4=>?_) (fun hc4=>?_)
     ·refine yX ?_
      refine gU ⟨[],trivial,?_⟩
      dsimp only [xN]
      right
      rcases hyn with ⟨e,_⟩ | ⟨_,h⟩
      · subst e; simp at hc4
      · exact h
     ·refine xH (zC (zA rfl rfl (jR rfl rfl rfl (by omega) (zB rfl rfl (zF ?_)))))
      refine ⟨rfl,s + 1,(yJ rfl (by show Value.int .i64 _=Value.int .i64 _; congr 1; omega) (zD rfl (zD rfl yZ))),?_,?_⟩
      exact ⟨by
        rw [pT]
        rcases hyn with ⟨_,h⟩ | ⟨e,_⟩
        · exact h
        · subst e; simp at hc4,hn2,by omega,zq,BR,by omega,hql,hzn⟩
      omega
  ·refine gF (gP ?_)
   refine gU ⟨[],trivial,?_⟩
   dsimp only [xN]
   left
   obtain rfl:s=m:=by omega
   exact ⟨hJ1,zs,BR,hzl,hzlt,by rw [hzv,Nat.sub_self,Nat.pow_zero,Nat.one_mul]⟩
theorem qlimbs_c {M T:Nat→Prop} {w:World} {bd br cap m L:Nat} {vb:Value} {rs ys:List Nat} {ex:List Value} (hL:rs.length=L) (Bd:Blk w bd 355 [.slice (some ⟨br,0,none⟩) L cap,vb]) (BR:Blk w br 155 (rs.map lw ++ ex)) (hb:IsNat M w vb ys) (hr:∀ x ∈ rs,x < 4294967296)
    (hy0:0 < ys.length) (ht:0 < ys.getD (ys.length - 1) 0) (hrm:rs.length=m + ys.length) (hQ:val rs < 4294967296 ^ m * val ys) (hrl:rs.length≤1099511627776) (hcap:cap=rs.length + ex.length)
    (nd:¬ M bd) (hmr:T br) (hall:∀ k,T k→k=br) (hMs:∀ k,T k→M k) (hM:OkM M w) :
    CallsV prog 376 [.pointer (some ⟨bd,0,none⟩)] w fun r w'=>Bel w.heap.size w w'∧∃ cp,r = .func (.func 381) #[] cp∧IterC prog 381 cp.toList M T w' ((List.range m).map (fun j=>(m - j - 1,val rs / (4294967296 ^ (m - j - 1) * val ys) % 4294967296))) encB (fun w=>∃ zs:List Nat,Blk w br 155 (zs.map lw ++ ex)∧zs.length=rs.length∧(∀ z ∈ zs,z < 4294967296)∧val zs=val rs % val ys):=by
 refine ci M func376 ntmps376 fun Fz hFz hF LL=>?_
 refine zH (zC (fW rfl rfl (fun w1 b1 N1=>?_)))
 obtain ⟨hBw1,nF1,nM1,Lw1,B1⟩:=nz hF hM N1
 have ltd_1:=Bd.lt
 replace Bd:=Bd.below hBw1
 have ne1_d:b1 ≠ bd:=by have:=N1.at_; omega
 have ltr_1:=BR.lt
 replace BR:=BR.below hBw1
 have ne1_r:b1 ≠ br:=by have:=N1.at_; omega
 obtain ⟨LL,hb⟩:=up2 Lw1 LL hb
 refine zB rfl rfl (zF (zH (zC (dI rfl rfl (zB rfl rfl (zF (yX ?_)))))))
 refine lv1 ⟨rfl,trivial⟩ ?_
 subst hFz
 exact ⟨LL.b,_,rfl,qlimbs1_c B1 hL Bd BR (hb.less fun k c=>nW c) hr hy0 ht hrm hQ hrl hcap (fun c=>nM1 c) nd hmr hall hMs⟩
theorem lead_c {n:Nat} (h:n < 4294967296) (hM:OkM M w) :
    CallsV prog 375 [.int .u32 (n:Int)] w fun r w'=>Bel w.heap.size w w'∧r = .int .i64 (32 - (xU n:Int)):=by
 have hbw:=lG h
 refine ci M func375 ntmps375 fun Fz hFz hF LL=>?_
 refine zH (zC (zB rfl rfl (zF (zH (zC (zA rfl rfl (zX rfl (bo func235) rfl rfl ?_)))))))
 refine (len32_c (by omega) hM).mono ?_
 rintro v4 w1 ⟨hB4,rfl⟩
 replace LL:=ub1 hB4 LL
 refine jR rfl rfl rfl (by omega) (zB rfl rfl (zF (yX ?_)))
 refine lv1 ⟨rfl,trivial⟩ ?_
 subst hFz
 exact ⟨LL.b,rfl⟩
end
end Go.Proofs.YtalkinejknjidaaGreatDoor
namespace Go.SL
open Go.RowKit
def tz (x:Nat):Nat:=if h:x % 2=1 ∨ x=0 then 0 else tz (x / 2) + 1
termination_by x
decreasing_by omega
theorem fJ:∀ (x:Nat),x ≠ 0→x=2 ^ tz x * (x / 2 ^ tz x)∧(x / 2 ^ tz x) % 2=1:=by
 intro x
 induction x using Nat.strongRecOn with
 | _ x ih =>
  intro hx
  rw [tz]
  split
  ·rename_i h
   have:x % 2=1:=by omega
   simp [this]
  ·rename_i h
   obtain ⟨h1,h2⟩:=ih (x / 2) (by omega) (by omega)
   have e:x / 2 ^ (tz (x / 2) + 1)=x / 2 / 2 ^ tz (x / 2):=by rw [Nat.pow_succ,Nat.mul_comm,Nat.div_div_eq_div_mul]
   rw [e]
   refine ⟨?_,h2⟩
   rw [Nat.pow_succ,Nat.mul_right_comm,← h1]; omega
theorem oG {x n:Nat} (hx:x ≠ 0) (h:x < 2 ^ n):tz x < n:=by
 obtain ⟨h1,h2⟩:=fJ x hx
 have h3:2 ^ tz x≤x:=by
  conv=>rhs; rw [h1]
  exact Nat.le_mul_of_pos_right _ (Nat.pos_of_ne_zero fun c=>by rw [c] at h2; cases h2)
 exact (Nat.pow_lt_pow_iff_right (by omega)).1 (Nat.lt_of_le_of_lt h3 h)
theorem and_neg {k m n:Nat} (hn:k < n) (hx:2 ^ k * (2 * m + 1) < 2 ^ n):2 ^ k * (2 * m + 1) &&& (2 ^ n - 2 ^ k * (2 * m + 1))=2 ^ k:=by
 obtain ⟨q,rfl⟩:∃ q,n=k + (q + 1):=⟨n - k - 1,by omega⟩
 have hm:m < 2 ^ q:=by
  rw [Nat.pow_add,Nat.pow_succ] at hx
  have:=Nat.lt_of_mul_lt_mul_left hx
  omega
 have e1:2 ^ (k + (q + 1)) - 2 ^ k * (2 * m + 1)=2 ^ k * (2 * (2 ^ q - (m + 1)) + 1):=by
  rw [Nat.pow_add,← Nat.mul_sub,Nat.pow_succ]; congr 1; omega
 rw [e1]
 apply Nat.eq_of_testBit_eq
 intro i
 rw [Nat.testBit_and,Nat.testBit_two_pow_mul,Nat.testBit_two_pow_mul,Nat.testBit_two_pow]
 rcases Nat.lt_or_ge i k with hik | hik
 ·simp [Nat.not_le.2 hik]; omega
 ·obtain ⟨j,rfl⟩:∃ j,i=k + j:=⟨i - k,by omega⟩
  simp only [ge_iff_le,Nat.le_add_right,decide_true,Bool.true_and,Nat.add_sub_cancel_left]
  cases j with
  | zero=>simp [Nat.testBit_zero]
  | succ j =>
   have e2:∀ a,(2 * a + 1).testBit (j + 1)=a.testBit j:=fun a=>by rw [Nat.testBit_succ]; congr 1; omega
   rw [e2,e2,Nat.testBit_two_pow_sub_succ hm]
   have:¬ (k=k + (j + 1)):=by omega
   simp only [this,decide_false]
   cases m.testBit j <;> simp
theorem and_low_bit {x:Nat} (hx0:x ≠ 0) (hx:x < 2 ^ 64):x &&& (2 ^ 64 - x)=2 ^ tz x:=by
 obtain ⟨h1,h2⟩:=fJ x hx0
 have hk:=oG hx0 hx
 obtain ⟨m,hm⟩:∃ m,x / 2 ^ tz x=2 * m + 1:=⟨x / 2 ^ tz x / 2,by omega⟩
 rw [hm] at h1
 have h3:=and_neg (k:=tz x) (m:=m) (n:=64) hk (by rw [← h1]; exact hx)
 rw [← h1] at h3; exact h3
def tabL:List Nat:=[0,1,56,2,57,49,28,3,61,58,42,50,38,29,17,4,62,47,59,36,45,43,51,22,53,39,33,30,24,18,12,5,63,55,48,27,60,41,37,16,46,35,44,21,52,32,23,11,54,26,40,15,34,20,31,10,25,14,19,9,13,8,7,6]
def tabV:List Value:=tabL.map fun (x:Nat) => .int .u8 (x:Int)
theorem tab_all:∀ k,k < 64→tabL.getD (2 ^ k * 285870213051353865 % 18446744073709551616 / 288230376151711744) 0=k:=by decide +kernel
theorem yF6 {k:Nat}:2 ^ k * 285870213051353865 % 18446744073709551616 / 288230376151711744 < 64:=by omega
def Tab (M:Nat→Prop) (w:World):Prop:=¬ M 0∧Seg w 0 0 tabV
theorem Tab.cell {M:Nat→Prop} {w:World} (h:Tab M w) {j:Nat} (hj:j < 64):w.cell? ⟨0,j,none⟩=some (.int .u8 ((tabL.getD j 0:Nat):Int)):=by
 have:=h.2.cell (j:=j) (u:=.int .u8 ((tabL.getD j 0:Nat):Int)) (by
  unfold tabV
  rw [List.getElem?_map,List.getElem?_eq_getElem (show j < tabL.length from hj)]
  simp [List.getD_eq_getElem?_getD,List.getElem?_eq_getElem (show j < tabL.length from hj)])
 simpa using this
structure KBlk (M:Nat→Prop) (w:World) (b:Nat) (t:TypeId) (cs:List Value):Prop where
 blk:Blk w b t cs
 not:¬ M b
section ops
variable {P : Program} {r : Option Nat} {N : Nat} {all : Array Oper} {K : Pd} {D : List Deferred} {E : Env} {w : World} {rest : List Oper}
theorem ops_negu {d:Nat} {x:Operand} {t t':TypeId} {pos:String} {af:Array Edge} {a:Nat} (hd:Nat.blt d N=true) (hx:ev E x=some (.int .u64 (a:Int))) (ha:a < 18446744073709551616)
  (h:Ops P r N all K rest D ((d,.int .u64 (((18446744073709551616 - a) % 18446744073709551616:Nat):Int)) :: E) w):Ops P r N all K (⟨some d,.unOp .neg t x,t',pos,af,none⟩ :: rest) D E w :=
 zZ hd (by intro c hc; cases hc) (fun ac ha'=>by
  have:=dC 0 a (by omega)
  simp only [Nat.zero_add,Int.natCast_zero,Int.cast_ofNat_Int] at this
  simp only [execOp,ha'.ev hx,Op.unary,Op.intArith,this]; rfl) h
theorem cQ {d:Nat} {x y:Operand} {tx ty t:TypeId} {pos:String} {af:Array Edge} {a b:Nat} (hd:Nat.blt d N=true)
  (hx:ev E x=some (.int .u64 (a:Int))) (hy:ev E y=some (.int .u64 (b:Int)))
  (h:Ops P r N all K rest D ((d,.int .u64 ((a * b % 18446744073709551616:Nat):Int)) :: E) w):Ops P r N all K (⟨some d,.binOp .mul tx x y ty,t,pos,af,none⟩ :: rest) D E w :=
 qL hd (.inr (.inr rfl)) hx hy (by have:=aU (a * b); simpa using this) h
theorem ops_idxa {d:Nat} {x ix:Operand} {t e t':TypeId} {pos:String} {af:Array Edge} {n b o bytes:Nat} {z:Value} {k:IntKind} {i:Int} (j:Nat) (hd:Nat.blt d N=true)
  (ht:P.underlying t=some (.array n e)) (he:Sz P e 1 bytes z) (hn:Nat.ble n 1=false) (hx:ev E x=some (.pointer (some ⟨b,o,none⟩))) (hi:ev E ix=some (.int k i)) (hij:i=(j:Int)) (hj:j < n)
  (h:Ops P r N all K rest D ((d,.pointer (some ⟨b,o + j,none⟩)) :: E) w) :
  Ops P r N all K (⟨some d,.indexAddr t x ix,t',pos,af,none⟩ :: rest) D E w:=by
 refine zZ hd (by intro c hc; cases hc) (fun a ha=>?_) h
 have hn':¬ n≤1:=fun c=>by rw [Nat.ble_eq_true_of_le c] at hn; cases hn
 have e1:(Instr.indexAt t (.pointer (some ⟨b,o,none⟩)) (.int k i)).run P w = .ok (.pointer (some ⟨b,o + j,none⟩)) w:=by
  subst hij
  simp [Instr.indexAt,asIntOf,run_underlying ht,Result.andThen,jN he,hj,jE,Instr.sureAddr,hn']
 simp only [execOp,ha.ev hx,ha.ev hi,Sem.run_bind,e1,Result.andThen]; rfl
end ops
theorem rE (a b:Nat):(a ||| b) % 2=1 ↔ a % 2=1 ∨ b % 2=1:=by
 have h:=Nat.testBit_or a b 0
 simp only [Nat.testBit_zero] at h
 rcases Nat.mod_two_eq_zero_or_one a with h1 | h1 <;> rcases Nat.mod_two_eq_zero_or_one b with h2 | h2 <;> simp [h1,h2] at h ⊢ <;> omega
theorem zN2:∀ (k a b c:Nat),a ||| b=2 ^ k * c→∃ a1 b1,a=2 ^ k * a1∧b=2 ^ k * b1∧a1 ||| b1=c
 | 0,a,b,c,h=>⟨a,b,by simp,by simp,by simpa using h⟩
 | k + 1,a,b,c,h=>by
  have e:2 ^ (k + 1) * c=2 * (2 ^ k * c):=by rw [Nat.pow_succ]; rw [Nat.mul_comm (2 ^ k) 2,Nat.mul_assoc]
  rw [e] at h
  have hm:=rE a b
  rw [h] at hm
  have ha:a % 2=0:=by rcases Nat.mod_two_eq_zero_or_one a with h1 | h1; exact h1; have:=hm.2 (.inl h1); omega
  have hb:b % 2=0:=by rcases Nat.mod_two_eq_zero_or_one b with h1 | h1; exact h1; have:=hm.2 (.inr h1); omega
  have hh:a / 2 ||| b / 2=2 ^ k * c:=by
   have:=Nat.or_div_two (a:=a) (b:=b)
   rw [h] at this; omega
  obtain ⟨a1,b1,h1,h2,h3⟩:=zN2 k (a / 2) (b / 2) c hh
  refine ⟨a1,b1,?_,?_,h3⟩
  ·rw [Nat.pow_succ,Nat.mul_right_comm,← h1]; omega
  ·rw [Nat.pow_succ,Nat.mul_right_comm,← h2]; omega
theorem qN {a b k:Nat} (ha:a % 2=1):Nat.gcd a (2 ^ k * b)=Nat.gcd a b:=by
 have h:Nat.Coprime (2 ^ k) a:=Nat.Coprime.pow_left k (by
  show Nat.gcd 2 a=1
  rw [Nat.gcd_rec,ha]; rfl)
 exact Nat.Coprime.gcd_mul_left_cancel_right b h
theorem gcd_word {a b k A:Nat} (ha:a ≠ 0) (hk:k=tz (a ||| b)) (hA:A=a / 2 ^ tz a):Nat.gcd a b=2 ^ k * Nat.gcd A b∧A % 2=1:=by
  have hab:a ||| b ≠ 0:=fun c=>ha (by
    have h0:a≤a ||| b:=Nat.left_le_or; omega)
  obtain ⟨h1,h2⟩:=fJ _ hab
  rw [← hk] at h1 h2
  obtain ⟨a1,b1,e1,e2,e3⟩:=zN2 k a b _ h1
  obtain ⟨h3,h4⟩:=fJ a ha
  rw [← hA] at h3 h4
  refine ⟨?_,h4⟩
  rw [← e3] at h2
  have h5:=(rE a1 b1).1 h2
  have h6:Nat.gcd A b=Nat.gcd A b1:=by rw [e2,qN h4]
  rw [h6]
  have h7:Nat.gcd a b=2 ^ k * Nat.gcd a1 b1:=by rw [e1,e2,Nat.gcd_mul_left]
  rw [h7]
  congr 1
  -- a1 is A,times a power of two
  have hkt:2 ^ k * a1=2 ^ tz a * A:=by rw [← e1]; exact h3
  have hle:k≤tz a:=by
    rcases Nat.lt_or_ge (tz a) k with h | h
    · exfalso
      obtain ⟨q,rfl⟩:∃ q,k=tz a + (q + 1):=⟨k - tz a - 1,by omega⟩
      rw [Nat.pow_add,Nat.mul_assoc] at hkt
      have:=Nat.eq_of_mul_eq_mul_left (yO _) hkt
      rw [Nat.pow_succ] at this
      have e:2 ^ q * 2 * a1=2 * (2 ^ q * a1):=by rw [Nat.mul_right_comm,Nat.mul_comm]
      omega
    · exact h
  obtain ⟨i,hi⟩:∃ i,tz a=k + i:=⟨tz a - k,by omega⟩
  rw [hi,Nat.pow_add,Nat.mul_assoc] at hkt
  have ha1:=Nat.eq_of_mul_eq_mul_left (yO _) hkt
  rcases h5 with h5 | h5
  · cases i with
    | zero=>rw [ha1]; simp
    | succ i => rw [ha1, Nat.pow_succ] at h5
                have e:2 ^ i * 2 * A=2 * (2 ^ i * A):=by rw [Nat.mul_right_comm,Nat.mul_comm]
                omega
  · rw [ha1,Nat.gcd_comm,qN h5,Nat.gcd_comm]
end Go.SL
namespace Go.SL
open Go.RowKit
section strct2
variable {P : Program} {r : Option Nat} {N : Nat} {all : Array Oper} {K : Pd} {D : List Deferred} {E : Env} {w : World} {rest : List Oper}
theorem tJ {t:TypeId} {sz bytes:Nat} {z:Value} {b o:Nat} {us:List Value} (hf:Fold P t) (hz:Sz P t sz bytes z) (hu:∀ (j:Nat) (u:Value),us[j]? = some u→w.cell? ⟨b,o + j,none⟩=some u) (hl:us.length=sz) :
  (loadVar t ⟨b,o,none⟩).run P w = .ok (.agg us.toArray) w:=by
 have h1:=run_loadCells_list (P:=P) (w:=w) ⟨b,o,none⟩ us (fun j v hj=>by rw [jE]; exact hu j v hj)
 rw [hl] at h1
 simp [loadVar,hf w,jN hz,h1,Result.andThen]
theorem cR {d:Nat} {x:Operand} {t t':TypeId} {pos:String} {af:Array Edge} {sz bytes:Nat} {z:Value} {b o:Nat} {us:List Value} (hd:Nat.blt d N=true)
  (hf:Fold P t) (hz:Sz P t sz bytes z) (hx:ev E x=some (.pointer (some ⟨b,o,none⟩))) (hu:∀ (j:Nat) (u:Value),us[j]? = some u→w.cell? ⟨b,o + j,none⟩=some u) (hl:us.length=sz)
  (h:Ops P r N all K rest D ((d,.agg us.toArray) :: E) w):Ops P r N all K (⟨some d,.load t x,t',pos,af,none⟩ :: rest) D E w :=
 zZ hd (by intro c hc; cases hc) (fun a ha=>by
  have e1:(Instr.loadAt t (.pointer (some ⟨b,o,none⟩))).run P w = .ok (.agg us.toArray) w:=by
   simp [Instr.loadAt,Instr.sureAddr,tJ hf hz hu hl]
  simp only [execOp,ha.ev hx,Sem.run_bind,e1,Result.andThen]; rfl) h
theorem load_blks {t te:TypeId} {sz bytes:Nat} {z:Value} {b o:Nat} {cs us:List Value} (hf:Fold P t) (hz:Sz P t sz bytes z) (hb:Blk w b te cs) (hu:(cs.drop o).take sz=us) (hl:us.length=sz):(loadVar t ⟨b,o,none⟩).run P w = .ok (.agg us.toArray) w :=
 tJ hf hz (fun j u hj=>by
  rw [hb.cell]; rw [← hu,List.getElem?_take] at hj
  split at hj
  ·simpa using hj
  ·cases hj) hl
theorem rH {d:Nat} {x:Operand} {s t':TypeId} {pos:String} {af:Array Edge} {f:Nat} {fields:Array Field} {fd:Field} {us vs:List Value} {sz bytes:Nat} {z:Value} (hd:Nat.blt d N=true)
  (hs:P.underlying s=some (.struct fields)) (hf:fields[f]? = some fd) (hz:Sz P fd.type sz bytes z) (hx:ev E x=some (.agg us.toArray)) (hv:(us.drop fd.offset).take sz=vs) (hl:vs.length=sz)
  {v:Value} (hval:(Instr.field s (.agg us.toArray) f).run P w = .ok v w)
  (h:Ops P r N all K rest D ((d,v) :: E) w):Ops P r N all K (⟨some d,.field s x f,t',pos,af,none⟩ :: rest) D E w :=
 zZ hd (by intro c hc; cases hc) (fun ac ha=>by simp only [execOp,ha.ev hx,Sem.run_bind,hval,Result.andThen]; rfl) h
def updC:List Value→List (Nat × List Value)→List Value
 | arr,[]=>arr
 | arr,(o,c) :: r=>updC (arr.take o ++ c ++ arr.drop (o + c.length)) r
theorem zP5 {places:List (Nat × Nat)}:∀ (parts:List (Nat × Value)) (us:List (Nat × List Value)) (arr:List Value),parts.length=us.length →
  (∀ (i:Nat) (p:Nat × Value) (u:Nat × List Value),parts[i]? = some p→us[i]? = some u→p.2.cells=u.2.toArray∧places[p.1]? = some (u.1,u.2.length)∧u.1 + u.2.length≤arr.length) →
  Instr.fill (places.toArray[·]?) arr.toArray parts=some (updC arr us).toArray
 | [],[],arr,_,_=>by simp [Instr.fill,updC]
 | [],_ :: _,_,h,_=>by simp at h
 | _ :: _,[],_,h,_=>by simp at h
 | (i,v) :: parts,(o,c) :: us,arr,hl,hp=>by
  obtain ⟨h1,h2,h3⟩:=hp 0 (i,v) (o,c) rfl rfl
  simp only at h1 h2 h3
  have ih:=zP5 (places:=places) parts us (arr.take o ++ c ++ arr.drop (o + c.length)) (by simpa using hl) (fun j p u hj hu=>by
   obtain ⟨k1,k2,k3⟩:=hp (j + 1) p u (by simpa using hj) (by simpa using hu)
   exact ⟨k1,k2,by simp; omega⟩)
  simp only [Instr.fill]
  have e0:places.toArray[i]? = some (o,c.length):=by simpa using h2
  simp only [e0]
  rw [if_neg (by rw [h1]; simp; omega)]
  have e:(v.cells.zipIdx.foldl (fun (cs:Array Value) (x:Value × Nat)=>cs.setIfInBounds (o + x.2) x.1) arr.toArray)=(arr.take o ++ c ++ arr.drop (o + c.length)).toArray:=by
   rw [h1]
   have:=mR c arr o 0 (by omega)
   have e4:c.toArray.zipIdx=(c.zipIdx 0).toArray:=by simp
   rw [e4,List.foldl_toArray,this]
   simp
  rw [e,ih,updC]
theorem iW {d:Nat} {t t':TypeId} {pos:String} {af:Array Edge} {szs:List Nat} {parts:Array (Nat × Operand)} {vs:List Value} {cs:List (List Value)} {zs:List Value} {sz bytes:Nat} (hd:Nat.blt d N=true)
  (ht:Plc P t szs) (hz:Sz P t sz bytes (.agg zs.toArray)) (hx:evs E (parts.toList.map (·.2))=some vs) (hc:Cls vs cs)
  (hok:(((parts.toList.map (·.1)).zip (cs.map List.length)).all (fun p=>decide (p.1 < szs.length) && Nat.beq (szs.getD p.1 0) p.2 && Nat.ble ((szs.take p.1).sum + p.2) zs.length))=true) (hlen:parts.size=cs.length)
  (h:Ops P r N all K rest D ((d,.agg (updC zs (((parts.toList.map (·.1)).map fun i=>(szs.take i).sum).zip cs)).toArray) :: E) w):Ops P r N all K (⟨some d,.build t parts,t',pos,af,none⟩ :: rest) D E w:=by
 refine zZ hd (by intro c hc; cases hc) (fun a ha=>?_) h
 obtain ⟨fields,it,z,places,p1,p2,p3,p4,p5,p6⟩:=ht
 obtain ⟨it',q1,q2,q3,q4⟩:=hz
 have hit:it=it':=by rw [q1] at p2; exact (Option.some.inj p2).symm
 subst hit
 have hzz:z = .agg zs.toArray:=by rw [q4] at p3; exact (Option.some.inj p3).symm
 subst hzz
 have hcl:∀ (vs:List Value) (cs:List (List Value)),Cls vs cs→∀ (i:Nat) (v:Value) (c:List Value),vs[i]? = some v→cs[i]? = some c→v.cells=c.toArray:=by
  intro vs
  induction vs with
  | nil=>intro cs h i v c hv; simp at hv
  | cons v vs ih =>
   intro cs h i v' c hv hc
   cases cs with
   | nil=>exact h.elim
   | cons c0 cs =>
    cases i with
    | zero=>simp at hv hc; subst hv; subst hc; exact h.1
    | succ i=>exact ih cs h.2 i v' c (by simpa using hv) (by simpa using hc)
 have hf:=zP5 (places:=places) (parts.toList.map fun x=>(x.1,a.eval x.2)) (((parts.toList.map (·.1)).map fun i=>(szs.take i).sum).zip cs) zs (by simp; have:=hlen; omega) (fun i p u hp hu=>by
  have h3:=ha.evs hx
  rw [List.getElem?_map] at hp
  cases hpi:parts.toList[i]? with
  | none=>rw [hpi] at hp; cases hp
  | some q =>
   rw [hpi] at hp; simp at hp; subst hp
   rw [List.getElem?_zip_eq_some] at hu
   obtain ⟨hu1,hu2⟩:=hu
   simp [hpi] at hu1
   have hv:vs[i]? = some (a.eval q.2):=by rw [← h3]; simp [hpi]
   have hcell:=hcl vs cs hc i _ _ hv hu2
   rw [List.all_eq_true] at hok
   have hk:=hok (q.1,u.2.length) (by
    rw [List.mem_iff_getElem?]
    refine ⟨i,?_⟩
    rw [List.getElem?_zip_eq_some]; simp [hpi,hu2])
   simp only [Bool.and_eq_true,decide_eq_true_eq,Nat.ble_eq] at hk
   obtain ⟨⟨hk1,hk2⟩,hk3⟩:=hk
   have hk2:=Nat.eq_of_beq_eq_true hk2
   refine ⟨hcell,?_,by rw [← hu1]; exact hk3⟩
   rw [p6 q.1 hk1,← hu1,hk2])
 have e1:(Instr.build t (parts.map fun (i,x)=>(i,a.eval x))).run P w = .ok (.agg (updC zs (((parts.toList.map (·.1)).map fun i=>(szs.take i).sum).zip cs)).toArray) w:=by
  refine run_build (P:=P) w t _ _ ?_
  unfold Program.built
  rw [p2,p1]
  simp only [p3,p5]
  rw [Array.toList_map]
  exact hf
 simp only [execOp,Sem.run_bind,e1,Result.andThen]; rfl
end strct2
theorem allc {u:Value} {us:List Value} (h:u.oneCell'=true) (k:∀ v ∈ us,v.oneCell'=true):∀ v ∈ u :: us,v.oneCell'=true:=fun v hv=>by
 rcases List.mem_cons.1 hv with rfl | hv
 ·exact h
 ·exact k v hv
theorem alln:∀ v ∈ ([]:List Value),v.oneCell'=true:=fun v hv=>by cases hv
theorem agg_cells (us:List Value):(Value.agg us.toArray).cells.toList=us:=rfl
abbrev RelV (α:Type):=(Nat→Prop)→World→α→List Value→Prop
def wA {α:Type} (R:RelV α) (sz:Nat) (M:Nat→Prop) (w:World) (v:Value) (l:List α):Prop :=
 ∃ cs,Slc M w sz v l.length cs∧∀ (i:Nat) (a:α),l[i]? = some a→∃ us:List Value,us.length=sz∧(∀ (q:Nat) (u:Value),us[q]? = some u→cs[i * sz + q]? = some u)∧R M w a us
theorem zU {α:Type} {l:List α} {s:Nat} (d:α) (h:s < l.length):l.take (s + 1)=l.take s ++ [l.getD s d]∧l=l.take s ++ l.getD s d :: l.drop (s + 1):=by
 have e:l.getD s d=l[s]:=by simp [h]
 rw [e]
 exact ⟨by rw [List.take_add_one,List.getElem?_eq_getElem h]; rfl,by rw [List.getElem_cons_drop,List.take_append_drop]⟩
section rows
variable {P : Program} {r : Option Nat} {N : Nat} {all : Array Oper} {K : Pd} {D : List Deferred} {E : Env} {w : World} {rest : List Oper} {M : Nat → Prop}
end rows
theorem sE {pl:Nat→Option (Nat × Nat)} {sz:Nat} (hpl:∀ i,pl i=some (i * sz,sz)):∀ (vs:List Value) (cs:List (List Value)) (pre old:List Value) (k:Nat),Cls vs cs→(∀ c ∈ cs,c.length=sz)→pre.length=k * sz→old.length=cs.length * sz →
  Instr.fill pl (pre ++ old).toArray ((vs.zipIdx k).map fun x=>(x.2,x.1))=some (pre ++ cs.flatten).toArray
 | [],[],pre,old,k,_,_,_,ho=>by
  have:old=[]:=by simpa using ho
  subst this; simp [Instr.fill]
 | [],_ :: _,_,_,_,h,_,_,_=>h.elim
 | _ :: _,[],_,_,_,h,_,_,_=>h.elim
 | v :: vs,c :: cs,pre,old,k,⟨h1,h2⟩,hs,hp,ho=>by
  have hcl:=hs c (by simp)
  simp only [List.length_cons,Nat.add_mul,Nat.one_mul] at ho
  have ih:=sE hpl vs cs (pre ++ c) (old.drop c.length) (k + 1) h2 (fun c hc=>hs c (by simp [hc])) (by rw [List.length_append,hp,hcl,Nat.add_mul,Nat.one_mul]) (by simp; omega)
  simp only [List.zipIdx_cons,List.map_cons,Instr.fill,hpl k]
  rw [if_neg (by rw [h1]; simp; omega)]
  have e:(v.cells.zipIdx.foldl (fun (cs:Array Value) (x:Value × Nat)=>cs.setIfInBounds (k * sz + x.2) x.1) (pre ++ old).toArray)=(pre ++ c ++ old.drop c.length).toArray:=by
   rw [h1]
   have:=mR c (pre ++ old) pre.length 0 (by simp; omega)
   have e4:c.toArray.zipIdx=(c.zipIdx 0).toArray:=by simp
   rw [e4,List.foldl_toArray,← hp,this]
   simp [List.drop_append]
  rw [e,ih]; simp
theorem kZ {P:Program} {r:Option Nat} {N:Nat} {all:Array Oper} {K:Pd} {D:List Deferred} {E:Env} {w:World} {rest:List Oper} {d:Nat} {t e t':TypeId} {pos:String} {af:Array Edge} {sz bytes:Nat} {z:Value} {len:Nat} {parts:Array (Nat × Operand)} {vs:List Value} {cs:List (List Value)} (hd:Nat.blt d N=true)
  (ht:P.underlying t=some (.slice e)) (he:Sz P e sz bytes z) (hz:z.cells.size=sz) (hs0:Nat.beq sz 0=false) (hi:parts.toList.map (·.1)=List.range len) (hx:evs E (parts.toList.map (·.2))=some vs) (hc:Cls vs cs) (hcs:(cs.all fun c=>Nat.beq c.length sz)=true) (hl:Nat.ble (len * sz) 1000=true) (h0:Nat.beq len 0=false)
  (h:∀ w' b,New w w' b (.cells cs.flatten.toArray e)→Ops P r N all K rest D ((d,.slice (some ⟨b,0,none⟩) len len) :: E) w') :
  Ops P r N all K (⟨some d,.buildSlice t len parts,t',pos,af,none⟩ :: rest) D E w:=by
 refine zZ hd (by intro c hc; cases hc) (fun a ha=>?_) (h _ _ (New.of_alloc w (.cells cs.flatten.toArray e)))
 have hsz0:sz ≠ 0:=Nat.ne_of_beq_eq_false hs0
 have hl0:len ≠ 0:=Nat.ne_of_beq_eq_false h0
 have hlen:∀ (vs:List Value) (cs:List (List Value)),Cls vs cs→vs.length=cs.length:=by
  intro vs
  induction vs with
  | nil=>intro cs h; cases cs with
   | nil=>rfl
   | cons=>exact h.elim
  | cons v vs ih=>intro cs h; cases cs with
   | nil=>exact h.elim
   | cons c cs=>simp [ih cs h.2]
 have hvl:vs.length=len:=by
  have:=congrArg List.length (ha.evs hx)
  have h2:=congrArg List.length hi
  simp at this h2; omega
 have hll:len * sz≤1000:=by simpa [Nat.ble_eq] using hl
 have hparts:parts.toList.map (fun x=>(x.1,a.eval x.2))=vs.zipIdx.map fun x=>(x.2,x.1):=by
  have h3:=ha.evs hx
  apply List.ext_getElem
  ·have h2:=congrArg List.length hi; simp at h2; simp; omega
  ·intro n hn1 hn2
   simp at hn1 hn2
   have e1:(parts.toList.map (·.1))[n]'(by simpa using hn1)=n:=by simp [hi]
   have e2:((parts.toList.map (·.2)).map a.eval)[n]'(by simpa using hn1)=vs[n]'(by omega):=by simp [h3]
   simp at e1 e2
   simp [e1,e2]
 obtain ⟨q,q1,q2,q3,q4⟩:=he
 have hf:=sE (pl:=fun i=>some (i * sz,sz)) (sz:=sz) (fun _=>rfl) vs cs [] (((Array.range (len * sz)).map fun x=>z.cells[x % z.cells.size]!).toList) 0 hc (fun c hc=>by
  rw [List.all_eq_true] at hcs
  exact Nat.eq_of_beq_eq_true (hcs c hc)) (by simp) (by have:=hlen _ _ hc; simp; rw [← this,hvl])
 simp only [List.nil_append,Array.toArray_toList] at hf
 have e1:(Instr.buildSlice t len (parts.map fun (i,x)=>(i,a.eval x))).run P w = .ok (.slice (some ⟨w.heap.size,0,none⟩) len len) (w.alloc (.cells cs.flatten.toArray e)):=by
  unfold Instr.buildSlice
  have hlt:¬ (16777216 < len * sz):=by omega
  have hne:¬ (len * sz=0):=Nat.mul_ne_zero hl0 hsz0
  have hne2:¬ (len=0 ∨ sz=0):=by omega
  simp [run_underlying ht,sizeOf,typeInfo,q1,q2,newRow,hparts,hne,hne2,hlt,zeroValue,q4]
  rw [hf]
  simp
 simp only [execOp,Sem.run_bind,e1,Result.andThen]; rfl
end Go.SL
namespace Go.SL
open Go.RowKit
theorem grow_of {W w':World} (h:Bel W.heap.size W w'):∃ q os',w'=Sort.grow (W.drewN q) os':=by
 refine ⟨w'.drawn - W.drawn,w'.heap.extract W.heap.size w'.heap.size,?_⟩
 obtain ⟨h1,⟨h2,h3⟩,h4,h5,h6⟩:=h
 obtain ⟨hp,tp,dr,os,out⟩:=w'
 obtain ⟨hp0,tp0,dr0,os0,out0⟩:=W
 simp only [Sort.grow,World.drewN] at *
 subst h1; subst h2; subst h4
 congr 1
 ·apply Array.ext
  ·simp; omega
  ·intro i hi1 hi2
   rcases Nat.lt_or_ge i hp0.size with c | c
   ·have h7:=h6 i c
    rw [Array.getElem?_eq_getElem hi1,Array.getElem?_eq_getElem c] at h7
    rw [Array.getElem_append_left c]
    exact Option.some.inj h7
   ·rw [Array.getElem_append_right c]
    simp [show hp0.size + (i - hp0.size)=i by omega]
 ·omega
end Go.SL
namespace Go.SL
open Go.RowKit Go.Shelf Go.Proofs Go.Sort
section
variable {α : Type} [Inhabited α] {enc : α → List Value} {k : Nat} {w : World} {blk off m : Nat} {dk : Array α} {os : Array Obj}
theorem oK {i:Nat} (hi:i < w.heap.size) (hne:i ≠ blk):(sortWorldK enc k w blk off m dk os).heap[i]? = w.heap[i]?:=by
 show ((w.heap.modify blk _) ++ os)[i]? = _
 rw [Array.getElem?_append_left (by simpa using hi),Array.getElem?_modify,if_neg (fun e=>hne e.symm)]
theorem pQ:w.heap.size≤(sortWorldK enc k w blk off m dk os).heap.size:=by
 show _≤((w.heap.modify blk _) ++ os).size
 simp
theorem yA0 {Fz M:Nat→Prop} (hm:M blk) (hf:¬ Fz blk):Le Fz M w M (sortWorldK enc k w blk off m dk os) :=
 ⟨rfl,⟨rfl,Nat.le_add_right _ _⟩,rfl,pQ,fun i hi hF=>oK hi (fun e=>hf (e ▸ hF)),fun i hi hM=>oK hi (fun e=>hM (e ▸ hm)),fun _ h => .inl h,fun ho i hi=>Nat.lt_of_lt_of_le (ho i hi) pQ⟩
theorem cmp_lays {P:Program} {g:Nat} {cf:α→α→Int} {size:Nat}
  (hc:∀ (m:Nat) (os:Array Obj) (dk:Array α) (x y:α),CallsV P g [.agg (enc x).toArray,.agg (enc y).toArray] (sortWorldK enc k w blk off m dk os) fun r w'=>Bel (sortWorldK enc k w blk off m dk os).heap.size (sortWorldK enc k w blk off m dk os) w'∧r = .int .i64 (cf x y)) :
  CmpLays P g #[] enc k cf blk off size w:=fun m os dk _ x y =>
 Calls.mono (hc m os dk x y) fun e w' ⟨v,he,hB,hv⟩=>⟨by rw [he,hv],grow_of hB⟩
end
end Go.SL
namespace Go.Proofs
open Go.Shelf
def Tryz.sortPt_ren:Go.Shelf.Ren:=⟨fun | 6=>275 | 15=>162 | 14=>320 | 28=>235 | 29=>236 | 20=>348 | 21=>349 | 22=>350 | 23=>351 | 24=>352 | 25=>353 | 26=>354 | 27=>355 | 46=>370 | 47=>293 | 48=>294 | 49=>371 | 50=>372 | 57=>379 | n=>n,fun | 22=>22 | 24=>39 | 25=>119 | 3=>3 | 39=>195 | 0=>0 | 53=>155 | 55=>196 | 4=>4 | 46=>243 | 45=>242 | 50=>110 | 5=>5 | 9=>9 | 66=>291 | 70=>295 | 76=>321 | 77=>322 | n=>n,fun | n=>n⟩
def Tryz.sortLevel_ren:Go.Shelf.Ren:=⟨fun | 6=>84 | 15=>162 | 14=>161 | 28=>235 | 29=>236 | 20=>227 | 21=>228 | 22=>229 | 23=>230 | 24=>231 | 25=>232 | 26=>233 | 27=>234 | 46=>292 | 47=>293 | 48=>294 | 49=>295 | 50=>296 | 57=>337 | n=>n,fun | 22=>49 | 24=>55 | 25=>126 | 3=>3 | 39=>195 | 0=>0 | 53=>155 | 55=>196 | 4=>4 | 46=>243 | 45=>242 | 50=>110 | 5=>5 | 9=>9 | 66=>291 | 70=>295 | 76=>321 | 77=>322 | n=>n,fun | n=>n⟩
theorem Tryz.sortLevel:Go.Proofs.SlLaysF0.n6 Tryz.prog Tryz.sortLevel_ren:={
 mixed:=by kernel_rfl
 f6:=⟨Tryz.f84.name,by decide,Tryz.func84.trans (congrArg some (by kernel_rfl))⟩
 f14:=⟨Tryz.f161.name,by decide,Tryz.func161.trans (congrArg some (by kernel_rfl))⟩
 f15:=Tryz.func162.trans (congrArg some (by kernel_rfl))
 f20:=⟨Tryz.f227.name,by decide,Tryz.func227.trans (congrArg some (by kernel_rfl))⟩
 f21:=⟨Tryz.f228.name,by decide,Tryz.func228.trans (congrArg some (by kernel_rfl))⟩
 f22:=⟨Tryz.f229.name,by decide,Tryz.func229.trans (congrArg some (by kernel_rfl))⟩
 f23:=⟨Tryz.f230.name,by decide,Tryz.func230.trans (congrArg some (by kernel_rfl))⟩
 f24:=⟨Tryz.f231.name,by decide,Tryz.func231.trans (congrArg some (by kernel_rfl))⟩
 f25:=⟨Tryz.f232.name,by decide,Tryz.func232.trans (congrArg some (by kernel_rfl))⟩
 f26:=⟨Tryz.f233.name,by decide,Tryz.func233.trans (congrArg some (by kernel_rfl))⟩
 f27:=⟨Tryz.f234.name,by decide,Tryz.func234.trans (congrArg some (by kernel_rfl))⟩
 f28:=Tryz.func235.trans (congrArg some (by kernel_rfl))
 f29:=Tryz.func236.trans (congrArg some (by kernel_rfl))
 f46:=⟨Tryz.f292.name,by decide,Tryz.func292.trans (congrArg some (by kernel_rfl))⟩
 f47:=Tryz.func293.trans (congrArg some (by kernel_rfl))
 f48:=Tryz.func294.trans (congrArg some (by kernel_rfl))
 f49:=⟨Tryz.f295.name,by decide,Tryz.func295.trans (congrArg some (by kernel_rfl))⟩
 f50:=⟨Tryz.f296.name,by decide,Tryz.func296.trans (congrArg some (by kernel_rfl))⟩
 f57:=⟨Tryz.f337.name,by decide,Tryz.func337.trans (congrArg some (by kernel_rfl))⟩
 t0:=Tryz.underlying0
 a0:=Tryz.isAgg0
 z0:=Tryz.sizeOf0
 v0:=Tryz.zeroValue0
 t3:=Tryz.underlying3
 a3:=Tryz.isAgg3
 z3:=Tryz.sizeOf3
 v3:=Tryz.zeroValue3
 t4:=Tryz.underlying4
 a4:=Tryz.isAgg4
 z4:=Tryz.sizeOf4
 v4:=Tryz.zeroValue4
 t5:=Tryz.underlying5
 a5:=Tryz.isAgg5
 z5:=Tryz.sizeOf5
 v5:=Tryz.zeroValue5
 t9:=Tryz.underlying9
 a9:=Tryz.isAgg9
 z9:=Tryz.sizeOf9
 v9:=Tryz.zeroValue9
 t22:=Tryz.underlying49
 a22:=Tryz.isAgg49
 z22:=Tryz.sizeOf49
 v22:=Tryz.zeroValue49
 t25:=Tryz.underlying126
 a25:=Tryz.isAgg126
 z25:=Tryz.sizeOf126
 v25:=Tryz.zeroValue126
 t39:=Tryz.underlying195
 a39:=Tryz.isAgg195
 z39:=Tryz.sizeOf195
 v39:=Tryz.zeroValue195
 t45:=Tryz.underlying242
 a45:=Tryz.isAgg242
 z45:=Tryz.sizeOf242
 v45:=Tryz.zeroValue242
 t46:=Tryz.underlying243
 a46:=Tryz.isAgg243
 z46:=Tryz.sizeOf243
 v46:=Tryz.zeroValue243
 t50:=Tryz.underlying110
 a50:=Tryz.isAgg110
 z50:=Tryz.sizeOf110
 v50:=Tryz.zeroValue110
 t53:=Tryz.underlying155
 a53:=Tryz.isAgg155
 z53:=Tryz.sizeOf155
 v53:=Tryz.zeroValue155
 t55:=Tryz.underlying196
 a55:=Tryz.isAgg196
 z55:=Tryz.sizeOf196
 v55:=Tryz.zeroValue196
 t66:=Tryz.underlying291
 a66:=Tryz.isAgg291
 z66:=Tryz.sizeOf291
 v66:=Tryz.zeroValue291
 t70:=Tryz.underlying295
 a70:=Tryz.isAgg295
 z70:=Tryz.sizeOf295
 v70:=Tryz.zeroValue295
 t76:=Tryz.underlying321
 a76:=Tryz.isAgg321
 z76:=Tryz.sizeOf321
 v76:=Tryz.zeroValue321
 t77:=Tryz.underlying322
 a77:=Tryz.isAgg322
 z77:=Tryz.sizeOf322
 v77:=Tryz.zeroValue322 }
end Go.Proofs
namespace Go.SL
open Go.RowKit Go.Shelf Go.Proofs Go.Sort
section
variable {α : Type} [Inhabited α] {enc : α → List Value} {k : Nat} {P : Program} {ρ : Ren}
theorem sort_calls (L:SlLaysF0.n6 P ρ) (aE:∀ w,(isAgg (ρ.t 24)).run P w = .ok true w) (zE:∀ w,(Go.sizeOf (ρ.t 24)).run P w = .ok k w) (hk:∀ x,(enc x).length=k) (h1:∀ x,∀ v ∈ enc x,v.oneCell'=true)
  (cf:α→α→Int) (hO:SWO (ltOf cf)) (g blk off cap:Nat) (d:Array α) (w:World) (eg:∀ args w,(callFunc g args).run P w = .ok (.enter g args) w)
  (hc:∀ (m:Nat) (os:Array Obj) (dk:Array α) (x y:α),CallsV P g [.agg (enc x).toArray,.agg (enc y).toArray] (sortWorldK enc k w blk off m dk os) fun r w'=>Bel (sortWorldK enc k w blk off m dk os).heap.size (sortWorldK enc k w blk off m dk os) w'∧r = .int .i64 (cf x y))
  (hH:HoldsK enc k w blk off d) (hblk:blk < w.heap.size) (hsz:d.size < 4611686018427387904) :
  Calls P (ρ.f 6) #[.slice (some ⟨blk,off,none⟩) d.size cap,.func (.func g) #[] #[]] w fun e w' =>
   e = .returned (.tuple #[])∧∃ d' n os,PermIn 0 d.size d d'∧SortedIn (ltOf cf) 0 d.size d'∧HoldsK enc k w' blk off d'∧w'=sortWorldK enc k w blk off n d' os :=
 (AnyQ.slices_SortFunc L k aE zE enc hk h1 cf hO g #[] blk off cap d w eg (cmp_lays hc) hH hblk hsz).mono fun e w' ⟨he,d',n,os,hp,hs,hw⟩ =>
  ⟨he,d',n,os,hp,hs,hw ▸ holdsK_sortWorldK_c enc k w blk off d d' n os hH hblk hp.1,hw⟩
end
structure EB {α:Type} (R:RelV α) (k:Nat) (M:Nat→Prop) (w:World) (cur:List Value) (l:List α):Prop where
 len:l.length * k≤cur.length
 at_:∀ (i:Nat) (a:α),l[i]? = some a→∃ us:List Value,us.length=k∧(∀ (q:Nat) (u:Value),us[q]? = some u→cur[i * k + q]? = some u)∧R M w a us
theorem mul_in {i n k:Nat} (h:i < n):i * k + k≤n * k:=by
 have:=Nat.mul_le_mul_right k (show i + 1≤n from h)
 rwa [Nat.add_mul,Nat.one_mul] at this
section
variable {β : Type} [Inhabited β] {P : Program} {ρ : Ren} {R : RelV β} {cf : β → β → Int} {k g b cap : Nat} {te : TypeId} {Fz M : Nat → Prop} {w : World} {cur : List Value} {l : List β}
theorem sort_row (L:SlLaysF0.n6 P ρ) (aE:∀ w,(isAgg (ρ.t 24)).run P w = .ok true w) (zE:∀ w,(Go.sizeOf (ρ.t 24)).run P w = .ok k w) (eg:∀ args w,(callFunc g args).run P w = .ok (.enter g args) w)
    (hO:SWO (ltOf cf)) (h1:∀ a us,R M w a us→∀ v ∈ us,v.oneCell'=true) (hm:M b) (hf:¬ Fz b)
    (hR:∀ W,Le Fz M w M W→∀ a us,R M w a us→R M W a us)
    (hc:∀ W,Le Fz M w M W→∀ x y us vs,R M W x us→R M W y vs→CallsV P g [.agg us.toArray,.agg vs.toArray] W fun r w'=>Bel W.heap.size W w'∧r = .int .i64 (cf x y))
    (hb:Blk w b te cur) (hE:EB R k M w cur l) (hne:0 < l.length) (hsz:l.length < 4611686018427387904) :
    Calls P (ρ.f 6) #[.slice (some ⟨b,0,none⟩) l.length cap,.func (.func g) #[] #[]] w fun e w' =>
      e = .returned (.tuple #[])∧∃ (cur':List Value) (l':List β),l'.Perm l∧(∀ i j,i < j→j < l'.length→¬ cf l'[j]! l'[i]! < 0)∧cur'.length=cur.length∧Blk w' b te cur'∧EB R k M w' cur' l'∧Le Fz M w M w':=by
  have h0:∀ i,∃ us:List Value,∀ a,l[i]? = some a→us.length=k∧(∀ (q:Nat) (u:Value),us[q]? = some u→cur[i * k + q]? = some u)∧R M w a us:=fun i=>by
    cases hi:l[i]? with
    | none=>exact ⟨[],fun a h=>by cases h⟩
    | some a=>obtain ⟨us,h⟩:=hE.at_ i a hi; exact ⟨us,fun a' e=>by cases e; exact h⟩
  obtain ⟨U,hU⟩:=Classical.axiomOfChoice h0
  have hg:∀ i:_root_.Fin l.length,l[i.val]? = some l[i]:=fun i=>List.getElem?_eq_getElem i.isLt
  let S:={ x:List Value × β // x.1.length=k∧(∀ v ∈ x.1,v.oneCell'=true)∧R M w x.2 x.1 }
  let d:Array S:=Array.ofFn fun i:_root_.Fin l.length=>⟨(U i,l[i]),(hU i _ (hg i)).1,h1 _ _ (hU i _ (hg i)).2.2,(hU i _ (hg i)).2.2⟩
  let enc:S→List Value:=fun x=>x.1.1
  have hds:d.size=l.length:=Array.size_ofFn
  haveI:Inhabited S:=⟨d[0]'(by omega)⟩
  have hd:∀ i (hi:i < l.length),d[i]! = ⟨(U i,l[i]),(hU i _ (hg ⟨i,hi⟩)).1,h1 _ _ (hU i _ (hg ⟨i,hi⟩)).2.2,(hU i _ (hg ⟨i,hi⟩)).2.2⟩:=fun i hi=>by
    rw [getElem!_pos d i (by omega)]; simp [d]
  have hH:HoldsK enc k w b 0 d:=fun j hj=>by
    rw [size_flatK,hds] at hj
    have k0:0 < k:=by
      rcases Nat.eq_zero_or_pos k with h | h
      · subst h; simp at hj
      · exact h
    have hi:j / k < l.length:=Nat.div_lt_of_lt_mul (by rw [Nat.mul_comm]; exact hj)
    obtain ⟨g1,g2,_⟩:=hU (j / k) _ (hg ⟨j / k,hi⟩)
    rw [get_flatK _ _ _ _ (by rw [hds]; exact hj),hd _ hi,Nat.zero_add]
    have hr:j % k < (U (j / k)).length:=by rw [g1]; exact Nat.mod_lt _ k0
    have g3:=g2 (j % k) _ (List.getElem?_eq_getElem hr)
    rw [show j / k * k + j % k=j by rw [Nat.mul_comm]; exact Nat.div_add_mod j k] at g3
    refine ⟨?_,by simp [World.frozen?,show w.heap[b]? = _ from hb]⟩
    rw [hb.cell,g3]
    simp [enc,getElem!_pos (U (j / k)) (j % k) hr]
  have hO':SWO (ltOf fun x y:S=>cf x.1.2 y.1.2):=⟨fun x=>hO.irrefl x.1.2,fun x y z=>hO.trans x.1.2 y.1.2 z.1.2,fun x y z=>hO.ntrans x.1.2 y.1.2 z.1.2⟩
  have hs:=sort_calls L aE zE (enc:=enc) (fun x=>x.2.1) (fun x=>x.2.2.1) (fun x y=>cf x.1.2 y.1.2) hO' g b 0 cap d w eg
    (fun m os dk x y=>by
      have hle:=yA0 (enc:=enc) (k:=k) (w:=w) (off:=0) (m:=m) (dk:=dk) (os:=os) (Fz:=Fz) hm hf
      exact hc _ hle _ _ _ _ (hR _ hle _ _ x.2.2.2) (hR _ hle _ _ y.2.2.2)) hH hb.lt (by omega)
  rw [hds] at hs
  refine hs.mono fun e w' ⟨he,d',n,os,hp,hso,hH',hw⟩=>⟨he,?_⟩
  have hle:Le Fz M w M w':=hw ▸ yA0 (Fz:=Fz) (M:=M) hm hf
  have hds':d'.size=l.length:=by have:=hp.1; omega
  have hbk:w'.heap[b]? = some (.cells (putCells id 0 (flatK enc k d') cur.toArray) te (0,0)):=by
    rw [hw]
    show ((w.heap.modify b _) ++ os)[b]? = _
    rw [Array.getElem?_append_left (by simpa using hb.lt),Array.getElem?_modify,if_pos rfl,show w.heap[b]? = _ from hb]; rfl
  have hgd:∀ i (hi:i < l.length),(d'.toList.map fun x=>x.1.2)[i]? = some d'[i]!.1.2:=fun i hi=>by
    rw [List.getElem?_map,Array.getElem?_toList,Array.getElem?_eq_getElem (by omega),getElem!_pos d' i (by omega)]; rfl
  refine ⟨(putCells id 0 (flatK enc k d') cur.toArray).toList,d'.toList.map fun x=>x.1.2,?_,?_,?_,?_,⟨?_,?_⟩,hle⟩
  · have h3:=(hp.2.2.map fun x=>x.1.2)
    rw [show d'.extract 0 l.length=d' by rw [← hds']; exact Array.extract_size,show d.extract 0 l.length=d by rw [← hds]; exact Array.extract_size] at h3
    refine h3.trans (List.Perm.of_eq ?_)
    apply List.ext_getElem?
    intro i
    rw [List.getElem?_map,Array.getElem?_toList]
    rcases Nat.lt_or_ge i l.length with c | c
    · rw [Array.getElem?_eq_getElem (by omega),List.getElem?_eq_getElem c]; simp [d]
    · rw [Array.getElem?_eq_none (by omega),List.getElem?_eq_none c]; rfl
  · intro i j hij hj
    rw [List.length_map,Array.length_toList,hds'] at hj
    have h4:=hso i j (Nat.zero_le _) hij hj
    rw [List.getElem!_eq_getElem?_getD,List.getElem!_eq_getElem?_getD,hgd i (by omega),hgd j hj]
    simpa [ltOf] using h4
  · simp [putCells]
  · show w'.heap[b]? = _
    rw [hbk]
  · simp [putCells,hds']; exact hE.len
  · intro i a ha
    have hi:i < l.length:=by
      have:=(List.getElem?_eq_some_iff.1 ha).1
      rwa [List.length_map,Array.length_toList,hds'] at this
    rw [hgd i hi] at ha
    obtain rfl:=Option.some.inj ha
    refine ⟨d'[i]!.1.1,d'[i]!.2.1,fun q u hq=>?_,hR _ hle _ _ d'[i]!.2.2.2⟩
    have hq':q < k:=by have:=(List.getElem?_eq_some_iff.1 hq).1; rw [d'[i]!.2.1] at this; exact this
    have h5:=(hH'.cell (i:=i) (c:=q) (by omega) hq').1
    rw [Nat.zero_add,World.cell?,hbk] at h5
    have h6:(putCells id 0 (flatK enc k d') cur.toArray)[i * k + q]? = some (enc d'[i]!)[q]!:=by simpa using h5
    rw [Array.getElem?_toList,h6,List.getElem!_eq_getElem?_getD,show (enc d'[i]!)[q]? = some u from hq]; rfl
end
end Go.SL
namespace Go.SL
open Go.RowKit
section
variable {P : Program} {r : Option Nat} {N : Nat} {all : Array Oper} {K : Pd} {D : List Deferred} {E : Env} {w : World} {rest : List Oper} {M : Nat → Prop} {α : Type} {R : RelV α} {dflt : α} {cur : List Value} {l : List α} {te : TypeId}
theorem ops_slicelo {d b n c:Nat} {x lo:Operand} {t e t':TypeId} {pos:String} {af:Array Edge} {sz bytes:Nat} {z:Value} {k:IntKind} (j:Nat) (hd:Nat.blt d N=true)
  (ht:P.underlying t=some (.slice e)) (he:Sz P e sz bytes z) (hx:ev E x=some (.slice (some ⟨b,0,none⟩) n c)) (hlo:ev E lo=some (.int k (j:Int))) (hj:j < n) (hn:n≤c)
  (h:Ops P r N all K rest D ((d,.slice (some ⟨b,j * sz,none⟩) (n - j) (c - j)) :: E) w):Ops P r N all K (⟨some d,.slice t x (some lo) none none,t',pos,af,none⟩ :: rest) D E w:=by
 refine kK j n c hd ht he hx ⟨k,hlo⟩ rfl rfl (by omega) hn (Nat.le_refl _) ?_
 rw [if_neg (by omega)]
 simpa [jE] using h
theorem ops_effv {op:Op} {t:TypeId} {pos:String} {af:Array Edge} {w':World} {v:Value} (hop:∀ c,op ≠ .defer c)
  (hrun:∀ a,Has a N E→(execOp a.eval ⟨none,op,t,pos,af,none⟩).run P w = .ok (.value v) w')
  (h:Ops P r N all K rest D E w'):Ops P r N all K (⟨none,op,t,pos,af,none⟩ :: rest) D E w:=by
 intro a Q ha hD hk
 refine wpListIn_plain rfl fun K' hK'=>⟨fun _ _=>trivial,?_⟩
 rw [bA hop]
 rw [hrun a ha]
 exact hK' _ _ (h a Q ha hD hk)
theorem ops_clear2 {b o m cap:Nat} {x:Operand} {t e t':TypeId} {pos:String} {af:Array Edge} {sz bytes:Nat} {z:Value} (ht:P.underlying t=some (.slice e)) (he:Sz P e sz bytes z) (hz:z.cells.size=sz) (h1:∀ u ∈ z.cells.toList,u.oneCell'=true)
  (hx:ev E x=some (.slice (some ⟨b,o,none⟩) m cap)) (hb:Blk w b te cur) (ho:o + m * sz≤cur.length) (hs:0 < sz) (hm:0 < m)
  (h:∀ w' cur',Chg w w' b→Blk w' b te cur'→cur'.length=cur.length→(∀ i,i < o→cur'[i]? = cur[i]?)→(∀ i u,o≤i→i < o + m * sz→cur'[i]? = some u→u.oneCell'=true)→Ops P r N all K rest D E w') :
  Ops P r N all K (⟨none,.call ⟨.builtin .clear,#[x],#[t]⟩,t',pos,af,none⟩ :: rest) D E w:=by
 obtain ⟨m,rfl⟩:∃ q,m=q + 1:=⟨m - 1,by omega⟩
 have hsz:(Builtin.zeroCells z.cells (m + 1)).toList.length=(m + 1) * sz:=by simp [Builtin.zeroCells,hz]
 have h1':∀ u ∈ (Builtin.zeroCells z.cells (m + 1)).toList,u.oneCell'=true:=by
  intro u hu
  simp only [Builtin.zeroCells,Array.toList_map,List.mem_map] at hu
  obtain ⟨i,_,rfl⟩:=hu
  have hi:i % z.cells.size < z.cells.size:=Nat.mod_lt _ (by omega)
  rw [getElem!_pos z.cells _ hi]
  exact h1 _ (by simp)
 have hst:=run_storeCells_at (P:=P) b o te (Builtin.zeroCells z.cells (m + 1)).toList 0 cur.toArray w hb (by rw [hsz]; simp; omega) h1'
 simp only [Nat.add_zero,hsz] at hst
 obtain ⟨i0,i1,i2,i3,i4⟩:=he
 obtain ⟨W,hW⟩:∃ W,W=w.setRow b (cur.toArray.toList.take o ++ (Builtin.zeroCells z.cells (m + 1)).toList ++ cur.toArray.toList.drop (o + (m + 1) * sz)).toArray:=⟨_,rfl⟩
 rw [← hW] at hst
 refine ops_effv (v:=.tuple #[]) (by intro c hc; cases hc) (fun a ha=>?_) (h W (cur.take o ++ (Builtin.zeroCells z.cells (m + 1)).toList ++ cur.drop (o + (m + 1) * sz)) ⟨by rw [hW]; rfl,⟨by rw [hW]; rfl,by rw [hW]; exact Nat.le_refl _⟩,by rw [hW]; rfl,by rw [hW]; simp,fun k hk=>by rw [hW]; exact setRow_other _ _ _ _ hk⟩ ?_ ?_ ?_ ?_)
 ·simp only [execOp,resolve,invoke,builtin,Sem.run_bind,Sem.run_pure,Result.andThen,List.map_toArray,List.map_cons,List.map_nil,ha.ev hx]
  have e1:(Builtin.clear_ #[t] t' #[.slice (some ⟨b,o,none⟩) (m + 1) cap]).run P w = .ok (.tuple #[]) W:=by
   simp [Builtin.clear_,run_underlying ht,zeroValue,typeInfo,i1,i4,hst]
  simp [e1]
 ·have:=setRow_heap w b _ ((cur.toArray.toList.take o ++ (Builtin.zeroCells z.cells (m + 1)).toList ++ cur.toArray.toList.drop (o + (m + 1) * sz)).toArray) te _ hb
  unfold Blk
  rw [hW,this]
 ·rw [List.length_append,List.length_append,hsz,List.length_take,List.length_drop]; omega
 ·intro i hi
  rw [List.append_assoc,List.getElem?_append_left (by rw [List.length_take]; omega),List.getElem?_take,if_pos hi]
 ·intro i u h3 h4 h5
  rw [List.append_assoc,List.getElem?_append_right (by rw [List.length_take]; omega),List.length_take,Nat.min_eq_left (by omega),List.getElem?_append_left (by rw [hsz]; omega)] at h5
  exact h1' u (List.mem_of_getElem? h5)
end
end Go.SL
namespace Go.SL
open Go Go.RowKit
section
variable {Fz M M' : Nat → Prop} {w w' : World}
end
end Go.SL
namespace Go.SL
open Go
def uni:List Nat→List Nat→List Nat
 | [],acc=>acc
 | x :: xs,acc=>uni xs (if acc.contains x then acc else x :: acc)
theorem zV3:∀ (xs acc:List Nat) (y:Nat),y ∈ uni xs acc ↔ y ∈ xs ∨ y ∈ acc
 | [],acc,y=>by simp [uni]
 | x :: xs,acc,y=>by
  unfold uni
  rw [zV3 xs _ y]
  by_cases h:acc.contains x
  ·rw [if_pos h]
   have hm:x ∈ acc:=by simpa using h
   constructor
   ·rintro (c | c)
    ·exact .inl (.tail _ c)
    ·exact .inr c
   ·rintro (c | c)
    ·rcases List.mem_cons.1 c with e | e
     ·exact .inr (e ▸ hm)
     ·exact .inl e
    ·exact .inr c
  ·rw [if_neg h]
   simp only [List.mem_cons]
   constructor
   ·rintro (c | c | c)
    ·exact .inl (.inr c)
    ·exact .inl (.inl c)
    ·exact .inr c
   ·rintro ((c | c) | c)
    ·exact .inr (.inl c)
    ·exact .inl c
    ·exact .inr (.inr c)
theorem gd_l {a b:List (List Nat)} {i:Nat} (h:i < a.length):(a ++ b).getD i []=a.getD i []:=by
 rw [List.getD_eq_getElem?_getD,List.getD_eq_getElem?_getD,List.getElem?_append_left h]
theorem gd_r {a b:List (List Nat)} {i:Nat} (h:a.length≤i):(a ++ b).getD i []=b.getD (i - a.length) []:=by
 rw [List.getD_eq_getElem?_getD,List.getD_eq_getElem?_getD,List.getElem?_append_right h]
def fI:List Oper→List (List Nat)→List (List Nat)
 | [],acc=>acc
 | o :: rest,acc=>fI rest (acc ++ [uni (dirs o ++ (dirs o).flatMap fun j=>acc.getD j []) []])
theorem zK2:∀ (l:List Oper) (a b:List (List Nat)),a.length=b.length→(∀ i j,j ∈ a.getD i [] ↔ j ∈ b.getD i [])→∀ i j,j ∈ (kX l a).getD i [] ↔ j ∈ (fI l b).getD i []
 | [],a,b,hl,h=>fun i j=>by unfold kX fI; exact h i j
 | o :: rest,a,b,hl,h=>fun i j=>by
  unfold kX fI
  refine zK2 rest _ _ (by simp [hl]) (fun i j=>?_) i j
  rcases Nat.lt_trichotomy i a.length with c | c | c
  ·rw [gd_l c,gd_l (hl ▸ c)]; exact h i j
  ·have e1:(a ++ [dirs o ++ (dirs o).flatMap fun j=>a.getD j []]).getD i []=dirs o ++ (dirs o).flatMap fun j=>a.getD j []:=by
    rw [gd_r (by omega),c]; simp
   have e2:(b ++ [uni (dirs o ++ (dirs o).flatMap fun j=>b.getD j []) []]).getD i []=uni (dirs o ++ (dirs o).flatMap fun j=>b.getD j []) []:=by
    rw [gd_r (by omega),c,hl]; simp
   rw [e1,e2,zV3]
   simp only [List.mem_append,List.mem_flatMap,List.not_mem_nil,or_false]
   constructor
   ·rintro (c | ⟨k,hk,c⟩)
    ·exact .inl c
    ·exact .inr ⟨k,hk,(h k j).1 c⟩
   ·rintro (c | ⟨k,hk,c⟩)
    ·exact .inl c
    ·exact .inr ⟨k,hk,(h k j).2 c⟩
  ·rw [gd_r (by omega),gd_r (by omega)]
   have h1:i - a.length ≠ 0:=by omega
   have h2:i - b.length ≠ 0:=by omega
   simp [List.getD_eq_getElem?_getD,List.getElem?_cons,h1,h2]
def gK (ops:Array Oper) (m:Nat):Bool :=
 let l:=ops.toList
 let an:=fI l []
 (l.zipIdx.all fun (o,i)=>(dirs o).all (· < i)) &&
 ((l.take m).zipIdx.all fun (o,i)=>(zW ops o).all fun s=>(l.take m).zipIdx.all fun (p,k)=>if p.dst == some s then (if k < i then (an.getD i []).contains k else if i < k then (an.getD k []).contains i else false) else true) &&
 ((l.take m).zipIdx.all fun (o,i)=>(l.take m).zipIdx.all fun (p,k)=>i == k || p.dst.isNone || p.dst != o.dst) &&
 (l.zipIdx.all fun (o,i)=>i < m || (List.range i).all fun j=>(an.getD i []).contains j)
theorem oO {ops:Array Oper} {m:Nat} (h:gK ops m=true):kS ops m=true:=by
 have heq:∀ i k,((kX ops.toList []).getD i []).contains k=((fI ops.toList []).getD i []).contains k:=fun i k=>by
  have:=zK2 ops.toList [] [] rfl (fun _ _=>Iff.rfl) i k
  rw [Bool.eq_iff_iff,List.contains_iff_mem,List.contains_iff_mem]; exact this
 have e:kS ops m=gK ops m:=by
  unfold kS gK ancs
  simp only [heq]
 rw [e]; exact h
end Go.SL
namespace Go.Proofs.YtalkinejknjidaaGreatDoor
open Go.SL Go.RowKit Go.Proofs Tryz
section
variable {M : Nat → Prop} {w : World}
theorem div_c {v u:Value} {xs ys:List Nat} (h1:IsNat M w v xs) (h2:IsNat M w u ys) (hl1:xs.length≤10000000) (hl2:ys.length≤10000000) (hM:OkM M w) :
    CallsV prog 359 [v,u] w fun r w'=>Bel w.heap.size w w'∧∃ q s,r = .tuple #[q,s,.int .i64 (if val ys=0 then 30 else 0)]∧Fresh 155 w w' q (limbs (val xs / val ys))∧Fresh 155 w w' s (limbs (if val ys=0 then 0 else val xs % val ys)):=by
 have hal:=zV xs h1.lt
 have hbl:=zV ys h2.lt
 have Mk:Marks M w.heap.size [] w:=qM
 refine ci M func359 ntmps359 fun Fz hFz hF LL=>?_
 refine zH (zC (cU rfl sz25 (fun w1 b4 N4=>?_)))
 obtain ⟨hBw1,nF4,nM4,Lw1,B4⟩:=nz hF hM N4
 obtain ⟨LL,hM,hF,h1,h2,Mk⟩:=up6 Lw1 LL hM hF h1 h2 Mk
 refine zB rfl rfl (zB rfl rfl (zF (zH (zC (zA rfl rfl (zX rfl (bo func283) rfl rfl ?_))))))
 refine (eK h1 (by omega) hM).mono ?_
 rintro v15 w2 ⟨hB15,hf15⟩
 have hM15:=hM
 have hS15:=LL.size
 obtain ⟨LL,hM,hF,h1,h2,Mk,B4⟩:=ub7 hB15 LL hM hF h1 h2 Mk B4
 have ho15:=SL.Own.of hf15 hM15 hS15
 have hn15:=ho15.nat
 refine zA rfl rfl (zX rfl (bo func283) rfl rfl ?_)
 refine (eK h2 (by omega) hM).mono ?_
 rintro v17 w3 ⟨hB17,hf17⟩
 have hM17:=hM
 have hS17:=LL.size
 obtain ⟨LL,hM,hF,h1,h2,Mk,ho15,hn15,B4⟩:=ub9 hB17 LL hM hF h1 h2 Mk ho15 hn15 B4
 have ho17:=SL.Own.of hf17 hM17 hS17
 have hn17:=ho17.nat
 refine zB rfl rfl (zB rfl rfl (zF (zH (yV (zH (zC (zA rfl rfl ?_)))))))
 refine jB rfl yu25 rfl ?_
 refine eW rfl rfl rfl (zB rfl rfl (zF ?_))
 refine yI rfl (fun hc0=>?_) (fun hc0=>?_)
 ·have hy0:val ys=0:=zM.1 (by omega)
  refine zH (zC (jP rfl rfl sz25 B4 (by first | rfl | exact gY (by assumption) | assumption | exact jY (by assumption)) (fun w4 Cw4 B4=>?_)))
  obtain ⟨LL,Mk⟩:=up2 (lc LL Cw4 yA nF4) LL Mk
  refine zB rfl rfl (zB rfl rfl (zF (yX ?_)))
  refine gA Mk (fun wz hz=>⟨[_,_,_],⟨⟨_,rfl,bI xD (B4.drift hz (fun c=>c)) rfl⟩,rfl,rfl,trivial⟩,?_⟩)
  dsimp only [xN]
  subst hFz
  exact ⟨SL.Bel.drift (LL.b) hz (Nat.le_refl _),.slice none 0 0,.slice none 0 0,by rw [if_pos hy0],by rw [hy0,Nat.div_zero,yB]; exact Fresh.nil,by rw [if_pos hy0,yB]; exact Fresh.nil⟩
 ·have hy0:val ys ≠ 0:=fun c=>hc0 (by rw [c,yB]; rfl)
  have hyp:=Nat.pos_of_ne_zero hy0
  refine zH (zC (zA rfl rfl (zA rfl rfl (zX rfl (bo func364) rfl rfl ?_))))
  refine (cmp_c hn15 hn17 (by omega) (by omega) hM).mono ?_
  rintro v25 w5 ⟨hB25,rfl⟩
  obtain ⟨LL,hM,hF,h1,h2,Mk,ho15,hn15,ho17,hn17,B4⟩:=ub11 hB25 LL hM hF h1 h2 Mk ho15 hn15 ho17 hn17 B4
  simp only [zJ]
  refine bZ rfl rfl rfl (zB rfl rfl (zF ?_))
  refine yI rfl (fun hc1=>?_) (fun hc1=>?_)
  ·have hxy:val xs < val ys:=qY.1 hc1
   refine zH (zC (zA rfl rfl (jP rfl rfl sz25 B4 (by first | rfl | exact gY (by assumption) | assumption | exact jY (by assumption)) (fun w6 Cw6 B4=>?_))))
   obtain ⟨LL,Mk,ho15⟩:=up3 (lc LL Cw6 yA nF4) LL Mk ho15
   refine zB rfl rfl (zB rfl rfl (zF (yX ?_)))
   refine gA Mk (fun wz hz=>⟨[_,_,_],⟨⟨_,rfl,bI xD (B4.drift hz (fun c=>c)) rfl⟩,rfl,rfl,trivial⟩,?_⟩)
   dsimp only [xN]
   have hq15:=ho15.fresh
   subst hFz
   exact ⟨SL.Bel.drift (LL.b) hz (Nat.le_refl _),.slice none 0 0,v15,by rw [if_neg hy0],by rw [Nat.div_eq_of_lt hxy,yB]; exact Fresh.nil,by rw [if_neg hy0,Nat.mod_eq_of_lt hxy]; exact hq15.drift hz⟩
  ·have hxy:¬ val xs < val ys:=fun c=>hc1 (qY.2 c)
   have hx0:val xs ≠ 0:=by omega
   refine zH (zC (zA rfl rfl ?_))
   refine jB rfl yu25 rfl ?_
   refine eW rfl rfl rfl (zB rfl rfl (zF ?_))
   refine yI rfl (fun hc2=>?_) (fun hc2=>?_)
   ·have hy1:val ys=(limbs (val ys)).getD 0 0:=by
      have:=wG (zs:=(limbs (val ys))) (n:=0) (fun j hj=>yS (by omega))
      rw [zJ] at this; simpa [val] using this
    have hyb:val ys < 4294967296:=by rw [hy1]; exact hn17.lim 0
    refine zH (zC (zA rfl rfl (zA rfl rfl (uW (0) rfl yu25 xF rfl rfl (by assumption) (by omega) (by omega) (fun b35 o35 hc35 hb35=>?_)))))
    refine xC rfl jF rfl hc35 (zX rfl (bo func374) rfl rfl ?_)
    refine (short_c (n:=(limbs (val ys)).getD 0 0) hn15 (by omega) (hn17.lim 0) hM).mono ?_
    rintro v37 w7 ⟨hB37,q37,rfl,hf37⟩
    have hM37:=hM
    have hS37:=LL.size
    obtain ⟨LL,hM,hF,h1,h2,Mk,ho15,hn15,ho17,hn17,B4⟩:=ub11 hB37 LL hM hF h1 h2 Mk ho15 hn15 ho17 hn17 B4
    have hrb:=Nat.lt_trans (Nat.mod_lt (val xs) hyp) hyb
    rw [zJ,← hy1] at hf37
    rw [zJ,← hy1,if_neg hy0,if_neg hy0]
    have ho37:=SL.Own.of hf37 hM37 hS37
    refine zA rfl rfl (jL rfl rfl rfl (jL rfl rfl rfl (jL rfl rfl rfl (zB rfl rfl (zB rfl rfl (zB rfl rfl (zF (zH (zC (zA rfl rfl (zA rfl rfl (jX rfl yu155 yu196 rfl (by omega) (zX rfl (bo func267) rfl rfl ?_)))))))))))))
    refine (of_c (by have:=Nat.mod_lt (val xs) (Nat.pos_of_ne_zero hy0); have:=hyb; omega) hM).mono ?_
    rintro v44 w8 ⟨hB44,hf44⟩
    have hM44:=hM
    have hS44:=LL.size
    obtain ⟨LL,hM,hF,h1,h2,Mk,ho15,hn15,ho17,hn17,ho37,B4⟩:=ub12 hB44 LL hM hF h1 h2 Mk ho15 hn15 ho17 hn17 ho37 B4
    have ho44:=SL.Own.of hf44 hM44 hS44
    have hn44:=ho44.nat
    refine zA rfl rfl ?_
    have hoq:=ho37.fresh.own
    refine jP rfl rfl sz25 B4 (by first | rfl | exact gY (by assumption) | assumption | exact jY (by assumption)) (fun w9 Cw9 B4=>?_)
    obtain ⟨LL,Mk,ho37,ho44⟩:=up4 (lc LL Cw9 yA nF4) LL Mk ho37 ho44
    refine zB rfl rfl (zB rfl rfl (zF (yX ?_)))
    refine gA Mk (fun wz hz=>⟨[_,_,_],⟨⟨_,rfl,bI xD (B4.drift hz (fun c=>c)) rfl⟩,rfl,rfl,trivial⟩,?_⟩)
    dsimp only [xN]
    have hq1:=ho37.fresh
    have hq2:=ho44.fresh
    subst hFz
    exact ⟨SL.Bel.drift (LL.b) hz (Nat.le_refl _),q37,v44,by first | rfl | (rw [if_neg hy0]; rfl),hq1.drift hz,by first | exact hq2.drift hz | (rw [if_neg hy0]; exact hq2.drift hz)⟩
   ·refine xH (zH (zC (zA rfl rfl (zA rfl rfl ?_))))
    refine jB rfl yu25 rfl ?_
    refine jR rfl rfl rfl (by omega) (uW ((limbs (val ys)).length - 1) rfl yu25 xF rfl rfl (by assumption) (by omega) (by omega) (fun b50 o50 hc50 hb50=>?_))
    refine xC rfl jF rfl hc50 (zX rfl (bo func375) rfl rfl ?_)
    refine (lead_c (hn17.lim _) hM).mono ?_
    rintro v52 w10 ⟨hB52,rfl⟩
    obtain ⟨LL,hM,hF,h1,h2,Mk,ho15,hn15,ho17,hn17,B4⟩:=ub11 hB52 LL hM hF h1 h2 Mk ho15 hn15 ho17 hn17 B4
    have hbw:=lG (hn17.lim ((limbs (val ys)).length - 1))
    have hbt:xU ((limbs (val ys)).getD ((limbs (val ys)).length - 1) 0) ≠ 0:=fun c=>dQ (fun e=>by simp [e] at hc0) (bitsN_eq_zero.1 c)
    obtain ⟨k,hk⟩:∃ k:Nat,(32:Int) - (xU ((limbs (val ys)).getD ((limbs (val ys)).length - 1) 0):Int)=(k:Int):=⟨32 - xU ((limbs (val ys)).getD ((limbs (val ys)).length - 1) 0),by omega⟩
    rw [hk]
    have hk32:k < 32:=by omega
    have hkc:cntN (k:Int) 65536=k:=cntN_nat (m:=65536) (by omega)
    have hnb:=norm_by hy0 (k:=k) (by omega)
    have hul:=up_lens hx0 hk32
    have hlm:=yC (Nat.le_of_not_lt hxy)
    have hrm:=div_room (k:=k) (X:=val xs) (Y:=val ys) (m:=(limbs (val xs)).length + 1 - (limbs (val ys)).length) hy0 (by omega)
    refine zB rfl rfl (zF (zH (zC (zA rfl rfl (zA rfl rfl (zX rfl (bo func281) rfl rfl ?_))))))
    refine (up_c hn15 (by omega) hM).mono ?_
    rintro v55 w11 ⟨hB55,hf55⟩
    have F55:∀ k,v55.ownBlock=some k→¬ Fz k:=fun k hk c=>absurd (hF k c) (Nat.not_lt.2 (hf55.new k hk))
    have X55:∀ k,v55.ownBlock=some k→¬ (Ins b4 M) k:=fun k hk c=>absurd (hM k c) (Nat.not_lt.2 (hf55.new k hk))
    have Lw11:=Le.of_fresh (Fz:=Fz) (M:=(Ins b4 M)) hB55 hf55
    obtain ⟨LL,hM,hF,h1,h2,Mk,ho15,hn15,ho17,hn17⟩:=up10 Lw11 LL hM hF h1 h2 Mk ho15 hn15 ho17 hn17
    replace B4:=B4.below hB55
    have O55:=hf55.own
    have T55:=hf55.lt
    have Z55:=hf55.len
    simp only [zJ,hkc] at O55 T55 Z55
    refine zA rfl rfl (zA rfl rfl (zX rfl (bo func281) rfl rfl ?_))
    refine (up_c hn17 (by omega) hM).mono ?_
    rintro v58 w12 ⟨hB58,hf58⟩
    have hM58:=hM
    have hS58:=LL.size
    obtain ⟨LL,hM,hF,h1,h2,Mk,ho15,hn15,ho17,hn17,B4⟩:=ub11 hB58 LL hM hF h1 h2 Mk ho15 hn15 ho17 hn17 B4
    replace O55:=gT O55 hB58
    simp only [zJ,hkc] at hf58
    have hn58:=hf58.nat hM58
    refine tV rfl plc355 rfl rfl (zQ2 (yD2 (by first | rfl | exact jY (by assumption) | exact gY (by assumption) | assumption)) (zQ2 (yD2 (by first | rfl | exact jY (by assumption) | exact gY (by assumption) | assumption)) cls_nil)) rfl ?_
    have O55q:=O55
    refine fW rfl rfl (fun w13 b60 N60=>?_)
    obtain ⟨hBw13,nF60,nM60,Lw13,B60⟩:=nza hF hM N60
    obtain ⟨B4,ne4_60⟩:=bn B4 N60
    replace O55:=gT O55 hBw13
    obtain ⟨LL,hM,hF,h1,h2,Mk,ho15,hn15,hn17,hn58⟩:=up10 Lw13 LL hM hF h1 h2 Mk ho15 hn15 hn17 hn58
    replace B60:Blk w13 b60 355 [v55,v58]:=B60
    refine zB rfl rfl (zF (zH ?_))
    refine lJ (R:=Rs (fun k=>v55.ownBlock=some k)) (R':=Rb) (st:=some (14,(fun w=>w.ownsRow 0 155 1 v55 (limbs (val xs * 2 ^ k)).length ((limbs (val xs * 2 ^ k)).map lw)),(fun w=>True))) mixed 15 [4,10,11,61,75] (by decide +kernel) pR zX8 (wL _) (fun _ _ _ h=>by cases h; exact ⟨by decide,O55,fun _ _ h r=>gT h r,fun _ _ _ _=>trivial,_,rfl⟩) ?_
    apply xA rfl
    ·intro wq hR hst
     refine yL rfl rfl (zI ?_)
     have Lq:=Le.of_rs (Fz:=Fz) (M:=(Ins b60 (Mo v55 (Ins b4 M)))) hR (fun k h => .inr (.inl h)) F55
     replace Mk:=Mk.mono Lq
     replace B60:=B60.rs hR (fun c=>by have:=(O55q.lt _ c).2; have:=N60.at_; omega)
     refine zA rfl rfl ?_
     exact on0 rfl
    apply xA rfl
    ·intro wq hR hst
     refine yL rfl rfl (zI ?_)
     have Lq:=Le.of_rs (Fz:=Fz) (M:=(Ins b60 (Mo v55 (Ins b4 M)))) hR (fun k h => .inr (.inl h)) F55
     replace Mk:=Mk.mono Lq
     replace B60:=B60.rs hR (fun c=>by have:=(O55q.lt _ c).2; have:=N60.at_; omega)
     refine zA rfl rfl ?_
     exact on0 rfl
    apply xA rfl
    ·intro wq hR hst
     refine zN rfl (zI ?_)
     have Lq:=Le.of_rs (Fz:=Fz) (M:=(Ins b60 (Mo v55 (Ins b4 M)))) hR (fun k h => .inr (.inl h)) F55
     replace Mk:=Mk.mono Lq
     replace B60:=B60.rs hR (fun c=>by have:=(O55q.lt _ c).2; have:=N60.at_; omega)
     refine yP rfl rfl ?_
     exact on0 rfl
    apply xA rfl
    ·intro wq hR hst
     refine zN rfl (zI ?_)
     have Lq:=Le.of_rs (Fz:=Fz) (M:=(Ins b60 (Mo v55 (Ins b4 M)))) hR (fun k h => .inr (.inl h)) F55
     replace Mk:=Mk.mono Lq
     replace B60:=B60.rs hR (fun c=>by have:=(O55q.lt _ c).2; have:=N60.at_; omega)
     refine yH 0 rfl yu355 rfl rfl sz25 rfl rfl ?_
     exact on0 rfl
    apply xA rfl
    ·intro wq hR hst
     refine zN rfl (zI ?_)
     have Lq:=Le.of_rs (Fz:=Fz) (M:=(Ins b60 (Mo v55 (Ins b4 M)))) hR (fun k h => .inr (.inl h)) F55
     replace Mk:=Mk.mono Lq
     replace B60:=B60.rs hR (fun c=>by have:=(O55q.lt _ c).2; have:=N60.at_; omega)
     refine zT rfl xD rfl B60 rfl ?_
     exact on0 rfl
    apply xA rfl
    ·intro wq hR hst
     refine yL rfl rfl (zI ?_)
     have Lq:=Le.of_rs (Fz:=Fz) (M:=(Ins b60 (Mo v55 (Ins b4 M)))) hR (fun k h => .inr (.inl h)) F55
     replace Mk:=Mk.mono Lq
     replace B60:=B60.rs hR (fun c=>by have:=(O55q.lt _ c).2; have:=N60.at_; omega)
     refine zA rfl rfl ?_
     exact on0 rfl
    apply xA rfl
    ·intro wq hR hst
     refine zN rfl (zI ?_)
     have Lq:=Le.of_rs (Fz:=Fz) (M:=(Ins b60 (Mo v55 (Ins b4 M)))) hR (fun k h => .inr (.inl h)) F55
     obtain ⟨Mk,hn15⟩:=up2 Lq Mk hn15
     replace B60:=B60.rs hR (fun c=>by have:=(O55q.lt _ c).2; have:=N60.at_; omega)
     refine jB rfl yu25 rfl ?_
     exact on0 rfl
    apply xA rfl
    ·intro wq hR hst
     refine zN rfl (zI ?_)
     have Lq:=Le.of_rs (Fz:=Fz) (M:=(Ins b60 (Mo v55 (Ins b4 M)))) hR (fun k h => .inr (.inl h)) F55
     replace Mk:=Mk.mono Lq
     replace B60:=B60.rs hR (fun c=>by have:=(O55q.lt _ c).2; have:=N60.at_; omega)
     refine xK rfl rfl rfl (by omega) ?_
     exact on0 rfl
    apply xA rfl
    ·intro wq hR hst
     refine yL rfl rfl (zI ?_)
     have Lq:=Le.of_rs (Fz:=Fz) (M:=(Ins b60 (Mo v55 (Ins b4 M)))) hR (fun k h => .inr (.inl h)) F55
     replace Mk:=Mk.mono Lq
     replace B60:=B60.rs hR (fun c=>by have:=(O55q.lt _ c).2; have:=N60.at_; omega)
     refine zA rfl rfl ?_
     exact on0 rfl
    apply xA rfl
    ·intro wq hR hst
     refine zN rfl (zI ?_)
     have Lq:=Le.of_rs (Fz:=Fz) (M:=(Ins b60 (Mo v55 (Ins b4 M)))) hR (fun k h => .inr (.inl h)) F55
     replace Mk:=Mk.mono Lq
     replace B60:=B60.rs hR (fun c=>by have:=(O55q.lt _ c).2; have:=N60.at_; omega)
     refine yP rfl rfl ?_
     exact on0 rfl
    apply xA rfl
    ·intro wq hR hst
     refine zN rfl (zI ?_)
     have Lq:=Le.of_rs (Fz:=Fz) (M:=(Ins b60 (Mo v55 (Ins b4 M)))) hR (fun k h => .inr (.inl h)) F55
     replace Mk:=Mk.mono Lq
     replace B60:=B60.rs hR (fun c=>by have:=(O55q.lt _ c).2; have:=N60.at_; omega)
     refine yH 0 rfl yu355 rfl rfl sz25 rfl rfl ?_
     exact on0 rfl
    apply xA rfl
    ·intro wq hR hst
     refine zN rfl (zI ?_)
     have Lq:=Le.of_rs (Fz:=Fz) (M:=(Ins b60 (Mo v55 (Ins b4 M)))) hR (fun k h => .inr (.inl h)) F55
     replace Mk:=Mk.mono Lq
     replace B60:=B60.rs hR (fun c=>by have:=(O55q.lt _ c).2; have:=N60.at_; omega)
     refine zT rfl xD rfl B60 rfl ?_
     exact on0 rfl
    apply xA rfl
    ·intro wq hR hst
     refine zN rfl (zI ?_)
     have Lq:=Le.of_rs (Fz:=Fz) (M:=(Ins b60 (Mo v55 (Ins b4 M)))) hR (fun k h => .inr (.inl h)) F55
     obtain ⟨LL,hM,hF,h1,h2,Mk,ho15,hn17,hn58⟩:=up9 Lq LL hM hF h1 h2 Mk ho15 hn17 hn58
     replace B4:=B4.rs hR (fun c=>X55 _ c yA)
     replace B60:=B60.rs hR (fun c=>by have:=(O55q.lt _ c).2; have:=N60.at_; omega)
     have hpre:=(hst.2 (by decide +kernel))
     refine jB rfl yu25 rfl ?_
     exact on0 rfl
    apply xA rfl
    ·intro wq hR hst
     refine zN rfl (zN rfl (zI ?_))
     have Lq:=Le.of_rs (Fz:=Fz) (M:=(Ins b60 (Mo v55 (Ins b4 M)))) hR (fun k h => .inr (.inl h)) F55
     replace Mk:=Mk.mono Lq
     replace B60:=B60.rs hR (fun c=>by have:=(O55q.lt _ c).2; have:=N60.at_; omega)
     refine jR rfl rfl rfl (by omega) ?_
     exact on0 rfl
    refine drs_chg rfl (fun v w=>∃ br cap ex,v = .slice (some ⟨br,0,none⟩) ((limbs (val xs)).length + 1) cap∧Blk w br 155 (((limbs (val xs * 2 ^ k)) ++ List.replicate (((limbs (val xs)).length + 1) - (limbs (val xs * 2 ^ k)).length) 0).map lw ++ ex)∧cap=((limbs (val xs)).length + 1) + ex.length∧(v55.ownBlock=some br ∨ w13.heap.size≤br)) (fun v a b h r=>let ⟨x,y,z,p1,p2,p3,p4⟩:=h; ⟨x,y,z,p1,p2.below r,p3,p4⟩) (fun wq hR hst=>?_) ?_
    ·refine zN rfl (zN rfl (zI ?_))
     have Lq:=Le.of_rs (Fz:=Fz) (M:=(Ins b60 (Mo v55 (Ins b4 M)))) hR (fun k h => .inr (.inl h)) F55
     replace Mk:=Mk.mono Lq
     replace B60:=B60.rs hR (fun c=>by have:=(O55q.lt _ c).2; have:=N60.at_; omega)
     have hpre:=hst
     refine ops_append0 (m:=(((limbs (val xs)).length + 1) - (limbs (val xs * 2 ^ k)).length)) rfl yu25 yu3 xF rfl rfl rfl (by omega) hpre (by omega) (by omega) (by omega) (fun v75 w75 A75 G75 S75=>?_)
     obtain ⟨br,cap,ex,hv75,BR,hcap⟩:=own_to_blk (n:=((limbs (val xs)).length + 1)) (xs:=((limbs (val xs * 2 ^ k)) ++ List.replicate (((limbs (val xs)).length + 1) - (limbs (val xs * 2 ^ k)).length) 0)) (by have:=A75; simp only [List.map_append,List.map_replicate]; rwa [show (limbs (val xs * 2 ^ k)).length + (((limbs (val xs)).length + 1) - (limbs (val xs * 2 ^ k)).length)=((limbs (val xs)).length + 1) by omega] at this) (by omega)
     exact zF ⟨rfl,rs_grown G75,trivial,_,rfl,br,cap,ex,hv75,BR,hcap,by
       rw [hv75] at S75
       rcases S75 with S75 | S75
       · exact .inl S75.symm
       · right; have:=hR.2.2.2.1; have e:br=wq.heap.size:=by simpa [Value.ownBlock] using S75
         omega⟩
    refine aN (fun wq11 hR11 hpost11=>?_)
    refine yL rfl rfl (yL rfl rfl (yL rfl rfl (zN rfl (tX rfl (fun v75 hn75=>?_)))))
    refine zI ?_
    simp only [nB,nA,mZ,mY]
    obtain ⟨br,cap,ex,rfl,BR,hcap,hbr⟩:=hn75
    have hmbr:(Ins b60 (Mo v55 (Ins b4 M))) br ∨ w13.heap.size≤br:=hbr.elim (fun e => .inl (.inr (.inl e))) .inr
    have Lwq11:=Le.of_rs_to (Fz:=Fz) (M:=(Ins b60 (Mo v55 (Ins b4 M)))) (M':=(Ins b60 (Ins br (Ins b4 M)))) hR11 (fun k h => .inr (.inl h)) F55 (fun k hk=>hk.elim (fun e => .inl (.inl e)) (fun hk=>hk.elim (fun e=>e ▸ hmbr) (fun c => .inl (.inr (.inr c))))) (fun k hk=>hk.elim (fun e => .inl (.inl e)) (fun hk=>hk.elim (fun e => .inr (e ▸ BR.lt)) (fun c => .inl (.inr (.inr c)))))
    have nFr:¬ Fz br:=fun c=>hbr.elim (fun e=>F55 _ e c) (fun e=>by have:=hF br c; omega)
    have xbr:¬ (Ins b4 M) br:=fun c=>hbr.elim (fun e=>X55 _ e c) (fun e=>by have:=hM br (.inr (.inr c)); omega)
    obtain ⟨LL,hM,hF,h1,h2,Mk,ho15,hn15,hn17,hn58⟩:=up10 Lwq11 LL hM hF h1 h2 Mk ho15 hn15 hn17 hn58
    replace B4:=B4.rs hR11 (fun c=>X55 _ c yA)
    replace B60:=B60.rs hR11 (fun c=>by have:=(O55q.lt _ c).2; have:=N60.at_; omega)
    have ne60_r:b60 ≠ br:=zK1 B60 BR (.inl rfl)
    have ne4_r:b4 ≠ br:=zK1 B4 BR (.inl rfl)
    refine yP rfl rfl (yH 0 rfl yu355 rfl rfl sz25 rfl rfl (bD (i:=0) rfl rfl sz25 B60 (by first | rfl | exact gY (by assumption) | assumption | exact jY (by assumption)) (by simp) (fun w14 Cw14 B60=>?_)))
    obtain ⟨LL,hM,hF,h1,h2,Mk,ho15,hn17,hn58⟩:=up9 (lc LL Cw14 yA nF60) LL hM hF h1 h2 Mk ho15 hn17 hn58
    replace B4:=B4.other Cw14 ne4_60
    replace BR:=BR.other Cw14 ne60_r.symm
    replace B60:Blk w14 b60 355 [.slice (some ⟨br,0,none⟩) ((limbs (val xs)).length + 1) cap,v58]:=B60
    refine zF (zH ?_)
    refine wd mixed 10 [4,10,11,82,87] (by decide +kernel) ?_
    apply zP
    ·intro wq hR hst
     refine yL rfl rfl (zI ?_)
     obtain ⟨Mk,BR⟩:=ub2 hR Mk BR
     refine zA rfl rfl ?_
     exact on0 rfl
    apply zP
    ·intro wq hR hst
     refine zN rfl (zI ?_)
     obtain ⟨Mk,BR⟩:=ub2 hR Mk BR
     refine yP rfl rfl ?_
     exact on0 rfl
    apply zP
    ·intro wq hR hst
     refine zN rfl (zI ?_)
     obtain ⟨Mk,BR⟩:=ub2 hR Mk BR
     refine yH 0 rfl yu355 rfl rfl sz25 rfl rfl ?_
     exact on0 rfl
    apply zP
    ·intro wq hR hst
     refine zN rfl (zI ?_)
     obtain ⟨Mk,B60,BR⟩:=ub3 hR Mk B60 BR
     refine zT rfl xD rfl B60 rfl ?_
     exact on0 rfl
    apply zP
    ·intro wq hR hst
     refine zN rfl (zI ?_)
     obtain ⟨LL,hM,hF,h1,h2,Mk,ho15,hn17,hn58,B4,B60,BR⟩:=ub12 hR LL hM hF h1 h2 Mk ho15 hn17 hn58 B4 B60 BR
     refine jB rfl yu25 rfl ?_
     exact on0 rfl
    apply zP
    ·intro wq hR hst
     refine yL rfl rfl (zI ?_)
     obtain ⟨Mk,BR⟩:=ub2 hR Mk BR
     refine zA rfl rfl ?_
     exact on0 rfl
    apply zP
    ·intro wq hR hst
     refine zN rfl (zI ?_)
     obtain ⟨Mk,BR⟩:=ub2 hR Mk BR
     refine yP rfl rfl ?_
     exact on0 rfl
    apply zP
    ·intro wq hR hst
     refine zN rfl (zI ?_)
     obtain ⟨Mk,BR⟩:=ub2 hR Mk BR
     refine yH 1 rfl yu355 rfl rfl sz25 rfl rfl ?_
     exact on0 rfl
    apply zP
    ·intro wq hR hst
     refine zN rfl (zI ?_)
     obtain ⟨Mk,B60,BR⟩:=ub3 hR Mk B60 BR
     refine zT rfl xD rfl B60 rfl ?_
     exact on0 rfl
    apply zP
    ·intro wq hR hst
     refine zN rfl (zI ?_)
     obtain ⟨LL,hM,hF,h1,h2,Mk,ho15,hn17,hn58,B4,B60,BR⟩:=ub12 hR LL hM hF h1 h2 Mk ho15 hn17 hn58 B4 B60 BR
     refine jB rfl yu25 rfl ?_
     exact on0 rfl
    refine aN (fun wq12 hR12 hpost12=>?_)
    refine yL rfl rfl (yL rfl rfl (yL rfl rfl (zN rfl (zN rfl (zI ?_)))))
    simp only [nB,nA,mZ,mY]
    obtain ⟨LL,hM,hF,h1,h2,Mk,ho15,hn17,hn58,B4,B60,BR⟩:=ub12 hR12 LL hM hF h1 h2 Mk ho15 hn17 hn58 B4 B60 BR
    refine jR rfl rfl rfl (by omega) (mE ((((limbs (val xs)).length + 1) - (limbs (val ys * 2 ^ k)).length)) ((((limbs (val xs)).length + 1) - (limbs (val ys * 2 ^ k)).length)) rfl yu25 xF rfl rfl rfl (by omega) (by omega) (by omega) (by omega) (by omega) (fun w15 b89 N89=>?_))
    obtain ⟨hBw15,nF89,nM89,Lw15,B89⟩:=nz hF hM N89
    obtain ⟨B4,ne4_89⟩:=bn B4 N89
    obtain ⟨B60,ne60_89⟩:=bn B60 N89
    have ltr_89:=BR.lt
    replace BR:=BR.below hBw15
    have ne89_r:b89 ≠ br:=by have:=N89.at_; omega
    obtain ⟨LL,hM,hF,h1,h2,Mk,ho15,hn17,hn58⟩:=up9 Lw15 LL hM hF h1 h2 Mk ho15 hn17 hn58
    replace B89:Blk w15 b89 155 ((List.replicate (((limbs (val xs)).length + 1) - (limbs (val ys * 2 ^ k)).length) 0).map lw):=by simpa [lw] using B89
    have hmr:(Ins b89 (Ins b60 (Ins br (Ins b4 M)))) br:=.inr (.inr yA)
    have hvrs:val ((limbs (val xs * 2 ^ k)) ++ List.replicate (((limbs (val xs)).length + 1) - (limbs (val xs * 2 ^ k)).length) 0)=(val xs * 2 ^ k):=val_pad _ _
    have hv58:val (limbs (val ys * 2 ^ k))=(val ys * 2 ^ k):=zJ _
    have hrl:((limbs (val xs * 2 ^ k)) ++ List.replicate (((limbs (val xs)).length + 1) - (limbs (val xs * 2 ^ k)).length) 0).length=((limbs (val xs)).length + 1):=by rw [List.length_append,List.length_replicate]; omega
    have hrlt:∀ x ∈ ((limbs (val xs * 2 ^ k)) ++ List.replicate (((limbs (val xs)).length + 1) - (limbs (val xs * 2 ^ k)).length) 0),x < 4294967296:=fun x hx=>by
      rcases List.mem_append.1 hx with h | h
      · exact yQ _ x h
      · have:=(List.mem_replicate.1 h).2; omega
    have hvr:val ((limbs (val xs * 2 ^ k)) ++ List.replicate (((limbs (val xs)).length + 1) - (limbs (val xs * 2 ^ k)).length) 0) < 4294967296 ^ (((limbs (val xs)).length + 1) - (limbs (val ys * 2 ^ k)).length) * val (limbs (val ys * 2 ^ k)):=by rw [hvrs,hv58,hnb.1]; exact hrm
    refine jP rfl rfl sz25 B4 (by first | rfl | exact gY (by assumption) | assumption | exact jY (by assumption)) (fun w16 Cw16 B4=>?_)
    obtain ⟨LL,hM,hF,h1,h2,Mk,ho15,hn17,hn58⟩:=up9 (lc LL Cw16 (.inr (.inr (.inr yA))) nF4) LL hM hF h1 h2 Mk ho15 hn17 hn58
    replace B60:=B60.other Cw16 ne4_60.symm
    replace BR:=BR.other Cw16 ne4_r.symm
    replace B89:=B89.other Cw16 ne4_89.symm
    refine zF (zH (zH (zC (zA rfl rfl (zX rfl (bo func376) rfl rfl ?_)))))
    refine (qlimbs_c (T:=(·=br)) (m:=(((limbs (val xs)).length + 1) - (limbs (val ys * 2 ^ k)).length)) (rs:=((limbs (val xs * 2 ^ k)) ++ List.replicate (((limbs (val xs)).length + 1) - (limbs (val xs * 2 ^ k)).length) 0)) (ys:=(limbs (val ys * 2 ^ k))) hrl B60 BR (hn58.less (yF3 yA (.inr (.inr yA)))) hrlt (by omega) hnb.2 (by omega) hvr (by omega) (by omega) (fun c=>c.elim ne60_89 ne60_r) rfl (fun _ h=>h) (fun k h => .inr h) (yF3 B89.lt BR.lt)).mono ?_
    rintro v91 w17 ⟨hB91,cap91,rfl,hit91⟩
    obtain ⟨LL,hM,hF,h1,h2,Mk,ho15,hn17,hn58,B4,B60,BR,B89⟩:=ub13 hB91 LL hM hF h1 h2 Mk ho15 hn17 hn58 B4 B60 BR B89
    refine zF (yV ?_)
    have hbrl:=BR.lt
    have hMS0:=hM
    have hszLL:=LL.size
    have Mold0:=Mk.old (Nat.le_refl _)
    refine zK5 (M:=(fun k=>k=b89 ∨ k=br)) (T:=(·=br)) ((List.range (((limbs (val xs)).length + 1) - (limbs (val ys * 2 ^ k)).length)).map (fun j=>((((limbs (val xs)).length + 1) - (limbs (val ys * 2 ^ k)).length) - j - 1,val ((limbs (val xs * 2 ^ k)) ++ List.replicate (((limbs (val xs)).length + 1) - (limbs (val xs * 2 ^ k)).length) 0) / (4294967296 ^ ((((limbs (val xs)).length + 1) - (limbs (val ys * 2 ^ k)).length) - j - 1) * val (limbs (val ys * 2 ^ k))) % 4294967296))) (encB) rfl (bo func381) (hit91) (by rintro _ rfl; exact BR.lt) (trivial) (fun _=>rfl) rfl [(4,_)] (zD rfl yZ) (fun pre w18=>Le Fz (Ins b89 (Ins b60 (Ins br (Ins b4 M)))) w17 (Ins b89 (Ins b60 (Ins br (Ins b4 M)))) w18∧Keep (fun k=>k=b89 ∨ k=br) w17 w18∧Blk w18 b4 25 [.slice (some ⟨b89,0,none⟩) (((limbs (val xs)).length + 1) - (limbs (val ys * 2 ^ k)).length) (((limbs (val xs)).length + 1) - (limbs (val ys * 2 ^ k)).length)]∧Blk w18 b60 355 [.slice (some ⟨br,0,none⟩) ((limbs (val xs)).length + 1) cap,v58]∧∃ zs:List Nat,Blk w18 b89 155 (zs.map lw)∧zs.length=(((limbs (val xs)).length + 1) - (limbs (val ys * 2 ^ k)).length)∧(∀ z ∈ zs,z < 4294967296)∧∀ j,j < pre.length→zs.getD ((((limbs (val xs)).length + 1) - (limbs (val ys * 2 ^ k)).length) - j - 1) 0=val ((limbs (val xs * 2 ^ k)) ++ List.replicate (((limbs (val xs)).length + 1) - (limbs (val xs * 2 ^ k)).length) 0) / (4294967296 ^ ((((limbs (val xs)).length + 1) - (limbs (val ys * 2 ^ k)).length) - j - 1) * val (limbs (val ys * 2 ^ k))) % 4294967296) (fun _ _=>False) (fun _=>False) (⟨Le.refl _ _ _,Keep.refl _ _,B4,B60,_,B89,by simp,by intro z hz; have:=(List.mem_replicate.1 hz).2; omega,fun j hj=>by simp at hj⟩) (fun pre w h=>h.2.1) (fun pre w1 w2 hJ hd=>(by obtain ⟨h1,h2,h3,h4,zs,h5,h6⟩:=hJ; exact ⟨h1.drift hd (Nat.le_refl _) (by rintro _ rfl; exact ⟨hmr,nFr⟩) (by rintro _ rfl; exact hmr),h2.drift hd (fun k h => .inr h),h3.drift hd ne4_r,h4.drift hd ne60_r,zs,h5.drift hd ne89_r,h6⟩)) (fun _ _ _ h _=>h) (fun _ _ h _=>h) (fun _ _ ⟨zs,h1,h2⟩ hd=>⟨zs,h1.drift hd (fun c=>c),h2⟩) ?_ ?_ (fun _ _ h _=>h.elim) (fun _ h _=>h.elim)
    ·intro pre x post l b w18 ρ δ hx hJ hnl hnb hl hb hbc
     clear BR
     obtain ⟨LS0,hKp,B4,B60,zs,B89,hzl,hzlt,hzd⟩:=hJ
     replace Mk:=Mk.mono LS0
     have RL:Rec (Ins b89 (Ins b60 (Ins br (Ins b4 M)))) w18 l (.loop ρ):=⟨hl,(fZ hMS0 hnl)⟩
     have RB:Rec (Ins b89 (Ins b60 (Ins br (Ins b4 M)))) w18 b δ:=⟨hb,(fZ hMS0 hnb)⟩
     have hs1:w18.heap.size≤w18.heap.size:=Nat.le_refl _
     obtain ⟨hk',hxe⟩:=tK hx
     have hx1:x.1=(((limbs (val xs)).length + 1) - (limbs (val ys * 2 ^ k)).length) - pre.length - 1:=by rw [hxe]
     have hx2:x.2=val ((limbs (val xs * 2 ^ k)) ++ List.replicate (((limbs (val xs)).length + 1) - (limbs (val xs * 2 ^ k)).length) 0) / (4294967296 ^ ((((limbs (val xs)).length + 1) - (limbs (val ys * 2 ^ k)).length) - pre.length - 1) * val (limbs (val ys * 2 ^ k))) % 4294967296:=by rw [hxe]
     refine zH (zC (zB rfl rfl (zF (zC (zB rfl rfl (zF ?_))))))
     refine ⟨RL.at_,RB.at_,rfl,fun w19 ρ' δ' hdr hl' hb' hbc'=>?_⟩
     replace LS0:=LS0.drift0 hdr (Nat.le_refl _)
     replace hs1:=Nat.le_trans hs1 hdr.size
     replace RL:Rec (Ins b89 (Ins b60 (Ins br (Ins b4 M)))) w19 l (.loop ρ'):=⟨hl',RL.not⟩
     replace RB:Rec (Ins b89 (Ins b60 (Ins br (Ins b4 M)))) w19 b δ':=⟨hb',RB.not⟩
     replace B4:=B4.drift hdr (fun c=>c)
     replace B60:=B60.drift hdr (fun c=>c)
     replace B89:=B89.drift hdr (fun c=>c)
     refine yV (zC (zT rfl xD rfl B4 rfl (zA rfl rfl (zA rfl rfl (aQ (x.1) rfl yu25 xF rfl rfl rfl (by omega) (bD (i:=x.1) rfl rfl xF B89 rfl (by simp; omega) (fun w20 Cw20 BN=>?_)))))))
     have C16:=Cw20
     have Lw20:=lc LS0 Cw20 yA nF89
     obtain ⟨LS0,RL,RB⟩:=up3 Lw20 LS0 RL RB
     replace hs1:=Nat.le_trans hs1 Lw20.size
     replace B4:=B4.other Cw20 ne4_89
     replace B60:=B60.other Cw20 ne60_89
     clear B89; have B89:Blk w20 b89 155 ((zs.set x.1 x.2).map lw):=by rw [List.map_set]; exact BN
     refine zF ?_
     refine ⟨RL.at_,RB.at_,hs1,by rintro _ rfl; exact (C16.other _ (Ne.symm ne89_r)).trans (hdr.low _ hbrl (fun c=>c)),?_⟩
     exact ⟨LS0,(hKp.drift hdr noT).chg C16 (.inl rfl),B4,B60,zs.set x.1 x.2,B89,by simp [hzl],aZ hzlt (by omega),fun j hj=>by
       rw [List.length_append,List.length_singleton] at hj
       by_cases e:j=pre.length
       · subst e; rw [← hx1,List.getD_eq_getElem?_getD,List.getElem?_set_self (by omega),hx1]; exact hx2
       · rw [gN (by omega)]; exact hzd j (by omega)⟩
    ·intro w21 hJ hZ hDd
     clear BR
     obtain ⟨LS0,hKp,B4,B60,zs,B89,hzl,hzlt,hzd⟩:=hJ
     obtain ⟨LL,hM,hF,h1,h2,Mk,ho15,hn17,hn58⟩:=up9 LS0 LL hM hF h1 h2 Mk ho15 hn17 hn58
     have hdd:=hDd _ rfl rfl
     have RD:Rec (Ins b89 (Ins b60 (Ins br (Ins b4 M)))) w21 w17.heap.size (.deferred (some [])):=⟨hdd,(fZ hMS0 (Nat.le_refl _))⟩
     replace Mk:=Mk.cons hszLL RD Mold0
     obtain ⟨zr,BR,hzrl,hzrt,hzrv⟩:=hZ
     simp only [List.length_map,List.length_range] at hzd
     have hzq:val zs=val xs / val ys:=by
       rw [quot_digits hzl (by rw [hv58]; exact Nat.mul_pos hyp (yO k)) hvr hzd,hv58,hvrs,Nat.mul_div_mul_right _ _ (yO k)]
     rw [hv58,hvrs] at hzrv
     refine zH ?_
     have hszd:=LL.size
     refine wd mixed 8 [4,99,104,105] (by decide +kernel) ?_
     apply zP
     ·intro wq hR hst
      refine yL rfl rfl (zI ?_)
      obtain ⟨LS0,Mk,B4,BR⟩:=ub4 hR LS0 Mk B4 BR
      refine zT rfl xD rfl B4 rfl ?_
      exact on0 rfl
     refine mX (fun v w=>SL.Own (Ins b89 (Ins b60 (Ins br (Ins b4 M)))) 155 w21 w v (limbs (val xs / val ys))) (fun v a b h r=>h.mono (lb r)) (fun wq hR hst=>?_) ?_
     ·refine zN rfl (zI ?_)
      obtain ⟨LS0,hM,Mk,B89,BR⟩:=ub5 hR LS0 hM Mk B89 BR
      refine zX rfl (bo func283) rfl rfl ?_
      have hq:IsNat (fun _=>False) wq (.slice (some ⟨b89,0,none⟩) (((limbs (val xs)).length + 1) - (limbs (val ys * 2 ^ k)).length) (((limbs (val xs)).length + 1) - (limbs (val ys * 2 ^ k)).length)) zs:=by have:=yD4 (M:=fun _=>False) B89 (fun c=>c) rfl (by omega) hzlt; rw [hzl] at this; exact this
      refine (eK (xs:=zs) hq (by omega) (fun _ c=>c.elim)).mono ?_
      rintro v99 w22 ⟨hB99,hf99⟩
      have hM99:=hM
      obtain ⟨LS0,Mk,BR⟩:=ub3 hB99 LS0 Mk BR
      rw [hzq] at hf99
      exact on1 hB99 rfl (SL.Own.of hf99 hM99 hR.size)
     apply zP
     ·intro wq hR hst
      refine yL rfl rfl (zI ?_)
      obtain ⟨LS0,Mk,BR⟩:=ub3 hR LS0 Mk BR
      refine zA rfl rfl ?_
      exact on0 rfl
     apply zP
     ·intro wq hR hst
      refine zN rfl (zI ?_)
      obtain ⟨LS0,Mk,BR⟩:=ub3 hR LS0 Mk BR
      refine yP rfl rfl ?_
      exact on0 rfl
     apply zP
     ·intro wq hR hst
      refine zN rfl (zI ?_)
      obtain ⟨LS0,Mk,BR⟩:=ub3 hR LS0 Mk BR
      refine yH 0 rfl yu355 rfl rfl sz25 rfl rfl ?_
      exact on0 rfl
     apply zP
     ·intro wq hR hst
      refine zN rfl (zI ?_)
      obtain ⟨LS0,Mk,B60,BR⟩:=ub4 hR LS0 Mk B60 BR
      refine zT rfl xD rfl B60 rfl ?_
      exact on0 rfl
     refine mX (fun v w=>SL.Own (Ins b89 (Ins b60 (Ins br (Ins b4 M)))) 155 w21 w v (limbs (val xs * 2 ^ k % (val ys * 2 ^ k)))) (fun v a b h r=>h.mono (lb r)) (fun wq hR hst=>?_) ?_
     ·refine zN rfl (zI ?_)
      obtain ⟨LS0,hM,Mk,BR⟩:=ub4 hR LS0 hM Mk BR
      refine zX rfl (bo func283) rfl rfl ?_
      have hq:IsNat (fun _=>False) wq (.slice (some ⟨br,0,none⟩) ((limbs (val xs)).length + 1) cap) zr:=by
        refine ⟨?_,hzrt⟩
        rw [hzrl,hrl]
        exact BR.slc (fun c=>c) (by rw [List.length_map,hzrl,hrl,Nat.mul_one]) (fun j u hj=>by rw [List.getElem?_append_left (List.getElem?_eq_some_iff.1 hj).1]; exact hj) (by omega) (by omega)
      refine (eK (xs:=zr) hq (by omega) (fun _ c=>c.elim)).mono ?_
      rintro v104 w23 ⟨hB104,hf104⟩
      have hM104:=hM
      obtain ⟨LS0,Mk,BR⟩:=ub3 hB104 LS0 Mk BR
      rw [hzrv] at hf104
      exact on1 hB104 rfl (SL.Own.of hf104 hM104 hR.size)
     apply zP
     ·intro wq hR hst
      refine yL rfl rfl (zI ?_)
      obtain ⟨LS0,Mk,BR⟩:=ub3 hR LS0 Mk BR
      refine zA rfl rfl ?_
      exact on0 rfl
     refine aN (fun wq17 hR17 hpost17=>?_)
     refine yL rfl rfl (tX rfl (fun v99 hn99=>?_))
     refine tX rfl (fun v104 hn104=>?_)
     refine zN rfl (zI ?_)
     simp only [nB,nA,mZ,mY]
     obtain ⟨LL,LS0,hM,hF,h1,h2,Mk,ho15,hn17,hn58,B4,B60,B89,BR⟩:=ub14 hR17 LL LS0 hM hF h1 h2 Mk ho15 hn17 hn58 B4 B60 B89 BR
     refine zX rfl (bo func377) rfl rfl ?_
     refine (down_c hn104.nat (by rw [← hzrv]; have:=zV zr hzrt; omega) hM).mono ?_
     rintro v106 w24 ⟨hB106,hf106⟩
     have hM106:=hM
     have hS106:=LL.size
     obtain ⟨LL,LS0,hM,hF,h1,h2,Mk,ho15,hn17,hn58,hn99,hn104,B4,B60,B89,BR⟩:=ub16 hB106 LL LS0 hM hF h1 h2 Mk ho15 hn17 hn58 hn99 hn104 B4 B60 B89 BR
     simp only [zJ,hkc] at hf106
     rw [rest_down hyp] at hf106
     have ho106:=SL.Own.of hf106 hM106 hS106
     have hn106:=ho106.nat
     have ho99:=hn99.fresh.own
     refine jP rfl rfl sz25 B4 (by first | rfl | exact gY (by assumption) | assumption | exact jY (by assumption)) (fun w25 Cw25 B4=>?_)
     obtain ⟨LL,LS0,Mk,hn99,ho106⟩:=up5 (lc LL Cw25 (.inr (.inr (.inr yA))) nF4) LL LS0 Mk hn99 ho106
     replace BR:=BR.other Cw25 ne4_r.symm
     refine zB rfl rfl (zB rfl rfl (zF (yX ?_)))
     refine gA Mk (fun wz hz=>⟨[_,_,_],⟨⟨_,rfl,bI xD (B4.drift hz (fun c=>c)) rfl⟩,rfl,rfl,trivial⟩,?_⟩)
     dsimp only [xN]
     have hq1:=hn99.fresh.less hszd
     have hq2:=ho106.fresh
     subst hFz
     exact ⟨SL.Bel.drift (LL.b) hz (Nat.le_refl _),v99,v106,by rw [if_neg hy0],hq1.drift hz,by rw [if_neg hy0]; exact hq2.drift hz⟩
end
end Go.Proofs.YtalkinejknjidaaGreatDoor
namespace Go.SL
def cmpR (p q:Rat):Int:=if p < q then -1 else if q < p then 1 else 0
theorem xT {p q:Rat}:cmpR p q < 0 ↔ p < q:=by unfold cmpR; grind
theorem kD {p q:Rat}:0 < cmpR p q ↔ q < p:=by unfold cmpR; grind
theorem yU {p q:Rat}:cmpR p q=0 ↔ p=q:=by unfold cmpR; grind
theorem nC {p q:Rat}:cmpR p q≤0 ↔ p≤q:=by unfold cmpR; grind
theorem dV {p q:Rat}:0≤cmpR p q ↔ q≤p:=by unfold cmpR; grind
theorem yC8 (p q:Rat):(p.num * q.den - q.num * p.den).sign=cmpR p q:=by
 unfold cmpR
 have h1:p < q ↔ p.num * q.den < q.num * p.den:=Rat.lt_iff p q
 have h2:q < p ↔ q.num * p.den < p.num * q.den:=Rat.lt_iff q p
 by_cases a:p < q
 ·rw [if_pos a]; have:=h1.1 a; exact Int.sign_eq_neg_one_of_neg (by omega)
 ·rw [if_neg a]
  have a1:¬ p.num * q.den < q.num * p.den:=fun c=>a (h1.2 c)
  by_cases b:q < p
  ·rw [if_pos b]; have:=h2.1 b; exact Int.sign_eq_one_of_pos (by omega)
  ·rw [if_neg b]
   have b1:¬ q.num * p.den < p.num * q.den:=fun c=>b (h2.2 c)
   rw [show p.num * q.den - q.num * p.den=0 by omega]; rfl
def sgnR (p:Rat):Int:=p.num.sign
theorem wK (p:Rat):sgnR p=cmpR p 0:=by
 have:=yC8 p 0
 rw [← this]; unfold sgnR; simp
theorem oV {p:Rat}:sgnR p < 0 ↔ p < 0:=by rw [wK,xT]
theorem fO {p:Rat}:sgnR p=0 ↔ p=0:=by rw [wK,yU]
theorem zX4 {p:Rat}:sgnR p≤0 ↔ p≤0:=by rw [wK,nC]
abbrev P2:=Rat × Rat
def addP (a b:P2):P2:=(a.1 + b.1,a.2 + b.2)
def subP (a b:P2):P2:=(a.1 - b.1,a.2 - b.2)
def uD (a:P2) (r:Rat):P2:=(a.1 * r,a.2 * r)
def zG (a b:P2):Rat:=a.1 * b.2 - a.2 * b.1
def atP (a b:P2) (t:Rat):P2:=addP a (uD (subP b a) t)
def absR (q:Rat):Rat:=if q < 0 then -q else q
def farP (a b:P2):Rat:=absR (a.1 - b.1) + absR (a.2 - b.2)
def cmpP (a b:P2):Int:=if cmpR a.1 b.1 ≠ 0 then cmpR a.1 b.1 else cmpR a.2 b.2
def leP (a b:P2):Prop:=a.1 < b.1 ∨ a.1=b.1∧a.2≤b.2
instance (a b:P2):Decidable (leP a b):=inferInstanceAs (Decidable (_ ∨ _))
theorem yC9 {a b:P2}:cmpP a b≤0 ↔ leP a b:=by
 unfold cmpP leP
 have h1:=@nC a.1 b.1; have h2:=@yU a.1 b.1; have h3:=@nC a.2 b.2; have h4:=@xT a.1 b.1
 grind
theorem jU {a b:P2}:cmpP a b=0 ↔ a=b:=by
 unfold cmpP
 have h2:=@yU a.1 b.1; have h3:=@yU a.2 b.2
 rw [Prod.ext_iff]; grind
theorem aO {a b:P2}:0 < cmpP a b ↔ ¬ leP a b:=by rw [← yC9]; omega
theorem kP {a b:P2}:cmpP a b < 0 ↔ ¬ leP b a:=by
 unfold cmpP leP
 have h1:=@nC a.1 b.1; have h2:=@yU a.1 b.1; have h3:=@xT a.2 b.2; have h4:=@xT a.1 b.1
 grind
theorem gL (a:P2):leP a a:=by unfold leP; grind
theorem gV {a b c:P2} (h:leP a b) (k:leP b c):leP a c:=by unfold leP at *; grind
theorem uL (a b:P2):leP a b ∨ leP b a:=by unfold leP; grind
theorem gB {a b:P2} (h:leP a b) (k:leP b a):a=b:=by unfold leP at *; rw [Prod.ext_iff]; grind
def xL (a b:P2):P2 × P2:=if 0 < cmpP a b then (b,a) else (a,b)
def kQ (s:P2 × P2) (p:P2):Rat:=zG (subP s.2 s.1) (subP p s.1)
def kI (s:P2 × P2) (p:P2):Prop:=leP s.1 p∧leP p s.2
instance (s:P2 × P2) (p:P2):Decidable (kI s p):=inferInstanceAs (Decidable (_∧_))
def hasP (s:P2 × P2) (p:P2):Prop:=kI s p∧kQ s p=0
instance (s:P2 × P2) (p:P2):Decidable (hasP s p):=inferInstanceAs (Decidable (_∧_))
def wZ (a b c d:P2):Rat:=zG (subP c a) (subP d c) / zG (subP b a) (subP d c)
def xB (a b c d:P2):Prop:=zG (subP b a) (subP d c) ≠ 0
instance (a b c d:P2):Decidable (xB a b c d):=inferInstanceAs (Decidable (_ ≠ _))
def xP (a b c d:P2):P2:=if xB a b c d then atP a b (wZ a b c d) else (0,0)
abbrev Mt:=Int × P2 × P2
def zZ0:Mt:=(0,(0,0),(0,0))
def loP (s t:P2 × P2):P2:=if 0 < cmpP t.1 s.1 then t.1 else s.1
def hiP (s t:P2 × P2):P2:=if cmpP t.2 s.2 < 0 then t.2 else s.2
def yE (s t:P2 × P2):Mt :=
 if 0 < cmpP (loP s t) (hiP s t) then zZ0
 else if hasP s (loP s t)∧hasP t (loP s t)∧hasP s (hiP s t)∧hasP t (hiP s t) then
  (if cmpP (loP s t) (hiP s t)=0 then 1 else 2,loP s t,hiP s t)
 else if xB s.1 s.2 t.1 t.2∧kI s (xP s.1 s.2 t.1 t.2)∧kI t (xP s.1 s.2 t.1 t.2) then
  (1,xP s.1 s.2 t.1 t.2,xP s.1 s.2 t.1 t.2)
 else zZ0
def zM2 (a b c d:P2):Mt:=yE (xL a b) (xL c d)
theorem from_le (a b:P2):leP (xL a b).1 (xL a b).2:=by
 unfold xL
 split
 ·rename_i h; rw [aO] at h; rcases uL a b with k | k; exact absurd k h; exact k
 ·rename_i h; rw [aO] at h; exact Classical.not_not.1 h
theorem fA {a b c d:P2} (h:xB a b c d):zG (subP b a) (subP (xP a b c d) a)=0∧zG (subP d c) (subP (xP a b c d) c)=0:=by
 have h':=h
 unfold xP; rw [if_pos h]
 unfold xB at h'
 unfold wZ atP addP uD subP zG at *
 simp only at *
 constructor <;> grind
theorem iZ {a b c d p q:P2} (h:xB a b c d) (h1:zG (subP b a) (subP p a)=0) (h2:zG (subP d c) (subP p c)=0)
  (h3:zG (subP b a) (subP q a)=0) (h4:zG (subP d c) (subP q c)=0):p=q:=by
 unfold xB zG subP at *
 rw [Prod.ext_iff]
 simp only at *
 constructor <;> grind
theorem aK {a b c d:P2}:xB a b c d ↔ xB c d a b:=by
 unfold xB zG subP; simp only; grind
theorem lines_comm {a b c d:P2} (h:xB a b c d):xP a b c d=xP c d a b:=by
 obtain ⟨h1,h2⟩:=fA h
 obtain ⟨h3,h4⟩:=fA (aK.1 h)
 exact iZ h h1 h2 h4 h3
theorem lo_comm (s t:P2 × P2):loP s t=loP t s:=by
 unfold loP
 have h1:=@aO t.1 s.1; have h2:=@aO s.1 t.1; have h3:=uL s.1 t.1; have h4:=@gB s.1 t.1
 grind
theorem hi_comm (s t:P2 × P2):hiP s t=hiP t s:=by
 unfold hiP
 have h1:=@kP t.2 s.2; have h2:=@kP s.2 t.2; have h3:=uL s.2 t.2; have h4:=@gB s.2 t.2
 grind
theorem rM (s t:P2 × P2):yE s t=yE t s:=by
 unfold yE
 rw [lo_comm t s,hi_comm t s]
 by_cases h:xB s.1 s.2 t.1 t.2
 ·rw [lines_comm h]; have:=aK.1 h; grind
 ·have:¬ xB t.1 t.2 s.1 s.2:=fun c=>h (aK.1 c)
  grind
theorem lo_le (s t:P2 × P2):leP s.1 (loP s t)∧leP t.1 (loP s t)∧(loP s t=s.1 ∨ loP s t=t.1):=by
 unfold loP
 have h1:=@aO t.1 s.1; have h3:=uL s.1 t.1; have h4:=gL s.1; have h5:=gL t.1
 split <;> grind
theorem hi_le (s t:P2 × P2):leP (hiP s t) s.2∧leP (hiP s t) t.2∧(hiP s t=s.2 ∨ hiP s t=t.2):=by
 unfold hiP
 have h1:=@kP t.2 s.2; have h3:=uL s.2 t.2; have h4:=gL s.2; have h5:=gL t.2
 split <;> grind
theorem vT {u v x:P2} (hv:v ≠ (0,0)) (h1:zG v x=0) (h2:zG u v=0):zG u x=0:=by
 have hv':v.1 ≠ 0 ∨ v.2 ≠ 0:=by
  rcases Classical.em (v.1=0) with h | h
  ·right; intro c; exact hv (Prod.ext h c)
  ·exact .inl h
 unfold zG at *
 rcases hv' with h | h
 ·have e:v.1 * (u.1 * x.2 - u.2 * x.1)=0:=by grind
  grind
 ·have e:v.2 * (u.1 * x.2 - u.2 * x.1)=0:=by grind
  grind
theorem pC {s t:P2 × P2} {p e:P2} (hs:hasP s p) (ht:hasP t p) (hpar:¬ xB s.1 s.2 t.1 t.2) (he:kQ t e=0) (hd:t.1=t.2→e=p):kQ s e=0:=by
 have hpar':zG (subP s.2 s.1) (subP t.2 t.1)=0:=Classical.not_not.1 hpar
 by_cases h0:t.1=t.2
 ·rw [hd h0]; exact hs.2
 ·have hv:subP t.2 t.1 ≠ (0,0):=fun c=>h0 (by
   unfold subP at c; rw [Prod.mk.injEq] at c
   rw [Prod.ext_iff]; constructor <;> grind)
  have h1:zG (subP t.2 t.1) (subP e p)=0:=by
   have a1:=he; have a2:=ht.2
   unfold kQ zG subP at *
   simp only at *
   grind
  have h2:=vT hv h1 hpar'
  have a3:=hs.2
  unfold kQ zG subP at *
  simp only at *
  grind
theorem qI (s:P2 × P2):kQ s s.1=0∧kQ s s.2=0:=by
 unfold kQ zG subP; simp only; constructor <;> grind
theorem fL {s:P2 × P2} {p e:P2} (h:kI s p) (he:kI s e) (h0:s.1=s.2):e=p:=by
 have h1:=gB (gV h.1 h.2 |> fun _=>h.1) (h0 ▸ h.2:leP p s.1)
 have h2:=gB he.1 (h0 ▸ he.2:leP e s.1)
 rw [← h1,← h2]
theorem iA {s t:P2 × P2} {p:P2} (hs:hasP s p) (ht:hasP t p) :
  (yE s t).1 ≠ 0∧hasP s (yE s t).2.1∧hasP t (yE s t).2.1∧hasP s (yE s t).2.2∧hasP t (yE s t).2.2∧hasP (yE s t).2 p∧leP (yE s t).2.1 (yE s t).2.2 ∧
   ((yE s t).1=1 ∨ (yE s t).1=2)∧((yE s t).1=1 ↔ (yE s t).2.1=(yE s t).2.2):=by
 have hl:=lo_le s t; have hh:=hi_le s t
 have hlp:leP (loP s t) p:=by rcases hl.2.2 with e | e <;> rw [e]; exact hs.1.1; exact ht.1.1
 have hph:leP p (hiP s t):=by rcases hh.2.2 with e | e <;> rw [e]; exact hs.1.2; exact ht.1.2
 have hlh:=gV hlp hph
 unfold yE
 rw [if_neg (fun c=>aO.1 c hlh)]
 by_cases h4:hasP s (loP s t)∧hasP t (loP s t)∧hasP s (hiP s t)∧hasP t (hiP s t)
 ·rw [if_pos h4]
  obtain ⟨k1,k2,k3,k4⟩:=h4
  refine ⟨?_,k1,k2,k3,k4,⟨⟨hlp,hph⟩,?_⟩,hlh,?_,?_⟩
  ·simp only; split <;> omega
  ·have a1:=k1.2; have a2:=k3.2; have a3:=hs.2
   by_cases h0:s.1=s.2
   ·have e1:=fL hs.1 k1.1 h0; have e2:=fL hs.1 k3.1 h0
    unfold kQ zG subP; simp only [e1,e2]; grind
   ·have hv:subP s.2 s.1 ≠ (0,0):=fun c=>h0 (by
     unfold subP at c; rw [Prod.mk.injEq] at c
     rw [Prod.ext_iff]; constructor <;> grind)
    have h1:zG (subP s.2 s.1) (subP p (loP s t))=0:=by
     unfold kQ zG subP at *; simp only at *; grind
    have h2:zG (subP (hiP s t) (loP s t)) (subP s.2 s.1)=0:=by
     unfold kQ zG subP at *; simp only at *; grind
    exact vT hv h1 h2
  ·simp only; split <;> omega
  ·simp only
   have:=@jU (loP s t) (hiP s t)
   split <;> grind
 ·rw [if_neg h4]
  have hok:xB s.1 s.2 t.1 t.2:=Classical.byContradiction fun c=>h4 (by
   have c':¬ xB t.1 t.2 s.1 s.2:=fun d=>c (aK.1 d)
   have hsl:kI s (loP s t):=⟨hl.1,gV hlp hs.1.2⟩
   have htl:kI t (loP s t):=⟨hl.2.1,gV hlp ht.1.2⟩
   have hsh:kI s (hiP s t):=⟨gV hs.1.1 hph,hh.1⟩
   have hth:kI t (hiP s t):=⟨gV ht.1.1 hph,hh.2.1⟩
   refine ⟨⟨hsl,?_⟩,⟨htl,?_⟩,⟨hsh,?_⟩,⟨hth,?_⟩⟩
   ·rcases hl.2.2 with e | e
    ·rw [e]; exact (qI s).1
    ·exact pC hs ht c (by rw [e]; exact (qI t).1) (fun h0=>fL ht.1 htl h0)
   ·rcases hl.2.2 with e | e
    ·exact pC ht hs c' (by rw [e]; exact (qI s).1) (fun h0=>fL hs.1 hsl h0)
    ·rw [e]; exact (qI t).1
   ·rcases hh.2.2 with e | e
    ·rw [e]; exact (qI s).2
    ·exact pC hs ht c (by rw [e]; exact (qI t).2) (fun h0=>fL ht.1 hth h0)
   ·rcases hh.2.2 with e | e
    ·exact pC ht hs c' (by rw [e]; exact (qI s).2) (fun h0=>fL hs.1 hsh h0)
    ·rw [e]; exact (qI t).2)
  have hq:xP s.1 s.2 t.1 t.2=p:=by
   obtain ⟨a1,a2⟩:=fA hok
   exact iZ hok a1 a2 hs.2 ht.2
  rw [hq,if_pos ⟨hok,hs.1,ht.1⟩]
  refine ⟨by simp,hs,ht,hs,ht,⟨⟨gL p,gL p⟩,(qI (p,p)).1⟩,gL p,.inl rfl,by simp⟩
theorem rL {s t:P2 × P2} (h:(yE s t).1 ≠ 0):hasP s (yE s t).2.1∧hasP t (yE s t).2.1∧hasP s (yE s t).2.2∧hasP t (yE s t).2.2:=by
 unfold yE at h ⊢
 split at h
 ·exact absurd rfl h
 ·rename_i h1
  rw [if_neg h1]
  split at h
  ·rename_i h2; rw [if_pos h2]; exact ⟨h2.1,h2.2.1,h2.2.2.1,h2.2.2.2⟩
  ·rename_i h2
   rw [if_neg h2]
   split at h
   ·rename_i h3
    rw [if_pos h3]
    obtain ⟨a1,a2⟩:=fA h3.1
    exact ⟨⟨h3.2.1,a1⟩,⟨h3.2.2,a2⟩,⟨h3.2.1,a1⟩,⟨h3.2.2,a2⟩⟩
   ·exact absurd rfl h
theorem zM0 {s e:P2} {t:Rat} (h:leP s e) (h0:0≤t) (h1:t≤1):kI (s,e) (atP s e t):=by
 have ht1:0≤1 - t:=by grind
 unfold kI leP atP addP uD subP
 unfold leP at h
 simp only
 rcases h with h | ⟨h,k⟩
 ·rcases Classical.em (t=0) with c | c
  ·subst c; grind
  ·rcases Classical.em (t=1) with d | d
   ·subst d; grind
   ·have a1:=Rat.mul_pos (show (0:Rat) < e.1 - s.1 by grind) (show (0:Rat) < t by grind)
    have a2:=Rat.mul_pos (show (0:Rat) < e.1 - s.1 by grind) (show (0:Rat) < 1 - t by grind)
    exact ⟨.inl (by grind),.inl (by grind)⟩
 ·have a1:=Rat.mul_nonneg (show (0:Rat)≤e.2 - s.2 by grind) h0
  have a2:=Rat.mul_nonneg (show (0:Rat)≤e.2 - s.2 by grind) ht1
  exact ⟨.inr ⟨by grind,by grind⟩,.inr ⟨by grind,by grind⟩⟩
theorem at_swap (a b:P2) (t:Rat):atP a b t=atP b a (1 - t):=by
 unfold atP addP uD subP; rw [Prod.mk.injEq]; constructor <;> grind
theorem has_at {a b:P2} {t:Rat} (h0:0≤t) (h1:t≤1):hasP (xL a b) (atP a b t):=by
 have hside:kQ (xL a b) (atP a b t)=0:=by
  unfold xL kQ zG atP addP uD subP; split <;> (simp only; grind)
 refine ⟨?_,hside⟩
 have hle:=from_le a b
 unfold xL at hle ⊢
 split
 ·rename_i h; rw [if_pos h] at hle; rw [at_swap]; exact zM0 hle (by grind) (by grind)
 ·rename_i h; rw [if_neg h] at hle; exact zM0 hle h0 h1
theorem jT {D y:Rat} (hD:0 < D) (h:0≤y * D):0≤y:=Classical.byContradiction fun c=>by
 have:=Rat.mul_pos (show (0:Rat) < -y by grind) hD
 grind
theorem zI5 {s:P2 × P2} {p:P2} (h:hasP s p):s.1.1≤p.1∧p.1≤s.2.1∧(s.1.2≤p.2∧p.2≤s.2.2 ∨ s.2.2≤p.2∧p.2≤s.1.2):=by
 obtain ⟨⟨h1,h2⟩,h3⟩:=h
 unfold kQ zG subP at h3
 simp only at h3
 have b1:s.1.1≤p.1:=by unfold leP at h1; grind
 have b2:p.1≤s.2.1:=by unfold leP at h2; grind
 refine ⟨b1,b2,?_⟩
 by_cases h0:s.1.1 < s.2.1
 ·have hD:(0:Rat) < s.2.1 - s.1.1:=by grind
  by_cases hE:s.1.2≤s.2.2
  ·left
   have a1:=Rat.mul_nonneg (show (0:Rat)≤p.1 - s.1.1 by grind) (show (0:Rat)≤s.2.2 - s.1.2 by grind)
   have a2:=Rat.mul_nonneg (show (0:Rat)≤s.2.1 - p.1 by grind) (show (0:Rat)≤s.2.2 - s.1.2 by grind)
   have c1:=jT (y:=p.2 - s.1.2) hD (by grind)
   have c2:=jT (y:=s.2.2 - p.2) hD (by grind)
   exact ⟨by grind,by grind⟩
  ·right
   have a1:=Rat.mul_nonneg (show (0:Rat)≤p.1 - s.1.1 by grind) (show (0:Rat)≤s.1.2 - s.2.2 by grind)
   have a2:=Rat.mul_nonneg (show (0:Rat)≤s.2.1 - p.1 by grind) (show (0:Rat)≤s.1.2 - s.2.2 by grind)
   have c1:=jT (y:=s.1.2 - p.2) hD (by grind)
   have c2:=jT (y:=p.2 - s.2.2) hD (by grind)
   exact ⟨by grind,by grind⟩
 ·left; unfold leP at h1 h2; exact ⟨by grind,by grind⟩
def zO (a b:P2) (x:Rat):Rat:=if b.1 - a.1=0 then 0 else (atP a b ((x - a.1) / (b.1 - a.1))).2
def qX (p:List P2) (i:Nat):P2 × P2:=xL (p.getD i (0,0)) (p.getD ((i + 1) % p.length) (0,0))
def qU (m:Mt):List P2:=if m.1=0 then [] else [m.2.1,m.2.2]
def yF (p:List P2):List (P2 × P2):=(List.range p.length).map (qX p)
def rawL (es fs:List (P2 × P2)):List P2:=es.flatMap fun s=>fs.flatMap fun t=>qU (yE s t)
theorem eR {es fs:List (P2 × P2)} {x:P2}:x ∈ rawL es fs ↔ ∃ s ∈ es,∃ t ∈ fs,x ∈ qU (yE s t):=by
 unfold rawL; simp
theorem bN {p:List P2} {s:P2 × P2}:s ∈ yF p ↔ ∃ i,i < p.length∧s=qX p i:=by
 unfold yF
 simp only [List.mem_map,List.mem_range]
 exact ⟨fun ⟨i,h,e⟩=>⟨i,h,e.symm⟩,fun ⟨i,h,e⟩=>⟨i,h,e.symm⟩⟩
theorem fE {p:List P2} {s:Nat} (h:s < p.length):yF p=(yF p).take s ++ qX p s :: (yF p).drop (s + 1)∧(yF p).take (s + 1)=(yF p).take s ++ [qX p s]:=by
 have hl:s < (yF p).length:=by simpa [yF] using h
 have e:(yF p)[s]=qX p s:=by simp [yF]
 exact ⟨by rw [← e,List.getElem_cons_drop,List.take_append_drop],by rw [List.take_add_one,List.getElem?_eq_getElem hl,e]; rfl⟩
theorem uF (p:List P2):(yF p).length=p.length:=by simp [yF]
theorem pairM_len (m:Mt):(qU m).length≤2:=by unfold qU; split <;> simp
theorem pS (s:P2 × P2):∀ (fs:List (P2 × P2)),(fs.flatMap fun t=>qU (yE s t)).length≤2 * fs.length
 | []=>by simp
 | t :: fs=>by
  rw [List.flatMap_cons,List.length_append,List.length_cons]
  have:=pairM_len (yE s t); have:=pS s fs; omega
theorem pV (fs:List (P2 × P2)):∀ (es:List (P2 × P2)),(rawL es fs).length≤2 * fs.length * es.length
 | []=>by simp [rawL]
 | s :: es=>by
  have h:=pV fs es
  unfold rawL at *
  rw [List.flatMap_cons,List.length_append,List.length_cons,Nat.mul_add]
  have:=pS s fs; omega
structure IsAll (p q l:List P2):Prop where
 rise:l.Pairwise fun a b=>cmpP a b < 0
 mem:∀ x,x ∈ l ↔ x ∈ rawL (yF p) (yF q)
theorem iO {a b c:P2} (h:cmpP a b < 0) (k:cmpP b c < 0):cmpP a c < 0:=by
 rw [kP] at *
 exact fun x=>h (gV (Classical.byContradiction fun y=>by rcases uL b c with z | z; exact y z; exact k z) x)
theorem fF (a:P2):¬ cmpP a a < 0:=by rw [kP]; exact fun c=>c (gL a)
theorem tL:∀ {l m:List P2},l.Pairwise (fun a b=>cmpP a b < 0)→m.Pairwise (fun a b=>cmpP a b < 0)→(∀ x,x ∈ l ↔ x ∈ m)→l=m
 | [],[],_,_,_=>rfl
 | [],b :: m,_,_,h=>absurd ((h b).2 (by simp)) (by simp)
 | a :: l,[],_,_,h=>absurd ((h a).1 (by simp)) (by simp)
 | a :: l,b :: m,h1,h2,h=>by
  obtain ⟨a1,a2⟩:=List.pairwise_cons.1 h1
  obtain ⟨b1,b2⟩:=List.pairwise_cons.1 h2
  have e:a=b:=by
   rcases List.mem_cons.1 ((h a).1 (by simp)) with c | c
   ·exact c
   rcases List.mem_cons.1 ((h b).2 (by simp)) with d | d
   ·exact d.symm
   exact absurd (iO (a1 b d) (b1 a c)) (fF a)
  subst e
  rw [tL a2 b2 fun x=>⟨fun hx=>?_,fun hx=>?_⟩]
  ·rcases List.mem_cons.1 ((h x).1 (List.mem_cons_of_mem _ hx)) with c | c
   ·subst c; exact absurd (a1 x hx) (fF x)
   ·exact c
  ·rcases List.mem_cons.1 ((h x).2 (List.mem_cons_of_mem _ hx)) with c | c
   ·subst c; exact absurd (b1 x hx) (fF x)
   ·exact c
theorem pair_has {s t:P2 × P2} {x:P2} (h:x ∈ qU (yE s t)):hasP s x∧hasP t x:=by
 unfold qU at h
 split at h
 ·simp at h
 ·rename_i h0
  obtain ⟨h1,h2,h3,h4⟩:=rL h0
  simp at h
  rcases h with rfl | rfl
  ·exact ⟨h1,h2⟩
  ·exact ⟨h3,h4⟩
theorem all_comm {p q l m:List P2} (h:IsAll p q l) (k:IsAll q p m):l=m:=by
 refine tL h.rise k.rise fun x=>?_
 rw [h.mem,k.mem,eR,eR]
 constructor
 ·rintro ⟨s,hs,t,ht,hm⟩; exact ⟨t,ht,s,hs,by rw [rM]; exact hm⟩
 ·rintro ⟨s,hs,t,ht,hm⟩; exact ⟨t,ht,s,hs,by rw [rM]; exact hm⟩
theorem sI (q:Rat):q * (q.den:Rat)=(q.num:Rat):=by
 have h:=Rat.mkRat_self q
 rw [Rat.mkRat_eq_div] at h
 have hd:(q.den:Rat) ≠ 0:=by
  have:=q.den_nz
  intro c
  have:((q.den:Nat):Rat)=((0:Nat):Rat):=c
  exact q.den_nz (Rat.natCast_inj.1 this)
 grind
def zR3 (xs:List Rat) (x:Rat):Option Nat:=xs.findIdx? (fun y=>decide (y=x))
def slabB (xs:List Rat) (x:Rat) (i:Nat):Bool:=decide (i + 1 < xs.length) && decide (xs.getD i 0 < x) && decide (x < xs.getD (i + 1) 0)
def slabAt (xs:List Rat) (x:Rat):Option Nat:=(List.range xs.length).find? (slabB xs x)
def yK1 (xs:List Rat) (x:Rat):Nat × Bool × Bool:=match zR3 xs x with
 | some i=>(i,true,true)
 | none=>match slabAt xs x with
  | some i=>(i,false,true)
  | none=>(0,false,false)
def iS (xs:List Rat):Prop:=∀ i,i + 1 < xs.length→xs.getD i 0 < xs.getD (i + 1) 0
instance (xs:List Rat):Decidable (iS xs):=decidable_of_iff (∀ i,i < xs.length→i + 1 < xs.length→xs.getD i 0 < xs.getD (i + 1) 0) ⟨fun h i hi=>h i (by omega) hi,fun h i _ hi=>h i hi⟩
theorem zM4 {xs:List Rat} (h:iS xs):∀ (k i:Nat),i + (k + 1) < xs.length→xs.getD i 0 < xs.getD (i + (k + 1)) 0
 | 0,i,hi=>h i hi
 | k + 1,i,hi=>by
  have a:=zM4 h k i (by omega)
  have b:=h (i + (k + 1)) (by omega)
  have e:i + (k + 1 + 1)=i + (k + 1) + 1:=by omega
  rw [e]; grind
theorem cK {xs:List Rat} (h:iS xs) {i j:Nat} (hij:i < j) (hj:j < xs.length):xs.getD i 0 < xs.getD j 0:=by
 obtain ⟨k,rfl⟩:∃ k,j=i + (k + 1):=⟨j - i - 1,by omega⟩
 exact zM4 h k i hj
theorem wall_some {xs:List Rat} {x:Rat} {i:Nat} (hi:i < xs.length) (h:xs.getD i 0=x) (hn:∀ j,j < i→xs.getD j 0 ≠ x):zR3 xs x=some i:=by
 unfold zR3
 rw [List.findIdx?_eq_some_iff_getElem]
 refine ⟨hi,by simpa [List.getD_eq_getElem?_getD,List.getElem?_eq_getElem hi] using h,fun j hj=>?_⟩
 have:=hn j hj
 simpa [List.getD_eq_getElem?_getD,List.getElem?_eq_getElem (show j < xs.length by omega)] using this
theorem find_wall {xs:List Rat} (h:iS xs) {i:Nat} (hi:i < xs.length):yK1 xs (xs.getD i 0)=(i,true,true):=by
 unfold yK1
 rw [wall_some hi rfl (fun j hj c=>by have:=cK h hj hi; grind)]
end Go.SL
namespace Go.Proofs.YtalkinejknjidaaGreatDoor
open Go.SL Go.RowKit Go.Proofs Tryz
section
variable {M : Nat → Prop} {w : World}
theorem tz_c {x:Nat} (hT:Tab M w) (h0:x ≠ 0) (hx:x < 18446744073709551616) (hM:OkM M w) :
    CallsV prog 378 [.int .u64 (x:Int)] w fun r w'=>Bel w.heap.size w w'∧r = .int .i64 ((tz x:Nat):Int):=by
 have hk:=oG (n:=64) h0 (Nat.lt_of_lt_of_eq hx (by decide))
 have hlb:=and_low_bit h0 (Nat.lt_of_lt_of_eq hx (by decide))
 rw [show (2:Nat) ^ 64=18446744073709551616 by decide] at hlb
 have e58:(2:Nat) ^ (58:Int).toNat=288230376151711744:=by decide
 have htab:=tab_all (tz x) hk
 refine ci M func378 ntmps378 fun Fz hFz hF LL=>?_
 refine zH (zC (zB rfl rfl (zF (zH (zH (zC (zA rfl rfl (eW rfl rfl rfl (zF ?_)))))))))
 refine yI rfl (fun hp=>absurd hp (by omega)) (fun hc0=>?_)
 refine xH (zH (zC (zA rfl rfl (zA rfl rfl (ops_negu rfl rfl hx (xY (d:=7) (u:=.int .u64 ((18446744073709551616 - x:Nat):Int)) rfl (by show Value.int .u64 _=Value.int .u64 _; congr 2 <;> omega) (cT rfl rfl rfl (by simp only [IntKind.bits]; omega) (by simp only [IntKind.bits]; omega) (.inl rfl) (xY (d:=8) (u:=.int .u64 ((2 ^ tz x:Nat):Int)) rfl (by rw [hlb]) (cQ (b:=285870213051353865) rfl rfl rfl (jH rfl rfl rfl (by simp only [IntKind.bits]; omega) (xY (d:=10) (u:=.int .u64 ((2 ^ tz x * 285870213051353865 % 18446744073709551616 / 288230376151711744:Nat):Int)) rfl (by rw [← e58]) (ops_idxa (2 ^ tz x * 285870213051353865 % 18446744073709551616 / 288230376151711744) rfl underlying363 sz5 rfl rfl rfl rfl yF6 (xC rfl flat5 rfl (by rw [Nat.zero_add]; exact hT.cell yF6) ?_)))))))))))))
 rw [htab]
 refine lY rfl yu5 yu3 rfl (by omega) ?_
 refine zB rfl rfl (zF (yX ?_))
 refine lv1 ⟨rfl,trivial⟩ ?_
 subst hFz
 exact ⟨LL.b,rfl⟩
def zv (b:Bool) (xs:List Nat):Int:=if b then -((val xs:Nat):Int) else ((val xs:Nat):Int)
theorem yE3 (b:Bool) (xs:List Nat):(zv b xs).natAbs=val xs:=by cases b <;> simp [zv]
theorem wC (z:Int):zv (decide (z < 0)) (limbs z.natAbs)=z:=by
  unfold zv; rw [zJ]; by_cases h:z < 0 <;> simp [h] <;> omega
theorem yR {n k:Nat} (h:(limbs n).length≤k):n < 4294967296 ^ k:=by
  have:=yM (limbs n) (yQ n)
  rw [zJ] at this
  exact Nat.lt_of_lt_of_le this (Nat.pow_le_pow_right (by omega) h)
theorem mk_parts {z:Int} {d:Nat} (hd:d ≠ 0):(mkRat z d).num=z / ((Nat.gcd z.natAbs d:Nat):Int)∧(mkRat z d).den=d / Nat.gcd z.natAbs d:=by
  have e:mkRat z d=Rat.normalize z d hd:=by simp [mkRat,hd]
  rw [e,Rat.normalize_eq]
  exact ⟨rfl,rfl⟩
theorem bU {z:Int} {d:Nat} (hd:d ≠ 0):decide ((mkRat z d).num < 0)=decide (z < 0)∧(mkRat z d).num.natAbs=z.natAbs / Nat.gcd z.natAbs d∧(mkRat z d).den=d / Nat.gcd z.natAbs d:=by
  obtain ⟨h1,h2⟩:=mk_parts (z:=z) hd
  have hg:0 < Nat.gcd z.natAbs d:=Nat.gcd_pos_of_pos_right _ (Nat.pos_of_ne_zero hd)
  obtain ⟨k,hk⟩:=Nat.gcd_dvd_left z.natAbs d
  generalize hG:Nat.gcd z.natAbs d=g at *
  have hz:z=((g:Nat):Int) * k ∨ z = -(((g:Nat):Int) * k):=by
    rcases Int.natAbs_eq z with h | h
    · left; rw [h,hk]; simp
    · right; rw [h,hk]; simp
  have hgi:((g:Nat):Int) ≠ 0:=by omega
  have hq:z.natAbs / g=k:=by rw [hk,Nat.mul_div_cancel_left _ hg]
  rw [h1,h2]
  rcases hz with hz | hz
  · have e:z / ((g:Nat):Int)=k:=by rw [hz,Int.mul_ediv_cancel_left _ hgi]
    rw [e,hq]
    refine ⟨?_,by simp,rfl⟩
    have h0:(0:Int)≤z:=by rw [hz]; exact Int.mul_nonneg (by omega) (by omega)
    rw [decide_eq_false (by omega),decide_eq_false (by omega)]
  · have e:z / ((g:Nat):Int) = -k:=by rw [hz,← Int.mul_neg,Int.mul_ediv_cancel_left _ hgi]
    rw [e,hq]
    refine ⟨?_,by simp,rfl⟩
    rcases Nat.eq_zero_or_pos k with h0 | h0
    · subst h0; simp at hz; subst hz; simp
    · have:z < 0:=by rw [hz]; have:=Int.mul_pos (a:=((g:Nat):Int)) (b:=(k:Int)) (by omega) (by omega); omega
      rw [decide_eq_true (by omega),decide_eq_true this]
theorem num_len {s:Bool} {xs ds:List Nat} (h1:∀ x ∈ xs,x < 4294967296) (h2:∀ x ∈ ds,x < 4294967296):(limbs (mkRat (zv s xs) (val ds)).num.natAbs).length≤xs.length∧(limbs (mkRat (zv s xs) (val ds)).den).length≤ds.length + 1:=by
  by_cases hd:val ds=0
  · rw [hd]; simp [yB,xW]
  · have h:=bU (z:=zv s xs) hd
    rw [yE3] at h
    rw [h.2.1,h.2.2]
    exact ⟨Nat.le_trans (yC (Nat.div_le_self _ _)) (zV xs h1),Nat.le_succ_of_le (Nat.le_trans (yC (Nat.div_le_self _ _)) (zV ds h2))⟩
def rlen (q:Rat) (A:Nat):Prop:=(limbs q.num.natAbs).length≤A∧(limbs q.den).length≤A
theorem wN {z:Int} {d A:Nat} (h1:z.natAbs < 4294967296 ^ A) (h2:d < 4294967296 ^ A) (hd:d ≠ 0):rlen (mkRat z d) A:=by
  have h:=bU (z:=z) hd
  unfold rlen
  rw [h.2.1,h.2.2]
  exact ⟨zS (Nat.lt_of_le_of_lt (Nat.div_le_self _ _) h1),zS (Nat.lt_of_le_of_lt (Nat.div_le_self _ _) h2)⟩
theorem zR {q:Rat} {A B:Nat} (h:rlen q A) (hAB:A≤B):rlen q B:=⟨Nat.le_trans h.1 hAB,Nat.le_trans h.2 hAB⟩
theorem jW {p q:Rat} {A B:Nat} (h1:rlen p A) (h2:rlen q B):rlen (p + q) (A + B + 1):=by
  have e:p + q=mkRat (p.num * q.den + q.num * p.den) (p.den * q.den):=by
    conv=>lhs; rw [← Rat.mkRat_self p,← Rat.mkRat_self q]
    rw [Rat.mkRat_add_mkRat _ _ p.den_nz q.den_nz]
  rw [e]
  have a1:=yR h1.1
  have a2:=yR h1.2
  have a3:=yR h2.1
  have a4:=yR h2.2
  refine wN ?_ ?_ (Nat.mul_ne_zero p.den_nz q.den_nz)
  · refine Nat.lt_of_le_of_lt (Int.natAbs_add_le _ _) (add_lt_pow ?_ ?_)
    · rw [Int.natAbs_mul,Int.natAbs_natCast]; exact gR a1 a4
    · rw [Int.natAbs_mul,Int.natAbs_natCast,Nat.add_comm]; exact gR a3 a2
  · exact Nat.lt_of_lt_of_le (gR a2 a4) (Nat.pow_le_pow_right (by omega) (by omega))
theorem uS {p q:Rat} {A B:Nat} (h1:rlen p A) (h2:rlen q B):rlen (p * q) (A + B):=by
  have e:p * q=mkRat (p.num * q.num) (p.den * q.den):=by
    conv=>lhs; rw [← Rat.mkRat_self p,← Rat.mkRat_self q]
    rw [Rat.mkRat_mul_mkRat]
  rw [e]
  have a1:=yR h1.1
  have a2:=yR h1.2
  have a3:=yR h2.1
  have a4:=yR h2.2
  refine wN ?_ (gR a2 a4) (Nat.mul_ne_zero p.den_nz q.den_nz)
  rw [Int.natAbs_mul]; exact gR a1 a3
theorem cJ {p:Rat} {A:Nat} (h:rlen p A):rlen (-p) A:=by unfold rlen; rw [Rat.neg_num,Rat.neg_den,Int.natAbs_neg]; exact h
theorem nQ:rlen 0 1:=⟨by simp [yB],by simp [xW]⟩
structure QC (M:Nat→Prop) (w:World) (n:Nat) (q:Rat) (s:Bool) (a d:Value):Prop where
  ex:∃ xs ds,IsNat M w a xs∧IsNat M w d ds∧xs.length≤n∧ds.length≤n∧mkRat (zv s xs) (val ds)=q
structure RC (M:Nat→Prop) (w:World) (n:Nat) (q:Rat) (s:Bool) (a d:Value):Prop where
  sgn:s=decide (q.num < 0)
  num:IsNat M w a (limbs q.num.natAbs)
  den:IsNat M w d (limbs q.den)
  len:rlen q n
section
variable {Fz M M' T S : Nat → Prop} {w w' : World} {n m k : Nat} {q : Rat} {s : Bool} {a d : Value}
theorem QC.up (h:QC M w n q s a d) (hm:n≤m):QC M w m q s a d:=by
  obtain ⟨xs,ds,h1,h2,h3,h4,h5⟩:=h.ex; exact ⟨xs,ds,h1,h2,by omega,by omega,h5⟩
theorem QC.rlen (h:QC M w n q s a d):rlen q (n + 1):=by
  obtain ⟨xs,ds,h1,h2,h3,h4,rfl⟩:=h.ex
  have:=num_len (s:=s) h1.lt h2.lt
  exact ⟨by omega,by omega⟩
theorem QC.sl (h:QC M w n q s a d):(∃ x i j,a = .slice x i j)∧∃ x i j,d = .slice x i j:=by
  obtain ⟨xs,ds,h1,h2,h3⟩:=h.ex
  obtain ⟨_,_,ad,cap,rfl,_⟩:=h1.slc
  obtain ⟨_,_,ad2,cap2,rfl,_⟩:=h2.slc
  exact ⟨⟨_,_,_,rfl⟩,_,_,_,rfl⟩
theorem QC.one (h:QC M w n q s a d):a.oneCell'=true∧d.oneCell'=true∧True:=by
  obtain ⟨⟨_,_,_,rfl⟩,_,_,_,rfl⟩:=h.sl; exact ⟨rfl,rfl,trivial⟩
theorem RC.up (h:RC M w n q s a d) (hm:n≤m):RC M w m q s a d:=⟨h.sgn,h.num,h.den,zR h.len hm⟩
theorem RC.gen (h:RC M w n q s a d):QC M w n q s a d:=⟨_,_,h.num,h.den,h.len.1,h.len.2,by rw [h.sgn,wC,zJ,Rat.mkRat_self]⟩
theorem RC.one (h:RC M w n q s a d):a.oneCell'=true∧d.oneCell'=true∧True:=h.gen.one
end
end
end Go.Proofs.YtalkinejknjidaaGreatDoor
namespace Go.Proofs.YtalkinejknjidaaGreatDoor
open Go Go.SL Go.RowKit Tryz
section
variable {Fz M M' : Nat → Prop} {w w' : World}
end
end Go.Proofs.YtalkinejknjidaaGreatDoor
namespace Go.Proofs.YtalkinejknjidaaGreatDoor
open Go.SL Go.RowKit Go.Proofs Tryz
section
variable {M : Nat → Prop} {w : World}
theorem yG9 (p q:Rat):mkRat (p.num * zv (decide (q.num < 0)) (limbs q.den)) (p.den * q.num.natAbs)=p / q:=by
  rw [Rat.mkRat_eq_div]
  have e1:=sI p
  have e2:=sI q
  have d1:(p.den:Rat) ≠ 0:=fun c=>p.den_nz (Rat.natCast_inj.1 (show ((p.den:Nat):Rat)=((0:Nat):Rat) from c))
  have d2:(q.den:Rat) ≠ 0:=fun c=>q.den_nz (Rat.natCast_inj.1 (show ((q.den:Nat):Rat)=((0:Nat):Rat) from c))
  rw [Rat.intCast_mul,Rat.natCast_mul]
  by_cases h:q.num < 0
  · have f:((q.num.natAbs:Nat):Rat) = -(q.num:Rat):=by
      rw [← Rat.intCast_neg,← Int.natAbs_neg]
      have:(((-q.num).natAbs:Nat):Int) = -q.num:=by omega
      rw [← this]; rfl
    rw [f,decide_eq_true h,zv,if_pos rfl,zJ,Rat.intCast_neg]
    have g:(((q.den:Nat):Int):Rat)=(q.den:Rat):=rfl
    rw [g]
    have hn:(q.num:Rat) ≠ 0:=by
      intro c
      have:((q.num:Int):Rat)=((0:Int):Rat):=c
      have:=Rat.intCast_inj.1 this
      omega
    grind
  · have f:((q.num.natAbs:Nat):Rat)=(q.num:Rat):=by
      have:((q.num.natAbs:Nat):Int)=q.num:=by omega
      rw [show ((q.num.natAbs:Nat):Rat)=(((q.num.natAbs:Nat):Int):Rat) from rfl,this]
    rw [f,decide_eq_false h,zv,if_neg (by simp),zJ]
    have g:(((q.den:Nat):Int):Rat)=(q.den:Rat):=rfl
    rw [g]
    by_cases h0:q.num=0
    · have hq:q=0:=by rw [← Rat.num_eq_zero]; exact h0
      subst hq; simp [Rat.div_def]
    · have hn:(q.num:Rat) ≠ 0:=by
        intro c
        have:((q.num:Int):Rat)=((0:Int):Rat):=c
        exact h0 (Rat.intCast_inj.1 this)
      grind
theorem quo_zero (p q:Rat):(p.den * q.num.natAbs=0)=(q=0):=by
  apply propext
  rw [Nat.mul_eq_zero]
  constructor
  · intro h
    rcases h with h | h
    · exact absurd h p.den_nz
    · rw [← Rat.num_eq_zero]; omega
  · intro h; subst h; exact .inr rfl
theorem lS {p q:Rat} {A B:Nat} (h1:rlen p A) (h2:rlen q B):rlen (p / q) (A + B + 1):=by
  rw [← yG9]
  by_cases hq:q=0
  · subst hq
    have:p.den * (0:Rat).num.natAbs=0:=by simp
    rw [this,Rat.mkRat_zero]
    exact zR nQ (by omega)
  · have a1:=yR h1.1; have a2:=yR h1.2; have a3:=yR h2.1; have a4:=yR h2.2
    refine zR (wN (A:=A + B) ?_ (gR a2 a3) (fun c=>hq ((quo_zero p q) ▸ c))) (by omega)
    rw [Int.natAbs_mul,yE3,zJ]; exact gR a1 a4
structure ZQ (M:Nat→Prop) (w:World) (n:Nat) (q:Int) (s:Bool) (a:Value):Prop where
  ex:∃ xs,IsNat M w a xs∧xs.length≤n∧zv s xs=q
section
variable {Fz M M' T S : Nat → Prop} {w w' w0 : World} {n m k : Nat} {q : Int} {s : Bool} {a : Value}
theorem ZQ.up (h:ZQ M w n q s a) (hm:n≤m):ZQ M w m q s a:=by obtain ⟨xs,h1,h2,h3⟩:=h.ex; exact ⟨xs,h1,by omega,h3⟩
theorem ZQ.one (h:ZQ M w n q s a):a.oneCell'=true∧True:=by obtain ⟨xs,h1,_⟩:=h.ex; exact ⟨jY h1,trivial⟩
end
structure ZC (M:Nat→Prop) (w:World) (n:Nat) (q:Int) (s:Bool) (a:Value):Prop where
  sgn:s=decide (q < 0)
  num:IsNat M w a (limbs (q.natAbs))
  len:(limbs (q.natAbs)).length≤n
section
variable {Fz M M' T S : Nat → Prop} {w w' w0 : World} {n m k : Nat} {q : Int} {s : Bool} {a : Value}
theorem ZC.gen (h:ZC M w n q s a):ZQ M w n q s a:=⟨_,h.num,h.len,by rw [h.sgn]; exact wC q⟩
end
structure NQ (M:Nat→Prop) (w:World) (n:Nat) (q:Nat) (a:Value):Prop where
  ex:∃ xs,IsNat M w a xs∧xs.length≤n∧val xs=q
section
variable {Fz M M' T S : Nat → Prop} {w w' w0 : World} {n m k : Nat} {q : Nat}  {a : Value}
theorem NQ.one (h:NQ M w n q a):a.oneCell'=true∧True:=by obtain ⟨xs,h1,_⟩:=h.ex; exact ⟨jY h1,trivial⟩
end
structure PQ (M:Nat→Prop) (w:World) (n:Nat) (q:P2) (s:Bool) (a:Value) (d:Value) (t:Bool) (b:Value) (e:Value):Prop where
  x:QC M w n q.1 s a d
  y:QC M w n q.2 t b e
section
variable {Fz M M' T S : Nat → Prop} {w w' w0 : World} {n m k : Nat} {q : P2} {p r : Rat} {s : Bool} {t : Bool} {a d b e : Value}
theorem PQ.up (h:PQ M w n q s a d t b e) (hm:n≤m):PQ M w m q s a d t b e:=⟨h.x.up hm,h.y.up hm⟩
end
end
end Go.Proofs.YtalkinejknjidaaGreatDoor
namespace Go.Proofs.YtalkinejknjidaaGreatDoor
open Go Go.SL Go.RowKit Tryz
section
variable {Fz M M' : Nat → Prop} {w w' : World}
end
end Go.Proofs.YtalkinejknjidaaGreatDoor
namespace Go.SL
open Go.RowKit
variable {G : Type}
section draw
variable {P : Program} {r : Option Nat} {N : Nat} {ops : Array Oper} {D : List Deferred} {E : Env} {x0 : World × G} {R : World × G → World × G → Prop} {R' : Nat → World × G → World × G → Prop} {Pr : Nat → World × G → Prop} {st : Option (Nat × (World × G → Prop) × (World × G → Prop))}
variable {F : List (Nat × VPS G) → Prop} {rest : List Oper} {i : Nat} {Γ : List (Nat × VPS G)}
end draw
end Go.SL
namespace Go.SL
open Go.RowKit
section flds
variable {P : Program} {r : Option Nat} {N : Nat} {all : Array Oper} {K : Pd} {D : List Deferred} {E : Env} {w : World} {rest : List Oper}
theorem ops_fielda {d:Nat} {x:Operand} {s t':TypeId} {pos:String} {af:Array Edge} {f:Nat} {fields:Array Field} {fd:Field} {us vs:List Value} {sz bytes:Nat} {z:Value} (hd:Nat.blt d N=true)
  (hs:P.underlying s=some (.struct fields)) (hf:fields[f]? = some fd) (hz:Sz P fd.type sz bytes z) (ha:Fold P fd.type) (hx:ev E x=some (.agg us.toArray)) (hl:Nat.ble (fd.offset + sz) us.length=true) (hv:(us.drop fd.offset).take sz=vs)
  (h:Ops P r N all K rest D ((d,.agg vs.toArray) :: E) w):Ops P r N all K (⟨some d,.field s x f,t',pos,af,none⟩ :: rest) D E w:=by
 have hl':fd.offset + sz≤us.length:=by simpa [Nat.ble_eq] using hl
 refine rH hd hs hf hz hx hv (by rw [← hv]; simp; omega) ?_ h
 have e1:=ha w
 subst hv
 simp [Instr.field,run_underlying hs,hf,part,Result.andThen,asAgg,jN hz,e1,hl']
 all_goals (try omega)
theorem ops_fieldc {d:Nat} {x:Operand} {s t':TypeId} {pos:String} {af:Array Edge} {f:Nat} {fields:Array Field} {fd:Field} {us:List Value} {v:Value} {bytes:Nat} {z:Value} (hd:Nat.blt d N=true)
  (hs:P.underlying s=some (.struct fields)) (hf:fields[f]? = some fd) (hz:Sz P fd.type 1 bytes z) (ha:Flat P fd.type) (hx:ev E x=some (.agg us.toArray)) (hv:us[fd.offset]? = some v)
  (h:Ops P r N all K rest D ((d,v) :: E) w):Ops P r N all K (⟨some d,.field s x f,t',pos,af,none⟩ :: rest) D E w:=by
 have hlt:=(List.getElem?_eq_some_iff.1 hv).1
 refine rH hd hs hf hz hx rfl (by simp; omega) ?_ h
 have e1:=ha w
 simp [Instr.field,run_underlying hs,hf,part,Result.andThen,asAgg,jN hz,e1,hv]
 all_goals (try omega)
end flds
end Go.SL
namespace Go.Proofs.YtalkinejknjidaaGreatDoor
open Go.SL Go.RowKit Go.Proofs Tryz
section
variable {M : Nat → Prop} {w : World}
def RQ (n:Nat):RelV Rat:=fun M w p us=>∃ s a d,us=[.bool s,a,d]∧QC M w n p s a d
def RQc (n:Nat):RelV Rat:=fun M w p us=>∃ s a d,us=[.bool s,a,d]∧RC M w n p s a d
def RP (n:Nat):RelV P2:=fun M w p us=>∃ s a d t b e,us=[.bool s,a,d,.bool t,b,e]∧PQ M w n p s a d t b e
structure PL (M:Nat→Prop) (w:World) (n:Nat) (q:List P2) (v:Value):Prop where
  row:wA (RP n) 6 M w v q
structure QL (M:Nat→Prop) (w:World) (n:Nat) (q:List Rat) (v:Value):Prop where
  row:wA (RQ n) 3 M w v q
def RZ (n:Nat):RelV Int:=fun M w p us=>∃ s a,us=[.bool s,a]∧ZQ M w n p s a
structure ZL (M:Nat→Prop) (w:World) (n:Nat) (q:List Int) (v:Value):Prop where
  row:wA (RZ n) 2 M w v q
end
end Go.Proofs.YtalkinejknjidaaGreatDoor
namespace Go.Proofs.YtalkinejknjidaaGreatDoor
open Go Go.SL Go.RowKit Tryz
section
variable {Fz M M' : Nat → Prop} {w w' : World}
end
end Go.Proofs.YtalkinejknjidaaGreatDoor
namespace Go.Proofs.YtalkinejknjidaaGreatDoor
open Go.SL Go.RowKit Go.Proofs Tryz
section
variable {M : Nat → Prop} {w : World}
theorem zc_zero {n:Nat}:ZC M w n 0 false (.slice none 0 0):=⟨by simp,by simpa [yB] using (iE (M:=M) (w:=w)),by simp [yB]⟩
theorem sum_take {l:List Int} {s:Nat} (h:s < l.length):(l.take (s + 1)).sum=(l.take s).sum + l.getD s 0:=by
  rw [(zU (0:Int) h).1,List.sum_append]; simp
def jO (l:List Int):Int:=l.foldl (· * ·) 1
theorem prod_take {l:List Int} {s:Nat} (h:s < l.length):jO (l.take (s + 1))=jO (l.take s) * l.getD s 0:=by
  rw [(zU (0:Int) h).1,jO,List.foldl_append]; rfl
theorem zV4 {t:Nat} (h0:t ≠ 0) (h:t % 2=0):tz t=tz (t / 2) + 1:=by
  conv=>lhs; rw [tz]
  rw [dif_neg (by omega)]
theorem zR4 {t:Nat} (h:t % 2=1):tz t=0:=by rw [tz,dif_pos (.inl h)]
theorem zR5:∀ (k m:Nat),m ≠ 0→tz (2 ^ k * m)=k + tz m
  | 0,m,h=>by simp
  | k + 1,m,h=>by
    have hp:2 ^ k * m ≠ 0:=Nat.mul_ne_zero (Nat.pos_iff_ne_zero.1 (Nat.pow_pos (by omega))) h
    have e:2 ^ (k + 1) * m=2 * (2 ^ k * m):=by rw [Nat.pow_succ,Nat.mul_comm (2 ^ k) 2,Nat.mul_assoc]
    rw [e,zV4 (by omega) (by omega),Nat.mul_div_cancel_left _ (by omega),zR5 k m h]; omega
def od (x:Nat):Nat:=x / 2 ^ tz x
theorem fY {x:Nat} (h:x ≠ 0):x=2 ^ tz x * od x∧od x % 2=1:=fJ x h
theorem zY9 (x:Nat):od x≤x:=Nat.div_le_self _ _
theorem tz_low {x r:Nat} (hx:x ≠ 0) (hx2:x < 4294967296):tz (x + 4294967296 * r)=tz x:=by
  obtain ⟨h1,h2⟩:=fY hx
  have hk:=oG (n:=32) hx (Nat.lt_of_lt_of_eq hx2 (by decide))
  obtain ⟨i,hi⟩:∃ i,32=tz x + (i + 1):=⟨32 - tz x - 1,by omega⟩
  have e:x + 4294967296 * r=2 ^ tz x * (od x + 2 * (2 ^ i * r)):=by
    have:(4294967296:Nat)=2 ^ tz x * (2 ^ i * 2):=by rw [← Nat.pow_succ,← Nat.pow_add,← hi]
    rw [this,Nat.mul_add,← h1]; congr 1
    simp only [Nat.mul_assoc,Nat.mul_left_comm,Nat.mul_comm]
  rw [e]; generalize 2 ^ i * r=q
  rw [zR5 _ _ (by omega),zR4 (t:=od x + 2 * q) (by omega)]; rfl
theorem zV0:∀ (s:Nat) (xs:List Nat),(∀ j,j < s→xs.getD j 0=0)→s < xs.length→∃ r,val xs=2 ^ (32 * s) * (xs.getD s 0 + 4294967296 * r)
  | 0,x :: xs,_,_=>⟨val xs,by simp [val]⟩
  | s + 1,x :: xs,h,hl=>by
    obtain ⟨r,hr⟩:=zV0 s xs (fun j hj=>by have:=h (j + 1) (by omega); simpa using this) (by simpa using hl)
    have h0:x=0:=by have:=h 0 (by omega); simpa using this
    refine ⟨r,?_⟩
    have e:2 ^ (32 * (s + 1))=4294967296 * 2 ^ (32 * s):=by rw [Nat.mul_add,Nat.pow_add,Nat.mul_comm]
    rw [val,h0,hr,e,Nat.mul_assoc]; simp
theorem tz_limbs {xs:List Nat} {s:Nat} (hlt:∀ x ∈ xs,x < 4294967296) (h:∀ j,j < s→xs.getD j 0=0) (hs:s < xs.length) (h0:xs.getD s 0 ≠ 0):tz (val xs)=32 * s + tz (xs.getD s 0):=by
  obtain ⟨r,hr⟩:=zV0 s xs h hs
  rw [hr,zR5 _ _ (by omega),tz_low h0 (yK hlt s)]
theorem val_zero_all {xs:List Nat} (h:∀ j,j < xs.length→xs.getD j 0=0):val xs=0:=by
  have:=eG (xs:=xs) (n:=0) (fun j _=>by
    rcases Nat.lt_or_ge j xs.length with c | c
    · exact h j c
    · exact yS c)
  simpa [val] using this.symm
theorem gcd_od {x y:Nat} (hx:x ≠ 0) (hy:y ≠ 0):Nat.gcd x y=Nat.gcd (od x) (od y) * 2 ^ min (tz x) (tz y):=by
  obtain ⟨h1,h2⟩:=fY hx; obtain ⟨k1,k2⟩:=fY hy
  rcases Nat.le_total (tz x) (tz y) with h | h
  · obtain ⟨i,hi⟩:∃ i,tz y=tz x + i:=⟨tz y - tz x,by omega⟩
    rw [Nat.min_eq_left h]
    conv=>lhs; rw [h1,k1,hi,Nat.pow_add,Nat.mul_assoc,Nat.gcd_mul_left,qN h2]
    rw [Nat.mul_comm]
  · obtain ⟨i,hi⟩:∃ i,tz x=tz y + i:=⟨tz x - tz y,by omega⟩
    rw [Nat.min_eq_right h]
    conv=>lhs; rw [h1,k1,hi,Nat.pow_add,Nat.mul_assoc,Nat.gcd_mul_left,Nat.gcd_comm,qN k2,Nat.gcd_comm]
    rw [Nat.mul_comm]
def GI (G A B:Nat):Prop:=B ≠ 0∧(A ≠ 0→Nat.gcd (od A) (od B)=G)∧(A=0→B=G)
theorem yB2 {G A B:Nat} (h:GI G A B) (hA:A ≠ 0):(od B≤od A→GI G (od A - od B) (od B)∧od A - od B + od B < A + B)∧(od A≤od B→GI G (od B - od A) (od A)∧od B - od A + od A < A + B):=by
  have hg:=h.2.1 hA
  obtain ⟨a1,a2⟩:=fY hA; obtain ⟨b1,b2⟩:=fY h.1
  have la:=zY9 A
  have lb:=zY9 B
  have key:∀ a b:Nat,a % 2=1→b % 2=1→Nat.gcd a b=G→b≤a→GI G (a - b) b:=fun a b ha hb hab hle=>by
    refine ⟨by omega,fun h0=>?_,fun h0=>?_⟩
    · obtain ⟨c1,c2⟩:=fY h0
      have ob:od b=b:=by unfold od; rw [zR4 hb]; simp
      rw [ob,Nat.gcd_comm,← qN (k:=tz (a - b)) hb,← c1,Nat.gcd_comm]
      have:=Nat.gcd_sub_self_left (m:=b) (n:=a) (by omega)
      rw [this]; exact hab
    · obtain rfl:a=b:=by omega
      rw [Nat.gcd_self] at hab; exact hab
  exact ⟨fun hle=>⟨key _ _ a2 b2 hg hle,by omega⟩,fun hle=>⟨key _ _ b2 a2 (by rw [Nat.gcd_comm]; exact hg) hle,by omega⟩⟩
theorem cntN_id {n m:Nat} (h:n≤m):cntN ((n:Nat):Int) ((m:Nat):Int)=n:=by unfold cntN; omega
theorem cntN_min {a b:Nat} (h:min a b≤65536):cntN (min ((a:Nat):Int) ((b:Nat):Int)) 65536=min a b:=by unfold cntN; omega
theorem zK9 {x n:Nat} (h0:x ≠ 0) (h:(limbs x).length≤n):tz x < 32 * n:=oG h0 (by have:=yR h; rwa [show (4294967296:Nat)=2 ^ 32 by decide,← Nat.pow_mul] at this)
theorem zN8 {xs:List Nat} (h:∀ x ∈ xs,x < 4294967296) (j:Nat):xs.getD j 0=val xs / 2 ^ (32 * j) % 2 ^ 32:=by
  have e:(2:Nat) ^ (32 * j)=4294967296 ^ j:=by rw [Nat.pow_mul]
  rw [e,← pL h j]
  rcases Nat.lt_or_ge j xs.length with c | c
  · rw [kU c,show (2:Nat) ^ 32=4294967296 by decide,Nat.add_mul_mod_self_left]
    exact (Nat.mod_eq_of_lt (yK h j)).symm
  · rw [List.drop_of_length_le c,yS c]; rfl
theorem tb (x i:Nat):x.testBit i=decide (x / 2 ^ i % 2=1):=Nat.testBit_eq_decide_div_mod_eq
theorem bit_of {xs:List Nat} (h:∀ x ∈ xs,x < 4294967296) (i:Nat):xs.getD (i / 32) 0 / 2 ^ (i % 32) % 2=val xs / 2 ^ i % 2:=by
  have hk:i % 32 < 32:=Nat.mod_lt _ (by omega)
  have e:32 * (i / 32) + i % 32=i:=Nat.div_add_mod i 32
  have h1:(xs.getD (i / 32) 0).testBit (i % 32)=(val xs).testBit i:=by
    rw [zN8 h,Nat.testBit_mod_two_pow,Nat.testBit_div_two_pow,Nat.add_comm (i % 32),e]; simp [hk]
  rw [tb,tb] at h1
  have h2:=decide_eq_decide.1 h1
  have a1:=Nat.mod_two_eq_zero_or_one (xs.getD (i / 32) 0 / 2 ^ (i % 32))
  have a2:=Nat.mod_two_eq_zero_or_one (val xs / 2 ^ i)
  generalize xs.getD (i / 32) 0 / 2 ^ (i % 32) % 2=p at *
  generalize val xs / 2 ^ i % 2=q at *
  omega
theorem or_bit {zs:List Nat} {i c:Nat} (h:∀ z ∈ zs,z < 4294967296) (hv:val zs=c * 2 ^ (i + 1)):zs.getD (i / 32) 0 ||| 2 ^ (i % 32)=zs.getD (i / 32) 0 + 2 ^ (i % 32):=by
  have hk:i % 32 < 32:=Nat.mod_lt _ (by omega)
  have e:32 * (i / 32) + i % 32=i:=Nat.div_add_mod i 32
  obtain ⟨q,hq⟩:∃ q,32=i % 32 + 1 + q:=⟨32 - (i % 32 + 1),by omega⟩
  have h1:zs.getD (i / 32) 0=2 ^ (i % 32 + 1) * (c % 2 ^ q):=by
    rw [zN8 h,hv]
    have:c * 2 ^ (i + 1)=2 ^ (32 * (i / 32)) * (2 ^ (i % 32 + 1) * c):=by
      rw [← Nat.mul_assoc,← Nat.pow_add,show 32 * (i / 32) + (i % 32 + 1)=i + 1 by omega,Nat.mul_comm]
    rw [this,Nat.mul_div_cancel_left _ (Nat.pow_pos (by omega))]
    rw [show (2:Nat) ^ 32=2 ^ (i % 32 + 1) * 2 ^ q by rw [← Nat.pow_add,← hq],Nat.mul_mod_mul_left]
  rw [h1]
  have:=Nat.shiftLeft_add_eq_or_of_lt (b:=2 ^ (i % 32)) (i:=i % 32 + 1) (Nat.pow_lt_pow_right (by omega) (by omega)) (c % 2 ^ q)
  rw [Nat.shiftLeft_eq,Nat.mul_comm] at this
  exact this.symm
theorem set_bit {zs:List Nat} {i:Nat} (hj:i / 32 < zs.length):val (zs.set (i / 32) (zs.getD (i / 32) 0 + 2 ^ (i % 32)))=val zs + 2 ^ i:=by
  have hv:=bQ (zs:=zs) (j:=i / 32) (zs.getD (i / 32) 0 + 2 ^ (i % 32)) hj
  have e:(4294967296:Nat) ^ (i / 32) * 2 ^ (i % 32)=2 ^ i:=by
    rw [show (4294967296:Nat)=2 ^ 32 by decide,← Nat.pow_mul,← Nat.pow_add,Nat.div_add_mod i 32]
  rw [Nat.mul_add,e] at hv
  omega
theorem or_lt32 {a k:Nat} (ha:a < 4294967296) (hk:k < 32):a ||| 2 ^ k < 4294967296:=Nat.or_lt_two_pow (n:=32) ha (Nat.pow_lt_pow_right (by omega) hk)
structure DI (X Y V R t:Nat):Prop where
  eq:X=V * Y + 2 ^ t * R + X % 2 ^ t
  lt:R < Y
  dv:∃ c,V=c * 2 ^ t
theorem zJ4 {X Y V R t i:Nat} (h:DI X Y V R t) (ht:t=i + 1) (b:Nat) (hb:X / 2 ^ i % 2=b):(Y≤2 * R + b→DI X Y (V + 2 ^ i) (2 * R + b - Y) i)∧(2 * R + b < Y→DI X Y V (2 * R + b) i):=by
  subst ht
  obtain ⟨c,hc⟩:=h.dv
  have hm:X % 2 ^ (i + 1)=2 ^ i * b + X % 2 ^ i:=by
    rw [Nat.pow_succ,Nat.mod_mul,hb]; omega
  have hE:=h.eq
  rw [hm,Nat.pow_succ] at hE
  have hlt:=h.lt
  constructor
  · intro hle
    refine ⟨?_,by have:=Nat.mod_two_eq_zero_or_one (X / 2 ^ i); omega,⟨2 * c + 1,by rw [hc,Nat.pow_succ,Nat.add_mul,Nat.one_mul]; congr 1; rw [Nat.mul_comm 2 c,Nat.mul_assoc,Nat.mul_comm 2]⟩⟩
    obtain ⟨d,hd⟩:∃ d,2 * R + b=Y + d:=⟨2 * R + b - Y,by omega⟩
    rw [hd,Nat.add_sub_cancel_left,Nat.add_mul]
    have e1:2 ^ i * (2 * R + b)=2 ^ i * Y + 2 ^ i * d:=by rw [hd,Nat.mul_add]
    have e2:2 ^ i * 2 * R=2 ^ i * (2 * R):=by rw [Nat.mul_assoc]
    rw [Nat.mul_add] at e1
    rw [e2] at hE
    omega
  · intro hl
    refine ⟨?_,hl,⟨2 * c,by rw [hc,Nat.pow_succ,Nat.mul_comm 2 c,Nat.mul_assoc,Nat.mul_comm 2]⟩⟩
    rw [Nat.mul_add]
    have e2:2 ^ i * 2 * R=2 ^ i * (2 * R):=by rw [Nat.mul_assoc]
    rw [e2] at hE
    omega
theorem di_start {xs:List Nat} {Y f:Nat} (h:∀ x ∈ xs,x < 4294967296) (hf:xs.length - ((limbs Y).length) + 1≤f ∨ xs.length < (limbs Y).length) (hY:Y ≠ 0):DI (val xs) Y 0 (val (xs.drop f)) (32 * f):=by
  have e:(2:Nat) ^ (32 * f)=4294967296 ^ f:=by rw [Nat.pow_mul]
  refine ⟨?_,?_,⟨0,by simp⟩⟩
  · rw [pL h f,e,Nat.zero_mul,Nat.zero_add]; exact (Nat.div_add_mod _ _).symm
  · have h1:=yM (xs.drop f) (fun x hx=>h x (List.mem_of_mem_drop hx))
    rw [List.length_drop] at h1
    have hl:(limbs Y).length ≠ 0:=fun c=>hY (zM.1 c)
    have h2:4294967296 ^ ((limbs Y).length - 1)≤Y:=Classical.byContradiction fun c=>by
      have:=zS (Nat.lt_of_not_le c); omega
    exact Nat.lt_of_lt_of_le h1 (Nat.le_trans (Nat.pow_le_pow_right (by omega) (by omega)) h2)
theorem di_end {X Y V R:Nat} (h:DI X Y V R 0):V=X / Y∧R=X % Y:=by
  have hE:=h.eq
  rw [Nat.pow_zero,Nat.one_mul,Nat.mod_one,Nat.add_zero] at hE
  have:=(Nat.div_mod_unique (a:=X) (b:=Y) (c:=R) (d:=V) (by have:=h.lt; omega)).2 ⟨by rw [Nat.mul_comm]; omega,h.lt⟩
  exact ⟨this.1.symm,this.2.symm⟩
theorem RC.relen {n m:Nat} {q:Rat} {s:Bool} {a d:Value} (h:RC M w n q s a d) (hl:rlen q m):RC M w m q s a d:=⟨h.sgn,h.num,h.den,hl⟩
theorem num_eq {z:Int} {k:Nat} (hk:k ≠ 0):zv (decide (z < 0)) (limbs (z.natAbs / Nat.gcd z.natAbs k))=(mkRat z k).num:=by
  have h:=bU (z:=z) hk
  rw [← h.1,← h.2.1]; exact wC _
theorem sgn_mk {z:Int} {k:Nat} (hk:k ≠ 0):z.sign=sgnR (mkRat z k):=by
  have h:=bU (z:=z) hk
  unfold sgnR
  have h1:=decide_eq_decide.1 h.1
  rcases Int.lt_trichotomy z 0 with c | c | c
  · rw [Int.sign_eq_neg_one_of_neg c,Int.sign_eq_neg_one_of_neg (h1.2 c)]
  · subst c; simp
  · have h2:(mkRat z k).num ≠ 0:=fun e=>by
      rw [Rat.num_eq_zero] at e
      rw [Rat.mkRat_eq_zero hk] at e; omega
    rw [Int.sign_eq_one_of_pos c,Int.sign_eq_one_of_pos (by omega)]
theorem tO (x y:Int):jO [x,y]=x * y:=by simp [jO]
theorem zU2 (p q:Rat):mkRat ([jO [p.num,((q.den:Nat):Int)],jO [q.num,((p.den:Nat):Int)]].sum) (p.den * q.den)=p + q:=by
  conv=>rhs; rw [← Rat.mkRat_self p,← Rat.mkRat_self q]
  rw [Rat.mkRat_add_mkRat _ _ p.den_nz q.den_nz,tO,tO]; simp
theorem zS8 (p q:Rat):mkRat (jO [p.num,q.num]) (p.den * q.den)=p * q:=by
  conv=>rhs; rw [← Rat.mkRat_self p,← Rat.mkRat_self q]
  rw [Rat.mkRat_mul_mkRat,tO]
def sumR (l:List Rat):Rat:=l.foldl (· + ·) 0
def iL (l:List Rat):Rat:=l.foldl (· * ·) 1
theorem tE {l:List Rat} {s:Nat} (h:s < l.length):sumR (l.take (s + 1))=sumR (l.take s) + l.getD s 0:=by
  rw [(zU (0:Rat) h).1,sumR,List.foldl_append]; rfl
theorem iT {l:List Rat} {s:Nat} (h:s < l.length):iL (l.take (s + 1))=iL (l.take s) * l.getD s 0:=by
  rw [(zU (0:Rat) h).1,iL,List.foldl_append]; rfl
theorem yK9 (p q:Rat):(jO [p.num,((q.den:Nat):Int)] - jO [q.num,((p.den:Nat):Int)]).sign=cmpR p q:=by rw [tO,tO]; exact yC8 p q
abbrev N4:=Nat × Nat × Nat × Nat
def m4 (k:N4):Nat:=max (max (max k.1 k.2.1) k.2.2.1) k.2.2.2
end
end Go.Proofs.YtalkinejknjidaaGreatDoor
namespace Go.Proofs.YtalkinejknjidaaGreatDoor
open Go Go.SL Go.RowKit Tryz
structure plen (p:P2) (n:Nat):Prop where
 x:rlen p.1 n
 y:rlen p.2 n
theorem lR {p q:Rat} {A B:Nat} (h1:rlen p A) (h2:rlen q B):rlen (p - q) (A + B + 1):=by
 rw [Rat.sub_eq_add_neg]; exact jW h1 (cJ h2)
theorem plen.sub {p q:P2} {A B:Nat} (h1:plen p A) (h2:plen q B):plen (subP p q) (A + B + 1):=⟨lR h1.x h2.x,lR h1.y h2.y⟩
theorem plen.add {p q:P2} {A B:Nat} (h1:plen p A) (h2:plen q B):plen (addP p q) (A + B + 1):=⟨jW h1.x h2.x,jW h1.y h2.y⟩
theorem plen.scale {p:P2} {q:Rat} {A B:Nat} (h1:plen p A) (h2:rlen q B):plen (uD p q) (A + B):=⟨uS h1.x h2,uS h1.y h2⟩
theorem plen.at_ {p q:P2} {t:Rat} {A B C:Nat} (h1:plen p A) (h2:plen q B) (h3:rlen t C):plen (atP p q t) (A + ((B + A + 1) + C) + 1):=h1.add ((h2.sub h1).scale h3)
theorem rlen_zero':rlen 0 1:=by unfold rlen; rw [show (0:Rat).num.natAbs=0 from rfl,show (0:Rat).den=1 from rfl,yB,xW]; exact ⟨Nat.zero_le _,Nat.le_refl _⟩
end Go.Proofs.YtalkinejknjidaaGreatDoor
namespace Go.Proofs.YtalkinejknjidaaGreatDoor
open Go.SL Go.RowKit Go.Proofs Tryz
section
variable {M : Nat → Prop} {w : World}
abbrev N2:=Nat × Nat
structure Q2 (M:Nat→Prop) (w:World) (n:Nat) (q:N2) (s:Bool) (a d:Value):Prop where
  a:∃ p c,a = .slice p q.1 c
  d:∃ p c,d = .slice p q.2 c
end
end Go.Proofs.YtalkinejknjidaaGreatDoor
namespace Go.SL
def cL (lo hi x:Rat):Rat:=if lo < hi then (x - lo) / (hi - lo) else 0
def uZ (l:P2) (t:Rat):Rat:=l.1 + t * (l.2 - l.1)
def mP (l:P2) (lo hi x:Rat):Rat:=if lo < hi then uZ l (cL lo hi x) else 0
def hsL (lo hi x:Rat) (ls:List P2):List Rat:=ls.map fun l=>uZ l (cL lo hi x)
theorem zI4 (lo hi x:Rat) (ls:List P2):(hsL lo hi x ls).length=ls.length:=by simp [hsL]
theorem zP0 {lo hi x:Rat} {ls:List P2} {s:Nat} (h:s < ls.length):(hsL lo hi x ls).getD s 0=uZ (ls.getD s (0,0)) (cL lo hi x):=by
 unfold hsL; simp [List.getD_eq_getElem?_getD,List.getElem?_eq_getElem h]
def cmpL (a b:P2):Int:=if cmpR (a.1 + a.2) (b.1 + b.2) ≠ 0 then cmpR (a.1 + a.2) (b.1 + b.2) else cmpR a.1 b.1
def leL (a b:P2):Prop:=a.1 + a.2 < b.1 + b.2 ∨ a.1 + a.2=b.1 + b.2∧a.1≤b.1
theorem nE {a b:P2}:cmpL a b < 0 ↔ ¬ leL b a:=by
 unfold cmpL leL
 have h1:=@nC (a.1 + a.2) (b.1 + b.2); have h2:=@yU (a.1 + a.2) (b.1 + b.2); have h3:=@xT a.1 b.1; have h4:=@xT (a.1 + a.2) (b.1 + b.2)
 grind
theorem vU {a b:P2}:cmpL a b=0 ↔ a=b:=by
 unfold cmpL
 have h2:=@yU (a.1 + a.2) (b.1 + b.2); have h3:=@yU a.1 b.1
 rw [Prod.ext_iff]; grind
theorem leL_refl (a:P2):leL a a:=by unfold leL; grind
theorem leL_trans {a b c:P2} (h:leL a b) (k:leL b c):leL a c:=by unfold leL at *; grind
theorem vC (a b:P2):leL a b ∨ leL b a:=by unfold leL; grind
theorem zO1 {a b:P2} (h:leL a b) (k:leL b a):a=b:=by unfold leL at *; rw [Prod.ext_iff]; grind
def kE (ys:List Rat) (y:Rat):Nat→Int
 | 0=>0
 | s + 1=>kE ys y s + (if ys.getD s 0 < y then 1 else 0)
theorem below_yes {ys:List Rat} {y:Rat} {s:Nat} (h:ys.getD s 0 < y):kE ys y (s + 1) - 1=kE ys y s - 1 + 1:=by rw [kE,if_pos h]; omega
theorem below_no {ys:List Rat} {y:Rat} {s:Nat} (h:¬ ys.getD s 0 < y):kE ys y (s + 1) - 1=kE ys y s - 1:=by rw [kE,if_neg h]; omega
theorem sQ (ys:List Rat) (y:Rat):∀ s:Nat,0≤kE ys y s∧kE ys y s≤s
 | 0=>by simp [kE]
 | s + 1=>by
  have:=sQ ys y s
  unfold kE
  split <;> omega
def hitY (ys:List Rat) (y:Rat):Nat→Option Nat
 | 0=>none
 | s + 1=>match hitY ys y s with
  | some i=>some i
  | none=>if ys.getD s 0=y then some s else none
def zP4 (ys:List Rat) (y:Rat):Int × Bool:=match hitY ys y ys.length with
 | some i=>((i:Int),true)
 | none=>(kE ys y ys.length - 1,false)
theorem nY {ys:List Rat} {y:Rat}:∀ {s:Nat},hitY ys y s=none ↔ ∀ i,i < s→ys.getD i 0 ≠ y
 | 0=>by simp [hitY]
 | s + 1=>by
  have ih:=@nY ys y s
  unfold hitY
  constructor
  ·intro h0 i hi
   cases hh:hitY ys y s with
   | some q=>rw [hh] at h0; cases h0
   | none =>
   rw [hh] at h0
   have h1:=ih.1 hh
   have h2:(if ys.getD s 0=y then some s else none)=none:=h0
   rcases Nat.lt_or_ge i s with c | c
   ·exact h1 i c
   ·obtain rfl:i=s:=by omega
    intro e; rw [if_pos e] at h2; cases h2
  ·intro h
   rw [ih.2 fun i hi=>h i (by omega)]
   exact if_neg (h s (by omega))
theorem vI {ys:List Rat} {y:Rat} {s:Nat} (hn:∀ i,i < s→ys.getD i 0 ≠ y) (he:ys.getD s 0=y):∀ k,s < k→hitY ys y k=some s
 | 0,h=>by omega
 | k + 1,h=>by
  unfold hitY
  rcases Nat.lt_or_ge s k with c | c
  ·rw [vI hn he k c]
  ·obtain rfl:s=k:=by omega
   rw [nY.2 hn]; exact if_pos he
theorem findY_hit {ys:List Rat} {y:Rat} {s:Nat} (hs:s < ys.length) (hn:∀ i,i < s→ys.getD i 0 ≠ y) (he:ys.getD s 0=y):zP4 ys y=((s:Int),true):=by
 unfold zP4; rw [vI hn he _ hs]
theorem findY_miss {ys:List Rat} {y:Rat} (hn:∀ i,i < ys.length→ys.getD i 0 ≠ y):zP4 ys y=(kE ys y ys.length - 1,false):=by
 unfold zP4; rw [nY.2 hn]
def yB4 (lo hi:Rat) (p:P2) (ls:List P2):Int × Bool:=zP4 (hsL lo hi p.1 ls) p.2
def aX (lo hi:Rat) (e:P2 × P2):Prop:=¬ lo < e.1.1∧¬ e.2.1 < hi∧e.1.1 < e.2.1
instance (lo hi:Rat) (e:P2 × P2):Decidable (aX lo hi e):=inferInstanceAs (Decidable (_∧_))
def uY (lo hi:Rat) (e:P2 × P2):P2:=(zO e.1 e.2 lo,zO e.1 e.2 hi)
def jK (lo hi:Rat) (es:List (P2 × P2)):Nat→List P2
 | 0=>[]
 | s + 1=>jK lo hi es s ++ (if aX lo hi (es.getD s ((0,0),(0,0))) then [uY lo hi (es.getD s ((0,0),(0,0)))] else [])
theorem thru_skip {lo hi:Rat} {es:List (P2 × P2)} {s:Nat} (h:¬ aX lo hi (es.getD s ((0,0),(0,0)))):jK lo hi es (s + 1)=jK lo hi es s:=by rw [jK,if_neg h,List.append_nil]
theorem sZ {lo hi:Rat} {es:List (P2 × P2)} {s:Nat} (h:aX lo hi (es.getD s ((0,0),(0,0)))):jK lo hi es (s + 1)=jK lo hi es s ++ [uY lo hi (es.getD s ((0,0),(0,0)))]:=by rw [jK,if_pos h]
theorem pO (lo hi:Rat) (es:List (P2 × P2)):∀ s,(jK lo hi es s).length≤s
 | 0=>by simp [jK]
 | s + 1=>by
  have:=pO lo hi es s
  rw [jK,List.length_append]
  split <;> simp <;> omega
def qJ (a b:P2):Prop:=a.1≤b.1∧a.2≤b.2∧a ≠ b
def bB (ls:List P2):Prop:=∀ i,i + 1 < ls.length→qJ (ls.getD i (0,0)) (ls.getD (i + 1) (0,0))
noncomputable instance (ls:List P2):Decidable (bB ls):=Classical.propDecidable _
theorem nD (p q:Rat):-1≤cmpR p q∧cmpR p q≤1:=by unfold cmpR; split <;> (try split) <;> decide
theorem rise_ok {a b:P2} (h1:¬ 0 < cmpR a.1 b.1) (h2:¬ 0 < cmpR a.2 b.2) (h3:¬ (cmpR a.1 b.1=0∧cmpR a.2 b.2=0)):qJ a b:=by
 rw [kD] at h1 h2
 rw [yU,yU] at h3
 exact ⟨by grind,by grind,fun e=>h3 (by rw [e]; exact ⟨rfl,rfl⟩)⟩
theorem zM6 {a b:P2} (h:0 < cmpR a.1 b.1):¬ qJ a b:=fun c=>by rw [kD] at h; have:=c.1; grind
theorem zM5 {a b:P2} (h:0 < cmpR a.2 b.2):¬ qJ a b:=fun c=>by rw [kD] at h; have:=c.2.1; grind
theorem rise_no3 {a b:P2} (h:cmpR a.1 b.1=0) (k:cmpR a.2 b.2=0):¬ qJ a b:=fun c=>c.2.2 (Prod.ext (yU.1 h) (yU.1 k))
theorem rise_not {ls:List P2} {s:Nat} (hs:s + 1 < ls.length) (h:¬ qJ (ls.getD s (0,0)) (ls.getD (s + 1) (0,0))):decide (bB ls)=false:=decide_eq_false fun c=>h (c s hs)
theorem nF (a:P2):¬ cmpL a a < 0:=by rw [nE]; exact fun c=>c (leL_refl a)
theorem cD {a b c:P2} (h:cmpL a b < 0) (k:cmpL b c < 0):cmpL a c < 0:=by
 rw [nE] at *
 exact fun x=>h (leL_trans (Classical.byContradiction fun y=>by rcases vC b c with z | z; exact y z; exact k z) x)
theorem zY1:∀ {l m:List P2},l.Pairwise (fun a b=>cmpL a b < 0)→m.Pairwise (fun a b=>cmpL a b < 0)→(∀ x,x ∈ l ↔ x ∈ m)→l=m
 | [],[],_,_,_=>rfl
 | [],b :: m,_,_,h=>absurd ((h b).2 (by simp)) (by simp)
 | a :: l,[],_,_,h=>absurd ((h a).1 (by simp)) (by simp)
 | a :: l,b :: m,h1,h2,h=>by
  obtain ⟨a1,a2⟩:=List.pairwise_cons.1 h1
  obtain ⟨b1,b2⟩:=List.pairwise_cons.1 h2
  have e:a=b:=by
   rcases List.mem_cons.1 ((h a).1 (by simp)) with c | c
   ·exact c
   rcases List.mem_cons.1 ((h b).2 (by simp)) with d | d
   ·exact d.symm
   exact absurd (cD (a1 b d) (b1 a c)) (nF a)
  subst e
  rw [zY1 a2 b2 fun x=>⟨fun hx=>?_,fun hx=>?_⟩]
  ·rcases List.mem_cons.1 ((h x).1 (List.mem_cons_of_mem _ hx)) with c | c
   ·subst c; exact absurd (a1 x hx) (nF x)
   ·exact c
  ·rcases List.mem_cons.1 ((h x).2 (List.mem_cons_of_mem _ hx)) with c | c
   ·subst c; exact absurd (b1 x hx) (nF x)
   ·exact c
structure IsLv (lo hi yl yh:Rat) (es:List (P2 × P2)) (l:List P2):Prop where
 rise:l.Pairwise (fun a b=>cmpL a b < 0)
 mem:∀ x,x ∈ l ↔ x ∈ jK lo hi es es.length ++ [(yl,yl),(yh,yh)]
theorem lv_uniq {lo hi yl yh:Rat} {es:List (P2 × P2)} {l m:List P2} (h:IsLv lo hi yl yh es l) (k:IsLv lo hi yl yh es m):l=m:=zY1 h.rise k.rise fun x=>by rw [h.mem,k.mem]
theorem part_in {lo hi x:Rat} (h1:lo < x) (h2:x < hi):0 < cL lo hi x∧cL lo hi x < 1:=by
 have h3:lo < hi:=by grind
 have h4:(0:Rat) < hi - lo:=by grind
 unfold cL
 rw [if_pos h3]
 refine ⟨by rw [Rat.lt_div_iff h4]; grind,?_⟩
 rw [Rat.div_lt_iff h4]; grind
theorem height_rise {a b:P2} {t:Rat} (h0:0 < t) (h1:t < 1) (h:qJ a b):uZ a t < uZ b t:=by
 obtain ⟨e1,e2,e3⟩:=h
 unfold uZ
 have f1:0≤(1 - t) * (b.1 - a.1):=Rat.mul_nonneg (by grind) (by grind)
 have f2:0≤t * (b.2 - a.2):=Rat.mul_nonneg (by grind) (by grind)
 have e:b.1 + t * (b.2 - b.1)=a.1 + t * (a.2 - a.1) + ((1 - t) * (b.1 - a.1) + t * (b.2 - a.2)):=by grind
 rw [e]
 rcases Classical.em (a.1=b.1) with c | c
 ·have:(0:Rat) < t * (b.2 - a.2):=Rat.mul_pos h0 (by
   have:a.2 ≠ b.2:=fun d=>e3 (Prod.ext c d)
   grind)
  grind
 ·have:(0:Rat) < (1 - t) * (b.1 - a.1):=Rat.mul_pos (by grind) (by grind)
  grind
end Go.SL
namespace Go.Proofs.YtalkinejknjidaaGreatDoor
open Go.SL Go.RowKit Go.Proofs Tryz
section
variable {M : Nat → Prop} {w : World}
def sumM (l:List N2):Nat→Nat
  | 0=>0
  | s + 1=>sumM l s + min ((l.getD s (0,0)).1 + (l.getD s (0,0)).2) 1000
theorem zW7 (l:List N2):∀ s,sumM l s≤1000 * s
  | 0=>Nat.le_refl _
  | s + 1=>by
    have:=zW7 l s
    unfold sumM; omega
def lE (l:List N2):Bool:=decide (60 < l.length ∨ 40 < sumM l l.length)
end
end Go.Proofs.YtalkinejknjidaaGreatDoor
namespace Go.SL
open Go.RowKit
def Cl (M:Nat→Prop) (w:World) (M':Nat→Prop) (w':World):Prop :=
 ∀ k cur t fz,¬ M k→w.heap[k]? = some (.cells cur t fz)→¬ M' k∧w'.heap[k]? = some (.cells cur t fz)
section
variable {Fz T M M' M'' M0 : Nat → Prop} {n : Nat} {w w' w'' w0 : World}
theorem Le.cl (l:Le Fz M w M' w'):Cl M w M' w':=fun k _ _ _ hm hw=>let h:=l.kept (Array.getElem?_eq_some_iff.1 hw).1 hm; ⟨h.1,h.2.trans hw⟩
theorem Cl.less (h:∀ k,M' k→M k):Cl M w M' w:=fun k _ _ _ hm hw=>⟨fun c=>hm (h k c),hw⟩
theorem Cl.bel (h:Bel w.heap.size w w'):Cl M w M w':=(Le.of_below (Fz:=fun _=>False) h).cl
theorem Seg.cl {b off:Nat} {cs:List Value} (h:Seg w b off cs) (l:Cl M w M' w') (hm:¬ M b):¬ M' b∧Seg w' b off cs:=by
 obtain ⟨cur,t,fz,h7,h8⟩:=h
 have hk:=l b _ _ _ hm h7
 exact ⟨hk.1,cur,t,fz,hk.2,h8⟩
theorem Slc.cl {sz m:Nat} {v:Value} {cs:List Value} (h:Slc M w sz v m cs) (l:Cl M w M' w'):Slc M' w' sz v m cs:=by
 obtain ⟨h1,h2,ad,cap,h3,h4,h5⟩:=h
 refine ⟨h1,h2,ad,cap,h3,h4,?_⟩
 rcases h5 with h5 | ⟨b,off,h5,h6,h7⟩
 ·exact .inl h5
 ·have hk:=h7.cl l h6
  exact .inr ⟨b,off,h5,hk.1,hk.2⟩
theorem IsNat.cl {v:Value} {xs:List Nat} (h:IsNat M w v xs) (l:Cl M w M' w'):IsNat M' w' v xs:=⟨h.slc.cl l,h.lt⟩
theorem Tab.cl (h:Tab M w) (l:Cl M w M' w'):Tab M' w':=let k:=h.2.cl l h.1; ⟨k.1,k.2⟩
end
structure CT where
 sz:Nat
 p:(Nat→Prop)→World→List Value→Prop
 len:∀ {M w cs},p M w cs→cs.length=sz
 one:∀ {M w cs},p M w cs→∀ u ∈ cs,u.oneCell'=true
 mono:∀ {M M' w w' cs},p M w cs→Cl M w M' w'→p M' w' cs
def xc (v:Value):CT:=⟨1,fun _ _ cs=>cs=[v]∧v.oneCell'=true,fun h=>by rw [h.1]; rfl,fun h u hu=>by rw [h.1] at hu; rw [List.mem_singleton.1 hu]; exact h.2,fun h _=>h⟩
def stp:List CT→(Nat→Prop)→World→List Value→Prop
 | [],_,_,cs=>cs=[]
 | c :: r,M,w,cs=>∃ a b,cs=a ++ b∧c.p M w a∧stp r M w b
def szs:List CT→Nat
 | []=>0
 | c :: r=>c.sz + szs r
section
variable {M M' : Nat → Prop} {w w' : World}
theorem qH:∀ {l:List CT} {cs:List Value},stp l M w cs→cs.length=szs l
 | [],_,h=>by rw [show _=[] from h]; rfl
 | c :: r,_,⟨a,b,e,h1,h2⟩=>by rw [e,List.length_append,c.len h1,qH h2]; rfl
theorem oS:∀ {l:List CT} {cs:List Value},stp l M w cs→∀ u ∈ cs,u.oneCell'=true
 | [],_,h,u,hu=>by rw [show _=[] from h] at hu; cases hu
 | c :: r,_,⟨a,b,e,h1,h2⟩,u,hu=>by rw [e] at hu; exact (List.mem_append.1 hu).elim (c.one h1 u) (oS h2 u)
theorem jA:∀ {l:List CT} {cs:List Value},stp l M w cs→Cl M w M' w'→stp l M' w' cs
 | [],_,h,_=>h
 | c :: r,_,⟨a,b,e,h1,h2⟩,k=>⟨a,b,e,c.mono h1 k,jA h2 k⟩
theorem bR:∀ {l m:List CT} {a b:List Value},stp l M w a→stp m M w b→stp (l ++ m) M w (a ++ b)
 | [],_,_,_,h,k=>by rw [show _=[] from h]; exact k
 | c :: r,_,_,_,⟨a,b,e,h1,h2⟩,k=>⟨a,b ++ _,by rw [e,List.append_assoc],h1,bR h2 k⟩
theorem qG:∀ {l m:List CT} {cs:List Value},stp (l ++ m) M w cs→∃ a b,cs=a ++ b∧stp l M w a∧stp m M w b
 | [],_,cs,h=>⟨[],cs,rfl,rfl,h⟩
 | c :: r,_,_,⟨a,b,e,h1,h2⟩=>let ⟨x,y,e2,h3,h4⟩:=qG h2; ⟨a ++ x,y,by rw [e,e2,List.append_assoc],⟨a,x,rfl,h1,h3⟩,h4⟩
theorem iR:∀ {l:List CT} {cs:List Value} {i:Nat} {c:CT},stp l M w cs→l[i]? = some c→c.p M w ((cs.drop (szs (l.take i))).take c.sz)
 | [],_,_,_,_,h=>by simp at h
 | d :: r,_,0,c,⟨a,b,e,h1,h2⟩,h=>by
  simp at h; subst h
  show d.p M w (_)
  rw [show szs ((d :: r).take 0)=0 from rfl,e,List.drop_zero,← d.len h1,List.take_left]
  exact h1
 | d :: r,_,i + 1,c,⟨a,b,e,h1,h2⟩,h=>by
  have:=iR h2 (by simpa using h)
  rw [show szs ((d :: r).take (i + 1))=d.sz + szs (r.take i) from rfl,e,← d.len h1,← List.drop_drop,List.drop_left]
  exact this
theorem zX0:∀ {l:List CT} {cs us:List Value} {i:Nat} {c d:CT},stp l M w cs→l[i]? = some c→d.p M w us→d.sz=c.sz→stp (l.set i d) M w (cs.take (szs (l.take i)) ++ us ++ cs.drop (szs (l.take i) + c.sz))
 | [],_,_,_,_,_,_,h,_,_=>by simp at h
 | e :: r,_,us,0,c,d,⟨a,b,e1,h1,h2⟩,h,hd,hs=>by
  simp at h; subst h
  refine ⟨us,b,?_,hd,h2⟩
  rw [show szs ((e :: r).take 0)=0 from rfl,e1,Nat.zero_add,← e.len h1,List.drop_left]; simp
 | e :: r,_,us,i + 1,c,d,⟨a,b,e1,h1,h2⟩,h,hd,hs=>by
  refine ⟨a,_,?_,h1,zX0 h2 (by simpa using h) hd hs⟩
  rw [show szs ((e :: r).take (i + 1))=e.sz + szs (r.take i) from rfl,e1,← e.len h1,List.take_length_add_append,Nat.add_assoc,← List.drop_drop,List.drop_left]
  simp [List.append_assoc]
end
def st (l:List CT):CT:=⟨szs l,stp l,qH,oS,jA⟩
def kG (k:Nat) (l:List CT):Prop:=∀ c ∈ l,c.sz=k
theorem lO {k:Nat}:∀ {l:List CT},kG k l→szs l=l.length * k
 | [],_=>by simp [szs]
 | c :: r,h=>by rw [szs,h c (by simp),lO (l:=r) fun d hd=>h d (by simp [hd]),List.length_cons,Nat.succ_mul]; omega
theorem aY {k i:Nat} {l:List CT} (h:kG k l) (hi:i≤l.length):szs (l.take i)=i * k:=by
 rw [lO (k:=k) fun d hd=>h d (List.mem_of_mem_take hd),List.length_take,Nat.min_eq_left hi]
def sl (k:Nat) (l:List CT):CT where
 sz:=1
 p M w cs:=∃ v us,cs=[v]∧Slc M w k v l.length us∧stp l M w us∧kG k l
 len h:=by obtain ⟨v,us,e,_⟩:=h; rw [e]; rfl
 one h u hu:=by obtain ⟨v,us,e,⟨_,_,ad,cap,rfl,_⟩,_⟩:=h; rw [e] at hu; rw [List.mem_singleton.1 hu]; rfl
 mono h k:=by obtain ⟨v,us,e,h1,h2,h3⟩:=h; exact ⟨v,us,e,h1.cl k,jA h2 k,h3⟩
structure PV where
 p:(Nat→Prop)→World→Value→Prop
 mono:∀ {M M' w w' v},p M w v→Cl M w M' w'→p M' w' v
def exP (v:Value):PV:=⟨fun _ _ u=>u=v,fun h _=>h⟩
def sv (c:CT):PV:=⟨fun M w v=>c.p M w [v],fun h k=>c.mono h k⟩
def ag (c:CT):PV:=⟨fun M w v=>∃ us:List Value,v = .agg us.toArray∧c.p M w us,fun h k=>let ⟨us,e,h⟩:=h; ⟨us,e,c.mono h k⟩⟩
def pa (c:CT):PV:=⟨fun M w v=>∃ b o us,v = .pointer (some ⟨b,o,none⟩)∧¬ M b∧Seg w b o us∧c.p M w us,
 fun ⟨b,o,us,e,h1,h2,h3⟩ k=>let h:=h2.cl k h1; ⟨b,o,us,e,h.1,h.2,c.mono h3 k⟩⟩
def Fa:List PV→(Nat→Prop)→World→List Value→Prop
 | [],_,_,vs=>vs=[]
 | τ :: τs,M,w,vs=>∃ v us,vs=v :: us∧τ.p M w v∧Fa τs M w us
theorem Fa.mono {M M':Nat→Prop} {w w':World}:∀ {τs:List PV} {vs:List Value},Fa τs M w vs→Cl M w M' w'→Fa τs M' w' vs
 | [],_,h,_=>h
 | τ :: τs,_,⟨v,us,e,h1,h2⟩,k=>⟨v,us,e,τ.mono h1 k,Fa.mono h2 k⟩
theorem Fa.len {M:Nat→Prop} {w:World}:∀ {τs:List PV} {vs:List Value},Fa τs M w vs→vs.length=τs.length
 | [],_,h=>by rw [show _=[] from h]; rfl
 | τ :: τs,_,⟨v,us,e,h1,h2⟩=>by rw [e]; simp [Fa.len h2]
def tu (l:List PV):PV:=⟨fun M w v=>∃ vs:List Value,v = .tuple vs.toArray∧Fa l M w vs,fun h k=>let ⟨us,e,h⟩:=h; ⟨us,e,h.mono k⟩⟩
def PSub (Ψ Φ:PV):Prop:=∀ M w v,Ψ.p M w v→Φ.p M w v
theorem PSub.refl (Ψ:PV):PSub Ψ Ψ:=fun _ _ _ h=>h
abbrev TE:=List (Nat × Prop × PV)
def tf:TE→Nat→Option (Prop × PV)
 | [],_=>none
 | (k,q) :: Γ,i=>bif Nat.beq k i then some q else tf Γ i
def tv (Γ:TE):Operand→Option (Prop × PV)
 | .tmp t=>tf Γ t
 | .const v=>some (True,exP v)
 | .global g=>some (True,exP (.pointer (some ⟨g,0,none⟩)))
 | .func f=>some (True,exP (.func (.func f) #[] #[]))
def Tok (q:Prop × PV) (M:Nat→Prop) (E:Env) (w:World) (s:Nat):Prop:=(q.1→∃ v,get E s=some v∧q.2.p M w v)∧(¬ q.1→get E s=some undef)
def Tm (Γ:TE) (ss:List Nat) (M:Nat→Prop) (E:Env) (w:World):Prop:=∀ s ∈ ss,∀ q,tf Γ s=some q→Tok q M E w s
def TM (Γ:TE) (M:Nat→Prop) (E:Env) (w:World):Prop:=∀ s q,tf Γ s=some q→Tok q M E w s
section
variable {M M' : Nat → Prop} {w w' : World} {E : Env} {Γ : TE}
theorem Tok.mono {q:Prop × PV} {s:Nat} (h:Tok q M E w s) (k:Cl M w M' w'):Tok q M' E w' s:=⟨fun c=>let ⟨v,h1,h2⟩:=h.1 c; ⟨v,h1,q.2.mono h2 k⟩,h.2⟩
theorem TM.mono (h:TM Γ M E w) (k:Cl M w M' w'):TM Γ M' E w':=fun s q hs=>(h s q hs).mono k
theorem TM.tm (h:TM Γ M E w) (ss:List Nat):Tm Γ ss M E w:=fun s _ q hs=>h s q hs
theorem TM.put {d:Nat} {v:Value} {q:Prop × PV} (h:TM Γ M E w) (hv:q.1→q.2.p M w v) (hu:¬ q.1→v=undef):TM ((d,q) :: Γ) M ((d,v) :: E) w:=fun s r hs=>by
 unfold tf at hs
 cases hb:Nat.beq d s with
 | true =>
  rw [hb] at hs
  obtain rfl:=Option.some.inj hs
  exact ⟨fun c=>⟨v,gH hb,hv c⟩,fun c=>by rw [gH hb,hu c]⟩
 | false =>
  rw [hb] at hs
  have:=h s r hs
  exact ⟨fun c=>by rw [bL hb]; exact this.1 c,fun c=>by rw [bL hb]; exact this.2 c⟩
theorem pN {ss:List Nat} {x:Operand} {q:Prop} {Ψ:PV} (h:Tm Γ ss M E w) (hx:tv Γ x=some (q,Ψ)) (hs:∀ t,x = .tmp t→t ∈ ss) (hq:q):∃ v,ev E x=some v∧Ψ.p M w v:=by
 cases x with
 | tmp t=>exact (h t (hs t rfl) _ hx).1 hq
 | const u=>obtain ⟨rfl,rfl⟩:=Prod.mk.inj (Option.some.inj hx); exact ⟨u,rfl,rfl⟩
 | global g=>obtain ⟨rfl,rfl⟩:=Prod.mk.inj (Option.some.inj hx); exact ⟨_,rfl,rfl⟩
 | func f=>obtain ⟨rfl,rfl⟩:=Prod.mk.inj (Option.some.inj hx); exact ⟨_,rfl,rfl⟩
end
class Im (p q:Prop):Prop where h:p→q
instance {p:Prop}:Im p True:=⟨fun _=>trivial⟩
instance {p:Prop}:Im p p:=⟨id⟩
inductive Ow where
 | blk (b:Nat) (ty:TypeId) (cs:List CT)
 | row (v:Value) (ty:TypeId) (k:Nat) (l:List CT)
def Ow.bk:Ow→Option Nat
 | .blk b _ _=>some b
 | .row v _ _ _=>v.ownBlock
def Ow.ok (M:Nat→Prop) (w:World):Ow→Prop
 | .blk b ty cs=>∃ us,Blk w b ty us∧stp cs M w us
 | .row v ty k l=>∃ us,w.ownsRow 0 ty k v l.length us∧stp l M w us∧kG k l
def Mk (S:List Ow) (M0:Nat→Prop):Nat→Prop:=fun k=>(∃ o ∈ S,o.bk=some k) ∨ M0 k
structure Gd (M:Nat→Prop) (S:List Ow) (w:World):Prop where
 ok:OkM M w
 tab:Tab M w
 own:∀ o ∈ S,o.ok M w
theorem Ow.ok_mono {M M':Nat→Prop} {w w':World} {o:Ow} (h:o.ok M w) (k:Cl M w M' w') (hb:∀ b,o.bk=some b→b < w.heap.size→w'.heap[b]? = w.heap[b]?):o.ok M' w':=by
 cases o with
 | blk b ty cs=>obtain ⟨us,h1,h2⟩:=h; exact ⟨us,(hb b rfl h1.lt).trans h1,jA h2 k⟩
 | row v ty sz l =>
  obtain ⟨us,h1,h2,h3⟩:=h
  refine ⟨us,?_,jA h2 k,h3⟩
  obtain ⟨g1,g2 | ⟨g,cap,cur,rfl,g4,g5,g6⟩⟩:=h1
  ·exact ⟨g1,.inl g2⟩
  ·exact ⟨g1,.inr ⟨g,cap,cur,rfl,g4,(hb g rfl (Array.getElem?_eq_some_iff.1 g5).1).trans g5,g6⟩⟩
theorem Gd.bel {M:Nat→Prop} {S:List Ow} {w w':World} (h:Gd M S w) (hb:Bel w.heap.size w w'):Gd M S w' :=
 ⟨fun k hk=>Nat.lt_of_lt_of_le (h.ok k hk) hb.size,h.tab.cl (Cl.bel hb),fun o ho=>Ow.ok_mono (h.own o ho) (Cl.bel hb) fun b _ hlt=>hb.block b hlt⟩
end Go.SL

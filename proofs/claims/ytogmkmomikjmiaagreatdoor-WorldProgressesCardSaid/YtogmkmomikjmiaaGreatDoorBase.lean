/- For every n and every engine, WorldProgresses returns true: part Base of the proof. -/
import Derived.KernelRfl
import Derived.Test.YtogmkmomikjmiaaGreatDoorCtr
set_option linter.all false
namespace Go.Ab.Y
open Go Go.Ab Go.Ab.Cm Go.Proofs
set_option maxRecDepth 100000
noncomputable abbrev PP:Program:=Tryz.prog
noncomputable def zS:V:=.slc 0 0 fun _=>.nilp
noncomputable def ttL:TT:=[(2,⟨.int .i64,1,8,[.int .i64 0],[]⟩),
 (3,⟨.int .i64,1,8,[.int .i64 0],[]⟩),
 (4,⟨.bool,1,1,[.bool false],[]⟩),
 (5,⟨.int .u8,1,1,[.int .u8 0],[]⟩),
 (9,⟨.str,1,16,[.str []],[]⟩),
 (20,⟨.ifc,1,16,[.nili],[]⟩),
 (21,⟨.int .i32,1,4,[.int .i32 0],[]⟩),
 (22,⟨.slc 40,1,24,[zS],[]⟩),
 (24,⟨.slc 42,1,24,[zS],[]⟩),
 (25,⟨.slc 9,1,24,[zS],[]⟩),
 (27,⟨.strct [(0,4,1),(1,25,1),(2,25,1)],3,56,[.bool false,zS,zS],[]⟩),
 (29,⟨.strct [(0,3,1),(1,2,1),(2,9,1),(3,24,1),(4,4,1),(5,27,3)],8,120,[.int .i64 0,.int .i64 0,.str [],zS,.bool false,.bool false,zS,zS],[]⟩),
 (30,⟨.slc 29,1,24,[zS],[]⟩),
 (32,⟨.strct [(0,3,1),(1,3,1),(2,3,1),(3,3,1),(4,3,1),(5,9,1)],6,56,[.int .i64 0,.int .i64 0,.int .i64 0,.int .i64 0,.int .i64 0,.str []],[]⟩),
 (34,⟨.strct [(0,3,1),(1,30,1),(2,32,6),(8,9,1),(9,2,1)],10,112,[.int .i64 0,zS,.int .i64 0,.int .i64 0,.int .i64 0,.int .i64 0,.int .i64 0,.str [],.str [],.int .i64 0],[]⟩),
 (36,⟨.strct [(0,3,1),(1,3,1),(2,3,1),(3,9,1)],4,40,[.int .i64 0,.int .i64 0,.int .i64 0,.str []],[]⟩),
 (37,⟨.slc 4,1,24,[zS],[]⟩),
 (38,⟨.slc 3,1,24,[zS],[]⟩),
 (40,⟨.strct [(0,3,1),(1,3,1),(2,3,1),(3,29,8),(11,34,10),(21,36,4),(25,9,1),(26,37,1),(27,3,1),(28,38,1)],29,368,[.int .i64 0,.int .i64 0,.int .i64 0,.int .i64 0,.int .i64 0,.str [],zS,.bool false,.bool false,zS,zS,.int .i64 0,zS,.int .i64 0,.int .i64 0,.int .i64 0,.int .i64 0,.int .i64 0,.str [],.str [],.int .i64 0,.int .i64 0,.int .i64 0,.int .i64 0,.str [],.str [],zS,.int .i64 0,zS],[]⟩),
 (42,⟨.strct [(0,3,1),(1,2,1),(2,9,1)],3,32,[.int .i64 0,.int .i64 0,.str []],[]⟩),
 (43,⟨.slc 57,1,24,[zS],[]⟩),
 (44,⟨.slc 377,1,24,[zS],[]⟩),
 (46,⟨.strct [(0,43,1),(1,44,1)],2,48,[zS,zS],[]⟩),
 (47,⟨.slc 96,1,24,[zS],[]⟩),
 (48,⟨.slc 61,1,24,[zS],[]⟩),
 (50,⟨.strct [(0,46,2),(2,47,1),(3,38,1),(4,30,1),(5,48,1)],6,144,[zS,zS,zS,zS,zS,zS],[]⟩),
 (51,⟨.int .i64,1,8,[.int .i64 0],[]⟩),
 (55,⟨.slc 68,1,24,[zS],[]⟩),
 (57,⟨.strct [(0,3,1),(1,3,1),(2,3,1),(3,3,1),(4,55,1),(5,3,1),(6,3,1),(7,38,1),(8,38,1),(9,38,1)],10,144,[.int .i64 0,.int .i64 0,.int .i64 0,.int .i64 0,zS,.int .i64 0,.int .i64 0,zS,zS,zS],[]⟩),
 (59,⟨.strct [(0,3,1),(1,3,1),(2,24,1)],3,40,[.int .i64 0,.int .i64 0,zS],[]⟩),
 (61,⟨.strct [(0,3,1),(1,2,1),(2,59,3)],5,56,[.int .i64 0,.int .i64 0,.int .i64 0,.int .i64 0,zS],[]⟩),
 (68,⟨.strct [(0,3,1),(1,9,1)],2,24,[.int .i64 0,.str []],[]⟩),
 (71,⟨.slc 183,1,24,[zS],[]⟩),
 (73,⟨.strct [(0,25,1),(1,71,1),(2,3,1),(3,3,1),(4,4,1)],5,72,[zS,zS,.int .i64 0,.int .i64 0,.bool false],[]⟩),
 (77,⟨.strct [(0,2,1),(1,2,1),(2,3,1),(3,3,1),(4,2,1)],5,40,[.int .i64 0,.int .i64 0,.int .i64 0,.int .i64 0,.int .i64 0],[]⟩),
 (79,⟨.strct [(0,77,5),(5,3,1),(6,3,1)],7,56,[.int .i64 0,.int .i64 0,.int .i64 0,.int .i64 0,.int .i64 0,.int .i64 0,.int .i64 0],[]⟩),
 (80,⟨.slc 250,1,24,[zS],[]⟩),
 (82,⟨.strct [(0,2,1),(1,2,1),(2,80,1)],3,40,[.int .i64 0,.int .i64 0,zS],[]⟩),
 (83,⟨.slc 312,1,24,[zS],[]⟩),
 (84,⟨.slc 316,1,24,[zS],[]⟩),
 (85,⟨.slc 200,1,24,[zS],[]⟩),
 (87,⟨.strct [(0,2,1),(1,85,1)],2,32,[.int .i64 0,zS],[]⟩),
 (88,⟨.slc 209,1,24,[zS],[]⟩),
 (89,⟨.int .u64,1,8,[.int .u64 0],[]⟩),
 (91,⟨.strct [(0,2,1),(1,82,3),(4,83,1),(5,84,1),(6,87,2),(8,88,1),(9,30,1),(10,89,1)],11,184,[.int .i64 0,.int .i64 0,.int .i64 0,zS,zS,zS,.int .i64 0,zS,zS,zS,.int .u64 0],[]⟩),
 (92,⟨.slc 259,1,24,[zS],[]⟩),
 (94,⟨.strct [(0,2,1),(1,91,11),(12,9,1),(13,4,1),(14,92,1),(15,25,1)],16,264,[.int .i64 0,.int .i64 0,.int .i64 0,.int .i64 0,zS,zS,zS,.int .i64 0,zS,zS,zS,.int .u64 0,.str [],.bool false,zS,zS],[]⟩),
 (96,⟨.strct [(0,73,5),(5,79,7),(12,91,11),(23,94,16),(39,4,1)],40,584,[zS,zS,.int .i64 0,.int .i64 0,.bool false,.int .i64 0,.int .i64 0,.int .i64 0,.int .i64 0,.int .i64 0,.int .i64 0,.int .i64 0,.int .i64 0,.int .i64 0,.int .i64 0,zS,zS,zS,.int .i64 0,zS,zS,zS,.int .u64 0,.int .i64 0,.int .i64 0,.int .i64 0,.int .i64 0,zS,zS,zS,.int .i64 0,zS,zS,zS,.int .u64 0,.str [],.bool false,zS,zS,.bool false],[]⟩),
 (102,⟨.strct [(0,50,6),(6,40,29),(35,3,1)],36,520,[zS,zS,zS,zS,zS,zS,.int .i64 0,.int .i64 0,.int .i64 0,.int .i64 0,.int .i64 0,.str [],zS,.bool false,.bool false,zS,zS,.int .i64 0,zS,.int .i64 0,.int .i64 0,.int .i64 0,.int .i64 0,.int .i64 0,.str [],.str [],.int .i64 0,.int .i64 0,.int .i64 0,.int .i64 0,.str [],.str [],zS,.int .i64 0,zS,.int .i64 0],[]⟩),
 (125,⟨.slc 82,1,24,[zS],[]⟩),
 (137,⟨.slc 5,1,24,[zS],[]⟩),
 (170,⟨.ptr,1,8,[.nilp],[]⟩),
 (173,⟨.strct [(0,96,40)],40,584,[zS,zS,.int .i64 0,.int .i64 0,.bool false,.int .i64 0,.int .i64 0,.int .i64 0,.int .i64 0,.int .i64 0,.int .i64 0,.int .i64 0,.int .i64 0,.int .i64 0,.int .i64 0,zS,zS,zS,.int .i64 0,zS,zS,zS,.int .u64 0,.int .i64 0,.int .i64 0,.int .i64 0,.int .i64 0,zS,zS,zS,.int .i64 0,zS,zS,zS,.int .u64 0,.str [],.bool false,zS,zS,.bool false],[]⟩),
 (183,⟨.strct [(0,3,1),(1,9,1)],2,24,[.int .i64 0,.str []],[]⟩),
 (184,⟨.int .u64,1,8,[.int .u64 0],[]⟩),
 (200,⟨.strct [(0,3,1),(1,9,1),(2,3,1),(3,3,1),(4,9,1)],5,56,[.int .i64 0,.str [],.int .i64 0,.int .i64 0,.str []],[]⟩),
 (202,⟨.fnc,1,8,[.nilf],[]⟩),
 (209,⟨.strct [(0,9,1),(1,2,1)],2,24,[.str [],.int .i64 0],[]⟩),
 (215,⟨.fnc,1,8,[.nilf],[]⟩),
 (217,⟨.strct [(0,83,1),(1,215,1)],2,32,[zS,.nilf],[]⟩),
 (219,⟨.slc 357,1,24,[zS],[]⟩),
 (248,⟨.slc 368,1,24,[zS],[]⟩),
 (250,⟨.strct [(0,9,1),(1,248,1)],2,40,[.str [],zS],[]⟩),
 (259,⟨.strct [(0,9,1),(1,42,3)],4,48,[.str [],.int .i64 0,.int .i64 0,.str []],[]⟩),
 (261,⟨.strct [(0,51,1)],1,8,[.int .i64 0],[]⟩),
 (277,⟨.int .u32,1,4,[.int .u32 0],[]⟩),
 (285,⟨.slc 2,1,24,[zS],[]⟩),
 (288,⟨.strct [(0,2,1),(1,3,1),(2,3,1)],3,24,[.int .i64 0,.int .i64 0,.int .i64 0],[]⟩),
 (296,⟨.strct [(0,9,1),(1,3,1),(2,51,1)],3,32,[.str [],.int .i64 0,.int .i64 0],[]⟩),
 (298,⟨.strct [(0,91,11),(11,92,1),(12,25,1)],13,232,[.int .i64 0,.int .i64 0,.int .i64 0,zS,zS,zS,.int .i64 0,zS,zS,zS,.int .u64 0,zS,zS],[]⟩),
 (309,⟨.slc 561,1,24,[zS],[]⟩),
 (310,⟨.slc 694,1,24,[zS],[]⟩),
 (312,⟨.strct [(0,9,1),(1,309,1),(2,310,1)],3,64,[.str [],zS,zS],[]⟩),
 (316,⟨.strct [(0,3,1),(1,2,1),(2,48,1)],3,40,[.int .i64 0,.int .i64 0,zS],[]⟩),
 (324,⟨.slc 331,1,24,[zS],[]⟩),
 (326,⟨.slc 59,1,24,[zS],[]⟩),
 (329,⟨.slc 27,1,24,[zS],[]⟩),
 (331,⟨.strct [(0,2,1),(1,9,1),(2,24,1),(3,27,3),(6,3,1)],7,112,[.int .i64 0,.str [],zS,.bool false,zS,zS,.int .i64 0],[]⟩),
 (337,⟨.slc 490,1,24,[zS],[]⟩),
 (348,⟨.fnc,1,8,[.nilf],[]⟩),
 (351,⟨.strct [(0,87,2),(2,219,1),(3,32,6)],9,112,[.int .i64 0,zS,zS,.int .i64 0,.int .i64 0,.int .i64 0,.int .i64 0,.int .i64 0,.str []],[]⟩),
 (352,⟨.arr 4 348,4,32,[.nilf,.nilf,.nilf,.nilf],[]⟩),
 (357,⟨.strct [(0,3,1),(1,92,1)],2,32,[.int .i64 0,zS],[]⟩),
 (368,⟨.strct [(0,2,1),(1,42,3)],4,40,[.int .i64 0,.int .i64 0,.int .i64 0,.str []],[]⟩),
 (373,⟨.strct [(0,9,1),(1,3,1),(2,51,1),(3,4,1)],4,40,[.str [],.int .i64 0,.int .i64 0,.bool false],[]⟩),
 (377,⟨.strct [(0,3,1),(1,3,1),(2,3,1),(3,3,1),(4,3,1),(5,3,1),(6,3,1),(7,4,1),(8,55,1)],9,88,[.int .i64 0,.int .i64 0,.int .i64 0,.int .i64 0,.int .i64 0,.int .i64 0,.int .i64 0,.bool false,zS],[]⟩),
 (386,⟨.strct [(0,57,10)],10,144,[.int .i64 0,.int .i64 0,.int .i64 0,.int .i64 0,zS,.int .i64 0,.int .i64 0,zS,zS,zS],[]⟩),
 (404,⟨.ptr,1,8,[.nilp],[]⟩),
 (406,⟨.strct [(0,73,5)],5,72,[zS,zS,.int .i64 0,.int .i64 0,.bool false],[]⟩),
 (412,⟨.strct [(0,9,1),(1,9,1)],2,32,[.str [],.str []],[]⟩),
 (417,⟨.ptr,1,8,[.nilp],[]⟩),
 (419,⟨.strct [(0,417,1),(1,137,1)],2,32,[.nilp,zS],[(0,419)]⟩),
 (421,⟨.ifc,1,16,[.nili],[]⟩),
 (430,⟨.arr 4 89,4,32,[.int .u64 0,.int .u64 0,.int .u64 0,.int .u64 0],[]⟩),
 (434,⟨.fnc,1,8,[.nilf],[]⟩),
 (436,⟨.strct [(0,434,1)],1,8,[.nilf],[]⟩),
 (438,⟨.fnc,1,8,[.nilf],[]⟩),
 (440,⟨.strct [(0,438,1)],1,8,[.nilf],[]⟩),
 (442,⟨.fnc,1,8,[.nilf],[]⟩),
 (444,⟨.strct [(0,442,1)],1,8,[.nilf],[]⟩),
 (447,⟨.fnc,1,8,[.nilf],[]⟩),
 (449,⟨.strct [(0,447,1)],1,8,[.nilf],[]⟩),
 (452,⟨.fnc,1,8,[.nilf],[]⟩),
 (454,⟨.strct [(0,452,1)],1,8,[.nilf],[]⟩),
 (456,⟨.fnc,1,8,[.nilf],[]⟩),
 (458,⟨.strct [(0,456,1)],1,8,[.nilf],[]⟩),
 (460,⟨.fnc,1,8,[.nilf],[]⟩),
 (462,⟨.strct [(0,460,1)],1,8,[.nilf],[]⟩),
 (465,⟨.strct [(0,202,1)],1,8,[.nilf],[]⟩),
 (482,⟨.strct [(0,3,1),(1,3,1),(2,3,1),(3,3,1)],4,32,[.int .i64 0,.int .i64 0,.int .i64 0,.int .i64 0],[]⟩),
 (490,⟨.strct [(0,59,3),(3,25,1),(4,25,1),(5,92,1),(6,9,1),(7,3,1)],8,136,[.int .i64 0,.int .i64 0,zS,zS,zS,zS,.str [],.int .i64 0],[]⟩),
 (498,⟨.fnc,1,8,[.nilf],[]⟩),
 (502,⟨.slc 647,1,24,[zS],[]⟩),
 (503,⟨.slc 656,1,24,[zS],[]⟩),
 (505,⟨.strct [(0,502,1),(1,503,1)],2,48,[zS,zS],[]⟩),
 (514,⟨.slc 38,1,24,[zS],[]⟩),
 (522,⟨.slc 526,1,24,[zS],[]⟩),
 (524,⟨.fnc,1,8,[.nilf],[]⟩),
 (526,⟨.strct [(0,524,1),(1,3,1),(2,3,1)],3,24,[.nilf,.int .i64 0,.int .i64 0],[]⟩),
 (527,⟨.slc 531,1,24,[zS],[]⟩),
 (528,⟨.slc 771,1,24,[zS],[]⟩),
 (530,⟨.strct [(0,83,1),(1,87,2),(3,324,1),(4,329,1),(5,514,1),(6,514,1),(7,527,1),(8,528,1),(9,337,1)],10,224,[zS,.int .i64 0,zS,zS,zS,zS,zS,zS,zS,zS],[]⟩),
 (531,⟨.ptr,1,8,[.nilp],[]⟩),
 (533,⟨.strct [(0,357,2),(2,505,2),(4,528,1),(5,37,1),(6,37,1)],7,152,[.int .i64 0,zS,zS,zS,zS,zS,zS],[]⟩),
 (534,⟨.fnc,1,8,[.nilf],[]⟩),
 (536,⟨.strct [(0,534,1)],1,8,[.nilf],[]⟩),
 (543,⟨.strct [(0,3,1),(1,3,1),(2,3,1),(3,412,2),(5,92,1),(6,4,1)],7,88,[.int .i64 0,.int .i64 0,.int .i64 0,.str [],.str [],zS,.bool false],[]⟩),
 (552,⟨.slc 684,1,24,[zS],[]⟩),
 (554,⟨.strct [(0,552,1),(1,3,1)],2,32,[zS,.int .i64 0],[]⟩),
 (558,⟨.arr 4 3,4,32,[.int .i64 0,.int .i64 0,.int .i64 0,.int .i64 0],[]⟩),
 (561,⟨.strct [(0,9,1),(1,3,1)],2,24,[.str [],.int .i64 0],[]⟩),
 (565,⟨.strct [(0,419,2),(2,3,1)],3,40,[.nilp,zS,.int .i64 0],[(0,419)]⟩),
 (584,⟨.strct [(0,51,1)],1,8,[.int .i64 0],[]⟩),
 (588,⟨.ptr,1,8,[.nilp],[]⟩),
 (589,⟨.arr 64 5,64,64,[.int .u8 0,.int .u8 0,.int .u8 0,.int .u8 0,.int .u8 0,.int .u8 0,.int .u8 0,.int .u8 0,.int .u8 0,.int .u8 0,.int .u8 0,.int .u8 0,.int .u8 0,.int .u8 0,.int .u8 0,.int .u8 0,.int .u8 0,.int .u8 0,.int .u8 0,.int .u8 0,.int .u8 0,.int .u8 0,.int .u8 0,.int .u8 0,.int .u8 0,.int .u8 0,.int .u8 0,.int .u8 0,.int .u8 0,.int .u8 0,.int .u8 0,.int .u8 0,.int .u8 0,.int .u8 0,.int .u8 0,.int .u8 0,.int .u8 0,.int .u8 0,.int .u8 0,.int .u8 0,.int .u8 0,.int .u8 0,.int .u8 0,.int .u8 0,.int .u8 0,.int .u8 0,.int .u8 0,.int .u8 0,.int .u8 0,.int .u8 0,.int .u8 0,.int .u8 0,.int .u8 0,.int .u8 0,.int .u8 0,.int .u8 0,.int .u8 0,.int .u8 0,.int .u8 0,.int .u8 0,.int .u8 0,.int .u8 0,.int .u8 0,.int .u8 0],[]⟩),
 (599,⟨.strct [(0,9,1),(1,3,1),(2,51,1)],3,32,[.str [],.int .i64 0,.int .i64 0],[]⟩),
 (604,⟨.strct [(0,9,1),(1,3,1),(2,51,1)],3,32,[.str [],.int .i64 0,.int .i64 0],[]⟩),
 (611,⟨.strct [(0,3,1),(1,2,1)],2,16,[.int .i64 0,.int .i64 0],[]⟩),
 (616,⟨.slc 30,1,24,[zS],[]⟩),
 (620,⟨.map,1,8,[.any],[]⟩),
 (621,⟨.map,1,8,[.any],[]⟩),
 (623,⟨.strct [(0,482,4),(4,25,1),(5,329,1),(6,620,1),(7,621,1),(8,621,1)],9,104,[.int .i64 0,.int .i64 0,.int .i64 0,.int .i64 0,zS,zS,.any,.any,.any],[]⟩),
 (647,⟨.strct [(0,3,1),(1,4,1)],2,16,[.int .i64 0,.bool false],[]⟩),
 (656,⟨.strct [(0,9,1),(1,502,1)],2,40,[.str [],zS],[]⟩),
 (681,⟨.strct [(0,3,1),(1,51,1)],2,16,[.int .i64 0,.int .i64 0],[]⟩),
 (684,⟨.strct [(0,3,1),(1,9,1),(2,2,1),(3,3,1)],4,40,[.int .i64 0,.str [],.int .i64 0,.int .i64 0],[]⟩),
 (690,⟨.slc 692,1,24,[zS],[]⟩),
 (692,⟨.strct [(0,3,1),(1,2,1),(2,9,1),(3,690,1)],4,56,[.int .i64 0,.int .i64 0,.str [],zS],[]⟩),
 (694,⟨.strct [(0,3,1),(1,9,1),(2,3,1),(3,692,4),(7,692,4),(11,310,1),(12,310,1)],13,192,[.int .i64 0,.str [],.int .i64 0,.int .i64 0,.int .i64 0,.str [],zS,.int .i64 0,.int .i64 0,.str [],zS,zS,zS],[]⟩),
 (700,⟨.fnc,1,8,[.nilf],[]⟩),
 (701,⟨.fnc,1,8,[.nilf],[]⟩),
 (716,⟨.arr 8 5,8,8,[.int .u8 0,.int .u8 0,.int .u8 0,.int .u8 0,.int .u8 0,.int .u8 0,.int .u8 0,.int .u8 0],[]⟩),
 (723,⟨.strct [(0,9,1),(1,3,1),(2,51,1)],3,32,[.str [],.int .i64 0,.int .i64 0],[]⟩),
 (728,⟨.arr 3 3,3,24,[.int .i64 0,.int .i64 0,.int .i64 0],[]⟩),
 (734,⟨.slc 25,1,24,[zS],[]⟩),
 (751,⟨.ptr,1,8,[.nilp],[]⟩),
 (753,⟨.map,1,8,[.any],[]⟩),
 (755,⟨.strct [(0,92,1),(1,27,3),(4,753,1),(5,753,1),(6,490,8)],14,232,[zS,.bool false,zS,zS,.any,.any,.int .i64 0,.int .i64 0,zS,zS,zS,zS,.str [],.int .i64 0],[]⟩),
 (758,⟨.strct [(0,59,3),(3,9,1)],4,56,[.int .i64 0,.int .i64 0,zS,.str []],[]⟩),
 (771,⟨.strct [(0,3,1),(1,3,1),(2,3,1),(3,25,1),(4,92,1)],5,72,[.int .i64 0,.int .i64 0,.int .i64 0,zS,zS],[]⟩),
 (779,⟨.int .i64,1,8,[.int .i64 0],[]⟩),
 (791,⟨.map,1,8,[.any],[]⟩),
 (804,⟨.strct [(0,3,1),(1,700,1),(2,701,1)],3,24,[.int .i64 0,.nilf,.nilf],[]⟩),
 (807,⟨.strct [(0,4,1),(1,4,1),(2,4,1),(3,4,1),(4,4,1),(5,4,1)],6,6,[.bool false,.bool false,.bool false,.bool false,.bool false,.bool false],[]⟩),
 (822,⟨.map,1,8,[.any],[]⟩),
 (824,⟨.strct [(0,822,1),(1,822,1),(2,4,1)],3,24,[.any,.any,.bool false],[]⟩),
 (826,⟨.map,1,8,[.any],[]⟩),
 (828,⟨.strct [(0,4,1),(1,42,3)],4,40,[.bool false,.int .i64 0,.int .i64 0,.str []],[]⟩),
 (846,⟨.int .u64,1,8,[.int .u64 0],[]⟩),
 (858,⟨.strct [(0,791,1),(1,822,1),(2,791,1)],3,24,[.any,.any,.any],[]⟩),
 (915,⟨.slc 828,1,24,[zS],[]⟩),
 (929,⟨.arr 24 5,24,24,[.int .u8 0,.int .u8 0,.int .u8 0,.int .u8 0,.int .u8 0,.int .u8 0,.int .u8 0,.int .u8 0,.int .u8 0,.int .u8 0,.int .u8 0,.int .u8 0,.int .u8 0,.int .u8 0,.int .u8 0,.int .u8 0,.int .u8 0,.int .u8 0,.int .u8 0,.int .u8 0,.int .u8 0,.int .u8 0,.int .u8 0,.int .u8 0],[]⟩),
 (938,⟨.int .i64,1,8,[.int .i64 0],[]⟩),
 (941,⟨.ptr,1,8,[.nilp],[]⟩),
 (946,⟨.arr 20 89,20,160,[.int .u64 0,.int .u64 0,.int .u64 0,.int .u64 0,.int .u64 0,.int .u64 0,.int .u64 0,.int .u64 0,.int .u64 0,.int .u64 0,.int .u64 0,.int .u64 0,.int .u64 0,.int .u64 0,.int .u64 0,.int .u64 0,.int .u64 0,.int .u64 0,.int .u64 0,.int .u64 0],[]⟩),
 (947,⟨.arr 65 5,65,65,[.int .u8 0,.int .u8 0,.int .u8 0,.int .u8 0,.int .u8 0,.int .u8 0,.int .u8 0,.int .u8 0,.int .u8 0,.int .u8 0,.int .u8 0,.int .u8 0,.int .u8 0,.int .u8 0,.int .u8 0,.int .u8 0,.int .u8 0,.int .u8 0,.int .u8 0,.int .u8 0,.int .u8 0,.int .u8 0,.int .u8 0,.int .u8 0,.int .u8 0,.int .u8 0,.int .u8 0,.int .u8 0,.int .u8 0,.int .u8 0,.int .u8 0,.int .u8 0,.int .u8 0,.int .u8 0,.int .u8 0,.int .u8 0,.int .u8 0,.int .u8 0,.int .u8 0,.int .u8 0,.int .u8 0,.int .u8 0,.int .u8 0,.int .u8 0,.int .u8 0,.int .u8 0,.int .u8 0,.int .u8 0,.int .u8 0,.int .u8 0,.int .u8 0,.int .u8 0,.int .u8 0,.int .u8 0,.int .u8 0,.int .u8 0,.int .u8 0,.int .u8 0,.int .u8 0,.int .u8 0,.int .u8 0,.int .u8 0,.int .u8 0,.int .u8 0,.int .u8 0],[]⟩),
 (950,⟨.strct [(0,42,3),(3,42,3)],6,64,[.int .i64 0,.int .i64 0,.str [],.int .i64 0,.int .i64 0,.str []],[]⟩),
 (953,⟨.strct [(0,9,1),(1,9,1),(2,421,1)],3,48,[.str [],.str [],.nili],[]⟩),
 (955,⟨.ptr,1,8,[.nilp],[]⟩),
 (957,⟨.strct [(0,9,1)],1,16,[.str []],[]⟩),
 (958,⟨.arr 32 5,32,32,[.int .u8 0,.int .u8 0,.int .u8 0,.int .u8 0,.int .u8 0,.int .u8 0,.int .u8 0,.int .u8 0,.int .u8 0,.int .u8 0,.int .u8 0,.int .u8 0,.int .u8 0,.int .u8 0,.int .u8 0,.int .u8 0,.int .u8 0,.int .u8 0,.int .u8 0,.int .u8 0,.int .u8 0,.int .u8 0,.int .u8 0,.int .u8 0,.int .u8 0,.int .u8 0,.int .u8 0,.int .u8 0,.int .u8 0,.int .u8 0,.int .u8 0,.int .u8 0],[]⟩)]
noncomputable def ttT:T TI:=mkT ttL
noncomputable def mkG(l:List Func):Nat→T Func:=
 List.rec (motive:=fun _=>Nat→T Func) (fun _=>.e) (fun fn _ ih i=>(ih (Nat.succ i)).put i (some fn)) l
noncomputable def fsT:T Func:=mkG PP.funcs.toList 0
noncomputable def eqT:EqT:=eqOf PP ttL [32,42,68,259,288,611,828] [620,621,753,791,822,826] [(626,.cmp)]
noncomputable def spL:List (Nat×Cm.Spec):=[(388,.chk 419),(259,.str 5),(733,.pur 0),(652,.fn gCln),(732,.pur 2),(47,.fn gDsk),(504,.fn gCrc),(42,.dfr),(44,.dfr),(83,.dfr),(249,.dfr),(351,.dfr),(545,.dfr)]
theorem htt:TTok PP ttL=true:=by kernel_rfl
theorem hmo:PP.follows .mixedOrders=true:=by kernel_rfl
theorem heq:EqOk PP ttL eqT:=eqOf_ok _ _ _ _ _ fun x hx=>by
 rcases List.mem_singleton.1 hx with rfl
 exact xcmp
theorem mkG_at:∀(l:List Func) (i j:Nat),(mkG l i).at' j=if i≤j then l[j-i]? else none
 |[],i,j=>by
  have:mkG [] i = .e:=rfl
  rw [this,T.at_e];simp
 |fn::l,i,j=>by
  have h:mkG (fn::l) i=(mkG l (i+1)).put i (some fn):=rfl
  rw [h,T.at_put,mkG_at l (i+1) j]
  by_cases hj:i=j
  ·subst hj;simp
  ·rw [if_neg hj]
   by_cases hle:i+1≤j
   ·rw [if_pos hle,if_pos (by omega),show j-i=(j-(i+1))+1 by omega];simp
   ·rw [if_neg hle,if_neg (by omega)]
theorem noNum : PP.funcs.toList.all (fun fn => !decide (fn.name = "runtime.NumGoroutine")) = true := by kernel_rfl
theorem hfs:FsOk PP fsT:=fun f fn h=>by
 unfold fsT at h
 rw [mkG_at,if_pos (Nat.zero_le _),Nat.sub_zero]at h
 refine⟨by rw [←Array.getElem?_toList];exact h,?_⟩
 have:=List.all_eq_true.1 noNum fn (List.mem_of_getElem? h)
 simpa using this
theorem hspL:∀x,x∈spL→SpecOk PP x.1 x.2:=by
 intro x hx
 simp only [spL,List.mem_cons,List.not_mem_nil,or_false]at hx
 rcases hx with rfl|rfl|rfl|rfl|rfl|rfl|rfl|rfl|rfl|rfl|rfl|rfl|rfl
 ·exact chk_388
 ·exact str_259
 ·exact idx_733
 ·exact cln_652
 ·exact pint_732
 ·exact dsk_47
 ·exact crc_504
 all_goals trivial
structure PM where
 f:Nat
 m:Memo
 h:MCalls PP f m
noncomputable def PM.row(l:List PM)(q:PM):Nat×Cm.Spec:=(q.f,.memo (l.filterMap fun r=>bif Nat.beq r.f q.f then some r.m else none))
noncomputable def tb(l:List PM):T Cm.Spec:=mkT (l.map (PM.row l)++spL)
theorem tb_ok(l:List PM):SpOk PP (tb l):=by
 intro f k h
 unfold tb at h
 rw [mkT_at]at h
 rcases List.mem_append.1 (look_mem h)with h|h
 ·obtain⟨q,hq,he⟩:=List.mem_map.1 h
  unfold PM.row at he
  cases he
  intro m hm
  obtain⟨r,hr,hx⟩:=List.mem_filterMap.1 hm
  rw [Bool.cond_eq_ite]at hx
  split at hx<;>cases hx
  rename_i hb
  have hb:r.f=q.f:=by simpa using hb
  rw [←hb]
  exact r.h
 ·exact hspL _ h
noncomputable abbrev cal(l:List PM)(f:Nat)(args:List CV)(H:T Blk)(nx:Nat):Option New:=callF ttT eqT fsT (tb l) (evC ttT eqT fsT (tb l) 1000000) f args H nx
noncomputable def chkM(l:List PM)(f:Nat)(m:Memo):Bool:=memoB m (cal l f m.args (rowsOf m.H) m.nx)
theorem mk{f:Nat}{m:Memo}(l:List PM)(h:chkM l f m=true):MCalls PP f m:=
 memo_of (fun n hn=>callF_ok heq htt hfs (tb_ok l) (ev_ok hmo htt heq hfs (tb_ok l) 1000000) f m.args (rowsOf m.H) m.nx n hn) h
end Go.Ab.Y
namespace Go.Ab.Cm
section
variable {P:Program} {tt:TT} {eq:EqT}
def SndP(P:Program)(N:Nat)(c:Code)(s:S)(r:R):Prop:=∀ ρ,(ρ≠none→noRF c=true)→∀(K:Ctx) (ds:List Deferred) (w:World) (tmps:Array Value) (β:Nat→Option BI),SimC P K N β s tmps w→
 c.wpIn (FW ρ) 0 P (PostR P K N s.nx β ds (noRF c) r) ⟨tmps,ds⟩ w∧∀b,c = .loop b→LW ρ P b (PostR P K N s.nx β ds (noRF c) r) ⟨tmps,ds⟩ w
theorem snd_ev{ev:Ev}(h:EvOk P ev){N:Nat}{c:Code}{s:S}{r:R}(e:ev N c s=r)(hb:r ≠ .bad):SndP P N c s r:=h N c s r e hb
theorem snd_wk{N:Nat}{c:Code}{s1 s:S}{r:R}(hw:Wk P s1 s)(h:SndP P N c s1 r):SndP P N c s r:=fun ρ hρ K ds w tmps β hs=>by
 have:=h ρ hρ K ds w tmps β (hw.2 K N β tmps w hs)
 rw [hw.1]at this
 exact this
open Classical in
noncomputable def oneE(N:Nat)(c:Code)(s:S)(r:R)(ev:Ev):Ev:=fun N' c' s'=>if N'=N∧c'=c∧s'=s then r else ev N' c' s'
theorem oneE_ok{N:Nat}{c:Code}{s:S}{r:R}{ev:Ev}(h:SndP P N c s r)(hev:EvOk P ev):EvOk P (oneE N c s r ev):=by
 intro N' c' s' r' hr hb
 unfold oneE at hr
 split at hr
 ·rename_i hc
  obtain⟨rfl,rfl,rfl⟩:=hc
  subst hr
  exact h
 ·exact hev N' c' s' r' hr hb
noncomputable def noE:Ev:=fun _ _ _=>.bad
theorem noE_ok:EvOk P noE:=fun _ _ _ _ h hb=>absurd h.symm hb
theorem noCall:CallOk P ⟨fun _ _ _ _=>none,fun _ _ _ _=>none⟩:=⟨fun f a H nx n h=>(by cases h),fun f a H nx n h=>(by cases h)⟩
theorem snd_seq(hm:P.follows .mixedOrders=true)(htt:TTok P tt=true)(heq:EqOk P tt eq){N:Nat}{a b:Code}(hab:a≠b){s s':S}{r:R}(hb:r ≠ .bad)(h1:SndP P N a s (.nrm s'))(h2:SndP P N b s' r):SndP P N (.seq a b) s r:=by
 have hev:EvOk P (oneE N a s (.nrm s') (oneE N b s' r noE)):=oneE_ok h1 (oneE_ok h2 noE_ok)
 refine code_ok hm htt heq noCall hev N (.seq a b) s r ?_ hb
 show thenR (oneE N a s (.nrm s') (oneE N b s' r noE) N a s) (oneE N a s (.nrm s') (oneE N b s' r noE) N b)=r
 have e1:oneE N a s (.nrm s') (oneE N b s' r noE) N a s = .nrm s':=if_pos ⟨rfl,rfl,rfl⟩
 rw [e1]
 show oneE N a s (.nrm s') (oneE N b s' r noE) N b s'=r
 unfold oneE
 rw [if_neg (fun h=>hab h.2.1.symm),if_pos ⟨rfl,rfl,rfl⟩]
theorem snd_steps(hm:P.follows .mixedOrders=true)(htt:TTok P tt=true)(heq:EqOk P tt eq){call:Call'}(hcall:CallOk P call){N id:Nat}{ops:Array Oper}{s s':S}(h:steps (mkT tt) eq call N ops.toList ops.toList s=some s'):SndP P N (.region id ops false) s (.nrm s'):=by
 refine code_ok hm htt heq hcall noE_ok N (.region id ops false) s _ ?_ (by simp)
 show toR (steps (mkT tt) eq call N ops.toList ops.toList s)=_
 rw [h];rfl
theorem calls_of_snd(htt:TTok P tt=true){fs:T Func}(hfs:FsOk P fs){f:FuncId}{fn:Func}{c:Code}(hf:fs.at' f=some fn)(hbd:fn.body=some c){args:List CV}(hl:Nat.ble (lenR args) fn.ntmps=true){H:T Blk}{nx:Nat}{s2:S}{v:CV}
    (h:SndP P fn.ntmps c ⟨putL args 0 .e,H,nx⟩ (.ret s2)) (hv:resC (mkT tt) s2 fn.results.toList=some v):CCalls P f args H nx ⟨v,s2.H,s2.nx⟩:=by
  refine callB_ok htt hfs (oneE_ok h noE_ok) f args H nx _ ?_
  unfold callB
  rw [hf]
  simp only [hbd,hl,cond_true]
  have e:oneE fn.ntmps c ⟨putL args 0 .e,H,nx⟩ (.ret s2) noE fn.ntmps c ⟨putL args 0 .e,H,nx⟩ = .ret s2:=if_pos ⟨rfl,rfl,rfl⟩
  rw [e]
  simp only [hv,Option.map_some]
theorem steps_app(t:T TI)(q:EqT)(call:Call')(N:Nat)(ops:List Oper):∀(l1 l2:List Oper) (s s1:S),steps t q call N ops l1 s=some s1→steps t q call N ops (l1++l2) s=steps t q call N ops l2 s1
 |[],l2,s,s1,h=>by cases h;rfl
 |o::l1,l2,s,s1,h=>by
  have e:∀l,steps t q call N ops (o::l) s=Option.rec (motive:=fun _=>Option S) none (fun s'=>steps t q call N ops l s') (step t q call N ops s o):=fun _=>rfl
  rw [e]at h
  rw [List.cons_append,e]
  cases hs:step t q call N ops s o with
  |none=>rw [hs]at h;cases h
  |some s'=>
   rw [hs]at h
   exact steps_app t q call N ops l1 l2 s' s1 h
noncomputable def gR(r:R):S:=R.rec (motive:=fun _=>S) (fun s=>s) (fun _ s=>s) (fun s=>s) ⟨.e,.e,0⟩ r
noncomputable def isN(r:R):Bool:=R.rec (motive:=fun _=>Bool) (fun _=>true) (fun _ _=>false) (fun _=>false) false r
theorem isN_spec{r:R}(h:isN r=true):r = .nrm (gR r):=by cases r<;>first|rfl|cases h
noncomputable def gO(r:Option S):S:=Option.rec (motive:=fun _=>S) ⟨.e,.e,0⟩ (fun s=>s) r
noncomputable def isO(r:Option S):Bool:=Option.rec (motive:=fun _=>Bool) false (fun _=>true) r
theorem isO_spec{r:Option S}(h:isO r=true):r=some (gO r):=by cases r<;>first|rfl|cases h
end
end Go.Ab.Cm
namespace Go.Ab.Y
open Go Go.Ab Go.Ab.Cm Go.Proofs
set_option maxRecDepth 1000000
noncomputable def sq1(c:Code):Code:=match c with|.seq a _=>a|_=>.skip
noncomputable def sq2(c:Code):Code:=match c with|.seq _ b=>b|_=>.skip
noncomputable def isSq(c:Code):Bool:=match c with|.seq _ _=>true|_=>false
noncomputable def opsA(c:Code):Array Oper:=match c with|.region _ ops _=>ops|_ => #[]
noncomputable def k0:Code:=Tryz.f3.body.getD .skip
noncomputable def k1:Code:=sq2 k0
noncomputable def k2:Code:=sq2 k1
noncomputable def k3:Code:=sq2 k2
noncomputable def k4:Code:=sq2 k3
theorem k0_eq:Tryz.f3.body=some (.seq (sq1 k0) k1):=by kernel_rfl
theorem k1_eq:k1 = .seq (.region 1 (opsA (sq1 k1)) false) k2:=by kernel_rfl
theorem k2_eq:k2 = .seq (sq1 k2) k3:=by kernel_rfl
theorem k3_eq:k3 = .seq (.region 3 (opsA (sq1 k3)) false) k4:=by kernel_rfl
theorem ne_of{a b:Code}(h1:isSq a=false)(h2:isSq b=true):a≠b:=fun h=>by rw [h,h2]at h1;cases h1
section
variable (l:List PM)
noncomputable abbrev ev:Ev:=evC ttT eqT fsT (tb l) 1000000
noncomputable abbrev cll:Call':=⟨callF ttT eqT fsT (tb l) (ev l),callY (ev l)⟩
theorem hev:EvOk PP (ev l):=ev_ok hmo htt heq hfs (tb_ok l) 1000000
theorem hcl:CallOk PP (cll l):=⟨callF_ok heq htt hfs (tb_ok l) (hev l),callY_ok (hev l)⟩
noncomputable abbrev stp(k:Code)(os:List Oper)(s:S):Option S:=steps ttT eqT (cll []) 95 (opsA (sq1 k)).toList os s
noncomputable abbrev u8(n:Nat):CV:=.int .u8 (.ofNat n)
noncomputable abbrev i64(x:Int):CV:=.int .i64 x
noncomputable def sA(n e:Nat):S:=⟨putL [u8 n,u8 e] 0 .e,.e,0⟩
noncomputable def sA1(n e:Nat):S:=⟨(sA n e).env.put 4 (some (.bool false)),.e,0⟩
noncomputable def sA2(n e:Nat)(x:Int):S:=⟨((sA1 n e).env.put 12 (some (u8 n))).put 13 (some (i64 x)),.e,0⟩
noncomputable def sA3(n e:Nat)(x y:Int):S:=⟨((sA2 n e x).env.put 14 (some (i64 y))).put 5 (some (i64 y)),.e,0⟩
theorem a1(n e:Nat):ev [] 95 (sq1 k0) (sA n e) = .nrm (sA1 n e):=by kernel_rfl
theorem a2(n e:Nat):stp k1 ((opsA (sq1 k1)).toList.take 2) (sA1 n e)=some (sA2 n e (IntKind.i64.wrap (.ofNat n))):=by kernel_rfl
theorem a3(n e m:Nat):stp k1 ((opsA (sq1 k1)).toList.drop 2) (sA2 n e (.ofNat m))=some (sA3 n e (.ofNat m) (Int.tmod (.ofNat m) 9)):=by kernel_rfl
theorem wr8{n:Nat}(h:n<256):IntKind.i64.wrap (.ofNat n) = .ofNat n:=by rw [IntKind.wrap_i64];show _=(n:Int);have e:Int.ofNat n=(n:Int):=rfl;rw [e];omega
theorem tm(n k:Nat):Int.tmod (.ofNat n) (.ofNat k) = .ofNat (n % k):=rfl
theorem a4{n:Nat}(e:Nat)(h:n<256):stp k1 (opsA (sq1 k1)).toList (sA1 n e)=some (sA3 n e (.ofNat n) (.ofNat (n % 9))):=by
 have h2:=a2 n e
 rw [wr8 h]at h2
 have h3:=a3 n e n
 rw [show(9:Int) = .ofNat 9 from rfl,tm]at h3
 have:=steps_app ttT eqT (cll []) 95 (opsA (sq1 k1)).toList _ ((opsA (sq1 k1)).toList.drop 2) _ _ h2
 rw [List.take_append_drop]at this
 exact this.trans h3
noncomputable def sB(c e:Nat):SL:=⟨[(1,u8 e),(4,.bool false),(5,i64 (.ofNat c))],[],0⟩
theorem wkB(n e c:Nat)(x:Int):Wk PP (sB c e).s (sA3 n e x (.ofNat c)):=by
 refine wk_of rfl (fun y hy=>?_) (fun y hy=>by cases hy)
 simp only [sB,List.mem_cons,List.not_mem_nil,or_false]at hy
 rcases hy with rfl|rfl|rfl<;>kernel_rfl
noncomputable def sC(c e:Nat):S:=gR (ev [] 95 (sq1 k2) (sB c e).s)
theorem b1(c e:Nat):ev [] 95 (sq1 k2) (sB c e).s = .nrm (sC c e):=isN_spec (by kernel_rfl)
noncomputable def sC2(c e:Nat):S:=gO (stp k3 ((opsA (sq1 k3)).toList.take 2) (sC c e))
theorem b2(c e:Nat):stp k3 ((opsA (sq1 k3)).toList.take 2) (sC c e)=some (sC2 c e):=isO_spec (by kernel_rfl)
noncomputable def sC3(c e:Nat)(x:Int):S:=⟨(sC2 c e).env.put 19 (some (i64 x)),(sC2 c e).H,(sC2 c e).nx⟩
theorem b3(c e:Nat):stp k3 (((opsA (sq1 k3)).toList.drop 2).take 1) (sC2 c e)=some (sC3 c e (IntKind.i64.wrap (.ofNat e))):=by kernel_rfl
noncomputable def sD(c e:Nat):S:=gO (stp k3 (((opsA (sq1 k3)).toList.drop 2).drop 1) (sC3 c e (.ofNat e)))
theorem b4(c e:Nat):stp k3 (((opsA (sq1 k3)).toList.drop 2).drop 1) (sC3 c e (.ofNat e))=some (sD c e):=isO_spec (by kernel_rfl)
theorem b5(c:Nat){e:Nat}(h:e<256):stp k3 (opsA (sq1 k3)).toList (sC c e)=some (sD c e):=by
 have h3:=b3 c e
 rw [wr8 h]at h3
 have h4:=steps_app ttT eqT (cll []) 95 (opsA (sq1 k3)).toList _ (((opsA (sq1 k3)).toList.drop 2).drop 1) _ _ h3
 rw [List.take_append_drop]at h4
 have h2:=steps_app ttT eqT (cll []) 95 (opsA (sq1 k3)).toList _ ((opsA (sq1 k3)).toList.drop 2) _ _ (b2 c e)
 rw [List.take_append_drop]at h2
 exact h2.trans (h4.trans (b4 c e))
noncomputable def three:List (Nat×CV):=(fl 145 (.int .i64 0) [(0,.int .i64 4),(5,.str []),(6,.nils),(7,.bool false),(8,.bool false),(9,.nils),(10,.nils),(12,.nils),(18,.str []),(19,.str []),(21,.int .i64 1),(22,.int .i64 1),(24,.str []),(25,.str []),(26,.nils),(28,.nils),(29,.int .i64 3),(30,.int .i64 1),(34,.str []),(35,.nils),(36,.bool false),(37,.bool false),(38,.nils),(39,.nils),(40,.int .i64 4),(41,.nils),(47,.str []),(48,st 0x170726f6320736574286b3a2073747229207b20707574206b203d20313b207d),(53,.str []),(54,.str []),(55,.nils),(57,.nils),(58,.int .i64 10),(59,.int .i64 1),(63,.str []),(64,.nils),(65,.bool false),(66,.bool false),(67,.nils),(68,.nils),(70,.nils),(76,.str []),(77,.str []),(82,.str []),(83,.str []),(84,.nils),(86,.nils),(87,.int .i64 2),(88,.int .i64 1),(92,.str []),(93,.nils),(94,.bool false),(95,.bool false),(96,.nils),(97,.nils),(99,.nils),(105,.str []),(106,.str []),(111,.str []),(112,.str []),(113,.nils),(115,.nils),(116,.int .i64 5),(117,.int .i64 1),(118,.int .i64 2),(121,.str []),(122,.nils),(123,.bool false),(124,.bool false),(125,.nils),(126,.nils),(128,.nils),(134,.str []),(135,.str []),(140,.str []),(141,.str []),(142,.nils),(144,.nils)]).filter fun z=>!Nat.beq z.1 60
noncomputable def sE(c d:Nat):SL:=⟨[(4,.bool false),(5,i64 (.ofNat c)),(6,.slc 1 0 3 5 true 29)],[⟨1,145,(60,i64 (.ofNat d))::three,82⟩],3⟩
noncomputable def rw1(b:Option Blk):T CV:=match b with|some (.row _ cs _)=>cs|_=>.e
noncomputable def isRw(b:Option Blk):Bool:=match b with|some (.row n _ t)=>Nat.beq n 145&&Nat.beq t 82|_=>false
theorem isRw_spec{b:Option Blk}(h:isRw b=true):b=some (.row 145 (rw1 b) 82):=by
 unfold isRw at h
 split at h
 case h_2=>cases h
 simp only [Bool.and_eq_true,Nat.beq_eq]at h
 obtain⟨rfl,rfl⟩:=h
 rfl
theorem d1(c e:Nat):isRw ((sD c e).H.at' 1)=true:=by kernel_rfl
theorem d2(c e:Nat):Cm.cellsIn (rw1 ((sD c e).H.at' 1)) three=true:=by kernel_rfl
theorem d3(c e:Nat):(rw1 ((sD c e).H.at' 1)).at' 60=some (i64 (Int.tmod (.ofNat e) 5)):=by kernel_rfl
theorem d4(c e:Nat):(sD c e).env.at' 4=some (.bool false):=by kernel_rfl
theorem d5(c e:Nat):(sD c e).env.at' 5=some (i64 (.ofNat c)):=by kernel_rfl
theorem d6(c e:Nat):(sD c e).env.at' 6=some (.slc 1 0 3 5 true 29):=by kernel_rfl
theorem d7(c e:Nat):(sD c e).nx=3:=by kernel_rfl
theorem wkE(c e:Nat):Wk PP (sE c (e % 5)).s (sD c e):=by
 refine⟨(d7 c e).symm,fun K N β tmps w h=>?_⟩
 have hw:WkH (rowsOf (sE c (e % 5)).H) (sD c e).H:=by
  intro r b hr
  obtain⟨i,y,hi,rfl,rfl⟩:=rowsOf_at hr
  have hy:=List.mem_of_getElem? hi
  rcases List.mem_singleton.1 hy with rfl
  refine⟨_,isRw_spec (d1 c e),rfl,rfl,fun j v hj=>?_⟩
  rw [mkT_at,look_cons]at hj
  split at hj
  ·rename_i h60
   subst h60
   cases hj
   rw [d3,show(5:Int) = .ofNat 5 from rfl,tm]
  ·exact Cm.cellsIn_spec (d2 c e) j v hj
 have:=h.weak (H:=rowsOf (sE c (e % 5)).H) hw
 refine⟨this.size,fun t v ht=>h.slot t v ?_,this.blk,this.inj,fun r bi hb=>?_,this.frame,this.oo,this.good⟩
 ·have ht:(mkT (sE c (e % 5)).env).at' t=some v:=ht
  rw [mkT_at]at ht
  have hm:=look_mem ht
  simp only [sE,List.mem_cons,List.not_mem_nil,or_false]at hm
  rcases hm with hm|hm|hm<;>cases hm
  ·exact d4 c e
  ·exact d5 c e
  ·exact d6 c e
 ·show r<3
  have:=h.lt r bi hb
  rw [d7]at this
  exact this
theorem whole{n e:Nat}(hn:n<256)(he:e<256){s2:S}(h:SndP PP 95 k4 (sE (n % 9) (e % 5)).s (.ret s2))(hv:s2.env.at' 4=some (.bool true)):CCalls PP 3 [u8 n,u8 e] .e 0 ⟨.bool true,s2.H,s2.nx⟩:=by
 have g3:SndP PP 95 k3 (sC (n % 9) e) (.ret s2):=by
  rw [k3_eq]
  exact snd_seq hmo htt heq (ne_of rfl (by kernel_rfl)) (by simp) (snd_steps hmo htt heq (hcl []) (b5 (n % 9) he)) (snd_wk (wkE _ _) h)
 have g2:SndP PP 95 k2 (sB (n % 9) e).s (.ret s2):=by
  rw [k2_eq]
  exact snd_seq hmo htt heq (ne_of (by kernel_rfl) (by kernel_rfl)) (by simp) (snd_ev (hev []) (b1 _ _) (by simp)) g3
 have g1:SndP PP 95 k1 (sA1 n e) (.ret s2):=by
  rw [k1_eq]
  exact snd_seq hmo htt heq (ne_of rfl (by kernel_rfl)) (by simp) (snd_steps hmo htt heq (hcl []) (a4 e hn)) (snd_wk (wkB n e (n % 9) _) g2)
 have g0:SndP PP 95 (.seq (sq1 k0) k1) (sA n e) (.ret s2):=
  snd_seq hmo htt heq (ne_of (by kernel_rfl) (by kernel_rfl)) (by simp) (snd_ev (hev []) (a1 n e) (by simp)) g1
 exact calls_of_snd htt hfs (fn:=Tryz.f3) (by kernel_rfl) k0_eq (by kernel_rfl) g0 hv
end
end Go.Ab.Y

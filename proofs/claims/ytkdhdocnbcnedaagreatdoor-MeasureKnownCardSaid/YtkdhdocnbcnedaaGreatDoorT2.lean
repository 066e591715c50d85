/- The contracts hold, if those that they use do. -/
import Derived.Test.YtkdhdocnbcnedaaGreatDoorK
namespace Go.Ax
open Go.Proofs
set_option maxRecDepth 1000000
theorem m3_if (h0 : m0.Ok TryzB.G Tryz.prog) (h1 : m1.Ok TryzB.G Tryz.prog) (h2 : m2.Ok TryzB.G Tryz.prog) : m3.Ok TryzB.G Tryz.prog := Con.ok TryzB_ok (mask := 166153499473114484112975883340349440) (L := [m0, m1, m2]) (conCons h0 (conCons h1 (conCons h2 conNil))) 100000 (by kernel_rfl)
theorem m14_if (h2 : m2.Ok TryzB.G Tryz.prog) (h11 : m11.Ok TryzB.G Tryz.prog) (h12 : m12.Ok TryzB.G Tryz.prog) (h13 : m13.Ok TryzB.G Tryz.prog) : m14.Ok TryzB.G Tryz.prog := Con.ok TryzB_ok (mask := 166153499473114484117479482967719936) (L := [m2, m11, m12, m13]) (conCons h2 (conCons h11 (conCons h12 (conCons h13 conNil)))) 100000 (by kernel_rfl)
theorem m15_if (h14 : m14.Ok TryzB.G Tryz.prog) : m15.Ok TryzB.G Tryz.prog := Con.ok TryzB_ok (mask := 134217728) (L := [m14]) (conCons h14 conNil) 100000 (by kernel_rfl)
theorem m16_if : m16.Ok TryzB.G Tryz.prog := Con.ok TryzB_ok (mask := 0) (L := []) conNil 100000 (by kernel_rfl)
theorem m20_if : m20.Ok TryzB.G Tryz.prog := Con.ok TryzB_ok (mask := 0) (L := []) conNil 100000 (by kernel_rfl)
theorem m26_if (h25 : m25.Ok TryzB.G Tryz.prog) : m26.Ok TryzB.G Tryz.prog := Con.ok TryzB_ok (mask := 4611686018427387904) (L := [m25]) (conCons h25 conNil) 100000 (by kernel_rfl)
theorem m34_if : m34.Ok TryzB.G Tryz.prog := Con.ok TryzB_ok (mask := 0) (L := []) conNil 100000 (by kernel_rfl)
theorem m41_if : m41.Ok TryzB.G Tryz.prog := Con.ok TryzB_ok (mask := 0) (L := []) conNil 100000 (by kernel_rfl)
theorem m43_if (h0 : m0.Ok TryzB.G Tryz.prog) (h2 : m2.Ok TryzB.G Tryz.prog) (h41 : m41.Ok TryzB.G Tryz.prog) (h42 : m42.Ok TryzB.G Tryz.prog) : m43.Ok TryzB.G Tryz.prog := Con.ok TryzB_ok (mask := 168749647902381897927241131504959488) (L := [m0, m2, m41, m42]) (conCons h0 (conCons h2 (conCons h41 (conCons h42 conNil)))) 100000 (by kernel_rfl)
theorem m45_if (h44 : m44.Ok TryzB.G Tryz.prog) : m45.Ok TryzB.G Tryz.prog := Con.ok TryzB_ok (mask := 604462909807314587353088) (L := [m44]) (conCons h44 conNil) 100000 (by kernel_rfl)
theorem m46_if : m46.Ok TryzB.G Tryz.prog := Con.ok TryzB_ok (mask := 0) (L := []) conNil 100000 (by kernel_rfl)
theorem m51_if : m51.Ok TryzB.G Tryz.prog := Con.ok TryzB_ok (mask := 0) (L := []) conNil 100000 (by kernel_rfl)
theorem m56_if : m56.Ok TryzB.G Tryz.prog := Con.ok TryzB_ok (mask := 0) (L := []) conNil 100000 (by kernel_rfl)
theorem m58_if (h57 : m57.Ok TryzB.G Tryz.prog) : m58.Ok TryzB.G Tryz.prog := Con.ok TryzB_ok (mask := 4503599627370496) (L := [m57]) (conCons h57 conNil) 100000 (by kernel_rfl)
theorem m69_if (h11 : m11.Ok TryzB.G Tryz.prog) (h35 : m35.Ok TryzB.G Tryz.prog) (h68 : m68.Ok TryzB.G Tryz.prog) : m69.Ok TryzB.G Tryz.prog := Con.ok TryzB_ok (mask := 806354944) (L := [m11, m35, m68]) (conCons h11 (conCons h35 (conCons h68 conNil))) 100000 (by kernel_rfl)
theorem m71_if : m71.Ok TryzB.G Tryz.prog := Con.ok TryzB_ok (mask := 0) (L := []) conNil 100000 (by kernel_rfl)
theorem m74_if : m74.Ok TryzB.G Tryz.prog := Con.ok TryzB_ok (mask := 0) (L := []) conNil 100000 (by kernel_rfl)
theorem m76_if (h0 : m0.Ok TryzB.G Tryz.prog) (h2 : m2.Ok TryzB.G Tryz.prog) (h41 : m41.Ok TryzB.G Tryz.prog) (h71 : m71.Ok TryzB.G Tryz.prog) (h72 : m72.Ok TryzB.G Tryz.prog) (h75 : m75.Ok TryzB.G Tryz.prog) : m76.Ok TryzB.G Tryz.prog := Con.ok TryzB_ok (mask := 166153499473114484117479482967719936) (L := [m0, m2, m41, m71, m72, m75]) (conCons h0 (conCons h2 (conCons h41 (conCons h71 (conCons h72 (conCons h75 conNil)))))) 100000 (by kernel_rfl)
theorem m77_if (h42 : m42.Ok TryzB.G Tryz.prog) (h76 : m76.Ok TryzB.G Tryz.prog) : m77.Ok TryzB.G Tryz.prog := Con.ok TryzB_ok (mask := 2596148429276858547230987455037440) (L := [m42, m76]) (conCons h42 (conCons h76 conNil)) 100000 (by kernel_rfl)
theorem m83_if (h0 : m0.Ok TryzB.G Tryz.prog) (h2 : m2.Ok TryzB.G Tryz.prog) (h7 : m7.Ok TryzB.G Tryz.prog) (h8 : m8.Ok TryzB.G Tryz.prog) (h41 : m41.Ok TryzB.G Tryz.prog) (h71 : m71.Ok TryzB.G Tryz.prog) (h72 : m72.Ok TryzB.G Tryz.prog) (h73 : m73.Ok TryzB.G Tryz.prog) (h74 : m74.Ok TryzB.G Tryz.prog) (h77 : m77.Ok TryzB.G Tryz.prog) (h78 : m78.Ok TryzB.G Tryz.prog) (h79 : m79.Ok TryzB.G Tryz.prog) (h80 : m80.Ok TryzB.G Tryz.prog) (h81 : m81.Ok TryzB.G Tryz.prog) (h82 : m82.Ok TryzB.G Tryz.prog) : m83.Ok TryzB.G Tryz.prog := Con.ok TryzB_ok (mask := 166153499473114488724662546012831744) (L := [m0, m2, m7, m8, m41, m71, m72, m73, m74, m77, m78, m79, m80, m81, m82]) (conCons h0 (conCons h2 (conCons h7 (conCons h8 (conCons h41 (conCons h71 (conCons h72 (conCons h73 (conCons h74 (conCons h77 (conCons h78 (conCons h79 (conCons h80 (conCons h81 (conCons h82 conNil))))))))))))))) 100000 (by kernel_rfl)
theorem m85_if : m85.Ok TryzB.G Tryz.prog := Con.ok TryzB_ok (mask := 0) (L := []) conNil 100000 (by kernel_rfl)
theorem m89_if : m89.Ok TryzB.G Tryz.prog := Con.ok TryzB_ok (mask := 0) (L := []) conNil 100000 (by kernel_rfl)
theorem m90_if (h89 : m89.Ok TryzB.G Tryz.prog) : m90.Ok TryzB.G Tryz.prog := Con.ok TryzB_ok (mask := 4611686018427387904) (L := [m89]) (conCons h89 conNil) 100000 (by kernel_rfl)
theorem m92_if (h88 : m88.Ok TryzB.G Tryz.prog) (h91 : m91.Ok TryzB.G Tryz.prog) : m92.Ok TryzB.G Tryz.prog := Con.ok TryzB_ok (mask := 98304) (L := [m88, m91]) (conCons h88 (conCons h91 conNil)) 100000 (by kernel_rfl)
theorem m96_if (h2 : m2.Ok TryzB.G Tryz.prog) (h94 : m94.Ok TryzB.G Tryz.prog) (h95 : m95.Ok TryzB.G Tryz.prog) : m96.Ok TryzB.G Tryz.prog := Con.ok TryzB_ok (mask := 166153499473114484112975883340349440) (L := [m2, m94, m95]) (conCons h2 (conCons h94 (conCons h95 conNil))) 100000 (by kernel_rfl)
theorem m97_if (h2 : m2.Ok TryzB.G Tryz.prog) (h94 : m94.Ok TryzB.G Tryz.prog) (h95 : m95.Ok TryzB.G Tryz.prog) (h96 : m96.Ok TryzB.G Tryz.prog) : m97.Ok TryzB.G Tryz.prog := Con.ok TryzB_ok (mask := 166153499473114484117479482967719936) (L := [m2, m94, m95, m96]) (conCons h2 (conCons h94 (conCons h95 (conCons h96 conNil)))) 100000 (by kernel_rfl)
theorem m98_if (h97 : m97.Ok TryzB.G Tryz.prog) : m98.Ok TryzB.G Tryz.prog := Con.ok TryzB_ok (mask := 134217728) (L := [m97]) (conCons h97 conNil) 100000 (by kernel_rfl)
theorem m101_if : m101.Ok TryzB.G Tryz.prog := Con.ok TryzB_ok (mask := 0) (L := []) conNil 100000 (by kernel_rfl)
end Go.Ax

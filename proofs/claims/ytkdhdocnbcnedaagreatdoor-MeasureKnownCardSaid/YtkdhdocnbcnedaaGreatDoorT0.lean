/- The contracts hold, if those that they use do. -/
import Derived.Test.YtkdhdocnbcnedaaGreatDoorK
namespace Go.Ax
open Go.Proofs
set_option maxRecDepth 1000000
theorem m1_if : m1.Ok TryzB.G Tryz.prog := Con.ok TryzB_ok (mask := 0) (L := []) conNil 100000 (by kernel_rfl)
theorem m2_if : m2.Ok TryzB.G Tryz.prog := Con.ok TryzB_ok (mask := 0) (L := []) conNil 100000 (by kernel_rfl)
theorem m5_if (h4 : m4.Ok TryzB.G Tryz.prog) : m5.Ok TryzB.G Tryz.prog := Con.ok TryzB_ok (mask := 134217728) (L := [m4]) (conCons h4 conNil) 100000 (by kernel_rfl)
theorem m13_if (h2 : m2.Ok TryzB.G Tryz.prog) (h11 : m11.Ok TryzB.G Tryz.prog) (h12 : m12.Ok TryzB.G Tryz.prog) : m13.Ok TryzB.G Tryz.prog := Con.ok TryzB_ok (mask := 166153499473114484112975883340349440) (L := [m2, m11, m12]) (conCons h2 (conCons h11 (conCons h12 conNil))) 100000 (by kernel_rfl)
theorem m23_if (h2 : m2.Ok TryzB.G Tryz.prog) (h20 : m20.Ok TryzB.G Tryz.prog) (h21 : m21.Ok TryzB.G Tryz.prog) (h22 : m22.Ok TryzB.G Tryz.prog) : m23.Ok TryzB.G Tryz.prog := Con.ok TryzB_ok (mask := 166153499473114484117479482967719936) (L := [m2, m20, m21, m22]) (conCons h2 (conCons h20 (conCons h21 (conCons h22 conNil)))) 100000 (by kernel_rfl)
theorem m25_if : m25.Ok TryzB.G Tryz.prog := Con.ok TryzB_ok (mask := 0) (L := []) conNil 100000 (by kernel_rfl)
theorem m28_if (h24 : m24.Ok TryzB.G Tryz.prog) (h27 : m27.Ok TryzB.G Tryz.prog) : m28.Ok TryzB.G Tryz.prog := Con.ok TryzB_ok (mask := 98304) (L := [m24, m27]) (conCons h24 (conCons h27 conNil)) 100000 (by kernel_rfl)
theorem m29_if (h28 : m28.Ok TryzB.G Tryz.prog) : m29.Ok TryzB.G Tryz.prog := Con.ok TryzB_ok (mask := 64) (L := [m28]) (conCons h28 conNil) 100000 (by kernel_rfl)
theorem m30_if : m30.Ok TryzB.G Tryz.prog := Con.ok TryzB_ok (mask := 0) (L := []) conNil 100000 (by kernel_rfl)
theorem m42_if : m42.Ok TryzB.G Tryz.prog := Con.ok TryzB_ok (mask := 0) (L := []) conNil 100000 (by kernel_rfl)
theorem m48_if (h0 : m0.Ok TryzB.G Tryz.prog) (h33 : m33.Ok TryzB.G Tryz.prog) (h42 : m42.Ok TryzB.G Tryz.prog) : m48.Ok TryzB.G Tryz.prog := Con.ok TryzB_ok (mask := 2596148429267413814265248969916416) (L := [m0, m33, m42]) (conCons h0 (conCons h33 (conCons h42 conNil))) 100000 (by kernel_rfl)
theorem m53_if (h52 : m52.Ok TryzB.G Tryz.prog) : m53.Ok TryzB.G Tryz.prog := Con.ok TryzB_ok (mask := 1048576) (L := [m52]) (conCons h52 conNil) 100000 (by kernel_rfl)
theorem m60_if : m60.Ok TryzB.G Tryz.prog := Con.ok TryzB_ok (mask := 0) (L := []) conNil 100000 (by kernel_rfl)
theorem m72_if : m72.Ok TryzB.G Tryz.prog := Con.ok TryzB_ok (mask := 0) (L := []) conNil 100000 (by kernel_rfl)
theorem m75_if (h2 : m2.Ok TryzB.G Tryz.prog) (h73 : m73.Ok TryzB.G Tryz.prog) (h74 : m74.Ok TryzB.G Tryz.prog) : m75.Ok TryzB.G Tryz.prog := Con.ok TryzB_ok (mask := 166153499473114484112975883340349440) (L := [m2, m73, m74]) (conCons h2 (conCons h73 (conCons h74 conNil))) 100000 (by kernel_rfl)
theorem m78_if : m78.Ok TryzB.G Tryz.prog := Con.ok TryzB_ok (mask := 0) (L := []) conNil 100000 (by kernel_rfl)
theorem m80_if : m80.Ok TryzB.G Tryz.prog := Con.ok TryzB_ok (mask := 0) (L := []) conNil 100000 (by kernel_rfl)
theorem m81_if (h80 : m80.Ok TryzB.G Tryz.prog) : m81.Ok TryzB.G Tryz.prog := Con.ok TryzB_ok (mask := 4611686018427387904) (L := [m80]) (conCons h80 conNil) 100000 (by kernel_rfl)
theorem m82_if (h0 : m0.Ok TryzB.G Tryz.prog) (h6 : m6.Ok TryzB.G Tryz.prog) (h41 : m41.Ok TryzB.G Tryz.prog) (h44 : m44.Ok TryzB.G Tryz.prog) (h71 : m71.Ok TryzB.G Tryz.prog) (h72 : m72.Ok TryzB.G Tryz.prog) (h73 : m73.Ok TryzB.G Tryz.prog) (h74 : m74.Ok TryzB.G Tryz.prog) (h78 : m78.Ok TryzB.G Tryz.prog) (h80 : m80.Ok TryzB.G Tryz.prog) : m82.Ok TryzB.G Tryz.prog := Con.ok TryzB_ok (mask := 604467521493333820047360) (L := [m0, m6, m41, m44, m71, m72, m73, m74, m78, m80]) (conCons h0 (conCons h6 (conCons h41 (conCons h44 (conCons h71 (conCons h72 (conCons h73 (conCons h74 (conCons h78 (conCons h80 conNil)))))))))) 100000 (by kernel_rfl)
theorem m86_if (h2 : m2.Ok TryzB.G Tryz.prog) (h74 : m74.Ok TryzB.G Tryz.prog) (h85 : m85.Ok TryzB.G Tryz.prog) : m86.Ok TryzB.G Tryz.prog := Con.ok TryzB_ok (mask := 166153499473114484112975883340349440) (L := [m2, m74, m85]) (conCons h2 (conCons h74 (conCons h85 conNil))) 100000 (by kernel_rfl)
theorem m88_if (h87 : m87.Ok TryzB.G Tryz.prog) : m88.Ok TryzB.G Tryz.prog := Con.ok TryzB_ok (mask := 134217728) (L := [m87]) (conCons h87 conNil) 100000 (by kernel_rfl)
theorem m91_if (h74 : m74.Ok TryzB.G Tryz.prog) (h85 : m85.Ok TryzB.G Tryz.prog) (h89 : m89.Ok TryzB.G Tryz.prog) (h90 : m90.Ok TryzB.G Tryz.prog) : m91.Ok TryzB.G Tryz.prog := Con.ok TryzB_ok (mask := 4611686027822628864) (L := [m74, m85, m89, m90]) (conCons h74 (conCons h85 (conCons h89 (conCons h90 conNil)))) 100000 (by kernel_rfl)
theorem m95_if : m95.Ok TryzB.G Tryz.prog := Con.ok TryzB_ok (mask := 0) (L := []) conNil 100000 (by kernel_rfl)
theorem m99_if (h94 : m94.Ok TryzB.G Tryz.prog) (h95 : m95.Ok TryzB.G Tryz.prog) (h98 : m98.Ok TryzB.G Tryz.prog) : m99.Ok TryzB.G Tryz.prog := Con.ok TryzB_ok (mask := 805339136) (L := [m94, m95, m98]) (conCons h94 (conCons h95 (conCons h98 conNil))) 100000 (by kernel_rfl)
theorem m102_if (h2 : m2.Ok TryzB.G Tryz.prog) (h42 : m42.Ok TryzB.G Tryz.prog) (h55 : m55.Ok TryzB.G Tryz.prog) (h101 : m101.Ok TryzB.G Tryz.prog) : m102.Ok TryzB.G Tryz.prog := Con.ok TryzB_ok (mask := 168749647902381897927241131504959488) (L := [m2, m42, m55, m101]) (conCons h2 (conCons h42 (conCons h55 (conCons h101 conNil)))) 100000 (by kernel_rfl)
theorem m105_if (h104 : m104.Ok TryzB.G Tryz.prog) : m105.Ok TryzB.G Tryz.prog := Con.ok TryzB_ok (mask := 262144) (L := [m104]) (conCons h104 conNil) 100000 (by kernel_rfl)
end Go.Ax

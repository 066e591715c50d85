/- The contracts hold, if those that they use do. -/
import Derived.Test.YtooedghheiecnaaGreatDoorK
namespace Go.Ax
open Go.Proofs
set_option maxRecDepth 1000000
theorem k4_if (h1 : k1.Ok TryzB.G Tryz.prog) (h2 : k2.Ok TryzB.G Tryz.prog) (h3 : k3.Ok TryzB.G Tryz.prog) : k4.Ok TryzB.G Tryz.prog := Con.ok TryzB_ok (mask := 118571099379011784113736688648896417641748464297618472877605023644834742019293184) (L := [k1, k2, k3]) (conCons h1 (conCons h2 (conCons h3 conNil))) 100000 (by kernel_rfl)
theorem k6_if (h0 : k0.Ok TryzB.G Tryz.prog) (h5 : k5.Ok TryzB.G Tryz.prog) : k6.Ok TryzB.G Tryz.prog := Con.ok TryzB_ok (mask := 46768052394929175749438853110385584157926216433664) (L := [k0, k5]) (conCons h0 (conCons h5 conNil)) 100000 (by kernel_rfl)
theorem k9_if : k9.Ok TryzB.G Tryz.prog := Con.ok TryzB_ok (mask := 1152921504606846976) (L := []) conNil 100000 (by kernel_rfl)
theorem k11_if (h2 : k2.Ok TryzB.G Tryz.prog) (h10 : k10.Ok TryzB.G Tryz.prog) : k11.Ok TryzB.G Tryz.prog := Con.ok TryzB_ok (mask := 2535301219347077655976594112512) (L := [k2, k10]) (conCons h2 (conCons h10 conNil)) 100000 (by kernel_rfl)
theorem k13_if (h1 : k1.Ok TryzB.G Tryz.prog) (h2 : k2.Ok TryzB.G Tryz.prog) (h12 : k12.Ok TryzB.G Tryz.prog) : k13.Ok TryzB.G Tryz.prog := Con.ok TryzB_ok (mask := 2535301205179987214566913212416) (L := [k1, k2, k12]) (conCons h1 (conCons h2 (conCons h12 conNil))) 100000 (by kernel_rfl)
theorem k14_if (h1 : k1.Ok TryzB.G Tryz.prog) (h2 : k2.Ok TryzB.G Tryz.prog) (h8 : k8.Ok TryzB.G Tryz.prog) (h13 : k13.Ok TryzB.G Tryz.prog) : k14.Ok TryzB.G Tryz.prog := Con.ok TryzB_ok (mask := 2535301200457620819658198220800) (L := [k1, k2, k8, k13]) (conCons h1 (conCons h2 (conCons h8 (conCons h13 conNil)))) 100000 (by kernel_rfl)
theorem k23_if (h0 : k0.Ok TryzB.G Tryz.prog) (h22 : k22.Ok TryzB.G Tryz.prog) : k23.Ok TryzB.G Tryz.prog := Con.ok TryzB_ok (mask := 46768052394929175749438853110385584157926216433664) (L := [k0, k22]) (conCons h0 (conCons h22 conNil)) 100000 (by kernel_rfl)
theorem k25_if (h24 : k24.Ok TryzB.G Tryz.prog) : k25.Ok TryzB.G Tryz.prog := Con.ok TryzB_ok (mask := 296300826683959672832) (L := [k24]) (conCons h24 conNil) 100000 (by kernel_rfl)
theorem k38_if : k38.Ok TryzB.G Tryz.prog := Con.ok TryzB_ok (mask := 1152921504606846976) (L := []) conNil 100000 (by kernel_rfl)
theorem k45_if (h44 : k44.Ok TryzB.G Tryz.prog) : k45.Ok TryzB.G Tryz.prog := Con.ok TryzB_ok (mask := 1267650600229382323001310052352) (L := [k44]) (conCons h44 conNil) 100000 (by kernel_rfl)
theorem k49_if (h48 : k48.Ok TryzB.G Tryz.prog) : k49.Ok TryzB.G Tryz.prog := Con.ok TryzB_ok (mask := 1152921504608944128) (L := [k48]) (conCons h48 conNil) 100000 (by kernel_rfl)
theorem k53_if : k53.Ok TryzB.G Tryz.prog := Con.ok TryzB_ok (mask := 1152921504606846976) (L := []) conNil 100000 (by kernel_rfl)
theorem k54_if : k54.Ok TryzB.G Tryz.prog := Con.ok TryzB_ok (mask := 1152921504606846976) (L := []) conNil 100000 (by kernel_rfl)
theorem k55_if (h51 : k51.Ok TryzB.G Tryz.prog) (h53 : k53.Ok TryzB.G Tryz.prog) (h54 : k54.Ok TryzB.G Tryz.prog) : k55.Ok TryzB.G Tryz.prog := Con.ok TryzB_ok (mask := 118571099379011784113736688648896417641748464297618472877605023644834742019293184) (L := [k51, k53, k54]) (conCons h51 (conCons h53 (conCons h54 conNil))) 100000 (by kernel_rfl)
theorem k56_if (h52 : k52.Ok TryzB.G Tryz.prog) (h55 : k55.Ok TryzB.G Tryz.prog) : k56.Ok TryzB.G Tryz.prog := Con.ok TryzB_ok (mask := 187072209578355573530071658587685379437463972347904) (L := [k52, k55]) (conCons h52 (conCons h55 conNil)) 100000 (by kernel_rfl)
theorem k60_if : k60.Ok TryzB.G Tryz.prog := Con.ok TryzB_ok (mask := 1152921504606846976) (L := []) conNil 100000 (by kernel_rfl)
theorem k66_if (h34 : k34.Ok TryzB.G Tryz.prog) (h50 : k50.Ok TryzB.G Tryz.prog) (h53 : k53.Ok TryzB.G Tryz.prog) (h54 : k54.Ok TryzB.G Tryz.prog) (h59 : k59.Ok TryzB.G Tryz.prog) (h65 : k65.Ok TryzB.G Tryz.prog) : k66.Ok TryzB.G Tryz.prog := Con.ok TryzB_ok (mask := 2535301200457620819658198220800) (L := [k34, k50, k53, k54, k59, k65]) (conCons h34 (conCons h50 (conCons h53 (conCons h54 (conCons h59 (conCons h65 conNil)))))) 100000 (by kernel_rfl)
theorem k75_if (h74 : k74.Ok TryzB.G Tryz.prog) : k75.Ok TryzB.G Tryz.prog := Con.ok TryzB_ok (mask := 1152921504607895552) (L := [k74]) (conCons h74 conNil) 100000 (by kernel_rfl)
end Go.Ax

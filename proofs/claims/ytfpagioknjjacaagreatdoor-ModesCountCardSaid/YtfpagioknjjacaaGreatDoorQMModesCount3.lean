/- The texts Tab, Cg, Da, Db, Ch, Ck, Cm, Cl, Ea, Eb, Ec, Ed, Ee, Ef, Eg, Eh, Ei. -/
import Derived.Test.YtfpagioknjjacaaGreatDoorRows
import Derived.KernelRfl
import Derived.Laws.Externs
import Derived.Shelf.Abstract
import Derived.Test.YtfpagioknjjacaaGreatDoorQMModesCount2
namespace Go.Proofs.YtfpagioknjjacaaGreatDoor
open Go.Sx
set_option maxRecDepth 100000
theorem aj {t:TypeId} {ti:TI} {z:Value} (hk:ti.kind.ok Tryz.prog t) (h1:(Tryz.prog.info? t).map (fun i=>(i.size,i.bytes,i.zero))=some (ti.size,ti.bytes,some z):=by kernel_rfl) (h2:z.cells.toList=ti.zero.flatMap eP:=by kernel_rfl) (h3:ti.zero.all Vm=true:=by kernel_rfl) (h4:z.cells.size=ti.size:=by kernel_rfl) (h5:z=(if ti.kind.isAgg then .agg z.cells else z.cells.getD 0 undef):=by kernel_rfl):aE Tryz.prog t ti:=aE.of hk h1 h2 h3 h4 h5
def aw:TI:=⟨.other,1,8,[.val .nilFunc]⟩
theorem aha:aE Tryz.prog 1 aw:=aj (z:=.nilFunc) ⟨_,Tryz.underlying1,rfl⟩
def Fx:TI:=⟨.int .i64,1,8,[.val (.int .i64 0)]⟩
theorem ajR:Fx.bytes=8:=rfl
theorem ahb:aE Tryz.prog 2 Fx:=aj (z:=(.int .i64 0)) (by kernel_rfl:Tryz.prog.underlying 2=some (.int .i64))
def V6:TI:=⟨.int .i64,1,8,[.val (.int .i64 0)]⟩
theorem V7:V6.bytes=8:=rfl
theorem ahc:aE Tryz.prog 3 V6:=aj (z:=(.int .i64 0)) (by kernel_rfl:Tryz.prog.underlying 3=some (.int .i64))
def ti4:TI:=⟨.bool,1,1,[.val (.bool false)]⟩
theorem ajS:ti4.bytes=1:=rfl
theorem ahd:aE Tryz.prog 4 ti4:=aj (z:=(.bool false)) (by kernel_rfl:Tryz.prog.underlying 4=some (.bool))
def ti5:TI:=⟨.int .u8,1,1,[.val (.int .u8 0)]⟩
theorem ajT:ti5.bytes=1:=rfl
theorem ahe:aE Tryz.prog 5 ti5:=aj (z:=(.int .u8 0)) (by kernel_rfl:Tryz.prog.underlying 5=some (.int .u8))
def ti9:TI:=⟨.str,1,16,[.val (.string .empty)]⟩
theorem ajU:ti9.bytes=16:=rfl
theorem ahf:aE Tryz.prog 9 ti9:=aj (z:=(.string .empty)) (by kernel_rfl:Tryz.prog.underlying 9=some (.string))
def adl:TI:=⟨.int .u64,1,8,[.val (.int .u64 0)]⟩
theorem adm:aE Tryz.prog 12 adl:=aj (z:=(.int .u64 0)) (by kernel_rfl:Tryz.prog.underlying 12=some (.int .u64))
def adn:TI:=⟨.agg [(0,9,1),(1,12,1)],2,24,[.val (.string .empty),.val (.int .u64 0)]⟩
theorem ado:aE Tryz.prog 13 adn:=aj (z:=.agg #[(.string .empty),(.int .u64 0)]) ⟨aF,aF,aF⟩
def adp:TI:=⟨.int .i32,1,4,[.val (.int .i32 0)]⟩
theorem adq:aE Tryz.prog 21 adp:=aj (z:=(.int .i32 0)) (by kernel_rfl:Tryz.prog.underlying 21=some (.int .i32))
def adr:TI:=⟨.aK 25,1,24,[.val (.slice none 0 0)]⟩
theorem ads:aE Tryz.prog 22 adr:=aj (z:=(.slice none 0 0)) (by kernel_rfl:Tryz.prog.underlying 22=some (.slice 25))
def PQ:TI:=⟨.int .u32,1,4,[.val (.int .u32 0)]⟩
theorem aiD:PQ.bytes=4:=rfl
theorem adt:aE Tryz.prog 23 PQ:=aj (z:=(.int .u32 0)) (by kernel_rfl:Tryz.prog.underlying 23=some (.int .u32))
def adu:TI:=⟨.agg [(0,2,1),(1,23,1)],2,16,[.val (.int .i64 0),.val (.int .u32 0)]⟩
theorem adv:aE Tryz.prog 24 adu:=aj (z:=.agg #[(.int .i64 0),(.int .u32 0)]) ⟨aF,aF,aF⟩
def adw:TI:=⟨.agg [(0,2,1),(1,23,1)],2,16,[.val (.int .i64 0),.val (.int .u32 0)]⟩
theorem adx:aE Tryz.prog 25 adw:=aj (z:=.agg #[(.int .i64 0),(.int .u32 0)]) ⟨aF,aF,aF⟩
def ady:TI:=⟨.agg [(0,5,1),(1,5,1),(2,22,1)],3,32,[.val (.int .u8 0),.val (.int .u8 0),.val (.slice none 0 0)]⟩
theorem adz:aE Tryz.prog 26 ady:=aj (z:=.agg #[(.int .u8 0),(.int .u8 0),(.slice none 0 0)]) ⟨aF,aF,aF⟩
def adA:TI:=⟨.agg [(0,5,1),(1,5,1),(2,22,1)],3,32,[.val (.int .u8 0),.val (.int .u8 0),.val (.slice none 0 0)]⟩
theorem adB:aE Tryz.prog 27 adA:=aj (z:=.agg #[(.int .u8 0),(.int .u8 0),(.slice none 0 0)]) ⟨aF,aF,aF⟩
theorem adC:aE Tryz.prog 28 aw:=aj (z:=.nilFunc) ⟨_,Tryz.underlying28,rfl⟩
theorem adD:aE Tryz.prog 29 aw:=aj (z:=.nilFunc) ⟨_,Tryz.underlying29,rfl⟩
theorem adE:aE Tryz.prog 30 aw:=aj (z:=.nilFunc) ⟨_,Tryz.underlying30,rfl⟩
theorem adF:aE Tryz.prog 31 aw:=aj (z:=.nilFunc) ⟨_,Tryz.underlying31,rfl⟩
theorem adG:aE Tryz.prog 32 aw:=aj (z:=.nilFunc) ⟨_,Tryz.underlying32,rfl⟩
def PR:TI:=⟨.aK 3,1,24,[.val (.slice none 0 0)]⟩
theorem aiE:PR.bytes=24:=rfl
theorem adH:aE Tryz.prog 33 PR:=aj (z:=(.slice none 0 0)) (by kernel_rfl:Tryz.prog.underlying 33=some (.slice 3))
theorem adI:aE Tryz.prog 34 aw:=aj (z:=.nilFunc) ⟨_,Tryz.underlying34,rfl⟩
theorem adJ:aE Tryz.prog 35 aw:=aj (z:=.nilFunc) ⟨_,Tryz.underlying35,rfl⟩
def PS:TI:=⟨.aK 52,1,24,[.val (.slice none 0 0)]⟩
theorem aiF:PS.bytes=24:=rfl
theorem adK:aE Tryz.prog 36 PS:=aj (z:=(.slice none 0 0)) (by kernel_rfl:Tryz.prog.underlying 36=some (.slice 52))
def adL:TI:=⟨.agg [(0,3,1),(1,3,1),(2,36,1)],3,40,[.val (.int .i64 0),.val (.int .i64 0),.val (.slice none 0 0)]⟩
theorem adM:aE Tryz.prog 37 adL:=aj (z:=.agg #[(.int .i64 0),(.int .i64 0),(.slice none 0 0)]) ⟨aF,aF,aF⟩
def PT:TI:=⟨.agg [(0,3,1),(1,3,1),(2,36,1)],3,40,[.val (.int .i64 0),.val (.int .i64 0),.val (.slice none 0 0)]⟩
theorem aiG:PT.bytes=40:=rfl
theorem adN:aE Tryz.prog 38 PT:=aj (z:=.agg #[(.int .i64 0),(.int .i64 0),(.slice none 0 0)]) ⟨aF,aF,aF⟩
theorem adO:aE Tryz.prog 39 aw:=aj (z:=.nilFunc) ⟨_,Tryz.underlying39,rfl⟩
def adP:TI:=⟨.int .i64,1,8,[.val (.int .i64 0)]⟩
theorem adQ:aE Tryz.prog 40 adP:=aj (z:=(.int .i64 0)) (by kernel_rfl:Tryz.prog.underlying 40=some (.int .i64))
theorem adR:aE Tryz.prog 42 aw:=aj (z:=.nilFunc) ⟨_,Tryz.underlying42,rfl⟩
theorem adT:aE Tryz.prog 43 aw:=aj (z:=.nilFunc) ⟨_,Tryz.underlying43,rfl⟩
def PU:TI:=⟨.int .u64,1,8,[.val (.int .u64 0)]⟩
theorem aiH:PU.bytes=8:=rfl
theorem adU:aE Tryz.prog 44 PU:=aj (z:=(.int .u64 0)) (by kernel_rfl:Tryz.prog.underlying 44=some (.int .u64))
def adV:TI:=⟨.agg [(0,44,1),(1,9,1)],2,24,[.nat 0]⟩
theorem adW:aE Tryz.prog 45 adV:=aj (z:=.agg #[(.int .u64 0),(.string .empty)]) ⟨aF,aF,aF⟩
def PV:TI:=⟨.agg [(0,44,1),(1,9,1)],2,24,[.nat 0]⟩
theorem aiI:PV.bytes=24:=rfl
theorem adX:aE Tryz.prog 46 PV:=aj (z:=.agg #[(.int .u64 0),(.string .empty)]) ⟨aF,aF,aF⟩
def adY:TI:=⟨.agg [(0,46,2)],2,24,[.nat 0]⟩
theorem adZ:aE Tryz.prog 47 adY:=aj (z:=.agg #[(.int .u64 0),(.string .empty)]) ⟨aF,aF,aF⟩
def ad0:TI:=⟨.agg [(0,46,2)],2,24,[.nat 0]⟩
theorem ad1:aE Tryz.prog 48 ad0:=aj (z:=.agg #[(.int .u64 0),(.string .empty)]) ⟨aF,aF,aF⟩
def ad2:TI:=⟨.agg [(0,48,2),(2,4,1)],3,32,[.int 0]⟩
theorem ad3:aE Tryz.prog 49 ad2:=aj (z:=.agg #[(.int .u64 0),(.string .empty),(.bool false)]) ⟨aF,aF,aF⟩
def PW:TI:=⟨.agg [(0,48,2),(2,4,1)],3,32,[.int 0]⟩
theorem aiJ:PW.bytes=32:=rfl
theorem ad4:aE Tryz.prog 50 PW:=aj (z:=.agg #[(.int .u64 0),(.string .empty),(.bool false)]) ⟨aF,aF,aF⟩
def ad5:TI:=⟨.agg [(0,50,3),(3,46,2)],5,56,[.frac 0]⟩
theorem ad6:aE Tryz.prog 51 ad5:=aj (z:=.agg #[(.int .u64 0),(.string .empty),(.bool false),(.int .u64 0),(.string .empty)]) ⟨aF,aF,aF⟩
def PX:TI:=⟨.agg [(0,50,3),(3,46,2)],5,56,[.frac 0]⟩
theorem aiK:PX.bytes=56:=rfl
theorem ad7:aE Tryz.prog 52 PX:=aj (z:=.agg #[(.int .u64 0),(.string .empty),(.bool false),(.int .u64 0),(.string .empty)]) ⟨aF,aF,aF⟩
theorem ad8:aE Tryz.prog 53 aw:=aj (z:=.nilFunc) ⟨_,Tryz.underlying53,rfl⟩
def PY:TI:=⟨.aK 52,1,24,[.val (.slice none 0 0)]⟩
theorem aiL:PY.bytes=24:=rfl
theorem ad9:aE Tryz.prog 54 PY:=aj (z:=(.slice none 0 0)) (by kernel_rfl:Tryz.prog.underlying 54=some (.slice 52))
theorem aea:aE Tryz.prog 56 aw:=aj (z:=.nilFunc) ⟨_,Tryz.underlying56,rfl⟩
theorem aeb:aE Tryz.prog 57 aw:=aj (z:=.nilFunc) ⟨_,Tryz.underlying57,rfl⟩
theorem aec:aE Tryz.prog 58 aw:=aj (z:=.nilFunc) ⟨_,Tryz.underlying58,rfl⟩
theorem aed:aE Tryz.prog 59 aw:=aj (z:=.nilFunc) ⟨_,Tryz.underlying59,rfl⟩
theorem aee:aE Tryz.prog 60 aw:=aj (z:=.nilFunc) ⟨_,Tryz.underlying60,rfl⟩
def aef:TI:=⟨.aK 5,1,24,[.val (.slice none 0 0)]⟩
theorem aeg:aE Tryz.prog 61 aef:=aj (z:=(.slice none 0 0)) (by kernel_rfl:Tryz.prog.underlying 61=some (.slice 5))
theorem aeh:aE Tryz.prog 62 aw:=aj (z:=.nilFunc) ⟨_,Tryz.underlying62,rfl⟩
theorem aei:aE Tryz.prog 63 aw:=aj (z:=.nilFunc) ⟨_,Tryz.underlying63,rfl⟩
theorem aej:aE Tryz.prog 64 aw:=aj (z:=.nilFunc) ⟨_,Tryz.underlying64,rfl⟩
theorem aek:aE Tryz.prog 65 aw:=aj (z:=.nilFunc) ⟨_,Tryz.underlying65,rfl⟩
theorem ael:aE Tryz.prog 66 aw:=aj (z:=.nilFunc) ⟨_,Tryz.underlying66,rfl⟩
theorem aem:aE Tryz.prog 67 aw:=aj (z:=.nilFunc) ⟨_,Tryz.underlying67,rfl⟩
theorem aen:aE Tryz.prog 69 aw:=aj (z:=.nilFunc) ⟨_,Tryz.underlying69,rfl⟩
def aeo:TI:=⟨.aK 74,1,24,[.val (.slice none 0 0)]⟩
theorem aep:aE Tryz.prog 70 aeo:=aj (z:=(.slice none 0 0)) (by kernel_rfl:Tryz.prog.underlying 70=some (.slice 74))
theorem aeq:aE Tryz.prog 71 aw:=aj (z:=.nilFunc) ⟨_,Tryz.underlying71,rfl⟩
theorem aer:aE Tryz.prog 73 aw:=aj (z:=.nilFunc) ⟨_,Tryz.underlying73,rfl⟩
def PZ:TI:=⟨.aK 81,1,24,[.val (.slice none 0 0)]⟩
theorem aiM:PZ.bytes=24:=rfl
theorem aes:aE Tryz.prog 74 PZ:=aj (z:=(.slice none 0 0)) (by kernel_rfl:Tryz.prog.underlying 74=some (.slice 81))
theorem aet:aE Tryz.prog 75 aw:=aj (z:=.nilFunc) ⟨_,Tryz.underlying75,rfl⟩
theorem aeu:aE Tryz.prog 76 aw:=aj (z:=.nilFunc) ⟨_,Tryz.underlying76,rfl⟩
def P0:TI:=⟨.aK 3,1,24,[.val (.slice none 0 0)]⟩
theorem aiN:P0.bytes=24:=rfl
theorem aev:aE Tryz.prog 77 P0:=aj (z:=(.slice none 0 0)) (by kernel_rfl:Tryz.prog.underlying 77=some (.slice 3))
def aew:TI:=⟨.agg [(0,4,1),(1,77,1)],2,32,[.val (.bool false),.val (.slice none 0 0)]⟩
theorem aex:aE Tryz.prog 78 aew:=aj (z:=.agg #[(.bool false),(.slice none 0 0)]) ⟨aF,aF,aF⟩
def P1:TI:=⟨.agg [(0,4,1),(1,77,1)],2,32,[.val (.bool false),.val (.slice none 0 0)]⟩
theorem aiO:P1.bytes=32:=rfl
theorem aey:aE Tryz.prog 79 P1:=aj (z:=.agg #[(.bool false),(.slice none 0 0)]) ⟨aF,aF,aF⟩
def aez:TI:=⟨.agg [(0,79,2),(2,77,1)],3,56,[.val (.bool false),.val (.slice none 0 0),.val (.slice none 0 0)]⟩
theorem aeA:aE Tryz.prog 80 aez:=aj (z:=.agg #[(.bool false),(.slice none 0 0),(.slice none 0 0)]) ⟨aF,aF,aF⟩
def Lw:TI:=⟨.agg [(0,79,2),(2,77,1)],3,56,[.val (.bool false),.val (.slice none 0 0),.val (.slice none 0 0)]⟩
theorem aeB:Lw.bytes=56:=rfl
theorem aeC:aE Tryz.prog 81 Lw:=aj (z:=.agg #[(.bool false),(.slice none 0 0),(.slice none 0 0)]) ⟨aF,aF,aF⟩
theorem aeD:aE Tryz.prog 83 aw:=aj (z:=.nilFunc) ⟨_,Tryz.underlying83,rfl⟩
theorem aeE:aE Tryz.prog 84 aw:=aj (z:=.nilFunc) ⟨_,Tryz.underlying84,rfl⟩
theorem aeF:aE Tryz.prog 86 aw:=aj (z:=.nilFunc) ⟨_,Tryz.underlying86,rfl⟩
theorem aeG:aE Tryz.prog 87 aw:=aj (z:=.nilFunc) ⟨_,Tryz.underlying87,rfl⟩
theorem aeH:aE Tryz.prog 88 aw:=aj (z:=.nilFunc) ⟨_,Tryz.underlying88,rfl⟩
def aeI:TI:=⟨.aK 2,1,24,[.val (.slice none 0 0)]⟩
theorem aeJ:aE Tryz.prog 89 aeI:=aj (z:=(.slice none 0 0)) (by kernel_rfl:Tryz.prog.underlying 89=some (.slice 2))
def aeK:TI:=⟨.agg [(0,5,1),(1,5,1),(2,89,1)],3,32,[.val (.int .u8 0),.val (.int .u8 0),.val (.slice none 0 0)]⟩
theorem aeL:aE Tryz.prog 90 aeK:=aj (z:=.agg #[(.int .u8 0),(.int .u8 0),(.slice none 0 0)]) ⟨aF,aF,aF⟩
def aeM:TI:=⟨.agg [(0,5,1),(1,5,1),(2,89,1)],3,32,[.val (.int .u8 0),.val (.int .u8 0),.val (.slice none 0 0)]⟩
theorem aeN:aE Tryz.prog 91 aeM:=aj (z:=.agg #[(.int .u8 0),(.int .u8 0),(.slice none 0 0)]) ⟨aF,aF,aF⟩
theorem aeO:aE Tryz.prog 92 aw:=aj (z:=.nilFunc) ⟨_,Tryz.underlying92,rfl⟩
theorem aeP:aE Tryz.prog 93 aw:=aj (z:=.nilFunc) ⟨_,Tryz.underlying93,rfl⟩
theorem aeQ:aE Tryz.prog 94 aw:=aj (z:=.nilFunc) ⟨_,Tryz.underlying94,rfl⟩
theorem aeR:aE Tryz.prog 95 aw:=aj (z:=.nilFunc) ⟨_,Tryz.underlying95,rfl⟩
theorem aeS:aE Tryz.prog 96 aw:=aj (z:=.nilFunc) ⟨_,Tryz.underlying96,rfl⟩
theorem aeT:aE Tryz.prog 97 aw:=aj (z:=.nilFunc) ⟨_,Tryz.underlying97,rfl⟩
theorem aeU:aE Tryz.prog 98 aw:=aj (z:=.nilFunc) ⟨_,Tryz.underlying98,rfl⟩
theorem aeV:aE Tryz.prog 99 aw:=aj (z:=.nilFunc) ⟨_,Tryz.underlying99,rfl⟩
theorem V8:aE Tryz.prog 100 aw:=aj (z:=.nilFunc) ⟨_,Tryz.underlying100,rfl⟩
theorem V9:aE Tryz.prog 101 aw:=aj (z:=.nilFunc) ⟨_,Tryz.underlying101,rfl⟩
theorem Wa:aE Tryz.prog 102 aw:=aj (z:=.nilFunc) ⟨_,Tryz.underlying102,rfl⟩
theorem Wb:aE Tryz.prog 103 aw:=aj (z:=.nilFunc) ⟨_,Tryz.underlying103,rfl⟩
theorem Wc:aE Tryz.prog 104 aw:=aj (z:=.nilFunc) ⟨_,Tryz.underlying104,rfl⟩
theorem Wd:aE Tryz.prog 105 aw:=aj (z:=.nilFunc) ⟨_,Tryz.underlying105,rfl⟩
theorem We:aE Tryz.prog 107 aw:=aj (z:=.nilFunc) ⟨_,Tryz.underlying107,rfl⟩
theorem Wf:aE Tryz.prog 108 aw:=aj (z:=.nilFunc) ⟨_,Tryz.underlying108,rfl⟩
theorem Wg:aE Tryz.prog 110 aw:=aj (z:=.nilFunc) ⟨_,Tryz.underlying110,rfl⟩
theorem Wh:aE Tryz.prog 111 aw:=aj (z:=.nilFunc) ⟨_,Tryz.underlying111,rfl⟩
def SJ:TI:=⟨.agg [(0,3,1),(1,70,1)],2,32,[.val (.int .i64 0),.val (.slice none 0 0)]⟩
theorem Wi:aE Tryz.prog 112 SJ:=aj (z:=.agg #[(.int .i64 0),(.slice none 0 0)]) ⟨aF,aF,aF⟩
def SK:TI:=⟨.agg [(0,3,1),(1,70,1)],2,32,[.val (.int .i64 0),.val (.slice none 0 0)]⟩
theorem Wj:aE Tryz.prog 113 SK:=aj (z:=.agg #[(.int .i64 0),(.slice none 0 0)]) ⟨aF,aF,aF⟩
theorem Wl:aE Tryz.prog 114 aw:=aj (z:=.nilFunc) ⟨_,Tryz.underlying114,rfl⟩
theorem Wm:aE Tryz.prog 115 aw:=aj (z:=.nilFunc) ⟨_,Tryz.underlying115,rfl⟩
theorem Wn:aE Tryz.prog 116 aw:=aj (z:=.nilFunc) ⟨_,Tryz.underlying116,rfl⟩
theorem Wo:aE Tryz.prog 117 aw:=aj (z:=.nilFunc) ⟨_,Tryz.underlying117,rfl⟩
theorem Wp:aE Tryz.prog 118 aw:=aj (z:=.nilFunc) ⟨_,Tryz.underlying118,rfl⟩
theorem Wq:aE Tryz.prog 119 aw:=aj (z:=.nilFunc) ⟨_,Tryz.underlying119,rfl⟩
theorem Wr:aE Tryz.prog 120 aw:=aj (z:=.nilFunc) ⟨_,Tryz.underlying120,rfl⟩
theorem Ws:aE Tryz.prog 121 aw:=aj (z:=.nilFunc) ⟨_,Tryz.underlying121,rfl⟩
theorem Wt:aE Tryz.prog 122 aw:=aj (z:=.nilFunc) ⟨_,Tryz.underlying122,rfl⟩
theorem Wu:aE Tryz.prog 123 aw:=aj (z:=.nilFunc) ⟨_,Tryz.underlying123,rfl⟩
theorem Wv:aE Tryz.prog 125 aw:=aj (z:=.nilFunc) ⟨_,Tryz.underlying125,rfl⟩
theorem Ww:aE Tryz.prog 126 aw:=aj (z:=.nilFunc) ⟨_,Tryz.underlying126,rfl⟩
theorem Wx:aE Tryz.prog 127 aw:=aj (z:=.nilFunc) ⟨_,Tryz.underlying127,rfl⟩
theorem Wy:aE Tryz.prog 128 aw:=aj (z:=.nilFunc) ⟨_,Tryz.underlying128,rfl⟩
theorem Wz:aE Tryz.prog 129 aw:=aj (z:=.nilFunc) ⟨_,Tryz.underlying129,rfl⟩
theorem WA:aE Tryz.prog 130 aw:=aj (z:=.nilFunc) ⟨_,Tryz.underlying130,rfl⟩
theorem WB:aE Tryz.prog 131 aw:=aj (z:=.nilFunc) ⟨_,Tryz.underlying131,rfl⟩
theorem WC:aE Tryz.prog 132 aw:=aj (z:=.nilFunc) ⟨_,Tryz.underlying132,rfl⟩
theorem WD:aE Tryz.prog 133 aw:=aj (z:=.nilFunc) ⟨_,Tryz.underlying133,rfl⟩
theorem WE:aE Tryz.prog 134 aw:=aj (z:=.nilFunc) ⟨_,Tryz.underlying134,rfl⟩
theorem WG:aE Tryz.prog 135 aw:=aj (z:=.nilFunc) ⟨_,Tryz.underlying135,rfl⟩
theorem WH:aE Tryz.prog 136 aw:=aj (z:=.nilFunc) ⟨_,Tryz.underlying136,rfl⟩
theorem WI:aE Tryz.prog 137 aw:=aj (z:=.nilFunc) ⟨_,Tryz.underlying137,rfl⟩
theorem WJ:aE Tryz.prog 138 aw:=aj (z:=.nilFunc) ⟨_,Tryz.underlying138,rfl⟩
theorem WK:aE Tryz.prog 139 aw:=aj (z:=.nilFunc) ⟨_,Tryz.underlying139,rfl⟩
theorem WM:aE Tryz.prog 140 aw:=aj (z:=.nilFunc) ⟨_,Tryz.underlying140,rfl⟩
theorem WN:aE Tryz.prog 141 aw:=aj (z:=.nilFunc) ⟨_,Tryz.underlying141,rfl⟩
def SL:TI:=⟨.aK 40,1,24,[.val (.slice none 0 0)]⟩
theorem WO:aE Tryz.prog 142 SL:=aj (z:=(.slice none 0 0)) (by kernel_rfl:Tryz.prog.underlying 142=some (.slice 40))
theorem WQ:aE Tryz.prog 143 aw:=aj (z:=.nilFunc) ⟨_,Tryz.underlying143,rfl⟩
theorem WR:aE Tryz.prog 144 aw:=aj (z:=.nilFunc) ⟨_,Tryz.underlying144,rfl⟩
theorem WS:aE Tryz.prog 145 aw:=aj (z:=.nilFunc) ⟨_,Tryz.underlying145,rfl⟩
theorem WT:aE Tryz.prog 146 aw:=aj (z:=.nilFunc) ⟨_,Tryz.underlying146,rfl⟩
theorem WU:aE Tryz.prog 147 aw:=aj (z:=.nilFunc) ⟨_,Tryz.underlying147,rfl⟩
theorem WV:aE Tryz.prog 148 aw:=aj (z:=.nilFunc) ⟨_,Tryz.underlying148,rfl⟩
theorem WW:aE Tryz.prog 149 aw:=aj (z:=.nilFunc) ⟨_,Tryz.underlying149,rfl⟩
theorem WX:aE Tryz.prog 150 aw:=aj (z:=.nilFunc) ⟨_,Tryz.underlying150,rfl⟩
theorem WY:aE Tryz.prog 151 aw:=aj (z:=.nilFunc) ⟨_,Tryz.underlying151,rfl⟩
theorem WZ:aE Tryz.prog 152 aw:=aj (z:=.nilFunc) ⟨_,Tryz.underlying152,rfl⟩
theorem W2:aE Tryz.prog 153 aw:=aj (z:=.nilFunc) ⟨_,Tryz.underlying153,rfl⟩
theorem W3:aE Tryz.prog 155 aw:=aj (z:=.nilFunc) ⟨_,Tryz.underlying155,rfl⟩
theorem W5:aE Tryz.prog 157 aw:=aj (z:=.nilFunc) ⟨_,Tryz.underlying157,rfl⟩
theorem W6:aE Tryz.prog 159 aw:=aj (z:=.nilFunc) ⟨_,Tryz.underlying159,rfl⟩
theorem W7:aE Tryz.prog 160 aw:=aj (z:=.nilFunc) ⟨_,Tryz.underlying160,rfl⟩
theorem W8:aE Tryz.prog 161 aw:=aj (z:=.nilFunc) ⟨_,Tryz.underlying161,rfl⟩
theorem W9:aE Tryz.prog 162 aw:=aj (z:=.nilFunc) ⟨_,Tryz.underlying162,rfl⟩
theorem Xa:aE Tryz.prog 163 aw:=aj (z:=.nilFunc) ⟨_,Tryz.underlying163,rfl⟩
theorem Xb:aE Tryz.prog 164 aw:=aj (z:=.nilFunc) ⟨_,Tryz.underlying164,rfl⟩
theorem Xc:aE Tryz.prog 165 aw:=aj (z:=.nilFunc) ⟨_,Tryz.underlying165,rfl⟩
def SM:TI:=⟨.aK 54,1,24,[.val (.slice none 0 0)]⟩
theorem Xd:aE Tryz.prog 166 SM:=aj (z:=(.slice none 0 0)) (by kernel_rfl:Tryz.prog.underlying 166=some (.slice 54))
theorem Xe:aE Tryz.prog 168 aw:=aj (z:=.nilFunc) ⟨_,Tryz.underlying168,rfl⟩
theorem Xf:aE Tryz.prog 169 aw:=aj (z:=.nilFunc) ⟨_,Tryz.underlying169,rfl⟩
theorem Xg:aE Tryz.prog 170 aw:=aj (z:=.nilFunc) ⟨_,Tryz.underlying170,rfl⟩
def SN:TI:=⟨.agg [(0,54,1),(1,166,1)],2,48,[.val (.slice none 0 0),.val (.slice none 0 0)]⟩
theorem Xh:aE Tryz.prog 171 SN:=aj (z:=.agg #[(.slice none 0 0),(.slice none 0 0)]) ⟨aF,aF,aF⟩
def SO:TI:=⟨.agg [(0,54,1),(1,166,1)],2,48,[.val (.slice none 0 0),.val (.slice none 0 0)]⟩
theorem Xi:aE Tryz.prog 172 SO:=aj (z:=.agg #[(.slice none 0 0),(.slice none 0 0)]) ⟨aF,aF,aF⟩
theorem Xj:aE Tryz.prog 174 aw:=aj (z:=.nilFunc) ⟨_,Tryz.underlying174,rfl⟩
theorem Xk:aE Tryz.prog 175 aw:=aj (z:=.nilFunc) ⟨_,Tryz.underlying175,rfl⟩
theorem Xl:aE Tryz.prog 176 aw:=aj (z:=.nilFunc) ⟨_,Tryz.underlying176,rfl⟩
theorem Xm:aE Tryz.prog 177 aw:=aj (z:=.nilFunc) ⟨_,Tryz.underlying177,rfl⟩
def SP:TI:=⟨.aK 22,1,24,[.val (.slice none 0 0)]⟩
theorem Xn:aE Tryz.prog 178 SP:=aj (z:=(.slice none 0 0)) (by kernel_rfl:Tryz.prog.underlying 178=some (.slice 22))
theorem Xo:aE Tryz.prog 179 aw:=aj (z:=.nilFunc) ⟨_,Tryz.underlying179,rfl⟩
theorem Xp:aE Tryz.prog 180 aw:=aj (z:=.nilFunc) ⟨_,Tryz.underlying180,rfl⟩
theorem Xq:aE Tryz.prog 181 aw:=aj (z:=.nilFunc) ⟨_,Tryz.underlying181,rfl⟩
theorem Xr:aE Tryz.prog 182 aw:=aj (z:=.nilFunc) ⟨_,Tryz.underlying182,rfl⟩
theorem Xs:aE Tryz.prog 184 aw:=aj (z:=.nilFunc) ⟨_,Tryz.underlying184,rfl⟩
theorem Xt:aE Tryz.prog 185 aw:=aj (z:=.nilFunc) ⟨_,Tryz.underlying185,rfl⟩
def SQ:TI:=⟨.ptr 190,1,8,[.val (.pointer none)]⟩
theorem Xu:aE Tryz.prog 186 SQ:=aj (z:=(.pointer none)) (by kernel_rfl:Tryz.prog.underlying 186=some (.pointer 190))
theorem Xv:aE Tryz.prog 187 aw:=aj (z:=.nilFunc) ⟨_,Tryz.underlying187,rfl⟩
def SR:TI:=⟨.aK 36,1,24,[.val (.slice none 0 0)]⟩
theorem Xw:aE Tryz.prog 188 SR:=aj (z:=(.slice none 0 0)) (by kernel_rfl:Tryz.prog.underlying 188=some (.slice 36))
def SS:TI:=⟨.agg [(0,3,1),(1,188,1)],2,32,[.val (.int .i64 0),.val (.slice none 0 0)]⟩
theorem Xx:aE Tryz.prog 189 SS:=aj (z:=.agg #[(.int .i64 0),(.slice none 0 0)]) ⟨aF,aF,aF⟩
def SU:TI:=⟨.agg [(0,3,1),(1,188,1)],2,32,[.val (.int .i64 0),.val (.slice none 0 0)]⟩
theorem Xy:aE Tryz.prog 190 SU:=aj (z:=.agg #[(.int .i64 0),(.slice none 0 0)]) ⟨aF,aF,aF⟩
theorem Xz:aE Tryz.prog 191 aw:=aj (z:=.nilFunc) ⟨_,Tryz.underlying191,rfl⟩
theorem XA:aE Tryz.prog 192 aw:=aj (z:=.nilFunc) ⟨_,Tryz.underlying192,rfl⟩
theorem XB:aE Tryz.prog 193 aw:=aj (z:=.nilFunc) ⟨_,Tryz.underlying193,rfl⟩
theorem XC:aE Tryz.prog 194 aw:=aj (z:=.nilFunc) ⟨_,Tryz.underlying194,rfl⟩
theorem XD:aE Tryz.prog 195 aw:=aj (z:=.nilFunc) ⟨_,Tryz.underlying195,rfl⟩
def SX:TI:=⟨.arr 3 3,3,24,[.val (.int .i64 0),.val (.int .i64 0),.val (.int .i64 0)]⟩
theorem XE:aE Tryz.prog 196 SX:=aj (z:=.agg #[(.int .i64 0),(.int .i64 0),(.int .i64 0)]) (by kernel_rfl:Tryz.prog.underlying 196=some (.array 3 3))
theorem XF:aE Tryz.prog 197 aw:=aj (z:=.nilFunc) ⟨_,Tryz.underlying197,rfl⟩
theorem XG:aE Tryz.prog 198 aw:=aj (z:=.nilFunc) ⟨_,Tryz.underlying198,rfl⟩
theorem XH:aE Tryz.prog 199 aw:=aj (z:=.nilFunc) ⟨_,Tryz.underlying199,rfl⟩
theorem XI:aE Tryz.prog 200 aw:=aj (z:=.nilFunc) ⟨_,Tryz.underlying200,rfl⟩
theorem XJ:aE Tryz.prog 201 aw:=aj (z:=.nilFunc) ⟨_,Tryz.underlying201,rfl⟩
theorem XK:aE Tryz.prog 202 aw:=aj (z:=.nilFunc) ⟨_,Tryz.underlying202,rfl⟩
theorem XL:aE Tryz.prog 203 aw:=aj (z:=.nilFunc) ⟨_,Tryz.underlying203,rfl⟩
theorem XM:aE Tryz.prog 204 aw:=aj (z:=.nilFunc) ⟨_,Tryz.underlying204,rfl⟩
def SY:TI:=⟨.aK 50,1,24,[.val (.slice none 0 0)]⟩
theorem XN:aE Tryz.prog 205 SY:=aj (z:=(.slice none 0 0)) (by kernel_rfl:Tryz.prog.underlying 205=some (.slice 50))
def SZ:TI:=⟨.agg [(0,3,1),(1,3,1),(2,205,1)],3,40,[.val (.int .i64 0),.val (.int .i64 0),.val (.slice none 0 0)]⟩
theorem XO:aE Tryz.prog 206 SZ:=aj (z:=.agg #[(.int .i64 0),(.int .i64 0),(.slice none 0 0)]) ⟨aF,aF,aF⟩
def S0:TI:=⟨.agg [(0,3,1),(1,3,1),(2,205,1)],3,40,[.val (.int .i64 0),.val (.int .i64 0),.val (.slice none 0 0)]⟩
theorem XP:aE Tryz.prog 207 S0:=aj (z:=.agg #[(.int .i64 0),(.int .i64 0),(.slice none 0 0)]) ⟨aF,aF,aF⟩
theorem XQ:aE Tryz.prog 209 aw:=aj (z:=.nilFunc) ⟨_,Tryz.underlying209,rfl⟩
theorem XR:aE Tryz.prog 210 aw:=aj (z:=.nilFunc) ⟨_,Tryz.underlying210,rfl⟩
theorem XS:aE Tryz.prog 211 aw:=aj (z:=.nilFunc) ⟨_,Tryz.underlying211,rfl⟩
theorem XT:aE Tryz.prog 213 aw:=aj (z:=.nilFunc) ⟨_,Tryz.underlying213,rfl⟩
theorem XU:aE Tryz.prog 214 aw:=aj (z:=.nilFunc) ⟨_,Tryz.underlying214,rfl⟩
theorem XV:aE Tryz.prog 215 aw:=aj (z:=.nilFunc) ⟨_,Tryz.underlying215,rfl⟩
theorem XW:aE Tryz.prog 216 aw:=aj (z:=.nilFunc) ⟨_,Tryz.underlying216,rfl⟩
theorem XX:aE Tryz.prog 217 aw:=aj (z:=.nilFunc) ⟨_,Tryz.underlying217,rfl⟩
theorem XY:aE Tryz.prog 218 aw:=aj (z:=.nilFunc) ⟨_,Tryz.underlying218,rfl⟩
theorem XZ:aE Tryz.prog 219 aw:=aj (z:=.nilFunc) ⟨_,Tryz.underlying219,rfl⟩
theorem X0:aE Tryz.prog 220 aw:=aj (z:=.nilFunc) ⟨_,Tryz.underlying220,rfl⟩
theorem X1:aE Tryz.prog 221 aw:=aj (z:=.nilFunc) ⟨_,Tryz.underlying221,rfl⟩
theorem X2:aE Tryz.prog 222 aw:=aj (z:=.nilFunc) ⟨_,Tryz.underlying222,rfl⟩
theorem X3:aE Tryz.prog 223 aw:=aj (z:=.nilFunc) ⟨_,Tryz.underlying223,rfl⟩
theorem X4:aE Tryz.prog 224 aw:=aj (z:=.nilFunc) ⟨_,Tryz.underlying224,rfl⟩
theorem X5:aE Tryz.prog 226 aw:=aj (z:=.nilFunc) ⟨_,Tryz.underlying226,rfl⟩
theorem X6:aE Tryz.prog 227 aw:=aj (z:=.nilFunc) ⟨_,Tryz.underlying227,rfl⟩
def S1:TI:=⟨.aK 46,1,24,[.val (.slice none 0 0)]⟩
theorem X7:aE Tryz.prog 228 S1:=aj (z:=(.slice none 0 0)) (by kernel_rfl:Tryz.prog.underlying 228=some (.slice 46))
theorem X8:aE Tryz.prog 230 aw:=aj (z:=.nilFunc) ⟨_,Tryz.underlying230,rfl⟩
theorem X9:aE Tryz.prog 231 aw:=aj (z:=.nilFunc) ⟨_,Tryz.underlying231,rfl⟩
theorem Ya:aE Tryz.prog 232 aw:=aj (z:=.nilFunc) ⟨_,Tryz.underlying232,rfl⟩
theorem Yb:aE Tryz.prog 233 aw:=aj (z:=.nilFunc) ⟨_,Tryz.underlying233,rfl⟩
theorem Yc:aE Tryz.prog 234 aw:=aj (z:=.nilFunc) ⟨_,Tryz.underlying234,rfl⟩
theorem Yd:aE Tryz.prog 235 aw:=aj (z:=.nilFunc) ⟨_,Tryz.underlying235,rfl⟩
theorem Ye:aE Tryz.prog 236 aw:=aj (z:=.nilFunc) ⟨_,Tryz.underlying236,rfl⟩
theorem Yf:aE Tryz.prog 237 aw:=aj (z:=.nilFunc) ⟨_,Tryz.underlying237,rfl⟩
theorem Yg:aE Tryz.prog 238 aw:=aj (z:=.nilFunc) ⟨_,Tryz.underlying238,rfl⟩
theorem Yh:aE Tryz.prog 239 aw:=aj (z:=.nilFunc) ⟨_,Tryz.underlying239,rfl⟩
theorem Yi:aE Tryz.prog 241 aw:=aj (z:=.nilFunc) ⟨_,Tryz.underlying241,rfl⟩
theorem Yj:aE Tryz.prog 242 aw:=aj (z:=.nilFunc) ⟨_,Tryz.underlying242,rfl⟩
theorem Yk:aE Tryz.prog 243 aw:=aj (z:=.nilFunc) ⟨_,Tryz.underlying243,rfl⟩
theorem Yl:aE Tryz.prog 244 aw:=aj (z:=.nilFunc) ⟨_,Tryz.underlying244,rfl⟩
theorem Ym:aE Tryz.prog 245 aw:=aj (z:=.nilFunc) ⟨_,Tryz.underlying245,rfl⟩
def S2:TI:=⟨.aK 27,1,24,[.val (.slice none 0 0)]⟩
theorem Yn:aE Tryz.prog 246 S2:=aj (z:=(.slice none 0 0)) (by kernel_rfl:Tryz.prog.underlying 246=some (.slice 27))
theorem Yo:aE Tryz.prog 247 aw:=aj (z:=.nilFunc) ⟨_,Tryz.underlying247,rfl⟩
theorem Yp:aE Tryz.prog 248 aw:=aj (z:=.nilFunc) ⟨_,Tryz.underlying248,rfl⟩
theorem Yq:aE Tryz.prog 249 aw:=aj (z:=.nilFunc) ⟨_,Tryz.underlying249,rfl⟩
theorem Yr:aE Tryz.prog 250 aw:=aj (z:=.nilFunc) ⟨_,Tryz.underlying250,rfl⟩
theorem Ys:aE Tryz.prog 251 aw:=aj (z:=.nilFunc) ⟨_,Tryz.underlying251,rfl⟩
theorem Yt:aE Tryz.prog 252 aw:=aj (z:=.nilFunc) ⟨_,Tryz.underlying252,rfl⟩
theorem Yu:aE Tryz.prog 253 aw:=aj (z:=.nilFunc) ⟨_,Tryz.underlying253,rfl⟩
theorem Yv:aE Tryz.prog 254 aw:=aj (z:=.nilFunc) ⟨_,Tryz.underlying254,rfl⟩
theorem Yw:aE Tryz.prog 255 aw:=aj (z:=.nilFunc) ⟨_,Tryz.underlying255,rfl⟩
theorem Yx:aE Tryz.prog 256 aw:=aj (z:=.nilFunc) ⟨_,Tryz.underlying256,rfl⟩
theorem Yy:aE Tryz.prog 257 aw:=aj (z:=.nilFunc) ⟨_,Tryz.underlying257,rfl⟩
theorem Yz:aE Tryz.prog 258 aw:=aj (z:=.nilFunc) ⟨_,Tryz.underlying258,rfl⟩
theorem YA:aE Tryz.prog 259 aw:=aj (z:=.nilFunc) ⟨_,Tryz.underlying259,rfl⟩
theorem YB:aE Tryz.prog 260 aw:=aj (z:=.nilFunc) ⟨_,Tryz.underlying260,rfl⟩
theorem YC:aE Tryz.prog 261 aw:=aj (z:=.nilFunc) ⟨_,Tryz.underlying261,rfl⟩
def S3:TI:=⟨.aK 9,1,24,[.val (.slice none 0 0)]⟩
theorem YD:aE Tryz.prog 262 S3:=aj (z:=(.slice none 0 0)) (by kernel_rfl:Tryz.prog.underlying 262=some (.slice 9))
theorem YE:aE Tryz.prog 263 aw:=aj (z:=.nilFunc) ⟨_,Tryz.underlying263,rfl⟩
def S4:TI:=⟨.ptr 269,1,8,[.val (.pointer none)]⟩
theorem YF:aE Tryz.prog 264 S4:=aj (z:=(.pointer none)) (by kernel_rfl:Tryz.prog.underlying 264=some (.pointer 269))
theorem YG:aE Tryz.prog 265 aw:=aj (z:=.nilFunc) ⟨_,Tryz.underlying265,rfl⟩
theorem YH:aE Tryz.prog 266 aw:=aj (z:=.nilFunc) ⟨_,Tryz.underlying266,rfl⟩
theorem YI:aE Tryz.prog 267 aw:=aj (z:=.nilFunc) ⟨_,Tryz.underlying267,rfl⟩
def S5:TI:=⟨.agg [(0,188,1),(1,3,1),(2,33,1),(3,52,5)],8,112,[.val (.slice none 0 0),.val (.int .i64 0),.val (.slice none 0 0),.frac 0]⟩
theorem YJ:aE Tryz.prog 268 S5:=aj (z:=.agg #[(.slice none 0 0),(.int .i64 0),(.slice none 0 0),(.int .u64 0),(.string .empty),(.bool false),(.int .u64 0),(.string .empty)]) ⟨aF,aF,aF⟩
def S6:TI:=⟨.agg [(0,188,1),(1,3,1),(2,33,1),(3,52,5)],8,112,[.val (.slice none 0 0),.val (.int .i64 0),.val (.slice none 0 0),.frac 0]⟩
theorem YK:aE Tryz.prog 269 S6:=aj (z:=.agg #[(.slice none 0 0),(.int .i64 0),(.slice none 0 0),(.int .u64 0),(.string .empty),(.bool false),(.int .u64 0),(.string .empty)]) ⟨aF,aF,aF⟩
theorem YL:aE Tryz.prog 270 aw:=aj (z:=.nilFunc) ⟨_,Tryz.underlying270,rfl⟩
theorem YM:aE Tryz.prog 271 aw:=aj (z:=.nilFunc) ⟨_,Tryz.underlying271,rfl⟩
theorem YN:aE Tryz.prog 272 aw:=aj (z:=.nilFunc) ⟨_,Tryz.underlying272,rfl⟩
theorem YO:aE Tryz.prog 273 aw:=aj (z:=.nilFunc) ⟨_,Tryz.underlying273,rfl⟩
theorem YP:aE Tryz.prog 274 aw:=aj (z:=.nilFunc) ⟨_,Tryz.underlying274,rfl⟩
theorem YQ:aE Tryz.prog 275 aw:=aj (z:=.nilFunc) ⟨_,Tryz.underlying275,rfl⟩
theorem YR:aE Tryz.prog 276 aw:=aj (z:=.nilFunc) ⟨_,Tryz.underlying276,rfl⟩
theorem YS:aE Tryz.prog 277 aw:=aj (z:=.nilFunc) ⟨_,Tryz.underlying277,rfl⟩
theorem YT:aE Tryz.prog 279 aw:=aj (z:=.nilFunc) ⟨_,Tryz.underlying279,rfl⟩
theorem YU:aE Tryz.prog 280 aw:=aj (z:=.nilFunc) ⟨_,Tryz.underlying280,rfl⟩
theorem YV:aE Tryz.prog 281 aw:=aj (z:=.nilFunc) ⟨_,Tryz.underlying281,rfl⟩
theorem YW:aE Tryz.prog 282 aw:=aj (z:=.nilFunc) ⟨_,Tryz.underlying282,rfl⟩
theorem YX:aE Tryz.prog 283 aw:=aj (z:=.nilFunc) ⟨_,Tryz.underlying283,rfl⟩
theorem YY:aE Tryz.prog 284 aw:=aj (z:=.nilFunc) ⟨_,Tryz.underlying284,rfl⟩
theorem YZ:aE Tryz.prog 285 aw:=aj (z:=.nilFunc) ⟨_,Tryz.underlying285,rfl⟩
theorem Y0:aE Tryz.prog 286 aw:=aj (z:=.nilFunc) ⟨_,Tryz.underlying286,rfl⟩
theorem Y1:aE Tryz.prog 287 aw:=aj (z:=.nilFunc) ⟨_,Tryz.underlying287,rfl⟩
theorem Y2:aE Tryz.prog 288 aw:=aj (z:=.nilFunc) ⟨_,Tryz.underlying288,rfl⟩
theorem Y3:aE Tryz.prog 289 aw:=aj (z:=.nilFunc) ⟨_,Tryz.underlying289,rfl⟩
theorem Y4:aE Tryz.prog 290 aw:=aj (z:=.nilFunc) ⟨_,Tryz.underlying290,rfl⟩
theorem Y5:aE Tryz.prog 291 aw:=aj (z:=.nilFunc) ⟨_,Tryz.underlying291,rfl⟩
def S7:TI:=⟨.aK 91,1,24,[.val (.slice none 0 0)]⟩
theorem Y6:aE Tryz.prog 292 S7:=aj (z:=(.slice none 0 0)) (by kernel_rfl:Tryz.prog.underlying 292=some (.slice 91))
def S8:TI:=⟨.agg [(0,207,3),(3,50,3),(6,3,1)],7,80,[.val (.int .i64 0),.val (.int .i64 0),.val (.slice none 0 0),.int 0,.val (.int .i64 0)]⟩
theorem Y7:aE Tryz.prog 293 S8:=aj (z:=.agg #[(.int .i64 0),(.int .i64 0),(.slice none 0 0),(.int .u64 0),(.string .empty),(.bool false),(.int .i64 0)]) ⟨aF,aF,aF⟩
def S9:TI:=⟨.agg [(0,207,3),(3,50,3),(6,3,1)],7,80,[.val (.int .i64 0),.val (.int .i64 0),.val (.slice none 0 0),.int 0,.val (.int .i64 0)]⟩
theorem Y8:aE Tryz.prog 294 S9:=aj (z:=.agg #[(.int .i64 0),(.int .i64 0),(.slice none 0 0),(.int .u64 0),(.string .empty),(.bool false),(.int .i64 0)]) ⟨aF,aF,aF⟩
theorem Y9:aE Tryz.prog 295 aw:=aj (z:=.nilFunc) ⟨_,Tryz.underlying295,rfl⟩
theorem Za:aE Tryz.prog 296 aw:=aj (z:=.nilFunc) ⟨_,Tryz.underlying296,rfl⟩
theorem Zb:aE Tryz.prog 297 aw:=aj (z:=.nilFunc) ⟨_,Tryz.underlying297,rfl⟩
theorem Zc:aE Tryz.prog 298 aw:=aj (z:=.nilFunc) ⟨_,Tryz.underlying298,rfl⟩
theorem Zd:aE Tryz.prog 299 aw:=aj (z:=.nilFunc) ⟨_,Tryz.underlying299,rfl⟩
theorem Ze:aE Tryz.prog 300 aw:=aj (z:=.nilFunc) ⟨_,Tryz.underlying300,rfl⟩
theorem Zf:aE Tryz.prog 301 aw:=aj (z:=.nilFunc) ⟨_,Tryz.underlying301,rfl⟩
theorem Zg:aE Tryz.prog 302 aw:=aj (z:=.nilFunc) ⟨_,Tryz.underlying302,rfl⟩
theorem Zh:aE Tryz.prog 303 aw:=aj (z:=.nilFunc) ⟨_,Tryz.underlying303,rfl⟩
theorem Zi:aE Tryz.prog 304 aw:=aj (z:=.nilFunc) ⟨_,Tryz.underlying304,rfl⟩
theorem Zj:aE Tryz.prog 305 aw:=aj (z:=.nilFunc) ⟨_,Tryz.underlying305,rfl⟩
theorem Zk:aE Tryz.prog 306 aw:=aj (z:=.nilFunc) ⟨_,Tryz.underlying306,rfl⟩
theorem Zl:aE Tryz.prog 307 aw:=aj (z:=.nilFunc) ⟨_,Tryz.underlying307,rfl⟩
theorem Zn:aE Tryz.prog 308 aw:=aj (z:=.nilFunc) ⟨_,Tryz.underlying308,rfl⟩
theorem Zo:aE Tryz.prog 309 aw:=aj (z:=.nilFunc) ⟨_,Tryz.underlying309,rfl⟩
theorem Zp:aE Tryz.prog 310 aw:=aj (z:=.nilFunc) ⟨_,Tryz.underlying310,rfl⟩
theorem Zq:aE Tryz.prog 311 aw:=aj (z:=.nilFunc) ⟨_,Tryz.underlying311,rfl⟩
theorem Zr:aE Tryz.prog 313 aw:=aj (z:=.nilFunc) ⟨_,Tryz.underlying313,rfl⟩
theorem Zs:aE Tryz.prog 314 aw:=aj (z:=.nilFunc) ⟨_,Tryz.underlying314,rfl⟩
theorem Zt:aE Tryz.prog 315 aw:=aj (z:=.nilFunc) ⟨_,Tryz.underlying315,rfl⟩
def Ua:TI:=⟨.aK 23,1,24,[.val (.slice none 0 0)]⟩
theorem Zu:aE Tryz.prog 316 Ua:=aj (z:=(.slice none 0 0)) (by kernel_rfl:Tryz.prog.underlying 316=some (.slice 23))
theorem Zv:aE Tryz.prog 317 aw:=aj (z:=.nilFunc) ⟨_,Tryz.underlying317,rfl⟩
theorem Zw:aE Tryz.prog 318 aw:=aj (z:=.nilFunc) ⟨_,Tryz.underlying318,rfl⟩
theorem Zx:aE Tryz.prog 319 aw:=aj (z:=.nilFunc) ⟨_,Tryz.underlying319,rfl⟩
theorem Zy:aE Tryz.prog 320 aw:=aj (z:=.nilFunc) ⟨_,Tryz.underlying320,rfl⟩
theorem Zz:aE Tryz.prog 322 aw:=aj (z:=.nilFunc) ⟨_,Tryz.underlying322,rfl⟩
theorem ZA:aE Tryz.prog 323 aw:=aj (z:=.nilFunc) ⟨_,Tryz.underlying323,rfl⟩
def Ub:TI:=⟨.aK 4,1,24,[.val (.slice none 0 0)]⟩
theorem ZB:aE Tryz.prog 324 Ub:=aj (z:=(.slice none 0 0)) (by kernel_rfl:Tryz.prog.underlying 324=some (.slice 4))
theorem ZC:aE Tryz.prog 326 aw:=aj (z:=.nilFunc) ⟨_,Tryz.underlying326,rfl⟩
theorem ZD:aE Tryz.prog 327 aw:=aj (z:=.nilFunc) ⟨_,Tryz.underlying327,rfl⟩
def Uc:TI:=⟨.aK 38,1,24,[.val (.slice none 0 0)]⟩
theorem ZE:aE Tryz.prog 328 Uc:=aj (z:=(.slice none 0 0)) (by kernel_rfl:Tryz.prog.underlying 328=some (.slice 38))
theorem ZF:aE Tryz.prog 330 aw:=aj (z:=.nilFunc) ⟨_,Tryz.underlying330,rfl⟩
theorem ZG:aE Tryz.prog 332 aw:=aj (z:=.nilFunc) ⟨_,Tryz.underlying332,rfl⟩
theorem ZH:aE Tryz.prog 333 aw:=aj (z:=.nilFunc) ⟨_,Tryz.underlying333,rfl⟩
def Ud:TI:=⟨.int .u64,1,8,[.val (.int .u64 0)]⟩
theorem ZI:aE Tryz.prog 334 Ud:=aj (z:=(.int .u64 0)) (by kernel_rfl:Tryz.prog.underlying 334=some (.int .u64))
def Ue:TI:=⟨.agg [(0,52,5)],5,56,[.frac 0]⟩
theorem ZJ:aE Tryz.prog 335 Ue:=aj (z:=.agg #[(.int .u64 0),(.string .empty),(.bool false),(.int .u64 0),(.string .empty)]) ⟨aF,aF,aF⟩
def Uf:TI:=⟨.agg [(0,52,5)],5,56,[.frac 0]⟩
theorem ZK:aE Tryz.prog 336 Uf:=aj (z:=.agg #[(.int .u64 0),(.string .empty),(.bool false),(.int .u64 0),(.string .empty)]) ⟨aF,aF,aF⟩
theorem ZL:aE Tryz.prog 337 aw:=aj (z:=.nilFunc) ⟨_,Tryz.underlying337,rfl⟩
theorem ZM:aE Tryz.prog 338 aw:=aj (z:=.nilFunc) ⟨_,Tryz.underlying338,rfl⟩
theorem ZN:aE Tryz.prog 339 aw:=aj (z:=.nilFunc) ⟨_,Tryz.underlying339,rfl⟩
def Ug:TI:=⟨.ptr 342,1,8,[.val (.pointer none)]⟩
theorem ZO:aE Tryz.prog 340 Ug:=aj (z:=(.pointer none)) (by kernel_rfl:Tryz.prog.underlying 340=some (.pointer 342))
def Uh:TI:=⟨.agg [(0,340,1),(1,61,1)],2,32,[.val (.pointer none),.val (.slice none 0 0)]⟩
theorem ZP:aE Tryz.prog 341 Uh:=aj (z:=.agg #[(.pointer none),(.slice none 0 0)]) ⟨aF,aF,aF⟩
def Ui:TI:=⟨.agg [(0,340,1),(1,61,1)],2,32,[.val (.pointer none),.val (.slice none 0 0)]⟩
theorem ZQ:aE Tryz.prog 342 Ui:=aj (z:=.agg #[(.pointer none),(.slice none 0 0)]) ⟨aF,aF,aF⟩
theorem ZR:aE Tryz.prog 343 aw:=aj (z:=.nilFunc) ⟨_,Tryz.underlying343,rfl⟩
theorem ZS:aE Tryz.prog 347 aw:=aj (z:=.nilFunc) ⟨_,Tryz.underlying347,rfl⟩
theorem ZT:aE Tryz.prog 348 aw:=aj (z:=.nilFunc) ⟨_,Tryz.underlying348,rfl⟩
theorem ZU:aE Tryz.prog 349 aw:=aj (z:=.nilFunc) ⟨_,Tryz.underlying349,rfl⟩
theorem ZV:aE Tryz.prog 350 aw:=aj (z:=.nilFunc) ⟨_,Tryz.underlying350,rfl⟩
theorem ZW:aE Tryz.prog 352 aw:=aj (z:=.nilFunc) ⟨_,Tryz.underlying352,rfl⟩
theorem ZX:aE Tryz.prog 354 aw:=aj (z:=.nilFunc) ⟨_,Tryz.underlying354,rfl⟩
theorem ZY:aE Tryz.prog 355 aw:=aj (z:=.nilFunc) ⟨_,Tryz.underlying355,rfl⟩
theorem ZZ:aE Tryz.prog 357 aw:=aj (z:=.nilFunc) ⟨_,Tryz.underlying357,rfl⟩
theorem Z0:aE Tryz.prog 358 aw:=aj (z:=.nilFunc) ⟨_,Tryz.underlying358,rfl⟩
theorem Z1:aE Tryz.prog 359 aw:=aj (z:=.nilFunc) ⟨_,Tryz.underlying359,rfl⟩
theorem Z2:aE Tryz.prog 360 aw:=aj (z:=.nilFunc) ⟨_,Tryz.underlying360,rfl⟩
theorem Z3:aE Tryz.prog 361 aw:=aj (z:=.nilFunc) ⟨_,Tryz.underlying361,rfl⟩
theorem Z4:aE Tryz.prog 363 aw:=aj (z:=.nilFunc) ⟨_,Tryz.underlying363,rfl⟩
theorem Z5:aE Tryz.prog 364 aw:=aj (z:=.nilFunc) ⟨_,Tryz.underlying364,rfl⟩
theorem Z6:aE Tryz.prog 365 aw:=aj (z:=.nilFunc) ⟨_,Tryz.underlying365,rfl⟩
theorem Z7:aE Tryz.prog 366 aw:=aj (z:=.nilFunc) ⟨_,Tryz.underlying366,rfl⟩
theorem Z8:aE Tryz.prog 367 aw:=aj (z:=.nilFunc) ⟨_,Tryz.underlying367,rfl⟩
theorem Z9:aE Tryz.prog 368 aw:=aj (z:=.nilFunc) ⟨_,Tryz.underlying368,rfl⟩
theorem aaa:aE Tryz.prog 370 aw:=aj (z:=.nilFunc) ⟨_,Tryz.underlying370,rfl⟩
theorem aab:aE Tryz.prog 372 aw:=aj (z:=.nilFunc) ⟨_,Tryz.underlying372,rfl⟩
theorem aac:aE Tryz.prog 373 aw:=aj (z:=.nilFunc) ⟨_,Tryz.underlying373,rfl⟩
theorem aad:aE Tryz.prog 374 aw:=aj (z:=.nilFunc) ⟨_,Tryz.underlying374,rfl⟩
theorem aae:aE Tryz.prog 375 aw:=aj (z:=.nilFunc) ⟨_,Tryz.underlying375,rfl⟩
theorem aaf:aE Tryz.prog 376 aw:=aj (z:=.nilFunc) ⟨_,Tryz.underlying376,rfl⟩
theorem aag:aE Tryz.prog 378 aw:=aj (z:=.nilFunc) ⟨_,Tryz.underlying378,rfl⟩
theorem aah:aE Tryz.prog 379 aw:=aj (z:=.nilFunc) ⟨_,Tryz.underlying379,rfl⟩
theorem aai:aE Tryz.prog 380 aw:=aj (z:=.nilFunc) ⟨_,Tryz.underlying380,rfl⟩
def Uj:TI:=⟨.ptr 52,1,8,[.val (.pointer none)]⟩
theorem aaj:aE Tryz.prog 381 Uj:=aj (z:=(.pointer none)) (by kernel_rfl:Tryz.prog.underlying 381=some (.pointer 52))
theorem aak:aE Tryz.prog 382 aw:=aj (z:=.nilFunc) ⟨_,Tryz.underlying382,rfl⟩
theorem aal:aE Tryz.prog 384 aw:=aj (z:=.nilFunc) ⟨_,Tryz.underlying384,rfl⟩
theorem aam:aE Tryz.prog 385 aw:=aj (z:=.nilFunc) ⟨_,Tryz.underlying385,rfl⟩
def Uk:TI:=⟨.ptr 336,1,8,[.val (.pointer none)]⟩
theorem aan:aE Tryz.prog 386 Uk:=aj (z:=(.pointer none)) (by kernel_rfl:Tryz.prog.underlying 386=some (.pointer 336))
def Ul:TI:=⟨.ptr 5,1,8,[.val (.pointer none)]⟩
theorem aao:aE Tryz.prog 387 Ul:=aj (z:=(.pointer none)) (by kernel_rfl:Tryz.prog.underlying 387=some (.pointer 5))
theorem aap:aE Tryz.prog 388 aw:=aj (z:=.nilFunc) ⟨_,Tryz.underlying388,rfl⟩
theorem aaq:aE Tryz.prog 389 aw:=aj (z:=.nilFunc) ⟨_,Tryz.underlying389,rfl⟩
theorem aar:aE Tryz.prog 390 aw:=aj (z:=.nilFunc) ⟨_,Tryz.underlying390,rfl⟩
theorem aas:aE Tryz.prog 392 aw:=aj (z:=.nilFunc) ⟨_,Tryz.underlying392,rfl⟩
theorem aat:aE Tryz.prog 393 aw:=aj (z:=.nilFunc) ⟨_,Tryz.underlying393,rfl⟩
theorem aau:aE Tryz.prog 394 aw:=aj (z:=.nilFunc) ⟨_,Tryz.underlying394,rfl⟩
theorem aav:aE Tryz.prog 395 aw:=aj (z:=.nilFunc) ⟨_,Tryz.underlying395,rfl⟩
theorem aaw:aE Tryz.prog 396 aw:=aj (z:=.nilFunc) ⟨_,Tryz.underlying396,rfl⟩
theorem aax:aE Tryz.prog 397 aw:=aj (z:=.nilFunc) ⟨_,Tryz.underlying397,rfl⟩
theorem aay:aE Tryz.prog 398 aw:=aj (z:=.nilFunc) ⟨_,Tryz.underlying398,rfl⟩
theorem aaz:aE Tryz.prog 399 aw:=aj (z:=.nilFunc) ⟨_,Tryz.underlying399,rfl⟩
theorem aaA:aE Tryz.prog 401 aw:=aj (z:=.nilFunc) ⟨_,Tryz.underlying401,rfl⟩
theorem aaB:aE Tryz.prog 402 aw:=aj (z:=.nilFunc) ⟨_,Tryz.underlying402,rfl⟩
def Um:TI:=⟨.arr 24 5,24,24,[.val (.int .u8 0),.val (.int .u8 0),.val (.int .u8 0),.val (.int .u8 0),.val (.int .u8 0),.val (.int .u8 0),.val (.int .u8 0),.val (.int .u8 0),.val (.int .u8 0),.val (.int .u8 0),.val (.int .u8 0),.val (.int .u8 0),.val (.int .u8 0),.val (.int .u8 0),.val (.int .u8 0),.val (.int .u8 0),.val (.int .u8 0),.val (.int .u8 0),.val (.int .u8 0),.val (.int .u8 0),.val (.int .u8 0),.val (.int .u8 0),.val (.int .u8 0),.val (.int .u8 0)]⟩
theorem aaC:aE Tryz.prog 403 Um:=aj (z:=.agg #[(.int .u8 0),(.int .u8 0),(.int .u8 0),(.int .u8 0),(.int .u8 0),(.int .u8 0),(.int .u8 0),(.int .u8 0),(.int .u8 0),(.int .u8 0),(.int .u8 0),(.int .u8 0),(.int .u8 0),(.int .u8 0),(.int .u8 0),(.int .u8 0),(.int .u8 0),(.int .u8 0),(.int .u8 0),(.int .u8 0),(.int .u8 0),(.int .u8 0),(.int .u8 0),(.int .u8 0)]) (by kernel_rfl:Tryz.prog.underlying 403=some (.array 24 5))
theorem aaD:aE Tryz.prog 404 aw:=aj (z:=.nilFunc) ⟨_,Tryz.underlying404,rfl⟩
theorem aaE:aE Tryz.prog 405 aw:=aj (z:=.nilFunc) ⟨_,Tryz.underlying405,rfl⟩
theorem aaF:aE Tryz.prog 407 aw:=aj (z:=.nilFunc) ⟨_,Tryz.underlying407,rfl⟩
theorem aaG:aE Tryz.prog 408 aw:=aj (z:=.nilFunc) ⟨_,Tryz.underlying408,rfl⟩
theorem aaH:aE Tryz.prog 409 aw:=aj (z:=.nilFunc) ⟨_,Tryz.underlying409,rfl⟩
theorem aaI:aE Tryz.prog 410 aw:=aj (z:=.nilFunc) ⟨_,Tryz.underlying410,rfl⟩
def Un:TI:=⟨.arr 20 44,20,160,[.val (.int .u64 0),.val (.int .u64 0),.val (.int .u64 0),.val (.int .u64 0),.val (.int .u64 0),.val (.int .u64 0),.val (.int .u64 0),.val (.int .u64 0),.val (.int .u64 0),.val (.int .u64 0),.val (.int .u64 0),.val (.int .u64 0),.val (.int .u64 0),.val (.int .u64 0),.val (.int .u64 0),.val (.int .u64 0),.val (.int .u64 0),.val (.int .u64 0),.val (.int .u64 0),.val (.int .u64 0)]⟩
theorem aaJ:aE Tryz.prog 411 Un:=aj (z:=.agg #[(.int .u64 0),(.int .u64 0),(.int .u64 0),(.int .u64 0),(.int .u64 0),(.int .u64 0),(.int .u64 0),(.int .u64 0),(.int .u64 0),(.int .u64 0),(.int .u64 0),(.int .u64 0),(.int .u64 0),(.int .u64 0),(.int .u64 0),(.int .u64 0),(.int .u64 0),(.int .u64 0),(.int .u64 0),(.int .u64 0)]) (by kernel_rfl:Tryz.prog.underlying 411=some (.array 20 44))
def Uo:TI:=⟨.arr 65 5,65,65,[.val (.int .u8 0),.val (.int .u8 0),.val (.int .u8 0),.val (.int .u8 0),.val (.int .u8 0),.val (.int .u8 0),.val (.int .u8 0),.val (.int .u8 0),.val (.int .u8 0),.val (.int .u8 0),.val (.int .u8 0),.val (.int .u8 0),.val (.int .u8 0),.val (.int .u8 0),.val (.int .u8 0),.val (.int .u8 0),.val (.int .u8 0),.val (.int .u8 0),.val (.int .u8 0),.val (.int .u8 0),.val (.int .u8 0),.val (.int .u8 0),.val (.int .u8 0),.val (.int .u8 0),.val (.int .u8 0),.val (.int .u8 0),.val (.int .u8 0),.val (.int .u8 0),.val (.int .u8 0),.val (.int .u8 0),.val (.int .u8 0),.val (.int .u8 0),.val (.int .u8 0),.val (.int .u8 0),.val (.int .u8 0),.val (.int .u8 0),.val (.int .u8 0),.val (.int .u8 0),.val (.int .u8 0),.val (.int .u8 0),.val (.int .u8 0),.val (.int .u8 0),.val (.int .u8 0),.val (.int .u8 0),.val (.int .u8 0),.val (.int .u8 0),.val (.int .u8 0),.val (.int .u8 0),.val (.int .u8 0),.val (.int .u8 0),.val (.int .u8 0),.val (.int .u8 0),.val (.int .u8 0),.val (.int .u8 0),.val (.int .u8 0),.val (.int .u8 0),.val (.int .u8 0),.val (.int .u8 0),.val (.int .u8 0),.val (.int .u8 0),.val (.int .u8 0),.val (.int .u8 0),.val (.int .u8 0),.val (.int .u8 0),.val (.int .u8 0)]⟩
theorem aaK:aE Tryz.prog 412 Uo:=aj (z:=.agg #[(.int .u8 0),(.int .u8 0),(.int .u8 0),(.int .u8 0),(.int .u8 0),(.int .u8 0),(.int .u8 0),(.int .u8 0),(.int .u8 0),(.int .u8 0),(.int .u8 0),(.int .u8 0),(.int .u8 0),(.int .u8 0),(.int .u8 0),(.int .u8 0),(.int .u8 0),(.int .u8 0),(.int .u8 0),(.int .u8 0),(.int .u8 0),(.int .u8 0),(.int .u8 0),(.int .u8 0),(.int .u8 0),(.int .u8 0),(.int .u8 0),(.int .u8 0),(.int .u8 0),(.int .u8 0),(.int .u8 0),(.int .u8 0),(.int .u8 0),(.int .u8 0),(.int .u8 0),(.int .u8 0),(.int .u8 0),(.int .u8 0),(.int .u8 0),(.int .u8 0),(.int .u8 0),(.int .u8 0),(.int .u8 0),(.int .u8 0),(.int .u8 0),(.int .u8 0),(.int .u8 0),(.int .u8 0),(.int .u8 0),(.int .u8 0),(.int .u8 0),(.int .u8 0),(.int .u8 0),(.int .u8 0),(.int .u8 0),(.int .u8 0),(.int .u8 0),(.int .u8 0),(.int .u8 0),(.int .u8 0),(.int .u8 0),(.int .u8 0),(.int .u8 0),(.int .u8 0),(.int .u8 0)]) (by kernel_rfl:Tryz.prog.underlying 412=some (.array 65 5))
theorem aaL:aE Tryz.prog 413 aw:=aj (z:=.nilFunc) ⟨_,Tryz.underlying413,rfl⟩
def Uq:TI:=⟨.arr 32 5,32,32,[.val (.int .u8 0),.val (.int .u8 0),.val (.int .u8 0),.val (.int .u8 0),.val (.int .u8 0),.val (.int .u8 0),.val (.int .u8 0),.val (.int .u8 0),.val (.int .u8 0),.val (.int .u8 0),.val (.int .u8 0),.val (.int .u8 0),.val (.int .u8 0),.val (.int .u8 0),.val (.int .u8 0),.val (.int .u8 0),.val (.int .u8 0),.val (.int .u8 0),.val (.int .u8 0),.val (.int .u8 0),.val (.int .u8 0),.val (.int .u8 0),.val (.int .u8 0),.val (.int .u8 0),.val (.int .u8 0),.val (.int .u8 0),.val (.int .u8 0),.val (.int .u8 0),.val (.int .u8 0),.val (.int .u8 0),.val (.int .u8 0),.val (.int .u8 0)]⟩
theorem aaM:aE Tryz.prog 414 Uq:=aj (z:=.agg #[(.int .u8 0),(.int .u8 0),(.int .u8 0),(.int .u8 0),(.int .u8 0),(.int .u8 0),(.int .u8 0),(.int .u8 0),(.int .u8 0),(.int .u8 0),(.int .u8 0),(.int .u8 0),(.int .u8 0),(.int .u8 0),(.int .u8 0),(.int .u8 0),(.int .u8 0),(.int .u8 0),(.int .u8 0),(.int .u8 0),(.int .u8 0),(.int .u8 0),(.int .u8 0),(.int .u8 0),(.int .u8 0),(.int .u8 0),(.int .u8 0),(.int .u8 0),(.int .u8 0),(.int .u8 0),(.int .u8 0),(.int .u8 0)]) (by kernel_rfl:Tryz.prog.underlying 414=some (.array 32 5))
def Ur:TI:=⟨.arr 64 5,64,64,[.val (.int .u8 0),.val (.int .u8 0),.val (.int .u8 0),.val (.int .u8 0),.val (.int .u8 0),.val (.int .u8 0),.val (.int .u8 0),.val (.int .u8 0),.val (.int .u8 0),.val (.int .u8 0),.val (.int .u8 0),.val (.int .u8 0),.val (.int .u8 0),.val (.int .u8 0),.val (.int .u8 0),.val (.int .u8 0),.val (.int .u8 0),.val (.int .u8 0),.val (.int .u8 0),.val (.int .u8 0),.val (.int .u8 0),.val (.int .u8 0),.val (.int .u8 0),.val (.int .u8 0),.val (.int .u8 0),.val (.int .u8 0),.val (.int .u8 0),.val (.int .u8 0),.val (.int .u8 0),.val (.int .u8 0),.val (.int .u8 0),.val (.int .u8 0),.val (.int .u8 0),.val (.int .u8 0),.val (.int .u8 0),.val (.int .u8 0),.val (.int .u8 0),.val (.int .u8 0),.val (.int .u8 0),.val (.int .u8 0),.val (.int .u8 0),.val (.int .u8 0),.val (.int .u8 0),.val (.int .u8 0),.val (.int .u8 0),.val (.int .u8 0),.val (.int .u8 0),.val (.int .u8 0),.val (.int .u8 0),.val (.int .u8 0),.val (.int .u8 0),.val (.int .u8 0),.val (.int .u8 0),.val (.int .u8 0),.val (.int .u8 0),.val (.int .u8 0),.val (.int .u8 0),.val (.int .u8 0),.val (.int .u8 0),.val (.int .u8 0),.val (.int .u8 0),.val (.int .u8 0),.val (.int .u8 0),.val (.int .u8 0)]⟩
theorem aaN:aE Tryz.prog 415 Ur:=aj (z:=.agg #[(.int .u8 0),(.int .u8 0),(.int .u8 0),(.int .u8 0),(.int .u8 0),(.int .u8 0),(.int .u8 0),(.int .u8 0),(.int .u8 0),(.int .u8 0),(.int .u8 0),(.int .u8 0),(.int .u8 0),(.int .u8 0),(.int .u8 0),(.int .u8 0),(.int .u8 0),(.int .u8 0),(.int .u8 0),(.int .u8 0),(.int .u8 0),(.int .u8 0),(.int .u8 0),(.int .u8 0),(.int .u8 0),(.int .u8 0),(.int .u8 0),(.int .u8 0),(.int .u8 0),(.int .u8 0),(.int .u8 0),(.int .u8 0),(.int .u8 0),(.int .u8 0),(.int .u8 0),(.int .u8 0),(.int .u8 0),(.int .u8 0),(.int .u8 0),(.int .u8 0),(.int .u8 0),(.int .u8 0),(.int .u8 0),(.int .u8 0),(.int .u8 0),(.int .u8 0),(.int .u8 0),(.int .u8 0),(.int .u8 0),(.int .u8 0),(.int .u8 0),(.int .u8 0),(.int .u8 0),(.int .u8 0),(.int .u8 0),(.int .u8 0),(.int .u8 0),(.int .u8 0),(.int .u8 0),(.int .u8 0),(.int .u8 0),(.int .u8 0),(.int .u8 0),(.int .u8 0)]) (by kernel_rfl:Tryz.prog.underlying 415=some (.array 64 5))
theorem aaO:aE Tryz.prog 424 aw:=aj (z:=.nilFunc) ⟨_,Tryz.underlying424,rfl⟩
def Us:TI:=⟨.agg [(0,9,1)],1,16,[.val (.string .empty)]⟩
theorem aaP:aE Tryz.prog 429 Us:=aj (z:=.agg #[(.string .empty)]) ⟨aF,aF,aF⟩
def Fy:List (TypeId×TI):=[(1,aw),(2,Fx),(3,V6),(4,ti4),(5,ti5),(9,ti9),(12,adl),(13,adn),(21,adp),(22,adr),(23,PQ),(24,adu),(25,adw),(26,ady),(27,adA),(28,aw),(29,aw),(30,aw),(31,aw),(32,aw),(33,PR),(34,aw),(35,aw),(36,PS),(37,adL),(38,PT),(39,aw),(40,adP),(42,aw),(43,aw),(44,PU),(45,adV),(46,PV),(47,adY),(48,ad0),(49,ad2),(50,PW),(51,ad5),(52,PX),(53,aw),(54,PY),(56,aw),(57,aw),(58,aw),(59,aw),(60,aw),(61,aef),(62,aw),(63,aw),(64,aw),(65,aw),(66,aw),(67,aw),(69,aw),(70,aeo),(71,aw),(73,aw),(74,PZ),(75,aw),(76,aw),(77,P0),(78,aew),(79,P1),(80,aez),(81,Lw),(83,aw),(84,aw),(86,aw),(87,aw),(88,aw),(89,aeI),(90,aeK),(91,aeM),(92,aw),(93,aw),(94,aw),(95,aw),(96,aw),(97,aw),(98,aw),(99,aw),(100,aw),(101,aw),(102,aw),(103,aw),(104,aw),(105,aw),(107,aw),(108,aw),(110,aw),(111,aw),(112,SJ),(113,SK),(114,aw),(115,aw),(116,aw),(117,aw),(118,aw),(119,aw),(120,aw),(121,aw),(122,aw),(123,aw),(125,aw),(126,aw),(127,aw),(128,aw),(129,aw),(130,aw),(131,aw),(132,aw),(133,aw),(134,aw),(135,aw),(136,aw),(137,aw),(138,aw),(139,aw),(140,aw),(141,aw),(142,SL),(143,aw),(144,aw),(145,aw),(146,aw),(147,aw),(148,aw),(149,aw),(150,aw),(151,aw),(152,aw),(153,aw),(155,aw),(157,aw),(159,aw),(160,aw),(161,aw),(162,aw),(163,aw),(164,aw),(165,aw),(166,SM),(168,aw),(169,aw),(170,aw),(171,SN),(172,SO),(174,aw),(175,aw),(176,aw),(177,aw),(178,SP),(179,aw),(180,aw),(181,aw),(182,aw),(184,aw),(185,aw),(186,SQ),(187,aw),(188,SR),(189,SS),(190,SU),(191,aw),(192,aw),(193,aw),(194,aw),(195,aw),(196,SX),(197,aw),(198,aw),(199,aw),(200,aw),(201,aw),(202,aw),(203,aw),(204,aw),(205,SY),(206,SZ),(207,S0),(209,aw),(210,aw),(211,aw),(213,aw),(214,aw),(215,aw),(216,aw),(217,aw),(218,aw),(219,aw),(220,aw),(221,aw),(222,aw),(223,aw),(224,aw),(226,aw),(227,aw),(228,S1),(230,aw),(231,aw),(232,aw),(233,aw),(234,aw),(235,aw),(236,aw),(237,aw),(238,aw),(239,aw),(241,aw),(242,aw),(243,aw),(244,aw),(245,aw),(246,S2),(247,aw),(248,aw),(249,aw),(250,aw),(251,aw),(252,aw),(253,aw),(254,aw),(255,aw),(256,aw),(257,aw),(258,aw),(259,aw),(260,aw),(261,aw),(262,S3),(263,aw),(264,S4),(265,aw),(266,aw),(267,aw),(268,S5),(269,S6),(270,aw),(271,aw),(272,aw),(273,aw),(274,aw),(275,aw),(276,aw),(277,aw),(279,aw),(280,aw),(281,aw),(282,aw),(283,aw),(284,aw),(285,aw),(286,aw),(287,aw),(288,aw),(289,aw),(290,aw),(291,aw),(292,S7),(293,S8),(294,S9),(295,aw),(296,aw),(297,aw),(298,aw),(299,aw),(300,aw),(301,aw),(302,aw),(303,aw),(304,aw),(305,aw),(306,aw),(307,aw),(308,aw),(309,aw),(310,aw),(311,aw),(313,aw),(314,aw),(315,aw),(316,Ua),(317,aw),(318,aw),(319,aw),(320,aw),(322,aw),(323,aw),(324,Ub),(326,aw),(327,aw),(328,Uc),(330,aw),(332,aw),(333,aw),(334,Ud),(335,Ue),(336,Uf),(337,aw),(338,aw),(339,aw),(340,Ug),(341,Uh),(342,Ui),(343,aw),(347,aw),(348,aw),(349,aw),(350,aw),(352,aw),(354,aw),(355,aw),(357,aw),(358,aw),(359,aw),(360,aw),(361,aw),(363,aw),(364,aw),(365,aw),(366,aw),(367,aw),(368,aw),(370,aw),(372,aw),(373,aw),(374,aw),(375,aw),(376,aw),(378,aw),(379,aw),(380,aw),(381,Uj),(382,aw),(384,aw),(385,aw),(386,Uk),(387,Ul),(388,aw),(389,aw),(390,aw),(392,aw),(393,aw),(394,aw),(395,aw),(396,aw),(397,aw),(398,aw),(399,aw),(401,aw),(402,aw),(403,Um),(404,aw),(405,aw),(407,aw),(408,aw),(409,aw),(410,aw),(411,Un),(412,Uo),(413,aw),(414,Uq),(415,Ur),(424,aw),(429,Us)]
theorem aM:db Tryz.prog Fy:=⟨aha,ahb,ahc,ahd,ahe,ahf,adm,ado,adq,ads,adt,adv,adx,adz,adB,adC,adD,adE,adF,adG,adH,adI,adJ,adK,adM,adN,adO,adQ,adR,adT,adU,adW,adX,adZ,ad1,ad3,ad4,ad6,ad7,ad8,ad9,aea,aeb,aec,aed,aee,aeg,aeh,aei,aej,aek,ael,aem,aen,aep,aeq,aer,aes,aet,aeu,aev,aex,aey,aeA,aeC,aeD,aeE,aeF,aeG,aeH,aeJ,aeL,aeN,aeO,aeP,aeQ,aeR,aeS,aeT,aeU,aeV,V8,V9,Wa,Wb,Wc,Wd,We,Wf,Wg,Wh,Wi,Wj,Wl,Wm,Wn,Wo,Wp,Wq,Wr,Ws,Wt,Wu,Wv,Ww,Wx,Wy,Wz,WA,WB,WC,WD,WE,WG,WH,WI,WJ,WK,WM,WN,WO,WQ,WR,WS,WT,WU,WV,WW,WX,WY,WZ,W2,W3,W5,W6,W7,W8,W9,Xa,Xb,Xc,Xd,Xe,Xf,Xg,Xh,Xi,Xj,Xk,Xl,Xm,Xn,Xo,Xp,Xq,Xr,Xs,Xt,Xu,Xv,Xw,Xx,Xy,Xz,XA,XB,XC,XD,XE,XF,XG,XH,XI,XJ,XK,XL,XM,XN,XO,XP,XQ,XR,XS,XT,XU,XV,XW,XX,XY,XZ,X0,X1,X2,X3,X4,X5,X6,X7,X8,X9,Ya,Yb,Yc,Yd,Ye,Yf,Yg,Yh,Yi,Yj,Yk,Yl,Ym,Yn,Yo,Yp,Yq,Yr,Ys,Yt,Yu,Yv,Yw,Yx,Yy,Yz,YA,YB,YC,YD,YE,YF,YG,YH,YI,YJ,YK,YL,YM,YN,YO,YP,YQ,YR,YS,YT,YU,YV,YW,YX,YY,YZ,Y0,Y1,Y2,Y3,Y4,Y5,Y6,Y7,Y8,Y9,Za,Zb,Zc,Zd,Ze,Zf,Zg,Zh,Zi,Zj,Zk,Zl,Zn,Zo,Zp,Zq,Zr,Zs,Zt,Zu,Zv,Zw,Zx,Zy,Zz,ZA,ZB,ZC,ZD,ZE,ZF,ZG,ZH,ZI,ZJ,ZK,ZL,ZM,ZN,ZO,ZP,ZQ,ZR,ZS,ZT,ZU,ZV,ZW,ZX,ZY,ZZ,Z0,Z1,Z2,Z3,Z4,Z5,Z6,Z7,Z8,Z9,aaa,aab,aac,aad,aae,aaf,aag,aah,aai,aaj,aak,aal,aam,aan,aao,aap,aaq,aar,aas,aat,aau,aav,aaw,aax,aay,aaz,aaA,aaB,aaC,aaD,aaE,aaF,aaG,aaH,aaI,aaJ,aaK,aaL,aaM,aaN,aaO,aaP,trivial⟩
theorem dJ {t:TypeId} {ti:TI} (h:df Fy t=some ti):aE Tryz.prog t ti:=db.get aM h
theorem Q3 {p:Prop} (h:p:=by first|omega|decide|(simp only[tl0,fi,List.length_replicate,List.length_set,List.length_map,List.length_zipWith,List.length_take,List.length_append,List.length_cons,List.length_nil];omega)):p:=h
theorem Q4 {p:Prop} (h:p:=by (first|exact aq.refl _|exact ov.nx (aq.refl _) rfl|(refine ov.one rfl rfl ?_;skip)|(refine ov.cC ?_;skip))):p:=h
theorem Q5 {p:Prop} (h:p:=by first|decide|omega|(simp only[tl0,fi,List.length_replicate,List.length_set,List.length_map,List.length_zipWith,List.length_take,List.length_append,List.length_cons,List.length_nil];omega)):p:=h
theorem Q6 {p:Prop} (h:p:=by exact (KJ rfl (ak rfl) (dJ rfl) rfl (Nat.succ_ne_zero _) rfl)):p:=h
theorem Q7 {p:Prop} (h:p:=by exact (PL rfl rfl rfl (ak rfl) (dJ rfl) rfl)):p:=h
theorem Q8 {p:Prop} (h:p:=by first|rfl|(simp[aV,bA,bT, *];done)):p:=h
theorem Q9 {p:Prop} (h:p:=by exact (I7 rfl (ak rfl) (dJ rfl) rfl rfl (Nat.succ_ne_zero _) rfl)):p:=h
theorem ik {p:Prop} (h:p:=by exact (Lk rfl (ak rfl) (ak rfl))):p:=h
theorem iT {p:Prop} (h:p:=by exact (Lj rfl (ak rfl) (ak rfl))):p:=h
theorem An {p:Prop} (h:p:=by exact (fu (α:=Rat) (d:=0) rfl (ak rfl) (ak rfl) (dJ rfl) rfl (dJ rfl) rfl aa)):p:=h
theorem Q13 {p:Prop} (h:p:=by repeat(first|exact F0.nil|refine F0.cons rfl ?_ ?_|exact kR.same (fun h=>h)|exact kR.same F3|exact kR.same (fun _=>rfl)|refine kR.one (fun h=>h) ?_|refine kR.one F3 ?_|exact WL.refl|refine WL.eq ?_|refine WL.any rfl ?_|exact kR.dead)):p:=h
theorem FA {p:Prop} (h:p:=by exact (fu (α:=Int) (d:=0) rfl (ak rfl) (ak rfl) (dJ rfl) rfl (dJ rfl) rfl aa)):p:=h
theorem Kk {p:Prop} (h:p:=by exact (fu (α:=List Rat) (d:=[]) rfl (ak rfl) (ak rfl) (dJ rfl) rfl (dJ rfl) rfl aa)):p:=h
theorem Q16 {p:Prop} (h:p:=by (first|exact aq.refl _|exact ov.nx (aq.refl _) rfl|(refine ov.one rfl rfl ?_;(repeat(first|exact dM.bA rfl|exact nv.nil|refine nv.cons ?_ ?_|(refine dM.cd rfl ?_;(first|rfl|omega|(simp<;>fail)|(simp<;>omega)))|refine dM.agg ?_)))|(refine ov.cC ?_;skip))):p:=h
theorem Q17 {p:Prop} (h:p:=by (first|exact aq.refl _|exact ov.nx (aq.refl _) rfl|(refine ov.one rfl rfl ?_;skip)|(refine ov.cC ?_;(repeat(first|exact dM.bA rfl|exact nv.nil|refine nv.cons ?_ ?_|(refine dM.cd rfl ?_;(first|rfl|omega|(simp<;>fail)|(simp<;>omega)))))))):p:=h
theorem Q18 {p:Prop} (h:p:=by exact (pB (α:=Rat) (d:=0) rfl (ak rfl) (ak rfl) (dJ rfl) rfl (dJ rfl) rfl aa)):p:=h
theorem Kl {p:Prop} (h:p:=by have:=h.2;split<;>omega):p:=h
theorem Q20 {p:Prop} (h:p:=by (first|exact aq.refl _|exact ov.nx (aq.refl _) rfl|(refine ov.one rfl rfl ?_;skip)|(refine ov.cC ?_;(repeat(first|exact dM.bA rfl|exact nv.nil|refine nv.cons ?_ ?_|(refine dM.cd rfl ?_;(first|rfl|omega|(simp<;>fail)|(simp<;>omega)))|refine dM.agg ?_))))):p:=h
theorem Q21 {p:Prop} (h:p:=by exact (Ah rfl (ak rfl) (eV rfl) (eV rfl) (.inl rfl) (dJ rfl) rfl (dJ rfl) rfl aa)):p:=h
theorem Pa {p:Prop} (h:p:=by exact (DF rfl rfl rfl)):p:=h
theorem Lx {p:Prop} (h:p:=by rw[dp];omega):p:=h
theorem Q24 {p:Prop} (h:p:=by rw[Int.natAbs_natCast];omega):p:=h
theorem Jl {p:Prop} (h:p:=by decide+kernel):p:=h
theorem Q26 {p:Prop} (h:p:=by have:=Int.sign_nonneg_iff.2 (show 0≤(a:Int) - b by omega);omega):p:=h
theorem tl0:ti5.bytes=1∧PQ.bytes=4∧V6.bytes=8∧Fx.bytes=8∧ti9.bytes=16∧PX.bytes=56∧Lw.bytes=56∧PS.bytes=24∧PY.bytes=24∧PW.bytes=32∧PU.bytes=8∧ti4.bytes=1∧P0.bytes=24∧P1.bytes=32∧PZ.bytes=24∧PT.bytes=40∧PR.bytes=24∧PV.bytes=24:=⟨rfl,rfl,rfl,rfl,rfl,rfl,rfl,rfl,rfl,rfl,rfl,rfl,rfl,rfl,rfl,rfl,rfl,rfl⟩
theorem bB:Tryz.prog.follows .mixedOrders=true:=aF
theorem cj (Z:List Nat) {f:FuncId} {fn':Func} {code:Code} {args:List SV} {c:SV} (hf:Tryz.prog.funcs[f]?=some fn') (h:∀ W0 w0 ρ0,Env.OK ⟨Tryz.prog,Fy,W0,w0,fn'.ntmps,ρ0,[],Z,none⟩→BG ⟨Tryz.prog,Fy,W0,w0,fn'.ntmps,ρ0,[],Z,none⟩ code (Kj Fy fn'.results.toList fun sv _=>aq sv c) (enum 0 args) []) (hb:fn'.body=some code:=by exact rfl) (hn:(fn'.name=="runtime.NumGoroutine")=false:=by kernel_rfl) (ha:aV args=true:=by exact rfl) (hc:bA c=true:=by exact rfl) (hnt:Nat.ble args.length fn'.ntmps=true:=by kernel_rfl) (hp:args.all bp=true:=by exact rfl):af Tryz.prog f args [] c [] []:=ac9 (Z:=Z) aM bB hf hb hn ha hc hnt hp h
theorem qU (Z:List Nat) {f:FuncId} {fn':Func} {code:Code} {args:List SV} {c:SV} (hf:Tryz.prog.funcs[f]?=some fn') (h:∀ w0 ρ0,Env.OK ⟨Tryz.prog,Fy,fun _=>False,w0,fn'.ntmps,ρ0,[],Z,none⟩→BG ⟨Tryz.prog,Fy,fun _=>False,w0,fn'.ntmps,ρ0,[],Z,none⟩ code (Kj Fy fn'.results.toList fun sv hp=>ov sv hp c) (enum 0 args) []) (hb:fn'.body=some code:=by exact rfl) (hn:(fn'.name=="runtime.NumGoroutine")=false:=by kernel_rfl) (ha:aV args=true:=by first|rfl|(simp[aV,bA,bT, *];done)) (hc:bA c=true:=by first|rfl|(simp[aV,bA,bT, *];done)) (hnt:Nat.ble args.length fn'.ntmps=true:=by kernel_rfl) (hp:args.all bp=true:=by exact rfl):af Tryz.prog f args [] c [] []:=ade (Z:=Z) aM bB hf hb hn ha hc hnt hp h
def ef:List TypeId:=[25,46,48,50,52,336]
theorem me:xv Tryz.prog ef:=by
 have h:ef.all (fun t=> !Tryz.prog.stoodInHeld t&&(Tryz.prog.fieldsOf t).toList.all (fun f=>f.name != "_"))=true:=aF
 intro t ht;have:=List.all_eq_true.1 h t ht;simpa using this
set_option linter.unusedSimpArgs false
set_option linter.unusedVariables false
theorem mF:Tryz.prog.eqGuardType Tryz.prog.depth 46=false:=aF
theorem F4:Tryz.prog.eqGuardType Tryz.prog.depth 48=false:=aF
theorem oT (a b:Nat):xu Fy ef 10 46 (bH a) (bH b)=some (decide (a=b)):=by
 rw[←nu,←Bool.and_true (low a==low b&&_),Bool.and_assoc]
 rfl
theorem Jm (a b:Nat):xu Fy ef 10 48 (bH a) (bH b)=some (decide (a=b)):=by
 have:xu Fy ef 10 48 (bH a) (bH b)=some (((low a==low b)&&(((pX a).toList==(pX b).toList)&&true))&&true):=rfl
 rw[this,Bool.and_true,Bool.and_true,nu]
theorem Ao (n:Nat) (hn:n<18446744073709551616):af Tryz.prog 176 [.val (.int .u64 n)] [] (.nat n) [] []:=by
 refine cj [] Tryz.func176 ?_
 intro W0 w0 ρ0 hE
 conv=>whnf
 exact eb (l:=bH n) (by rw[kL hn];rfl) rfl (fun _ h=>by cases h)
theorem vX (n:Nat):af Tryz.prog 279 [.nat n] [] (.val (.bool (decide (n=0)))) [] []:=by
 refine cj [] Tryz.func279 ?_
 intro W0 w0 ρ0 hE
 conv=>whnf
 refine⟨_,kK aM me rfl (ak rfl) (ak rfl) rfl rfl rfl rfl (oT n 0) mF, ?_⟩
 conv=>whnf
 exact aq.refl _
theorem Hq (n:Nat):af Tryz.prog 276 [.nat n] [] (.val (.bool (decide (n=0)))) [] []:=by
 refine cj [] Tryz.func276 ?_
 intro W0 w0 ρ0 hE
 conv=>whnf
 refine⟨_,kK aM me rfl (ak rfl) (ak rfl) rfl rfl rfl rfl (Jm n 0) F4, ?_⟩
 conv=>whnf
 exact aq.refl _
theorem Hr (z:Int):af Tryz.prog 179 [.int z] [] (.nat z.natAbs) [] []:=by
 refine cj [] Tryz.func179 ?_
 intro W0 w0 ρ0 hE
 conv=>whnf
 exact eb (l:=bH z.natAbs) rfl rfl (fun _ h=>by cases h)
theorem de (n:Nat):((pX n).toList==(ByteArray.mk #[]).toList)=decide (n<18446744073709551616):=by
 rw[Bool.eq_iff_iff,show(ByteArray.mk #[]).toList=[]from by rw[ByteArray.toList_eq]]
 simp[mw]
def signed (neg:Bool) (n:Nat):Int:=if neg then -(n:Int)else n
theorem gX (neg:Bool) (n:Nat):af Tryz.prog 177 [.val (.bool neg),.nat n] [] (.int (signed neg n)) [] []:=by
 refine cj [] Tryz.func177 ?_
 intro W0 w0 ρ0 hE
 cases neg
 ·conv=>whnf
  refine⟨(fun h=>by cases h),fun _=> ?_⟩
  conv=>whnf
  refine⟨(fun h=>by cases h),fun _=> ?_⟩
  conv=>whnf
  refine⟨(fun h=>by cases h),fun _=> ?_⟩
  conv=>whnf
  refine⟨.val (.bool false),[],[],[],lO rfl (ak rfl) (fun hb=>by cases hb) (fun _=>ak rfl) rfl (c1:=.any),aD,an,ar, ?_⟩
  conv=>whnf
  refine⟨aF, ?_⟩
  conv=>whnf
  refine eb (l:=dv (signed false n)) ?_ rfl (fun _ h=>by cases h)
  have e1:(signed false n).natAbs=n:=by simp[signed]
  have e2:decide (signed false n<0)=false:=by simp[signed]
  rw[dv,e1,e2]
  rfl
 ·conv=>whnf
  refine⟨fun _=> ?_,fun h=>by cases h⟩
  conv=>whnf
  refine⟨fun _=> ?_,fun h=>by cases h⟩
  conv=>whnf
  refine⟨[],_,[],[],Hq n,aD,an,ar, ?_⟩
  conv=>whnf
  refine⟨fun _=> ?_,fun h=>by cases h⟩
  conv=>whnf
  refine⟨.val (.bool (!decide (n=0))),[],[],[],lO rfl (ak rfl) (fun _=>ak rfl) (fun hb=>by cases hb) rfl (c2:=.any),aD,an,ar, ?_⟩
  conv=>whnf
  refine⟨aF, ?_⟩
  conv=>whnf
  refine eb (l:=dv (signed true n)) ?_ rfl (fun _ h=>by cases h)
  have e1:(signed true n).natAbs=n:=by simp[signed]
  have e2:decide (signed true n<0)= !decide (n=0):=by rw[Bool.eq_iff_iff];simp[signed];omega
  rw[dv,e1,e2]
  rfl
theorem BS (z:Int):af Tryz.prog 174 [.int z] [] (.val (.int .i64 z.sign)) [] []:=by
 refine cj [] Tryz.func174 ?_
 intro W0 w0 ρ0 hE
 conv=>whnf
 refine⟨[],_,[],[],Hq z.natAbs,aD,an,ar, ?_⟩
 conv=>whnf
 refine⟨fun h=> ?_,fun h=> ?_⟩
 ·have hz:z=0:=by have:=of_decide_eq_true h;omega
  conv=>whnf
  subst hz
  exact aq.refl _
 ·have hz:z≠0:=by have:=of_decide_eq_false h;omega
  conv=>whnf
  refine⟨fun h=> ?_,fun h=> ?_⟩
  ·have hz:z.sign= -1:=Int.sign_eq_neg_one_of_neg (of_decide_eq_true h)
   conv=>whnf
   rw[hz]
   exact aq.refl _
  ·have hz:z.sign=1:=Int.sign_eq_one_of_pos (by have:=of_decide_eq_false h;omega)
   conv=>whnf
   rw[hz]
   exact aq.refl _
theorem Ly (z:Int):af Tryz.prog 236 [.int z] [] (.int (-z)) [] []:=by
 refine cj [] Tryz.func236 ?_
 intro W0 w0 ρ0 hE
 conv=>whnf
 refine⟨[],_,[],[],gX (!decide (z<0)) z.natAbs,aD,an,ar, ?_⟩
 have e:signed (!decide (z<0)) z.natAbs= -z:=by
  unfold signed
  by_cases h:z<0<;>simp[h]<;>omega
 rw[e]
 conv=>whnf
 exact aq.refl _
theorem Hs (z:Int) (h0: -9223372036854775808≤z) (h1:z<9223372036854775808):af Tryz.prog 105 [.val (.int .i64 z)] [] (.int z) [] []:=by
 refine cj [] Tryz.func105 ?_
 intro W0 w0 ρ0 hE
 conv=>whnf
 refine⟨fun h=> ?_,fun h=> ?_⟩
 ·have hz:=of_decide_eq_true h
  conv=>whnf
  have e1:IntKind.u64.wrap (0 - IntKind.u64.wrap z)=((z.natAbs:Nat):Int):=by rw[pA,pA];omega
  rw[e1]
  refine⟨[],_,[],[],Ao z.natAbs aa,aD,an,ar, ?_⟩
  conv=>whnf
  refine⟨[],_,[],[],gX true z.natAbs,aD,an,ar, ?_⟩
  have e:signed true z.natAbs=z:=by simp[signed];omega
  rw[e]
  conv=>whnf
  exact aq.refl _
 ·have hz:=of_decide_eq_false h
  conv=>whnf
  have e1:IntKind.u64.wrap z=((z.natAbs:Nat):Int):=by rw[pA];omega
  rw[e1]
  refine⟨[],_,[],[],Ao z.natAbs aa,aD,an,ar, ?_⟩
  conv=>whnf
  refine⟨[],_,[],[],gX false z.natAbs,aD,an,ar, ?_⟩
  have e:signed false z.natAbs=z:=by simp[signed];omega
  rw[e]
  conv=>whnf
  exact aq.refl _
set_option maxHeartbeats 2000000
structure jq (M:Nat):Prop where
 pX:64≤M
 cmp:∀a b,sz a≤M→sz b≤M→af Tryz.prog 182 [.nat a,.nat b] [] (.val (.int .i64 ((a:Int) - b).sign)) [] []
 add:∀a b,sz (a+b)≤M→af Tryz.prog 297 [.nat a,.nat b] [] (.nat (a+b)) [] []
 sub:∀a b,sz a≤M→b≤a→af Tryz.prog 296 [.nat a,.nat b] [] (.cC [.nat (a - b),.val (.bool true)]) [] []
 aaS:∀a b,sz b≤M→a<b→af Tryz.prog 296 [.nat a,.nat b] [] (.cC [.nat 0,.val (.bool false)]) [] []
 mul:∀a b,sz a+sz b≤M→af Tryz.prog 209 [.nat a,.nat b] [] (.nat (a*b)) [] []
 div:∀a b,sz a≤M→sz b≤M→b≠0→af Tryz.prog 280 [.nat a,.nat b] [] (.cC [.nat (a/b),.nat (a % b),.val (.bool true)]) [] []
 aaT:∀a,af Tryz.prog 280 [.nat a,.nat 0] [] (.cC [.nat 0,.nat 0,.val (.bool false)]) [] []
 gcd:∀a b,sz a≤M→sz b≤M→af Tryz.prog 178 [.nat a,.nat b] [] (.nat (Nat.gcd a b)) [] []
variable {M:Nat}
theorem gj (s:Bool) (n:Nat):(signed s n).natAbs=n:=by cases s<;>simp[signed]
theorem Lz (ok:jq M) (a b:Int) (ha:sz a.natAbs<M) (hb:sz b.natAbs<M):
  af Tryz.prog 283 [.int a,.int b] [] (.int (a+b)) [] []:=by
 have hs:sz (a.natAbs+b.natAbs)≤M:=by
  have:=xy (k:=M - 1) (show sz a.natAbs≤M - 1 by omega) (show sz b.natAbs≤M - 1 by omega)
  omega
 refine cj [] Tryz.func283 ?_
 intro W0 w0 ρ0 hE
 conv=>whnf
 refine⟨fun h1=> ?_,fun h1=> ?_⟩
 ·have h1:decide (a<0)=decide (b<0):=by simpa using h1
  conv=>whnf
  refine⟨[],_,[],[],(ok.add _ _ hs),aD,an,ar, ?_⟩;conv=>whnf
  have e:signed (decide (a<0)) (a.natAbs+b.natAbs)=a+b:=by
   have:=decide_eq_decide.1 h1
   unfold signed
   by_cases h:a<0<;>simp[h]<;>omega
  have:=gX (decide (a<0)) (a.natAbs+b.natAbs)
  rw[e]at this
  refine⟨[],_,[],[],(this),aD,an,ar, ?_⟩;conv=>whnf
  (repeat(first|(refine aB aF ?_;conv=>whnf)));exact aq.refl _
 ·have h1:¬(a<0↔b<0):=by
   intro h2
   simp[h2]at h1
  conv=>whnf
  by_cases Ap:b.natAbs≤a.natAbs
  ·refine⟨[],_,[],[],(ok.sub a.natAbs b.natAbs aa Ap),aD,an,ar, ?_⟩;conv=>whnf
   (repeat(first|(refine ah rfl rfl ?_;conv=>whnf)))
   have e:signed (decide (a<0)) (a.natAbs - b.natAbs)=a+b:=by
    unfold signed
    by_cases h:a<0<;>simp[h]<;>omega
   have:=gX (decide (a<0)) (a.natAbs - b.natAbs)
   rw[e]at this
   refine⟨[],_,[],[],(this),aD,an,ar, ?_⟩;conv=>whnf
   skip;exact aq.refl _
  ·refine⟨[],_,[],[],(ok.aaS a.natAbs b.natAbs aa aa),aD,an,ar, ?_⟩;conv=>whnf
   (repeat(first|(refine ag rfl rfl ?_;conv=>whnf)))
   refine⟨[],_,[],[],(ok.sub b.natAbs a.natAbs aa aa),aD,an,ar, ?_⟩;conv=>whnf
   have e:signed (decide (b<0)) (b.natAbs - a.natAbs)=a+b:=by
    unfold signed
    by_cases h:b<0<;>simp[h]<;>omega
   have:=gX (decide (b<0)) (b.natAbs - a.natAbs)
   rw[e]at this
   refine⟨[],_,[],[],(this),aD,an,ar, ?_⟩;conv=>whnf
   skip;exact aq.refl _
theorem F5 (f:FuncId) (a b c:Int) (hc:af Tryz.prog f [.int a,.int b] [] (.int c) [] []):
  af Tryz.prog 270 [.clo f [] [],.int a,.int b] [] (.int c) [] []:=by
 refine cj [] Tryz.func270 ?_
 intro W0 w0 ρ0 hE
 conv=>whnf
 refine⟨[],_,[],[],(hc),aD,an,ar, ?_⟩;conv=>whnf
 skip;exact aq.refl _
theorem xH (ok:jq M) (a b:Int) (ha:sz a.natAbs<M) (hb:sz b.natAbs<M):
  af Tryz.prog 181 [.int a,.int b] [] (.int (a+b)) [] []:=by
 refine cj [] Tryz.func181 ?_
 intro W0 w0 ρ0 hE
 conv=>whnf
 refine⟨[],_,[],[],(F5 _ a b _ (Lz ok a b ha hb)),aD,an,ar, ?_⟩;conv=>whnf
 skip;exact aq.refl _
theorem LA (ok:jq M) (a b:Int) (ha:sz a.natAbs<M) (hb:sz b.natAbs<M):
  af Tryz.prog 272 [.int a,.int b] [] (.int (a - b)) [] []:=by
 rw[Int.sub_eq_add_neg]
 refine cj [] Tryz.func272 ?_
 intro W0 w0 ρ0 hE
 conv=>whnf
 refine⟨[],_,[],[],(Ly b),aD,an,ar, ?_⟩;conv=>whnf
 refine⟨[],_,[],[],(F5 _ a (-b) _ (Lz ok a (-b) ha (by rwa [Int.natAbs_neg]))),aD,an,ar, ?_⟩;conv=>whnf
 (repeat(first|(refine aB aF ?_;conv=>whnf)));exact aq.refl _
theorem xI (a b:Int):signed (decide (a<0) != decide (b<0)) (a.natAbs*b.natAbs)=a*b:=by
 unfold signed
 rw[Int.natCast_mul]
 by_cases h1:a<0<;>by_cases h2:b<0
 ·rw[show(a.natAbs:Int)= -a from aa,show(b.natAbs:Int)= -b from by omega];simp[h1,h2,Int.neg_mul_neg]
 ·rw[show(a.natAbs:Int)= -a from aa,show(b.natAbs:Int)=b from by omega];simp[h1,h2,Int.neg_mul]
 ·rw[show(a.natAbs:Int)=a from aa,show(b.natAbs:Int)= -b from by omega];simp[h1,h2,Int.mul_neg]
 ·rw[show(a.natAbs:Int)=a from aa,show(b.natAbs:Int)=b from by omega];simp[h1,h2]
theorem P2 (ok:jq M) (a b:Int) (h:sz a.natAbs+sz b.natAbs≤M):
  af Tryz.prog 271 [.int a,.int b] [] (.int (a*b)) [] []:=by
 refine cj [] Tryz.func271 ?_
 intro W0 w0 ρ0 hE
 conv=>whnf
 refine⟨[],_,[],[],(ok.mul _ _ h),aD,an,ar, ?_⟩;conv=>whnf
 have:=gX (decide (a<0) != decide (b<0)) (a.natAbs*b.natAbs)
 rw[xI]at this
 refine⟨[],_,[],[],(this),aD,an,ar, ?_⟩;conv=>whnf
 (repeat(first|(refine aB aF ?_;conv=>whnf)));exact aq.refl _
theorem xJ (ok:jq M) (a b:Int) (h:sz a.natAbs+sz b.natAbs≤M):
  af Tryz.prog 169 [.int a,.int b] [] (.int (a*b)) [] []:=by
 refine cj [] Tryz.func169 ?_
 intro W0 w0 ρ0 hE
 conv=>whnf
 refine⟨[],_,[],[],(F5 _ a b _ (P2 ok a b h)),aD,an,ar, ?_⟩;conv=>whnf
 skip;exact aq.refl _
theorem DM {a b q r:Int} (h1:r+b*q=a) (h2:0≤r) (h3:r<b.natAbs):a/b=q∧a % b=r:=by
 have hb:b≠0:=aa
 rcases Int.lt_or_gt_of_ne hb with h|h
 ·have:=(Int.ediv_emod_unique (a:=a) (b:= -b) (r:=r) (q:= -q) aa).2 ⟨by rw[Int.neg_mul_neg];exact h1,h2,aa⟩
  rw[Int.ediv_neg,Int.emod_neg]at this
  exact⟨aa,this.2⟩
 ·exact(Int.ediv_emod_unique (a:=a) (b:=b) (r:=r) (q:=q) h).2 ⟨h1,h2,aa⟩
theorem aaU (a b:Int) (Q M:Nat) (hA:(b.natAbs:Int)*(Q:Int)+(M:Int)=(a.natAbs:Int)) (aI:M<b.natAbs):
  (signed (decide (a<0)) M<0→a/b=signed (decide (a<0) != decide (b<0)) Q - b.sign∧a % b=signed (decide (a<0)) M+b.natAbs)∧
  (¬signed (decide (a<0)) M<0→a/b=signed (decide (a<0) != decide (b<0)) Q∧a % b=signed (decide (a<0)) M):=by
 have hs:b*b.sign=b.natAbs:=by
  rcases Int.lt_trichotomy b 0 with h|h|h
  ·rw[Int.sign_eq_neg_one_of_neg h];omega
  ·omega
  ·rw[Int.sign_eq_one_of_pos h];omega
 have hq:b*signed (decide (a<0) != decide (b<0)) Q=if a<0 then -((b.natAbs:Int)*Q)else(b.natAbs:Int)*Q:=by
  unfold signed
  by_cases ha:a<0<;>by_cases hb:b<0
  ·rw[show(b.natAbs:Int)= -b from by omega];simp[ha,hb,Int.neg_mul]
  ·rw[show(b.natAbs:Int)=b from by omega];simp[ha,hb,Int.mul_neg]
  ·rw[show(b.natAbs:Int)= -b from by omega];simp[ha,hb,Int.mul_neg,Int.neg_mul]
  ·rw[show(b.natAbs:Int)=b from by omega];simp[ha,hb]
 refine⟨fun hr=>DM ?_ ?_ ?_,fun hr=>DM ?_ ?_ ?_⟩
 ·rw[Int.mul_sub,hs,hq]
  by_cases ha:a<0<;>simp[signed,ha]at hr ⊢<;>omega
 ·by_cases ha:a<0<;>simp[signed,ha]at hr ⊢<;>omega
 ·by_cases ha:a<0<;>simp[signed,ha]at hr ⊢<;>omega
 ·rw[hq]
  by_cases ha:a<0<;>simp[signed,ha]at hr ⊢<;>omega
 ·omega
 ·by_cases ha:a<0<;>simp[signed,ha]at hr ⊢<;>omega
theorem P3 (ok:jq M) (a:Int):af Tryz.prog 331 [.int a,.int 0] [] (.cC [.int 0,.int 0,.val (.bool false)]) [] []:=by
 refine cj [] Tryz.func331 ?_
 intro W0 w0 ρ0 hE
 conv=>whnf
 refine⟨[],_,[],[],(ok.aaT a.natAbs),aD,an,ar, ?_⟩;conv=>whnf
 (repeat(first|(refine ah rfl rfl ?_;conv=>whnf)));exact aq.refl _
theorem F6 (z:Int):sz z.sign.natAbs≤1:=by
 rw[dV]
 have:z.sign.natAbs≤1:=by
  rcases Int.lt_trichotomy z 0 with h|h|h
  ·rw[Int.sign_eq_neg_one_of_neg h];decide
  ·subst h;decide
  ·rw[Int.sign_eq_one_of_pos h];decide
 omega
theorem aaV (ok:jq M) (a b:Int) (ha:sz a.natAbs<M) (hb:sz b.natAbs<M) (h0:b≠0):
  af Tryz.prog 331 [.int a,.int b] [] (.cC [.int (a/b),.int (a % b),.val (.bool true)]) [] []:=by
 have hM:=ok.pX
 refine cj [] Tryz.func331 ?_
 intro W0 w0 ρ0 hE
 conv=>whnf
 refine⟨[],_,[],[],(ok.div a.natAbs b.natAbs aa aa aa),aD,an,ar, ?_⟩;conv=>whnf
 (repeat(first|(refine ag rfl rfl ?_;conv=>whnf)))
 refine⟨[],_,[],[],(gX _ _),aD,an,ar, ?_⟩;conv=>whnf
 refine⟨[],_,[],[],(gX _ _),aD,an,ar, ?_⟩;conv=>whnf
 (repeat(first|(refine aB aF ?_;conv=>whnf)))
 have hA:(b.natAbs:Int)*((a.natAbs/b.natAbs:Nat):Int)+((a.natAbs % b.natAbs:Nat):Int)=(a.natAbs:Int):=by
  rw[←Int.natCast_mul,←Int.natCast_add,Nat.div_add_mod]
 have aI:a.natAbs % b.natAbs<b.natAbs:=Nat.mod_lt _ aa
 have hdl:sz (a.natAbs/b.natAbs)≤sz a.natAbs:=FV _ _
 have Pb:sz (a.natAbs % b.natAbs)≤sz a.natAbs:=VY _ _
 obtain⟨u1,u2⟩:=aaU a b (a.natAbs/b.natAbs) (a.natAbs % b.natAbs) hA aI
 have hbq:(signed (decide (a<0) != decide (b<0)) (a.natAbs/b.natAbs)).natAbs=a.natAbs/b.natAbs:=gj _ _
 have hbr:(signed (decide (a<0)) (a.natAbs % b.natAbs)).natAbs=a.natAbs % b.natAbs:=gj _ _
 generalize a.natAbs/b.natAbs=Q at*
 generalize a.natAbs % b.natAbs=M at*
 generalize signed (decide (a<0) != decide (b<0)) Q=q at*
 generalize signed (decide (a<0)) M=r at*
 subst hbq hbr
 refine⟨fun h=> ?_,fun h=> ?_⟩
 ·have hr:=of_decide_eq_true h
  obtain⟨v1,v2⟩:=u1 hr
  rw[v1,v2]
  conv=>whnf
  refine⟨[],_,[],[],(gX false b.natAbs),aD,an,ar, ?_⟩;conv=>whnf
  rw[show signed false b.natAbs=(b.natAbs:Int)from rfl]
  refine⟨[],_,[],[],(xH ok r b.natAbs aa (by rw[Int.natAbs_natCast];exact hb)),aD,an,ar, ?_⟩;conv=>whnf
  (repeat(first|(refine aB aF ?_;conv=>whnf)))
  refine⟨[],_,[],[],(BS b),aD,an,ar, ?_⟩;conv=>whnf
  have hsb: -1≤b.sign∧b.sign≤1:=by
   rcases Int.lt_trichotomy b 0 with h|h|h
   ·rw[Int.sign_eq_neg_one_of_neg h];omega
   ·omega
   ·rw[Int.sign_eq_one_of_pos h];omega
  have:=F6 b
  refine⟨[],_,[],[],(Hs b.sign aa aa),aD,an,ar, ?_⟩;conv=>whnf
  refine⟨[],_,[],[],(LA ok q b.sign aa aa),aD,an,ar, ?_⟩;conv=>whnf
  (repeat(first|(refine aB aF ?_;conv=>whnf)));exact aq.refl _
 ·obtain⟨v1,v2⟩:=u2 (of_decide_eq_false h)
  rw[v1,v2]
  conv=>whnf
  (repeat(first|(refine aB aF ?_;conv=>whnf)));exact aq.refl _
end Go.Proofs.YtfpagioknjjacaaGreatDoor
namespace Go.Proofs.YtfpagioknjjacaaGreatDoor
open Go.Sx
set_option linter.unusedSimpArgs false
set_option linter.unusedVariables false
set_option maxRecDepth 100000
set_option maxHeartbeats 2000000
def qW (q:Rat):Nat:=max (sz q.num.natAbs) (sz q.den)
theorem dz (q:Rat):sz q.num.natAbs≤qW q:=Nat.le_max_left _ _
theorem dq (q:Rat):sz q.den≤qW q:=Nat.le_max_right _ _
theorem F7 {q:Rat} {k:Nat} (h1:sz q.num.natAbs≤k) (h2:sz q.den≤k):qW q≤k:=Nat.max_le.2 ⟨h1,h2⟩
theorem num_mkRat {n:Int} {d:Nat} (hd:d≠0):(mkRat n d).num=n/(Nat.gcd n.natAbs d:Nat):=by
 rw[←Rat.normalize_eq_mkRat hd,Rat.num_normalize]
theorem den_mkRat {n:Int} {d:Nat} (hd:d≠0):(mkRat n d).den=d/Nat.gcd n.natAbs d:=by
 rw[←Rat.normalize_eq_mkRat hd,Rat.den_normalize]
theorem Aq {n:Int} {d:Nat} {k:Nat} (hd:d≠0) (h1:sz n.natAbs≤k) (h2:sz d≤k):qW (mkRat n d)≤k:=by
 refine F7 ?_ ?_
 ·rw[num_mkRat hd]
  refine Nat.le_trans (eJ ?_) h1
  rw[Int.natAbs_ediv_of_dvd (Int.ofNat_dvd_left.2 (Nat.gcd_dvd_left _ _)),Int.natAbs_natCast]
  exact Nat.div_le_self _ _
 ·rw[den_mkRat hd]
  exact Nat.le_trans (FV _ _) h2
theorem Ht {a b:Rat}:qW (a+b)≤qW a+qW b+1:=by
 have ha:=dz a;have ha':=dq a;have hb:=dz b;have fV:=dq b
 rw[Rat.add_def']
 refine Aq (Nat.mul_ne_zero a.den_nz b.den_nz) ?_ ?_
 ·have h1:=fD a.num.natAbs b.den
  have h2:=fD b.num.natAbs a.den
  refine Nat.le_trans (eJ (Int.natAbs_add_le _ _)) (xy ?_ ?_)
  ·rw[Int.natAbs_mul,Int.natAbs_natCast];omega
  ·rw[Int.natAbs_mul,Int.natAbs_natCast];omega
 ·have:=fD a.den b.den
  omega
theorem P4 {a b:Rat}:qW (a*b)≤qW a+qW b:=by
 have ha:=dz a;have ha':=dq a;have hb:=dz b;have fV:=dq b
 rw[Rat.mul_def']
 refine Aq (Nat.mul_ne_zero a.den_nz b.den_nz) ?_ ?_
 ·have h1:=fD a.num.natAbs b.num.natAbs
  rw[Int.natAbs_mul];omega
 ·have:=fD a.den b.den
  omega
theorem Hu (a:Rat):qW (-a)=qW a:=by simp[qW]
theorem P5 {a b:Rat}:qW (a - b)≤qW a+qW b+1:=by
 rw[Rat.sub_eq_add_neg,←Hu b];exact Ht
theorem xL (q:Rat):q.den - 1+1=q.den:=by have:=q.den_pos;omega
theorem um (n:Nat) (h:n≠0):1≤sz n:=Lh h
variable {M:Nat}
theorem vj (ok:jq M) (q:Rat) (h:sz q.den≤M):af Tryz.prog 207 [.frac q] [] (.nat q.den) [] []:=by
 refine cj [] Tryz.func207 ?_
 intro W0 w0 ρ0 hE
 conv=>whnf
 refine⟨[],_,[],[],(Ao 1 aH),aD,an,ar, ?_⟩;conv=>whnf
 have:=ok.add (q.den - 1) 1 (by rw[xL];exact h)
 rw[xL]at this
 refine⟨[],_,[],[],(this),aD,an,ar, ?_⟩;conv=>whnf
 (repeat(first|(refine aB aF ?_;conv=>whnf)));exact aq.refl _
theorem oU {x:Int} {y:Nat} {q:Rat} (hx:x=q.num) (hy:y=q.den - 1):aq (.agg [.int x,.nat y]) (.frac q):=by
 subst hx hy
 exact eb (l:=bR q) rfl rfl (fun _ h=>by cases h)
theorem kT (ok:jq M) (n:Int) (d:Nat) (h1:sz n.natAbs≤M) (h2:sz d≤M) (hd:d≠0):
  af Tryz.prog 206 [.int n,.nat d] [] (.frac (mkRat n d)) [] []:=by
 have hb:=ok.pX
 have hg:Nat.gcd n.natAbs d≠0:=fun h=>hd (Nat.gcd_eq_zero_iff.1 h).2
 have hgs:sz (Nat.gcd n.natAbs d)≤M:=Nat.le_trans (Li hd) h2
 have hq:d/Nat.gcd n.natAbs d≠0:=Nat.div_ne_zero_iff.2 ⟨hg,Nat.le_of_dvd aa (Nat.gcd_dvd_right _ _)⟩
 refine cj [] Tryz.func206 ?_
 intro W0 w0 ρ0 hE
 conv=>whnf
 refine⟨[],_,[],[],(Hr n),aD,an,ar, ?_⟩;conv=>whnf
 refine⟨[],_,[],[],(ok.gcd n.natAbs d h1 h2),aD,an,ar, ?_⟩;conv=>whnf
 (repeat(first|(refine aB aF ?_;conv=>whnf)))
 refine⟨[],_,[],[],(Hr n),aD,an,ar, ?_⟩;conv=>whnf
 refine⟨[],_,[],[],(ok.div n.natAbs _ h1 hgs hg),aD,an,ar, ?_⟩;conv=>whnf
 (repeat(first|(refine aB aF ?_;conv=>whnf)))
 refine⟨[],_,[],[],(ok.div d _ h2 hgs hg),aD,an,ar, ?_⟩;conv=>whnf
 skip
 refine⟨[],_,[],[],(Ao 1 aH),aD,an,ar, ?_⟩;conv=>whnf
 refine⟨[],_,[],[],(ok.sub _ 1 (Nat.le_trans (FV _ _) h2) (Nat.pos_of_ne_zero hq)),aD,an,ar, ?_⟩;conv=>whnf
 (repeat(first|(refine aB aF ?_;conv=>whnf)))
 refine⟨[],_,[],[],(BS n),aD,an,ar, ?_⟩;conv=>whnf
 have e:signed (decide (n.sign<0)) (n.natAbs/Nat.gcd n.natAbs d)=(mkRat n d).num:=by
  rw[num_mkRat hd]
  have Ut:Nat.gcd n.natAbs d ∣ n.natAbs:=Nat.gcd_dvd_left _ _
  unfold signed
  by_cases hn:n<0
  ·rw[Int.sign_eq_neg_one_of_neg hn]
   simp only[show decide ((-1:Int)<0)=true from rfl,if_true]
   have:n= -(n.natAbs:Int):=aa
   rw[Int.natCast_ediv,←Int.neg_ediv_of_dvd (Int.natCast_dvd_natCast.2 Ut),←this]
  ·have:¬n.sign<0:=fun h=>hn (Int.sign_neg_iff.1 h)
   rw[decide_eq_false this]
   simp only[Bool.false_eq_true,if_false]
   have:n=(n.natAbs:Int):=aa
   rw[Int.natCast_ediv,←this]
 have hf:=gX (decide (n.sign<0)) (n.natAbs/Nat.gcd n.natAbs d)
 rw[e]at hf
 refine⟨[],_,[],[],(hf),aD,an,ar, ?_⟩;conv=>whnf
 (repeat(first|(refine aB aF ?_;conv=>whnf)))
 exact oU rfl (by rw[den_mkRat hd])
theorem BT (n:Int):af Tryz.prog 104 [.int n] [] (.frac n) [] []:=by
 refine cj [] Tryz.func104 ?_
 intro W0 w0 ρ0 hE
 conv=>whnf
 skip
 exact oU rfl rfl
theorem eG (n:Int) (h0: -9223372036854775808≤n) (h1:n<9223372036854775808):af Tryz.prog 18 [.val (.int .i64 n)] [] (.frac n) [] []:=by
 refine cj [] Tryz.func18 ?_
 intro W0 w0 ρ0 hE
 conv=>whnf
 refine⟨[],_,[],[],(Hs n h0 h1),aD,an,ar, ?_⟩;conv=>whnf
 refine⟨[],_,[],[],(BT n),aD,an,ar, ?_⟩;conv=>whnf
 skip;exact aq.refl _
theorem aeX (q:Rat):af Tryz.prog 171 [.frac q] [] (.int q.num) [] []:=by
 refine cj [] Tryz.func171 ?_
 intro W0 w0 ρ0 hE
 conv=>whnf
 skip
 exact eb (l:=dv q.num) rfl rfl (fun _ h=>by cases h)
theorem rU (q:Rat):af Tryz.prog 168 [.frac q] [] (.val (.bool (decide (q.den=1)))) [] []:=by
 refine cj [] Tryz.func168 ?_
 intro W0 w0 ρ0 hE
 conv=>whnf
 skip
 refine⟨_,kK aM me rfl (ak rfl) (ak rfl) rfl rfl rfl rfl (oT (q.den - 1) 0) mF, ?_⟩
 have:=q.den_pos
 rw[show decide (q.den - 1=0)=decide (q.den=1)from decide_eq_decide.2 aa]
 conv=>whnf
 skip;exact aq.refl _
theorem iU (q:Rat):af Tryz.prog 90 [.frac q] [] (.val (.int .i64 q.num.sign)) [] []:=by
 refine cj [] Tryz.func90 ?_
 intro W0 w0 ρ0 hE
 conv=>whnf
 skip
 refine⟨[],_,[],[],(BS q.num),aD,an,ar, ?_⟩;conv=>whnf
 skip;exact aq.refl _
theorem BU (q:Rat):af Tryz.prog 130 [.frac q] [] (.frac (-q)) [] []:=by
 refine cj [] Tryz.func130 ?_
 intro W0 w0 ρ0 hE
 conv=>whnf
 skip
 refine⟨[],_,[],[],(Ly q.num),aD,an,ar, ?_⟩;conv=>whnf
 (repeat(first|(refine aB aF ?_;conv=>whnf)))
 exact oU rfl rfl
theorem rV (ok:jq M) (q:Rat) (h:sz q.den≤M):af Tryz.prog 208 [.frac q] [] (.int q.den) [] []:=by
 refine cj [] Tryz.func208 ?_
 intro W0 w0 ρ0 hE
 conv=>whnf
 refine⟨[],_,[],[],(vj ok q h),aD,an,ar, ?_⟩;conv=>whnf
 refine⟨[],_,[],[],(gX false q.den),aD,an,ar, ?_⟩;conv=>whnf
 rw[show signed false q.den=(q.den:Int)from rfl]
 skip;exact aq.refl _
theorem nG {q:Rat} (h:q.den=1):q=(q.num:Rat):=Rat.ext rfl h
theorem F8 (ok:jq M) (a b:Rat) (h:qW a+qW b≤M):af Tryz.prog 81 [.frac a,.frac b] [] (.frac (a*b)) [] []:=by
 have ha:=dz a;have ha':=dq a;have hb:=dz b;have fV:=dq b
 have gen:af Tryz.prog 81 [.frac a,.frac b] [] (.frac (mkRat (a.num*b.num) (a.den*b.den))) [] []→af Tryz.prog 81 [.frac a,.frac b] [] (.frac (a*b)) [] []:=by rw[Rat.mul_def'];exact id
 have hw:a.den=1→b.den=1→((a.num*b.num:Int):Rat)=a*b:=by
  intro h1 h2
  rw[nG h1,nG h2,Rat.intCast_mul];rfl
 have oo:=kT ok (a.num*b.num) (a.den*b.den) (by rw[Int.natAbs_mul];have:=fD a.num.natAbs b.num.natAbs;omega) (by have:=fD a.den b.den;omega) (Nat.mul_ne_zero a.den_nz b.den_nz)
 rw[←Rat.mul_def']at oo
 have wa:=rU a
 have wb:=rU b
 have k1:=xJ ok a.num b.num aa
 have k2:=vj ok a aa
 have k3:=vj ok b aa
 have k4:=ok.mul a.den b.den aa
 have k5:=BT (a.num*b.num)
 refine cj [] Tryz.func81 ?_
 intro W0 w0 ρ0 hE
 conv=>whnf
 by_cases h1:a.den=1
 ·rw[decide_eq_true h1]at wa
  by_cases h2:b.den=1
  ·rw[decide_eq_true h2]at wb
   rw[hw h1 h2]at k5
   (repeat(first|(refine ah rfl rfl ?_;conv=>whnf)|(refine a8 (by assumption) ?_;conv=>whnf)|(refine aC iT ?_;conv=>whnf)));exact aq.refl _
  ·rw[decide_eq_false h2]at wb
   (repeat((first|refine ah rfl rfl ?_|refine ag rfl rfl ?_|refine aB aF ?_|refine a8 (by assumption) ?_|refine aC iT ?_);conv=>whnf));exact aq.refl _
 ·rw[decide_eq_false h1]at wa
  (repeat((first|refine ag rfl rfl ?_|refine aB aF ?_|refine a8 (by assumption) ?_|refine aC ik ?_);conv=>whnf));exact aq.refl _
theorem Hv (b:Rat):qW b⁻¹≤qW b:=by
 have h1:=dz b
 have h2:=dq b
 by_cases h:b.num=0
 ·rw[Rat.num_eq_zero]at h
  subst h
  rw[Rat.inv_zero];exact Nat.le_refl _
 ·refine F7 ?_ ?_
  ·rw[Rat.num_inv,Int.natAbs_mul,Int.natAbs_natCast]
   refine Nat.le_trans (eJ ?_) h2
   have:b.num.sign.natAbs=1:=by rw[Int.natAbs_sign];simp[h]
   rw[this,Nat.one_mul];exact Nat.le_refl _
  ·rw[Rat.den_inv,if_neg h];exact h1
theorem Ar {b:Rat} (h:b.num≠0):mkRat (signed (decide (b.num.sign<0)) b.den) b.num.natAbs=b⁻¹:=by
 have hd:b.num.natAbs≠0:=aa
 have hg:Nat.gcd (signed (decide (b.num.sign<0)) b.den).natAbs b.num.natAbs=1:=by rw[gj];exact b.reduced.symm
 refine Rat.ext ?_ ?_
 ·rw[num_mkRat hd,hg,Rat.num_inv]
  rcases Int.lt_or_gt_of_ne h with h'|h'
  ·rw[Int.sign_eq_neg_one_of_neg h'];simp[signed]
  ·rw[Int.sign_eq_one_of_pos h'];simp[signed]
 ·rw[den_mkRat hd,hg,Rat.den_inv,if_neg h];simp
theorem LB (ok:jq M) (a b:Rat) (hb:b≠0) (h:qW a+qW b≤M):af Tryz.prog 141 [.frac a,.frac b] [] (.cC [.frac (a/b),.val (.int .i64 0)]) [] []:=by
 have hn:b.num≠0:=fun h=>hb (Rat.num_eq_zero.1 h)
 have h1:=dz b
 have h2:=dq b
 have k1:=iU b
 have k2:=vj ok b aa
 have k3:=gX (decide (b.num.sign<0)) b.den
 have k4:=Hr b.num
 have k5:=kT ok (signed (decide (b.num.sign<0)) b.den) b.num.natAbs (by rw[gj];omega) aa aa
 rw[Ar hn]at k5
 have k6:=F8 ok a b⁻¹ (by have:=Hv b;omega)
 rw[←Rat.div_def]at k6
 have hs:(b.num.sign==0)=false:=by simpa using hn
 refine cj [] Tryz.func141 ?_
 intro W0 w0 ρ0 hE
 conv=>whnf
 refine⟨[],_,[],[],(k1),aD,an,ar, ?_⟩;conv=>whnf
 rw[hs]
 (repeat(first|(refine ag rfl rfl ?_;conv=>whnf)|(refine aB aF ?_;conv=>whnf)|(refine a8 (by assumption) ?_;conv=>whnf)));exact aq.refl _
theorem P6 (a:Rat):af Tryz.prog 141 [.frac a,.frac 0] [] (.cC [.frac 0,.val (.int .i64 5)]) [] []:=by
 have k1:=iU 0
 refine cj [] Tryz.func141 ?_
 intro W0 w0 ρ0 hE
 conv=>whnf
 (repeat(first|(refine ah rfl rfl ?_;conv=>whnf)|(refine a8 (by assumption) ?_;conv=>whnf)));exact aq.refl _
theorem aaW {n:Int} (h0: -9223372036854775808≤n) (h1:n<9223372036854775808):sz n.natAbs≤64:=dV.2 aa
theorem vY {n:Int} {k:Nat} (h:sz n.natAbs≤k) (hk:1≤k):qW (n:Rat)≤k:=F7 h hk
theorem Uu (ok:jq M) (n d:Int) (hM:qW (n:Rat)+qW (d:Rat)≤M) (h0: -9223372036854775808≤n) (h1:n<9223372036854775808) (h2: -9223372036854775808≤d) (h3:d<9223372036854775808) (hd:d≠0):
  af Tryz.prog 150 [.val (.int .i64 n),.val (.int .i64 d)] [] (.cC [.frac ((n:Rat)/(d:Rat)),.val (.int .i64 0)]) [] []:=by
 have k1:=eG n h0 h1
 have k2:=eG d h2 h3
 have k3:=LB ok (n:Rat) (d:Rat) (fun h=>hd (by simpa using h)) hM
 refine cj [] Tryz.func150 ?_
 intro W0 w0 ρ0 hE
 conv=>whnf
 (repeat(first|(refine a8 (by assumption) ?_;conv=>whnf)));exact aq.refl _
end Go.Proofs.YtfpagioknjjacaaGreatDoor
namespace Go.Proofs.YtfpagioknjjacaaGreatDoor
open Go.Sx
set_option linter.unusedSimpArgs false
set_option linter.unusedVariables false
set_option maxRecDepth 100000
theorem Hw (x y:Nat) (hx:x<18446744073709551616) (hy:y<18446744073709551616):
  af Tryz.prog 342 [.val (.int .u64 x),.val (.int .u64 y),.val (.int .u64 0)] [] (.cC [.val (.int .u64 ((x+y) % 18446744073709551616:Nat)),.val (.int .u64 ((x+y)/18446744073709551616:Nat))]) [] []:=by
 refine .inr fun ρ w z hz hp=> ?_
 simp only[au,aG]at hz
 obtain⟨_,_,rfl,⟨rfl,_⟩,_,_,rfl,⟨rfl,_⟩,_,_,rfl,⟨rfl,_⟩,rfl⟩:=hz
 refine⟨.tuple #[.int .u64 ((x+y) % 18446744073709551616:Nat),.int .u64 ((x+y)/18446744073709551616:Nat)],ρ,w, ?_,.pure ?_⟩
 ·show(callFunc 342 #[.int .u64 x,.int .u64 y,.int .u64 0]).run Tryz.prog w=_
  rw[run_callFunc_extern Tryz.func342 aF aF aF (e:=add64Entry) aF,run_add64 x y 0 aa aa aa aa]
  simp only[Result.andThen]
  congr 5<;>omega
 ·simp only[Has,au,aG]
  exact⟨_,⟨_,_,rfl,⟨rfl,rfl⟩,_,_,rfl,⟨rfl,rfl⟩,rfl⟩,rfl⟩
theorem LC (a b:Nat) (ha:a<18446744073709551616) (hb:b<18446744073709551616):
  af Tryz.prog 182 [.nat a,.nat b] [] (.val (.int .i64 ((a:Int) - b).sign)) [] []:=by
 refine cj [] Tryz.func182 ?_
 intro W0 w0 ρ0 hE
 conv=>whnf
 rw[de,decide_eq_true ha]
 refine⟨fun _=> ?_,fun h=>by cases h⟩
 conv=>whnf
 refine⟨fun _=> ?_,fun h=>by cases h⟩
 conv=>whnf
 refine⟨fun _=> ?_,fun h=>by cases h⟩
 conv=>whnf
 rw[de,decide_eq_true hb]
 refine⟨.val (.bool true),[],[],[],lO rfl (ak rfl) (fun _=>ak rfl) (fun hb=>by cases hb) rfl (c2:=.any),aD,an,ar, ?_⟩
 conv=>whnf
 refine⟨fun _=> ?_,fun h=>by cases h⟩
 conv=>whnf
 rw[ca ha,ca hb]
 refine⟨fun h=> ?_,fun h=> ?_⟩
 ·have hz:((a:Int) - b).sign= -1:=Int.sign_eq_neg_one_of_neg (by have:=of_decide_eq_true h;omega)
  conv=>whnf
  rw[hz]
  exact aq.refl _
 ·have h1:=of_decide_eq_false h
  conv=>whnf
  rw[ca ha,ca hb]
  refine⟨fun h=> ?_,fun h=> ?_⟩
  ·have hz:((a:Int) - b).sign=1:=Int.sign_eq_one_of_pos (by have:=of_decide_eq_true h;omega)
   conv=>whnf
   rw[hz]
   exact aq.refl _
  ·have hz:((a:Int) - b).sign=0:=by rw[Int.sign_eq_zero_iff_zero];have:=of_decide_eq_false h;omega
   conv=>whnf
   rw[hz]
   exact aq.refl _
theorem rW {x:Int} {n:Nat} {s:ByteArray} (hx:x=n) (hs:s=ByteArray.empty) (hn:n<18446744073709551616):∀ρ y,aG ρ (.agg [.val (.int .u64 x),.val (.string s)]) y→aG ρ (.nat n) y:=
 Jh (l:=bH n) (by rw[kL hn,hx,hs];rfl) rfl (fun _ h=>by cases h)
theorem xM {n:Nat} (hn:n<18446744073709551616):aq (.agg [.val (.int .u64 n),.val (.string .empty)]) (.nat n):=
 eb (l:=bH n) (by rw[kL hn];rfl) rfl (fun _ h=>by cases h)
theorem aeY (a b:Nat) (h:a+b<18446744073709551616):
  af Tryz.prog 297 [.nat a,.nat b] [] (.nat (a+b)) [] []:=by
 have ha:a<18446744073709551616:=aa
 have hb:b<18446744073709551616:=aa
 refine cj [] Tryz.func297 ?_
 intro W0 w0 ρ0 hE
 conv=>whnf
 rw[de,decide_eq_true ha]
 refine⟨fun _=> ?_,fun h=>by cases h⟩
 conv=>whnf
 refine⟨fun _=> ?_,fun h=>by cases h⟩
 conv=>whnf
 refine⟨fun _=> ?_,fun h=>by cases h⟩
 conv=>whnf
 rw[de,decide_eq_true hb]
 refine⟨.val (.bool true),[],[],[],lO rfl (ak rfl) (fun _=>ak rfl) (fun hb=>by cases hb) rfl (c2:=.any),aD,an,ar, ?_⟩
 conv=>whnf
 refine⟨fun _=> ?_,fun h=>by cases h⟩
 conv=>whnf
 rw[ca ha,ca hb]
 refine⟨[],_,[],[],Hw a b ha hb,aD,an,ar, ?_⟩
 rw[Nat.mod_eq_of_lt h,Nat.div_eq_of_lt h]
 conv=>whnf
 refine⟨fun _=> ?_,fun h=>by cases h⟩
 conv=>whnf
 exact xM h
theorem aeZ (a b:Nat) (ha:a<18446744073709551616) (h:b≤a):
  af Tryz.prog 296 [.nat a,.nat b] [] (.cC [.nat (a - b),.val (.bool true)]) [] []:=by
 have hb:b<18446744073709551616:=aa
 refine cj [] Tryz.func296 ?_
 intro W0 w0 ρ0 hE
 conv=>whnf
 refine⟨[],_,[],[],LC a b ha hb,aD,an,ar, ?_⟩
 have hs:decide (((a:Int) - b).sign<0)=false:=by
  rw[decide_eq_false_iff_not,Int.not_lt]
  exact Int.sign_nonneg_iff.2 aa
 conv=>whnf
 rw[hs]
 refine⟨fun h=>(by cases h),fun _=> ?_⟩
 conv=>whnf
 rw[de,decide_eq_true ha]
 refine⟨fun _=> ?_,fun h=>by cases h⟩
 conv=>whnf
 refine DG (rW ?_ rfl aa) rfl (fun _ _ h=>h) rfl
 rw[ca ha,ca hb,wrap_u64 aa aa]
 omega
theorem ae0 (a b:Nat) (ha:a<18446744073709551616) (hb:b<18446744073709551616) (h0:b≠0):
  af Tryz.prog 280 [.nat a,.nat b] [] (.cC [.nat (a/b),.nat (a % b),.val (.bool true)]) [] []:=by
 refine cj [] Tryz.func280 ?_
 intro W0 w0 ρ0 hE
 conv=>whnf
 refine⟨[],_,[],[],vX b,aD,an,ar, ?_⟩
 rw[decide_eq_false h0]
 conv=>whnf
 refine⟨fun h=>(by cases h),fun _=> ?_⟩
 conv=>whnf
 refine⟨[],_,[],[],LC a b ha hb,aD,an,ar, ?_⟩
 conv=>whnf
 refine⟨fun h=> ?_,fun h=> ?_⟩
 ·have aI:a<b:=by
   have h:=of_decide_eq_true h
   have:=Int.sign_neg_iff.1 h
   omega
  conv=>whnf
  refine⟨aF, ?_⟩
  conv=>whnf
  rw[Nat.div_eq_of_lt aI,Nat.mod_eq_of_lt aI]
  exact aq.refl _
 ·have hle:b≤a:=by
   have h:=of_decide_eq_false h
   have:=Int.sign_nonneg_iff.1 (Int.not_lt.1 h)
   omega
  conv=>whnf
  rw[de,decide_eq_true ha]
  refine⟨fun _=> ?_,fun h=>by cases h⟩
  conv=>whnf
  rw[ca hb]
  refine⟨aa, ?_⟩
  conv=>whnf
  refine⟨by rw[ca hb];omega, ?_⟩
  conv=>whnf
  refine⟨aF, ?_⟩
  conv=>whnf
  have hd:a/b≤a:=Nat.div_le_self a b
  have hm:a % b≤a:=Nat.mod_le a b
  refine vg (rW ?_ rfl aa) rfl (rW ?_ rfl aa) rfl (fun _ _ h=>h) rfl
  ·rw[ca ha,show(a:Int).tdiv (b:Int)=((a/b:Nat):Int)from rfl,wrap_u64 (Int.natCast_nonneg _) (by exact Int.ofNat_lt.2 (Nat.lt_of_le_of_lt hd ha))]
  ·rw[ca ha,ca hb];rfl
theorem LD (a:Nat):af Tryz.prog 280 [.nat a,.nat 0] [] (.cC [.nat 0,.nat 0,.val (.bool false)]) [] []:=by
 refine cj [] Tryz.func280 ?_
 intro W0 w0 ρ0 hE
 conv=>whnf
 refine⟨[],_,[],[],vX 0,aD,an,ar, ?_⟩
 conv=>whnf
 refine⟨fun _=> ?_,fun h=>by cases h⟩
 conv=>whnf
 exact aq.refl _
set_option maxHeartbeats 2000000
theorem LF (xs:List Int) (n:Nat) (hn:n≤xs.length) (hl:xs.length<4611686018427387904) (K:Nat) (wr:Bool):
  af Tryz.prog 315 [.aK K 1 0 n] [(K,⟨23,wr,.ints .u32 xs⟩)] (.aK K 1 0 (gH xs n)) [] []:=by
 refine af.rL ?_
 refine gw (Z:=[]) aM bB Tryz.func315 rfl aF (args:=[.aK 0 1 0 n]) (fk:=[(0,⟨23,false,.ints .u32 xs⟩)]) (c:=.aK 0 1 0 (gH xs n)) (new:=[]) (upd:=[]) ?_ rfl (fun _=>K) ?_ ?_
 ·exact⟨rfl,rfl,rfl,rfl,rfl,(fun _ _ h=>by cases h),(fun k b h hw=>by simp at h;rw[h.2]at hw;cases hw),rfl,rfl,rfl,rfl⟩
 ·exact⟨(fun q q' b b' h h' a7=>by simp at h h';omega),(fun _ _ h=>by simp[ax]at h),(fun _ _ h=>by simp[ax]at h)⟩
 intro W0 w0 ρ0 hE
 conv=>whnf
 refine az hE (fun k=>k) [0] [0] (fun m fr hp=>m≤n∧gH xs m=gH xs n∧fr=[(0,.aK 0 1 0 m)]∧hp=[(0,⟨23,false,.ints .u32 xs⟩)]) n ?_ ?_ ?_
 ·kernel_rfl
 ·exact⟨aa,rfl,rfl,rfl⟩
 rintro m _ _ ⟨hm,hc,rfl,rfl⟩
 conv=>whnf
 refine⟨fun h=> ?_,fun h=> ?_⟩
 ·have h0:0<m:=by have:=of_decide_eq_true h;omega
  obtain⟨m,rfl⟩:∃k,m=k+1:=⟨m - 1,aa⟩
  have hd:decide (((m+1:Nat):Int)>0)=true:=decide_eq_true aa
  have hw:IntKind.i64.wrap (((m+1:Nat):Int) - 1)=(m:Int):=by rw[wrap_i64 aa aa];omega
  rw[hd]
  conv=>whnf
  refine⟨fun _=> ?_,fun h=>by cases h⟩
  conv=>whnf
  refine⟨fun _=> ?_,fun h=>by cases h⟩
  conv=>whnf
  refine⟨fun _=> ?_,fun h=>by cases h⟩
  conv=>whnf
  refine⟨fun _=> ?_,fun h=>by cases h⟩
  conv=>whnf
  rw[hw]
  refine⟨⟨aa,aa⟩, ?_⟩
  conv=>whnf
  refine⟨fun _=> ?_,fun h=>by cases h⟩
  conv=>whnf
  refine⟨aa, ?_⟩
  conv=>whnf
  rw[show 0+(m:Int).toNat=m from by omega]
  refine⟨fun _=> ?_,fun h=>by cases h⟩
  conv=>whnf
  refine⟨.val (.bool (xs.getD m 0==0)),[],[],[],lO rfl (ak rfl) (fun _=>ak rfl) (fun hb=>by cases hb) rfl (c2:=.any),aD,an,ar, ?_⟩
  conv=>whnf
  refine⟨fun h=> ?_,fun h=> ?_⟩
  ·have hx:xs.getD m 0=0:=by simpa using h
   conv=>whnf
   rw[hw]
   refine⟨aa, ?_⟩
   conv=>whnf
   rw[show((m:Int) - 0).toNat=m from by omega]
   refine⟨m,fun k=>k,[0],[0],aa,aF,aa, ?_,rfl,rfl⟩
   rw[←hc,gH,if_pos hx]
  ·have hx:¬xs.getD m 0=0:=by simpa using h
   conv=>whnf
   rw[←hc,gH,if_neg hx]
   exact⟨aq.refl _,(fun _ _ h=>by cases h),(fun _ _ h=>by cases h)⟩
 ·have h0:m=0:=by have:=of_decide_eq_false h;omega
  subst h0
  rw[show decide (((0:Nat):Int)>0)=false from rfl]
  conv=>whnf
  iterate 6
   refine⟨fun h=>(by cases h),fun _=> ?_⟩
   conv=>whnf
  refine⟨.val (.bool false),[],[],[],lO rfl (ak rfl) (fun hb=>by cases hb) (fun _=>ak rfl) rfl (c1:=.any),aD,an,ar, ?_⟩
  conv=>whnf
  refine⟨fun h=>(by cases h),fun _=> ?_⟩
  conv=>whnf
  rw[←hc]
  exact⟨aq.refl _,(fun _ _ h=>by cases h),(fun _ _ h=>by cases h)⟩
theorem LG (xs:List Int) (hx:fv xs) (i:Nat) (hi:i<2):
  Fw .u64 (ay xs i) (jH .u64 (IntKind.u64.wrap (xs.getD i 0)) ((32*i:Nat):Int))=ay xs (i+1):=by
 obtain⟨a0,a1⟩:=hx 0
 obtain⟨b0,b1⟩:=hx 1
 have hc:i=0∨i=1:=aa
 rcases hc with rfl|rfl
 ·obtain⟨w,hw⟩:=Int.eq_ofNat_of_zero_le a0
  have e:jH .u64 (IntKind.u64.wrap (xs.getD 0 0)) ((32*0:Nat):Int)=(w:Int):=by
   rw[hw,wrap_u64 aa aa]
   show IntKind.u64.wrap ((w:Int)*1)=w
   rw[Int.mul_one,wrap_u64 aa aa]
  rw[e,show ay xs 0=((0:Nat):Int)from rfl,vW aa aa,Nat.zero_or]
  simp only[ay,hw,Int.pow_zero,Int.mul_one,Int.zero_add]
 ·obtain⟨w,hw⟩:=Int.eq_ofNat_of_zero_le b0
  obtain⟨v,hv⟩:=Int.eq_ofNat_of_zero_le a0
  have e:jH .u64 (IntKind.u64.wrap (xs.getD 1 0)) ((32*1:Nat):Int)=((4294967296*w:Nat):Int):=by
   rw[hw,wrap_u64 aa aa]
   show IntKind.u64.wrap ((w:Int)*4294967296)=_
   rw[wrap_u64 aa aa]
   omega
  have e1:ay xs 1=(v:Int):=by simp only[ay,hv,Int.pow_zero,Int.mul_one,Int.zero_add]
  have e2:ay xs (1+1)=((v+w*4294967296:Nat):Int):=by
   simp only[ay,hv,hw,Int.pow_zero,Int.mul_one,Int.zero_add,Int.pow_succ,Int.one_mul];omega
  rw[e,e1,e2,vW aa aa,Nat.or_comm]
  have:=Nat.two_pow_add_eq_or_of_lt (i:=32) (b:=v) aa w
  rw[show 4294967296*w=2^32*w from rfl,←this]
  omega
def eY (xs:List Int):List Int:=xs.flatMap fun x=>(bC x.toNat).map fun b=>((b.toNat:Nat):Int)
theorem xN (xs:List Int):(eY xs).length=4*xs.length:=by
 induction xs with
 |nil=>rfl
 |cons x xs ih=>
  rw[eY,List.flatMap_cons,List.length_append,←eY,ih]
  simp[bC];omega
theorem DN {xs:List Int} {i:Nat} (h:i<xs.length):eY (xs.take (i+1))=eY (xs.take i)++eY [xs.getD i 0]:=by
 rw[List.take_add_one,eY,List.flatMap_append]
 have:xs[i]? =some (xs.getD i 0):=by rw[List.getD_eq_getElem?_getD,List.getElem?_eq_getElem h];rfl
 rw[this];rfl
theorem P7 (n:Nat):IntKind.u8.wrap (n:Int)=((n % 256:Nat):Int):=by simp[IntKind.wrap,IntKind.bits,IntKind.signed]
theorem F9 {x:Int} (h0:0≤x):eY [x]=[IntKind.u8.wrap x,IntKind.u8.wrap (jz .u32 x 8),IntKind.u8.wrap (jz .u32 x 16),IntKind.u8.wrap (jz .u32 x 24)]:=by
 obtain⟨n,rfl⟩:=Int.eq_ofNat_of_zero_le h0
 have s8:jz .u32 (n:Int) 8=((n/256:Nat):Int):=gS .u32 (s:=8) aH
 have s16:jz .u32 (n:Int) 16=((n/65536:Nat):Int):=gS .u32 (s:=16) aH
 have s24:jz .u32 (n:Int) 24=((n/16777216:Nat):Int):=gS .u32 (s:=24) aH
 rw[s8,s16,s24,P7,P7,P7,P7]
 simp only[eY,bC,List.flatMap_cons,List.flatMap_nil,List.map_cons,List.map_nil,List.append_nil,Int.toNat_natCast,UInt8.toNat_ofNat']
theorem DO {xs:List Int} (h:fv xs):(eY xs).map (fun v=>UInt8.ofNat v.toNat)=(xs.map Int.toNat).flatMap bC:=by
 induction xs with
 |nil=>rfl
 |cons x xs ih=>
  have hw:fv xs:=fun i=>by have:=h (i+1);simpa using this
  rw[eY,List.flatMap_cons,List.map_append,←eY,ih hw,List.map_cons,List.flatMap_cons]
  congr 1
  rw[List.map_map]
  have:((fun v:Int=>UInt8.ofNat v.toNat)∘fun b:UInt8=>((b.toNat:Nat):Int))=id:=by funext b;simp
  rw[this,List.map_id]
theorem aaX {xs:List Int} {k:Nat} (hx:fv xs) (hk:k≤xs.length) (h2:2<k) (ht:xs.getD (k - 1) 0≠0):
  bH (ay xs k).toNat=[.int .u64 0,.string ⟨((eY (xs.take k)).map (fun v=>UInt8.ofNat v.toNat)).toArray⟩]:=by
 have h1:=xD k xs hx hk (.inr ht)
 obtain⟨j,rfl⟩:∃j,k=j+1:=⟨k - 1,aa⟩
 have Kf:=rO hx (k:=j) (by simpa using ht)
 have hp:(4294967296:Int)^2≤4294967296^j:=by
  have:(4294967296:Nat)^2≤4294967296^j:=Nat.pow_le_pow_right aH aa
  rw[←cM,←cM];exact Int.ofNat_le.2 this
 have qx:¬(ay xs (j+1)).toNat<18446744073709551616:=by
  have:(4294967296:Int)^2=18446744073709551616:=aH
  omega
 have hw:fv (xs.take (j+1)):=fun i=>by
  rw[getD_take]
  split
  ·exact hx i
  ·decide
 simp only[bH,low,pX,qx,if_false]
 rw[DO hw,←h1,ae,List.map_map]
 have:(Int.toNat∘Int.ofNat)=id:=by funext n;rfl
 rw[this,List.map_id]
theorem uo (xs:List Int) (n:Nat) (hn:n≤xs.length) (hl:xs.length<1099511627776) (hx:fv xs) (K:Nat) (wr:Bool):
  af Tryz.prog 299 [.aK K 1 0 n] [(K,⟨23,wr,.ints .u32 xs⟩)] (.nat (ay xs n).toNat) [] []:=by
 refine af.rL ?_
 refine gw (Z:=[]) aM bB Tryz.func299 rfl aF (args:=[.aK 0 1 0 n]) (fk:=[(0,⟨23,false,.ints .u32 xs⟩)]) (c:=.nat (ay xs n).toNat) (new:=[]) (upd:=[]) ?_ rfl (fun _=>K) ?_ ?_
 ·exact⟨rfl,rfl,rfl,rfl,rfl,(fun _ _ h=>by cases h),(fun k b h hw=>by simp at h;rw[h.2]at hw;cases hw),rfl,rfl,rfl,rfl⟩
 ·exact⟨(fun q q' b b' h h' a7=>by simp at h h';omega),(fun _ _ h=>by simp[ax]at h),(fun _ _ h=>by simp[ax]at h)⟩
 intro W0 w0 ρ0 hE
 conv=>whnf
 refine⟨_,_,[],[],LF xs n hn aa 0 false,dD rfl,an,ar, ?_⟩
 have hle:=BQ xs n
 have qy:=xC xs n
 rw[←rN xs n]
 generalize gH xs n=k at*
 conv=>whnf
 by_cases hk:k≤2
 ·have t1:decide ((k:Int)≤2)=true:=by simp;omega
  rw[t1]
  (repeat(first|(refine ah rfl rfl ?_;conv=>whnf)))
  refine az hE (fun k=>k) [2,3,14,15,16] [0,2] (fun m fr hp=>∃i,m=k - i∧i≤k∧fr=[(2,.ptr 2 0 0 0),(3,.val (.int .u64 (ay xs i))),(14,.aK 0 1 0 k),(15,.val (.int .i64 k)),(16,.val (.int .i64 (i:Nat)))]∧hp=[(0,⟨23,false,.ints .u32 xs⟩),(2,⟨46,true,.one [.nat 0]⟩)]) k ?_ ?_ ?_
  ·kernel_rfl
  ·exact⟨0,rfl,aa,rfl,rfl⟩
  rintro m _ _ ⟨i,rfl,hi,rfl,rfl⟩
  conv=>whnf
  refine⟨fun h=> ?_,fun h=> ?_⟩
  ·have lB:i<k:=by have:=of_decide_eq_true h;omega
   conv=>whnf
   have hw:IntKind.i64.wrap (32*(i:Int))=((32*i:Nat):Int):=by rw[wrap_i64 aa aa];omega
   have Uv:IntKind.i64.wrap ((i:Int)+1)=((i+1:Nat):Int):=by rw[wrap_i64 aa aa];omega
   (repeat(first|(refine And.intro Q5 ?_;conv=>whnf)|(rw[hw];conv=>whnf)))
   rw[show 0+(i:Int).toNat=i from aa,Uv,LG xs hx i aa]
   exact⟨k - (i+1),fun k=>k,[2,3,14,15,16],[0,2],aa,aF,i+1,rfl,aa,rfl,rfl⟩
  ·have lB:i=k:=by have:=of_decide_eq_false h;omega
   subst lB
   conv=>whnf
   have hb:=fY hx i
   have h0:=bQ hx i
   have fV:(4294967296:Int)^i≤18446744073709551616:=by
    have:i=0∨i=1∨i=2:=aa
    rcases this with rfl|rfl|rfl<;>decide
   obtain⟨v,hv⟩:=Int.eq_ofNat_of_zero_le h0
   rw[hv]at hb ⊢
   exact⟨xM aa,(fun _ _ h=>by cases h),(fun _ _ h=>by cases h)⟩
 ·have t1:decide ((k:Int)≤2)=false:=by simp;omega
  have e1:IntKind.i64.wrap (4*(k:Int))=((4*k:Nat):Int):=by rw[wrap_i64 aa aa];omega
  (repeat((first|refine ag rfl rfl ?_|refine And.intro Q5 ?_|rw[t1]|rw[e1]);conv=>whnf))
  refine az hE (fun k=>k) [2,6,35,36,37] [0,2,34] (fun m fr hp=>∃i,m=k - i∧i≤k∧fr=[(2,.ptr 2 0 0 0),(6,.aK 34 1 0 (4*i)),(35,.aK 0 1 0 k),(36,.val (.int .i64 k)),(37,.val (.int .i64 (i:Nat)))]∧hp=[(0,⟨23,false,.ints .u32 xs⟩),(2,⟨46,true,.one [.nat 0]⟩),(34,⟨5,true,.ints .u8 (eY (xs.take i))⟩)]) k ?_ ?_ ?_
  ·kernel_rfl
  ·exact⟨0,rfl,aa,rfl,rfl⟩
  rintro m _ _ ⟨i,rfl,hi,rfl,rfl⟩
  conv=>whnf
  refine⟨fun h=> ?_,fun h=> ?_⟩
  ·have lB:i<k:=by have:=of_decide_eq_true h;omega
   conv=>whnf
   have hb:=hx i
   have hlen:(eY (xs.take i)).length=4*i:=by rw[xN,List.length_take];omega
   have Uv:IntKind.i64.wrap ((i:Int)+1)=((i+1:Nat):Int):=by rw[wrap_i64 aa aa];omega
   have hs:=DN (xs:=xs) (i:=i) aa
   rw[F9 hb.1]at hs
   (repeat(first|(refine And.intro Q5 ?_;conv=>whnf)|(rw[show 0+(i:Int).toNat=i from by omega];conv=>whnf)))
   (repeat(first|(rw[Uv];conv=>whnf)))
   refine⟨k - (i+1),dc [(54,34)],[2,6,35,36,37],[0,2,54],aa,aF,i+1,rfl,aa,rfl, ?_⟩
   rw[hs]
   conv=>lhs;whnf
   rw[←hlen,List.take_length]
   rfl
  ·have lB:i=k:=by have:=of_decide_eq_false h;omega
   subst lB
   conv=>whnf
   have hlen:(eY (xs.take i)).length=4*i:=by rw[xN,List.length_take];omega
   refine⟨_,[(34,⟨5,true,.ints .u8 (eY (xs.take i))⟩)],[],Dt (P:=Tryz.prog) (i:=0) (n:=4*i) rfl (ak rfl) (aM.get (t:=61) rfl) rfl (aM.get (t:=5) rfl) rfl (aM.get (t:=9) rfl) rfl (List.mem_cons_self ..) aa,dD rfl,an, ?_⟩
   rw[List.drop_zero,←hlen,List.take_length]
   conv=>whnf
   skip
   refine⟨eb (l:=bH (ay xs i).toNat) ?_ rfl (fun _ h=>by cases h),(fun _ _ h=>by cases h),(fun _ _ h=>by cases h)⟩
   rw[aaX hx aa aa (qy.resolve_left aa)]
   rfl
theorem ae1 (n:Nat):n&&& 4294967295=n % 4294967296:=by
 have:=Nat.and_two_pow_sub_one_eq_mod n 32
 simpa using this
theorem BV {n:Nat} (h:n<18446744073709551616):Bo .u64 (n:Int) 4294967295=((n % 4294967296:Nat):Int):=by
 have:=Lg (x:=n) (y:=4294967295) h aH
 rw[ae1]at this
 exact this
theorem fw (n:Nat):jz .u64 (n:Int) 32=((n/4294967296:Nat):Int):=gS .u64 (s:=32) aH
theorem aaY (x y:Nat):
  x/4294967296*(y/4294967296)+(x/4294967296*(y % 4294967296)+x % 4294967296*(y % 4294967296)/4294967296)/4294967296+((x/4294967296*(y % 4294967296)+x % 4294967296*(y % 4294967296)/4294967296) % 4294967296+x % 4294967296*(y/4294967296))/4294967296=x*y/18446744073709551616:=by
 have e1:x*y=(x/4294967296*(y/4294967296))*18446744073709551616+(x/4294967296*(y % 4294967296))*4294967296+(x % 4294967296*(y/4294967296))*4294967296+x % 4294967296*(y % 4294967296):=by
  have pZ:x=4294967296*(x/4294967296)+x % 4294967296:=aa
  have FL:y=4294967296*(y/4294967296)+y % 4294967296:=aa
  generalize x/4294967296=a at*
  generalize x % 4294967296=b at*
  generalize y/4294967296=c at*
  generalize y % 4294967296=d at*
  rw[pZ,FL,Nat.add_mul,Nat.mul_add,Nat.mul_add,Nat.mul_mul_mul_comm,Nat.mul_assoc 4294967296 a d,Nat.mul_left_comm b 4294967296 c]
  omega
 generalize x/4294967296*(y/4294967296)=A at*
 generalize x/4294967296*(y % 4294967296)=B at*
 generalize x % 4294967296*(y/4294967296)=C at*
 generalize x % 4294967296*(y % 4294967296)=D at*
 omega
theorem P8 (x y:Nat) (hx:x<18446744073709551616) (hy:y<18446744073709551616):
  af Tryz.prog 298 [.val (.int .u64 x),.val (.int .u64 y)] [] (.cC [.val (.int .u64 (x*y/18446744073709551616:Nat)),.val (.int .u64 (x*y % 18446744073709551616:Nat))]) [] []:=by
 refine cj [] Tryz.func298 ?_
 intro W0 w0 ρ0 hE
 conv=>whnf
 iterate 5
  refine⟨aH, ?_⟩
  conv=>whnf
 have hh:=aaY x y
 have elo:IntKind.u64.wrap ((x:Int)*y)=((x*y % 18446744073709551616:Nat):Int):=by rw[pA,←Int.natCast_mul];omega
 rw[elo,fw x,fw y,BV hx,BV hy]
 have ba:x/4294967296≤4294967295:=aa
 have bb:x % 4294967296≤4294967295:=aa
 have bc:y/4294967296≤4294967295:=aa
 have bd:y % 4294967296≤4294967295:=aa
 generalize x/4294967296=a at*
 generalize x % 4294967296=b at*
 generalize y/4294967296=c at*
 generalize y % 4294967296=d at*
 have pac:=Nat.mul_le_mul ba bc
 have pad:=Nat.mul_le_mul ba bd
 have pbc:=Nat.mul_le_mul bb bc
 have pbd:=Nat.mul_le_mul bb bd
 have wu:∀{n:Nat},n<18446744073709551616→IntKind.u64.wrap (n:Int)=n:=fun h=>wrap_u64 aa aa
 rw[←Int.natCast_mul,←Int.natCast_mul,←Int.natCast_mul,←Int.natCast_mul,wu (n:=a*c) aa,wu (n:=a*d) aa,wu (n:=b*d) aa,wu (n:=b*c) aa,fw (b*d),←Int.natCast_add,wu (n:=a*d+b*d/4294967296) aa,fw,BV aa,←Int.natCast_add,←Int.natCast_add,wu (n:=a*c+(a*d+b*d/4294967296)/4294967296) aa,wu (n:=(a*d+b*d/4294967296) % 4294967296+b*c) aa,fw,←Int.natCast_add,hh,wu aa]
 exact aq.refl _
set_option maxHeartbeats 4000000
theorem dW {n:Nat} (h:n<18446744073709551616):IntKind.u64.wrap (n:Int)=n:=wrap_u64 aa aa
theorem oq {n:Nat} (h:n<4294967296):IntKind.u32.wrap (n:Int)=n:=wrap_u32 aa aa
theorem oV (n:Nat):IntKind.u32.wrap (n:Int)=((n % 4294967296:Nat):Int):=by rw[wrap_u32'];omega
theorem lZ (x y c:Nat) (hx:x<4294967296) (hy:y<4294967296) (hc:c≤1):
  af Tryz.prog 343 [.val (.int .u32 x),.val (.int .u32 y),.val (.int .u32 c)] [] (.cC [.val (.int .u32 ((x+y+c) % 4294967296:Nat)),.val (.int .u32 ((x+y+c)/4294967296:Nat))]) [] []:=by
 have e1:IntKind.u64.wrap (IntKind.u64.wrap (IntKind.u64.wrap (x:Int)+IntKind.u64.wrap (y:Int))+IntKind.u64.wrap (c:Int))=((x+y+c:Nat):Int):=by
  rw[dW (n:=x) aa,dW (n:=y) aa,dW (n:=c) aa,←Int.natCast_add,dW aa,←Int.natCast_add,dW aa]
 have e2:IntKind.u32.wrap (jz .u64 ((x+y+c:Nat):Int) 32)=(((x+y+c)/4294967296:Nat):Int):=by rw[fw,oq aa]
 refine cj [] Tryz.func343 ?_
 intro W0 w0 ρ0 hE
 conv=>whnf
 (repeat(first|(refine And.intro Q5 ?_;conv=>whnf)))
 rw[e1,e2,oV]
 exact aq.refl _
theorem vZ {x y:Nat} (hx:x<4294967296) (hy:y<4294967296):Fw .u32 x y=((x|||y:Nat):Int):=by
 have:x|||y<4294967296:=Nat.or_lt_two_pow (n:=32) hx hy
 have e1:(BitVec.ofInt IntKind.u32.bits (x:Int)).toNat=x:=by simp[BitVec.toNat_ofInt,IntKind.bits];omega
 have e2:(BitVec.ofInt IntKind.u32.bits (y:Int)).toNat=y:=by simp[BitVec.toNat_ofInt,IntKind.bits];omega
 rw[Fw,BitVec.toNat_or,e1,e2]
 exact oq this
theorem xO {x y:Nat} (hx:x<4294967296) (hy:y<4294967296):zk .u32 x y=((x^^^y:Nat):Int):=by
 have:x^^^y<4294967296:=Nat.xor_lt_two_pow (n:=32) hx hy
 have e1:(BitVec.ofInt IntKind.u32.bits (x:Int)).toNat=x:=by simp[BitVec.toNat_ofInt,IntKind.bits];omega
 have e2:(BitVec.ofInt IntKind.u32.bits (y:Int)).toNat=y:=by simp[BitVec.toNat_ofInt,IntKind.bits];omega
 rw[zk,BitVec.toNat_xor,e1,e2]
 exact oq this
theorem ae2 {n:Nat} (h:n<4294967296):n/2147483648=if n.testBit 31 then 1 else 0:=by
 rw[Nat.testBit_eq_decide_div_mod_eq]
 simp only[Nat.reducePow,decide_eq_true_eq]
 split<;>omega
theorem Hx {n:Nat} (h:n<4294967296):n.testBit 31=decide (2147483648≤n):=by
 rw[Nat.testBit_eq_decide_div_mod_eq,decide_eq_decide]
 simp only[Nat.reducePow]
 omega
theorem borrow (x y c:Nat) (hx:x<4294967296) (hy:y<4294967296) (hc:c≤1):
  ((((4294967295^^^x)&&& y)|||((4294967295^^^(x^^^y))&&& ((x+4294967296 - y - c) % 4294967296)))/2147483648:Nat)=if x<y+c then 1 else 0:=by
 have hd:(x+4294967296 - y - c) % 4294967296<4294967296:=Nat.mod_lt _ aH
 rw[ae2 (Nat.or_lt_two_pow (n:=32) (Nat.and_lt_two_pow (n:=32) _ hy) (Nat.and_lt_two_pow (n:=32) _ hd)),Nat.testBit_or,Nat.testBit_and,Nat.testBit_and,Nat.testBit_xor,Nat.testBit_xor,Nat.testBit_xor,Hx hx,Hx hy,Hx hd,Hx (n:=4294967295) aH]
 by_cases h1:2147483648≤x<;>by_cases h2:2147483648≤y<;>simp[h1,h2]<;>(try split)<;>(try split)<;>omega
theorem BW (x y c:Nat) (hx:x<4294967296) (hy:y<4294967296) (hc:c≤1):
  af Tryz.prog 341 [.val (.int .u32 x),.val (.int .u32 y),.val (.int .u32 c)] [] (.cC [.val (.int .u32 ((x+4294967296 - y - c) % 4294967296:Nat)),.val (.int .u32 ((if x<y+c then 1 else 0:Nat)))]) [] []:=by
 have hd:(x+4294967296 - y - c) % 4294967296<4294967296:=Nat.mod_lt _ aH
 have e1:IntKind.u32.wrap (IntKind.u32.wrap ((x:Int) - y) - c)=(((x+4294967296 - y - c) % 4294967296:Nat):Int):=by rw[wrap_u32',wrap_u32'];omega
 have hb:=borrow x y c hx hy hc
 have e2:zk .u32 (if IntKind.u32.signed=true then -1 else IntKind.u32.max) (x:Int)=((4294967295^^^x:Nat):Int):=xO (x:=4294967295) aH hx
 have hxy:x^^^y<4294967296:=Nat.xor_lt_two_pow (n:=32) hx hy
 have e3:zk .u32 (x:Int) y=((x^^^y:Nat):Int):=xO hx hy
 have e4:zk .u32 (if IntKind.u32.signed=true then -1 else IntKind.u32.max) ((x^^^y:Nat):Int)=((4294967295^^^(x^^^y):Nat):Int):=xO (x:=4294967295) aH hxy
 have hnx:4294967295^^^x<4294967296:=Nat.xor_lt_two_pow (n:=32) aH hx
 have ahk:4294967295^^^(x^^^y)<4294967296:=Nat.xor_lt_two_pow (n:=32) aH hxy
 have e5:Bo .u32 ((4294967295^^^x:Nat):Int) y=(((4294967295^^^x)&&& y:Nat):Int):=DH hnx hy
 have e6:Bo .u32 ((4294967295^^^(x^^^y):Nat):Int) (((x+4294967296 - y - c) % 4294967296:Nat):Int)=(((4294967295^^^(x^^^y))&&& ((x+4294967296 - y - c) % 4294967296):Nat):Int):=DH ahk hd
 have e7:=vZ (Nat.and_lt_two_pow (n:=32) (4294967295^^^x) hy) (Nat.and_lt_two_pow (n:=32) (4294967295^^^(x^^^y)) hd)
 have e8:∀n:Nat,jz .u32 (n:Int) 31=((n/2147483648:Nat):Int):=fun n=>gS .u32 (s:=31) aH
 refine cj [] Tryz.func341 ?_
 intro W0 w0 ρ0 hE
 conv=>whnf
 (repeat(first|(refine And.intro Q5 ?_;conv=>whnf)))
 rw[e1,e2,e3,e4,e5,e6,e7,e8,hb]
 exact aq.refl _
theorem P9 (h l y:Nat) (hh:h<y) (hl:l<4294967296) (hy:y<4294967296):
  af Tryz.prog 351 [.val (.int .u32 h),.val (.int .u32 l),.val (.int .u32 y)] [] (.cC [.val (.int .u32 ((h*4294967296+l)/y:Nat)),.val (.int .u32 ((h*4294967296+l) % y:Nat))]) [] []:=by
 have t1:(((y:Nat):Int) != 0)=true:=by simp;omega
 have t2:decide ((y:Int)≤(h:Int))=false:=by simp;omega
 have e1:jH .u64 (IntKind.u64.wrap (h:Int)) 32=((h*4294967296:Nat):Int):=by
  rw[dW aa]
  show IntKind.u64.wrap ((h:Int)*4294967296)=_
  rw[show(h:Int)*4294967296=((h*4294967296:Nat):Int)from aa,dW aa]
 have e2:Fw .u64 ((h*4294967296:Nat):Int) (l:Int)=((h*4294967296+l:Nat):Int):=by
  rw[vW aa aa,Nat.mul_comm,←Nat.two_pow_add_eq_or_of_lt (i:=32) (b:=l) aa h]
 have hq:(h*4294967296+l)/y<4294967296:=Nat.div_lt_of_lt_mul (by
  have:=Nat.mul_le_mul_right 4294967296 (show h+1≤y by omega)
  rw[Nat.mul_comm y];omega)
 have hr:(h*4294967296+l) % y<y:=Nat.mod_lt _ aa
 have e3:((h*4294967296+l:Nat):Int).tdiv (y:Int)=(((h*4294967296+l)/y:Nat):Int):=rfl
 have e4:((h*4294967296+l:Nat):Int).tmod (y:Int)=(((h*4294967296+l) % y:Nat):Int):=rfl
 refine cj [] Tryz.func351 ?_
 intro W0 w0 ρ0 hE
 conv=>whnf
 (repeat((first|refine ah rfl rfl ?_|refine ag rfl rfl ?_|refine aB aF ?_|refine And.intro Q5 ?_|refine aC iT ?_|rw[t1]|rw[t2]|rw[e1]|rw[dW (n:=l) aa]|rw[dW (n:=y) aa]|rw[e2]|rw[e3]|rw[e4]|rw[dW (n:=(h*4294967296+l)/y) aa]|rw[oq hq]|rw[oq (n:=(h*4294967296+l) % y) aa]);conv=>whnf));exact aq.refl _
theorem ae3 {n k:Nat} (h0:2^k≤n) (h1:n<2^(k+1)):sz n=k+1:=by
 have:=dV.2 h1
 have h2:¬sz n≤k:=fun h=>by have:=dV.1 h;omega
 omega
theorem xP {n k:Nat} (h:0<n/2^k):sz n=sz (n/2^k)+k:=by
 generalize hm:n/2^k=m at*
 have O8:m≠0:=aa
 obtain⟨j,hj⟩:∃j,sz m=j+1:=⟨sz m - 1,by have:=Lh O8;omega⟩
 have h1:m<2^(j+1):=dV.1 aa
 have h2:2^j≤m:=by
  refine Nat.le_of_not_lt fun h=> ?_
  have:=dV.2 h
  omega
 have hd:=Nat.div_add_mod n (2^k)
 have hl:=Nat.mod_lt n (Nat.two_pow_pos k)
 rw[hm]at hd
 rw[hj,ae3 (n:=n) (k:=j+k)]
 ·omega
 ·rw[Nat.pow_add]
  have:=Nat.mul_le_mul_left (2^k) h2
  rw[Nat.mul_comm (2^j)];omega
 ·rw[show j+k+1=k+(j+1)from aa,Nat.pow_add]
  have:=Nat.mul_le_mul_left (2^k) (show m+1≤2^(j+1)from h1)
  rw[Nat.mul_add,Nat.mul_one]at this
  omega
def BX (s:ByteArray):Bool:=decide (s.size=256)&&(List.range 256).all (fun j=>s.data.getD j 0==UInt8.ofNat (sz j))
theorem pE {s:ByteArray} {j:Nat} (hj:j<256) (hs:BX s=true):(0≤(j:Int)∧(j:Int)<(s.size:Int)):=by
 simp only[BX,Bool.and_eq_true,decide_eq_true_eq]at hs
 omega
theorem Uw:∀j,j<256→sz j<256:=fun j hj=>Nat.lt_of_le_of_lt (dV.2 (show j<2^8 from hj)) aH
theorem v7 {s:ByteArray} {j:Nat} (hj:j<256) (hs:BX s=true):(s.data.getD (j:Int).toNat 0).toNat=sz j:=by
 simp only[BX,Bool.and_eq_true,decide_eq_true_eq,List.all_eq_true,List.mem_range,beq_iff_eq]at hs
 rw[Int.toNat_natCast,hs.2 j hj]
 have:=Uw j hj
 simp only[UInt8.toNat_ofNat']
 omega
theorem wu8 {n:Nat} (h:n<256):IntKind.u8.wrap (n:Int)=n:=by simp[IntKind.wrap,IntKind.bits,IntKind.signed];omega
theorem ae4 {n:Nat} (h:n<9223372036854775808):IntKind.i64.wrap (n:Int)=n:=wrap_i64 aa aa
theorem BY (x:Nat) (hx:x<4294967296):
  af Tryz.prog 362 [.val (.int .u32 x)] [] (.val (.int .i64 (sz x))) [] []:=by
 have s16:jz .u32 (x:Int) 16=((x/65536:Nat):Int):=gS .u32 (s:=16) aH
 have s8:∀y:Nat,jz .u32 (y:Int) 8=((y/256:Nat):Int):=fun y=>gS .u32 (s:=8) aH
 have fin:∀(j:Nat) (k:Int),j<256→(sz x:Int)=sz j+k→0≤k→k≤24→IntKind.i64.wrap (k+IntKind.i64.wrap ((sz j:Nat):Int))=(sz x:Nat):=fun j k hj h hk kE=>by
  have:=Uw j hj
  rw[ae4 (n:=sz j) aa,wrap_i64 aa aa];omega
 refine cj [] Tryz.func362 ?_
 intro W0 w0 ρ0 hE
 conv=>whnf
 by_cases h1:65536≤x
 ·have t1:decide ((x:Int)≥65536)=true:=by simp;omega
  by_cases h2:256≤x/65536
  ·have t2:decide (((x/65536:Nat):Int)≥256)=true:=by simp;omega
   (repeat((first|refine ah rfl rfl ?_|refine And.intro Q5 ?_|rw[t1]|rw[s16]|rw[t2]|rw[s8]|rw[wu8 (n:=x/65536/256) aa]);conv=>whnf))
   refine⟨pE aa aF, ?_⟩
   conv=>whnf
   skip
   rw[v7 (j:=x/65536/256) aa,show IntKind.i64.wrap (IntKind.i64.wrap (16+8)+IntKind.i64.wrap ((sz (x/65536/256):Nat):Int))=IntKind.i64.wrap (24+IntKind.i64.wrap ((sz (x/65536/256):Nat):Int))from rfl,fin (x/65536/256) 24 aa ?_ aa aa]
   ·exact aq.refl _
   ·rw[xP (n:=x) (k:=24) aa,Nat.div_div_eq_div_mul];rfl
   ·kernel_rfl
  ·have t2:decide (((x/65536:Nat):Int)≥256)=false:=by simp;omega
   (repeat((first|refine ah rfl rfl ?_|refine ag rfl rfl ?_|refine And.intro Q5 ?_|rw[t1]|rw[s16]|rw[t2]|rw[wu8 (n:=x/65536) aa]);conv=>whnf))
   refine⟨pE aa aF, ?_⟩
   conv=>whnf
   skip
   rw[v7 (j:=x/65536) aa,fin (x/65536) 16 aa ?_ aa aa]
   ·exact aq.refl _
   ·rw[xP (n:=x) (k:=16) aa];rfl
   ·kernel_rfl
 ·have t1:decide ((x:Int)≥65536)=false:=by simp;omega
  by_cases h2:256≤x
  ·have t2:decide ((x:Int)≥256)=true:=by simp;omega
   (repeat((first|refine ah rfl rfl ?_|refine ag rfl rfl ?_|refine And.intro Q5 ?_|rw[t1]|rw[t2]|rw[s8]|rw[wu8 (n:=x/256) aa]);conv=>whnf))
   refine⟨pE aa aF, ?_⟩
   conv=>whnf
   skip
   rw[v7 (j:=x/256) aa,show IntKind.i64.wrap (0+8)=8 from rfl,fin (x/256) 8 aa ?_ aa aa]
   ·exact aq.refl _
   ·rw[xP (n:=x) (k:=8) aa];rfl
   ·kernel_rfl
  ·have t2:decide ((x:Int)≥256)=false:=by simp;omega
   (repeat((first|refine ag rfl rfl ?_|rw[t1]|rw[t2]|rw[wu8 (n:=x) aa]);conv=>whnf))
   refine⟨pE aa aF, ?_⟩
   conv=>whnf
   skip
   rw[v7 (j:=x) aa,fin x 0 aa aa aa aa]
   ·exact aq.refl _
   ·kernel_rfl
theorem aa0 (x:Nat) (hx:x<4294967296):
  af Tryz.prog 358 [.val (.int .u32 x)] [] (.val (.int .i64 ((32 - sz x:Nat)))) [] []:=by
 have k1:=BY x hx
 have:=dV.2 (show x<2^32 from hx)
 have e:IntKind.i64.wrap (32 - ((sz x:Nat):Int))=((32 - sz x:Nat):Int):=by rw[wrap_i64 aa aa];omega
 refine cj [] Tryz.func358 ?_
 intro W0 w0 ρ0 hE
 conv=>whnf
 (repeat(first|(refine a8 (by assumption) ?_;conv=>whnf)|(rw[e];conv=>whnf)))
 exact aq.refl _
def b8 (n:Nat):List Int:=if n<18446744073709551616 then[((n % 4294967296:Nat):Int),((n/4294967296:Nat):Int)]else ae n
theorem cq (n:Nat):(ae n).length≤(b8 n).length:=by
 unfold b8
 split
 ·rename_i h
  exact gA (k:=2) (by simpa using h)
 ·exact Nat.le_refl _
theorem Ga {n:Nat} (h:n<18446744073709551616):b8 n=[((n % 4294967296:Nat):Int),((n/4294967296:Nat):Int)]:=by rw[b8,if_pos h]
theorem mG (n:Nat):fv (b8 n):=by
 unfold b8
 split
 ·refine BP fun x hx=> ?_
  simp only[List.mem_cons,List.not_mem_nil,or_false]at hx
  rcases hx with rfl|rfl<;>omega
 ·exact aX n
theorem Jn {n:Nat} (h:n<18446744073709551616):gH [((n % 4294967296:Nat):Int),((n/4294967296:Nat):Int)] 2=(ae n).length:=by
 have e1:∀m:Nat,m<4294967296→m≠0→ae m=[(m:Int)]:=fun m hm h0=>by
  rw[gi h0,Nat.mod_eq_of_lt hm,Nat.div_eq_of_lt hm,gh]
 by_cases h1:n/4294967296=0
 ·by_cases h2:n=0
  ·subst h2;rfl
  ·rw[e1 n aa h2]
   have:n % 4294967296≠0:=aa
   simp[gH,h1];omega
 ·have hn:n≠0:=aa
  rw[gi hn,e1 _ aa h1]
  simp[gH];omega
theorem DP {n:Nat} (h:n<18446744073709551616) (hn:n≠0):ae n=if n/4294967296=0 then[((n % 4294967296:Nat):Int)]else[((n % 4294967296:Nat):Int),((n/4294967296:Nat):Int)]:=by
 rw[gi hn]
 split
 ·rename_i h1;rw[h1,gh]
 ·rename_i h1
  rw[gi h1,Nat.div_eq_of_lt (a:=n/4294967296) aa,gh,Nat.mod_eq_of_lt (a:=n/4294967296) aa]
theorem dH {n i:Nat} (hi:i<(ae n).length):(b8 n).getD i 0=(ae n).getD i 0:=by
 unfold b8
 split
 ·rename_i h
  have hn:n≠0:=fun h0=>by subst h0;simp[gh]at hi
  rw[DP h hn]at hi ⊢
  split at hi
  ·rename_i h1
   obtain rfl:i=0:=by simpa using hi
   rw[if_pos h1];rfl
  ·rename_i h1
   rw[if_neg h1]
 ·rfl
theorem xQ (n:Nat):ay (b8 n) (ae n).length=n:=by
 rw[qw (ys:=ae n) (fun i hi=>dH hi),ey]
theorem uq (n:Nat) (K:Nat) (h:n<18446744073709551616):
  af Tryz.prog 285 [.nat n] [] (.aK K 1 0 (ae n).length) [(K,⟨23,true,.ints .u32 (b8 n)⟩)] []:=by
 rw[Ga h]
 refine gw (Z:=[]) aM bB Tryz.func285 rfl aF (args:=[.nat n]) (fk:=[]) (c:=.aK 16 1 0 (ae n).length) (new:=[(16,⟨23,true,.ints .u32 [((n % 4294967296:Nat):Int),((n/4294967296:Nat):Int)]⟩)]) (upd:=[]) ?_ rfl (fun _=>K) ?_ ?_
 ·exact⟨rfl,rfl,rfl,rfl,rfl,(fun _ _ h=>by cases h),(fun k b h hw=>by cases h),rfl,rfl,rfl,rfl⟩
 ·exact⟨(fun q q' b b' h h' a7=>by cases h),(fun m m' h1 h2 a7=>by simp[ax]at h1 h2;omega),(fun _ _ h1 h2=>by simp[ax]at h2)⟩
 intro W0 w0 ρ0 hE
 conv=>whnf
 rw[de,decide_eq_true h]
 have e1:IntKind.u32.wrap (n:Int)=((n % 4294967296:Nat):Int):=oV n
 have e2:IntKind.u32.wrap (jz .u64 (n:Int) 32)=((n/4294967296:Nat):Int):=by rw[fw,oq aa]
 (repeat((first|refine ah rfl rfl ?_|refine And.intro Q5 ?_|rw[ca h]|rw[e1]|rw[e2]);conv=>whnf))
 refine⟨_,_,[],[],LF [((n % 4294967296:Nat):Int),((n/4294967296:Nat):Int)] 2 (Nat.le_refl 2) (by simp) 16 true,dD rfl,an,ar, ?_⟩
 rw[Jn h]
 conv=>whnf
 skip
 exact⟨aq.refl _,rR rfl,(fun _ _ h=>by cases h)⟩
theorem ae5 (l:List Nat) (i k:Nat) (hk:k<4):(l.flatMap bC).getD (4*i+k) 0=if i<l.length then(bC (l.getD i 0)).getD k 0 else 0:=by
 induction l generalizing i with
 |nil=>simp
 |cons x l ih=>
  have h4:(bC x).length=4:=rfl
  rw[List.flatMap_cons]
  cases i with
  |zero=>
   rw[List.getD_eq_getElem?_getD,List.getElem?_append_left aa,Nat.mul_zero,Nat.zero_add,if_pos (by simp),List.getD_cons_zero,List.getD_eq_getElem?_getD]
  |succ i=>
   have:=ih i
   rw[List.getD_eq_getElem?_getD]at this
   rw[List.getD_eq_getElem?_getD,List.getElem?_append_right aa,h4,show 4*(i+1)+k - 4=4*i+k from aa,this,List.getD_cons_succ]
   simp
theorem LH {n i k:Nat} (h:¬n<18446744073709551616) (hi:i<(ae n).length) (hk:k<4):
  (((pX n).data.getD (4*i+k) 0).toNat:Int)=(ae n).getD i 0/256^k % 256:=by
 have qx:pX n=⟨((words n).flatMap bC).toArray⟩:=by simp[pX,h]
 have e1:(ae n).getD i 0=(((words n).getD i 0:Nat):Int):=by
  simp only[ae,List.getD_eq_getElem?_getD,List.getElem?_map]
  cases (words n)[i]? <;>rfl
 have lB:i<(words n).length:=by rw[←rQ];exact hi
 rw[qx,e1]
 show((((words n).flatMap bC).toArray.getD (4*i+k) 0).toNat:Int)=_
 have e2:((words n).flatMap bC).toArray.getD (4*i+k) 0=((words n).flatMap bC).getD (4*i+k) 0:=by
  rw[Array.getD_eq_getD_getElem?,List.getD_eq_getElem?_getD];simp
 rw[e2,ae5 _ _ _ hk,if_pos lB]
 have hc:k=0∨k=1∨k=2∨k=3:=aa
 rcases hc with rfl|rfl|rfl|rfl<;>simp[bC,UInt8.toNat_ofNat']<;>omega
theorem LI {n:Nat} (h:¬n<18446744073709551616):(pX n).size=4*(ae n).length:=by
 have qx:pX n=⟨((words n).flatMap bC).toArray⟩:=by simp[pX,h]
 rw[qx,rQ]
 show((words n).flatMap bC).toArray.size=_
 rw[List.size_toArray]
 generalize words n=l
 induction l with
 |nil=>rfl
 |cons x l ih=>rw[List.flatMap_cons,List.length_append,ih,List.length_cons,show(bC x).length=4 from rfl];omega
theorem Qa {x:Int} {k:Nat} (hx:0≤x∧x<4294967296) (hk:k<4):
  Fw .u32 (x % 256^k) (jH .u32 (IntKind.u32.wrap (x/256^k % 256)) ((8*k:Nat):Int))=x % 256^(k+1):=by
 obtain⟨n,rfl⟩:=Int.eq_ofNat_of_zero_le hx.1
 have key:∀(p:Nat) (s:Nat),s≤24→p=2^s→Fw .u32 ((n % p:Nat):Int) (jH .u32 (((n/p % 256:Nat)):Int) (s:Int))=((n % (p*256):Nat):Int):=by
  intro p s hs hp
  have gN:0<p:=by rw[hp];exact Nat.two_pow_pos s
  have ae6:p≤16777216:=by rw[hp];exact Nat.le_trans (Nat.pow_le_pow_right aH hs) aH
  have h1:n % p<p:=Nat.mod_lt _ gN
  have h2:n/p % 256<256:=Nat.mod_lt _ aH
  have e:jH .u32 (((n/p % 256:Nat)):Int) (s:Int)=((p*(n/p % 256):Nat):Int):=by
   have LJ:min (s:Int).toNat IntKind.u32.bits=s:=by simp[IntKind.bits];omega
   rw[jH,LJ]
   have:((n/p % 256:Nat):Int)*2^s=((p*(n/p % 256):Nat):Int):=by
    rw[Int.natCast_mul,hp,Int.natCast_pow,Int.mul_comm];rfl
   rw[this]
   refine oq ?_
   have:=Nat.mul_le_mul ae6 (show n/p % 256≤255 by omega)
   omega
  have aI:p*(n/p % 256)<4294967296:=by
   have:=Nat.mul_le_mul ae6 (show n/p % 256≤255 by omega)
   omega
  rw[e,vZ aa aI,Nat.or_comm,hp,←Nat.two_pow_add_eq_or_of_lt (by rw[←hp];exact h1),←hp,Nat.mod_mul,Nat.add_comm]
 have hp:(256:Int)^k=((256^k:Nat):Int):=by rw[Int.natCast_pow];rfl
 have bW:(256:Int)^(k+1)=((256^k*256:Nat):Int):=by rw[←Nat.pow_succ,Int.natCast_pow];rfl
 have:=key (256^k) (8*k) aa (by rw[Nat.pow_mul])
 rw[hp,bW]
 simp only[←Int.natCast_emod,←Int.natCast_ediv]
 rw[show(((n/256^k:Nat):Int) % 256)=((n/256^k % 256:Nat):Int)from by rw[Int.natCast_emod];rfl,oq aa]
 exact this
theorem Jo (n:Nat) (K:Nat) (h:¬n<18446744073709551616) (hl:(ae n).length<1099511627776):
  af Tryz.prog 285 [.nat n] [] (.aK K 1 0 (ae n).length) [(K,⟨23,true,.ints .u32 (b8 n)⟩)] []:=by
 rw[show b8 n=ae n from if_neg h]
 refine gw (Z:=[]) aM bB Tryz.func285 rfl aF (args:=[.nat n]) (fk:=[]) (c:=.aK 22 1 0 (ae n).length) (new:=[(22,⟨23,true,.ints .u32 (ae n)⟩)]) (upd:=[]) ?_ rfl (fun _=>K) ?_ ?_
 ·exact⟨rfl,rfl,rfl,rfl,rfl,(fun _ _ h=>by cases h),(fun k b h hw=>by cases h),rfl,rfl,rfl,rfl⟩
 ·exact⟨(fun q q' b b' h h' a7=>by cases h),(fun m m' h1 h2 a7=>by simp[ax]at h1 h2;omega),(fun _ _ h1 h2=>by simp[ax]at h2)⟩
 intro W0 w0 ρ0 hE
 conv=>whnf
 rw[de,decide_eq_false h]
 have hs:=LI h
 have eL:IntKind.i64.wrap (((pX n).size:Int).tdiv 4)=((ae n).length:Int):=by
  rw[hs,show((4*(ae n).length:Nat):Int)=4*((ae n).length:Int)from aa,Int.mul_tdiv_cancel_left _ aH,ae4 aa]
 have hb:=fun i k hi hk=>LH (n:=n) (i:=i) (k:=k) h hi hk
 have ahl:=aX n
 generalize hw:ae n=ws at*
 (repeat(first|(refine ag rfl rfl ?_;conv=>whnf)|(refine And.intro Q5 ?_;conv=>whnf)|(rw[eL];conv=>whnf)))
 refine az hE (fun k=>k) [1,3,24,25] [1,22] (fun m fr hp=>∃i,m=ws.length - i∧i≤ws.length∧fr=[(1,.ptr 1 0 0 0),(3,.aK 22 1 0 ws.length),(24,.val (.int .i64 ws.length)),(25,.val (.int .i64 (i:Nat)))]∧hp=[(1,⟨46,true,.one [.nat n]⟩),(22,⟨23,true,.ints .u32 (ws.take i++List.replicate (ws.length - i) 0)⟩)]) ws.length ?_ ?_ ?_
 ·kernel_rfl
 ·exact⟨0,rfl,aa,rfl,rfl⟩
 rintro m _ _ ⟨i,rfl,hi,rfl,rfl⟩
 conv=>whnf
 refine⟨fun h=> ?_,fun h=> ?_⟩
 ·have lB:i<ws.length:=by have:=of_decide_eq_true h;omega
  conv=>whnf
  skip
  have oJ:ws.take i++List.replicate (ws.length - i) (0:Int)=ws.take i++(ws.getD i 0 % 256^0)::List.replicate (ws.length - (i+1)) 0:=by
   rw[show ws.length - i=(ws.length - (i+1))+1 from aa,List.replicate_succ]
   congr 2
   rw[Int.pow_zero];omega
  rw[oJ]
  have aI:(ws.take i).length=i:=by rw[List.length_take];omega
  have oi:∀(a:Int) r,(ws.take i++a::r).getD i 0=a:=fun a r=>by
   rw[jm,aI,if_neg aa,Nat.sub_self];rfl
  have rh:∀(a v:Int) r,(ws.take i++a::r).set i v=ws.take i++v::r:=fun a v r=>by
   rw[List.set_append_right _ _ aa,aI,Nat.sub_self];rfl
  have hx:=ahl i
  refine az hE (fun k=>k) [1,3,4,24,25,28] [1,22] (fun m fr hp=>∃k,m=4 - k∧k≤4∧fr=[(1,.ptr 1 0 0 0),(3,.aK 22 1 0 ws.length),(4,.val (.int .i64 (i:Nat))),(24,.val (.int .i64 ws.length)),(25,.val (.int .i64 (i:Nat))),(28,.val (.int .i64 (k:Nat)))]∧hp=[(1,⟨46,true,.one [.nat n]⟩),(22,⟨23,true,.ints .u32 (ws.take i++(ws.getD i 0 % 256^k)::List.replicate (ws.length - (i+1)) 0)⟩)]) 4 ?_ ?_ ?_
  ·kernel_rfl
  ·exact⟨0,rfl,aa,rfl,rfl⟩
  rintro m _ _ ⟨k,rfl,hk,rfl,rfl⟩
  conv=>whnf
  refine⟨fun h=> ?_,fun h=> ?_⟩
  ·have kE:k<4:=by have:=of_decide_eq_true h;omega
   conv=>whnf
   have f1:IntKind.i64.wrap (4*(i:Int))=((4*i:Nat):Int):=by rw[wrap_i64 aa aa];omega
   have f2:IntKind.i64.wrap (((4*i:Nat):Int)+(k:Int))=((4*i+k:Nat):Int):=by rw[wrap_i64 aa aa];omega
   have f3:IntKind.i64.wrap (8*(k:Int))=((8*k:Nat):Int):=by rw[wrap_i64 aa aa];omega
   have f4:IntKind.i64.wrap ((k:Int)+1)=((k+1:Nat):Int):=by rw[wrap_i64 aa aa];omega
   have hll:(ws.take i++(ws.getD i 0 % 256^k)::List.replicate (ws.length - (i+1)) 0).length=ws.length:=by
    simp only[List.length_append,List.length_cons,List.length_replicate,aI];omega
   have ae7:0+(i:Int).toNat<(ws.take i++(ws.getD i 0 % 256^k)::List.replicate (ws.length - (i+1)) 0).length:=by rw[hll];omega
   have f5:(((pX n).data.getD ((4*i+k:Nat):Int).toNat 0).toNat:Int)=ws.getD i 0/256^k % 256:=hb i k lB kE
   have f6:=Qa hx kE
   (repeat((first|refine aB aF ?_|refine And.intro Q5 ?_|rw[show 0+(i:Int).toNat=i from by omega]|rw[oi]|rw[f1]|rw[f2]|rw[f3]);conv=>whnf))
   rw[rh,f5,f6,f4]
   exact⟨4 - (k+1),fun k=>k,[1,3,4,24,25,28],[1,22],aa,aF,k+1,rfl,aa,rfl,rfl⟩
  ·have kE:k=4:=by have:=of_decide_eq_false h;omega
   subst kE
   have f4:IntKind.i64.wrap ((i:Int)+1)=((i+1:Nat):Int):=by rw[wrap_i64 aa aa];omega
   have DQ:ws.take i++(ws.getD i 0 % 256^4)::List.replicate (ws.length - (i+1)) 0=ws.take (i+1)++List.replicate (ws.length - (i+1)) 0:=by
    rw[show(256:Int)^4=4294967296 from rfl,Int.emod_eq_of_lt hx.1 hx.2,List.take_add_one,List.append_assoc]
    have:ws[i]? =some (ws.getD i 0):=by rw[List.getD_eq_getElem?_getD,List.getElem?_eq_getElem lB];rfl
    rw[this];rfl
   rw[DQ]
   conv=>whnf
   (repeat(first|(rw[f4];conv=>whnf)))
   exact⟨ws.length - (i+1),fun k=>k,[1,3,24,25],[1,22],aa,aF,i+1,rfl,aa,rfl,rfl⟩
 ·have lB:i=ws.length:=by have:=of_decide_eq_false h;omega
  subst lB
  conv=>whnf
  rw[List.take_length,Nat.sub_self,List.replicate_zero,List.append_nil]
  exact⟨aq.refl _,rR rfl,(fun _ _ h=>by cases h)⟩
theorem gY (n:Nat) (K:Nat) (hl:(ae n).length<1099511627776):
  af Tryz.prog 285 [.nat n] [] (.aK K 1 0 (ae n).length) [(K,⟨23,true,.ints .u32 (b8 n)⟩)] []:=by
 by_cases h:n<18446744073709551616
 ·exact uq n K h
 ·exact Jo n K h hl
theorem aa1 (z:Int):af Tryz.prog 337 [.val (.int .i64 z)] [] (.val (.int .i64 z.sign)) [] []:=by
 refine cj [] Tryz.func337 ?_
 intro W0 w0 ρ0 hE
 conv=>whnf
 skip
 have e:(if (if z<1 then z else 1)> -1 then(if z<1 then z else 1)else -1)=z.sign:=by
  rcases Int.lt_trichotomy z 0 with h|h|h
  ·rw[Int.sign_eq_neg_one_of_neg h];split<;>(try split at*)<;>omega
  ·subst h;rfl
  ·rw[Int.sign_eq_one_of_pos h];split<;>(try split at*)<;>omega
 rw[e]
 exact aq.refl _
theorem As {xs ys:List Int} {j:Nat}:∀{n:Nat},j≤n→(∀i,j≤i→i<n→xs.getD i 0=ys.getD i 0)→ay xs n - ay ys n=ay xs j - ay ys j
 |0,h,_=>by obtain rfl:j=0:=aa
            rfl
 |n+1,h,he=>by
  by_cases hj:j=n+1
  ·rw[hj]
  ·have:=As (n:=n) aa (fun i h1 h2=>he i h1 aa)
   rw[ay,ay,he n aa aa];omega
theorem xR {xs ys:List Int} (hx:fv xs) (hy:fv ys) {j:Nat} (h:xs.getD j 0<ys.getD j 0):ay xs (j+1)<ay ys (j+1):=by
 have h1:=fY hx j
 have h2:=bQ hy j
 have h3:(xs.getD j 0+1)*4294967296^j≤ys.getD j 0*4294967296^j:=Int.mul_le_mul_of_nonneg_right aa (Int.le_of_lt (my j))
 rw[Int.add_mul,Int.one_mul]at h3
 rw[ay,ay];omega
theorem vk {xs ys:List Int} (hx:fv xs) (hy:fv ys) {n m:Nat} (h:n<m) (ht:ys.getD (m - 1) 0≠0):ay xs n<ay ys m:=by
 obtain⟨j,rfl⟩:∃j,m=j+1:=⟨m - 1,aa⟩
 have h1:=fY hx n
 have h2:=rO hy (k:=j) (by simpa using ht)
 have h3:(4294967296:Int)^n≤4294967296^j:=by
  have:(4294967296:Nat)^n≤4294967296^j:=Nat.pow_le_pow_right aH aa
  rw[←cM,←cM];exact Int.ofNat_le.2 this
 omega
theorem ae8 (xs ys:List Int) (n m:Nat) (hn:n≤xs.length) (hm:m≤ys.length) (Kx:xs.length<4611686018427387904) (I0:ys.length<4611686018427387904) (hx:fv xs) (hy:fv ys)
  (hxt:n=0∨xs.getD (n - 1) 0≠0) (hyt:m=0∨ys.getD (m - 1) 0≠0) (K L:Nat) (wr wr':Bool):
  af Tryz.prog 284 [.aK K 1 0 n,.aK L 1 0 m] [(K,⟨23,wr,.ints .u32 xs⟩),(L,⟨23,wr',.ints .u32 ys⟩)] (.val (.int .i64 (ay xs n - ay ys m).sign)) [] []:=by
 refine af.rL ?_
 refine gw (Z:=[]) aM bB Tryz.func284 rfl aF (args:=[.aK 0 1 0 n,.aK 1 1 0 m]) (fk:=[(0,⟨23,false,.ints .u32 xs⟩),(1,⟨23,false,.ints .u32 ys⟩)]) (c:=.val (.int .i64 (ay xs n - ay ys m).sign)) (new:=[]) (upd:=[]) (bV.of rfl rfl rfl rfl rfl rfl rfl rfl rfl rfl rfl) rfl (dc [(0,K),(1,L)]) (bh.ro rfl) ?_
 intro W0 w0 ρ0 hE
 conv=>whnf
 by_cases hnm:n=m
 ·subst hnm
  have t1:(((n:Nat):Int) != (n:Nat))=false:=by simp
  have e0:IntKind.i64.wrap ((n:Int) - 1)=(n:Int) - 1:=wrap_i64 aa aa
  (repeat(first|(refine ag rfl rfl ?_;conv=>whnf)|(rw[bne_self_eq_false];conv=>whnf)|(rw[e0];conv=>whnf)))
  refine az hE (fun k=>k) [0,1,5] [0,1] (fun m fr hp=>m≤n∧(∀i,m≤i→i<n→xs.getD i 0=ys.getD i 0)∧fr=[(0,.aK 0 1 0 n),(1,.aK 1 1 0 n),(5,.val (.int .i64 ((m:Int) - 1)))]∧hp=[(0,⟨23,false,.ints .u32 xs⟩),(1,⟨23,false,.ints .u32 ys⟩)]) n ?_ ?_ ?_
  ·kernel_rfl
  ·exact⟨aa,(fun i h1 h2=>aa),rfl,rfl⟩
  rintro j _ _ ⟨hj,heq,rfl,rfl⟩
  rw[As (j:=j) hj heq]
  by_cases h0:j=0
  ·subst h0
   have t2:decide (((0:Nat):Int) - 1≥0)=false:=rfl
   conv=>whnf
   (repeat(first|(refine ag rfl rfl ?_;conv=>whnf)))
   exact⟨aq.refl _,(fun _ _ h=>by cases h),(fun _ _ h=>by cases h)⟩
  ·obtain⟨i,rfl⟩:∃i,j=i+1:=⟨j - 1,aa⟩
   have ei:(((i+1:Nat):Int) - 1)=(i:Int):=aa
   rw[ei]
   have t2:decide ((i:Int)≥0)=true:=decide_eq_true aa
   have e1:0+(i:Int).toNat=i:=aa
   have e2:IntKind.i64.wrap ((i:Int) - 1)=(i:Int) - 1:=wrap_i64 aa aa
   by_cases a7:xs.getD i 0=ys.getD i 0
   ·have t3:(xs.getD i 0 != ys.getD i 0)=false:=by rw[a7];exact bne_self_eq_false _
    conv=>whnf
    (repeat((first|refine ah rfl rfl ?_|refine ag rfl rfl ?_|refine aB aF ?_|refine And.intro Q5 ?_|rw[t2]|rw[e1]|rw[t3]|rw[e2]);conv=>whnf))
    exact⟨i,fun k=>k,[0,1,5],[0,1],aa,aF,aa,(fun q h1 h2=>by
     by_cases hq:q=i
     ·rw[hq];exact a7
     ·exact heq q aa h2),rfl,rfl⟩
   ·have t3:(xs.getD i 0 != ys.getD i 0)=true:=bne_iff_ne.2 a7
    by_cases aI:xs.getD i 0<ys.getD i 0
    ·have t4:decide (xs.getD i 0<ys.getD i 0)=true:=decide_eq_true aI
     have:=xR hx hy aI
     rw[Int.sign_eq_neg_one_of_neg aa]
     conv=>whnf
     (repeat((first|refine ah rfl rfl ?_|refine aB aF ?_|refine And.intro Q5 ?_|rw[t2]|rw[e1]|rw[t3]|rw[t4]);conv=>whnf))
     exact⟨aq.refl _,(fun _ _ h=>by cases h),(fun _ _ h=>by cases h)⟩
    ·have t4:decide (xs.getD i 0<ys.getD i 0)=false:=decide_eq_false aI
     have:=xR hy hx (j:=i) aa
     rw[Int.sign_eq_one_of_pos aa]
     conv=>whnf
     (repeat((first|refine ah rfl rfl ?_|refine ag rfl rfl ?_|refine aB aF ?_|refine And.intro Q5 ?_|rw[t2]|rw[e1]|rw[t3]|rw[t4]);conv=>whnf))
     exact⟨aq.refl _,(fun _ _ h=>by cases h),(fun _ _ h=>by cases h)⟩
 ·have t1:(((n:Nat):Int) != (m:Nat))=true:=bne_iff_ne.2 aa
  have e0:IntKind.i64.wrap ((n:Int) - m)=(n:Int) - m:=wrap_i64 aa aa
  have k1:=aa1 ((n:Int) - m)
  have e:((n:Int) - m).sign=(ay xs n - ay ys m).sign:=by
   by_cases h:n<m
   ·have:=vk hx hy h (hyt.resolve_left aa)
    rw[Int.sign_eq_neg_one_of_neg aa,Int.sign_eq_neg_one_of_neg aa]
   ·have:=vk hy hx (show m<n by omega) (hxt.resolve_left aa)
    rw[Int.sign_eq_one_of_pos aa,Int.sign_eq_one_of_pos aa]
  rw[e]at k1
  (repeat((first|refine ah rfl rfl ?_|refine a8 (by assumption) ?_|rw[t1]|rw[e0]);conv=>whnf))
  exact⟨aq.refl _,(fun _ _ h=>by cases h),(fun _ _ h=>by cases h)⟩
theorem Gb (n:Nat):(ae n).length=0∨(b8 n).getD ((ae n).length - 1) 0≠0:=by
 by_cases h:n=0
 ·subst h;exact .inl rfl
 ·obtain⟨h1,h2⟩:=mz h
  exact .inr (by rw[dH aa];exact h2)
theorem Hy {n M:Nat} (h:sz n≤32*M):(ae n).length≤M:=gA (by
 have:=dV.1 h
 rwa [Nat.pow_mul]at this)
theorem uu (n:Nat) {M:Nat} (h:(ae n).length≤M) (h2:2≤M):(b8 n).length≤M:=by
 unfold b8
 split
 ·exact h2
 ·exact h
theorem DR (a b:Nat) (ha:(ae a).length<1099511627776) (hb:(ae b).length<1099511627776):
  af Tryz.prog 182 [.nat a,.nat b] [] (.val (.int .i64 ((a:Int) - b).sign)) [] []:=by
 by_cases h:a<18446744073709551616∧b<18446744073709551616
 ·exact LC a b h.1 h.2
 ·have ka:=gY a 1001 ha
  have kb:=gY b 1002 hb
  have kc:=ae8 (b8 a) (b8 b) (ae a).length (ae b).length (cq a) (cq b) (by have:=uu a (M:=1099511627776) aa aa;omega) (by have:=uu b (M:=1099511627776) aa aa;omega) (mG a) (mG b) (Gb a) (Gb b) 1001 1002 true true
  rw[xQ,xQ]at kc
  refine cj [] Tryz.func182 ?_
  intro W0 w0 ρ0 hE
  conv=>whnf
  by_cases h1:a<18446744073709551616
  ·rw[de,decide_eq_true h1]
   (repeat(first|(refine ah rfl rfl ?_;conv=>whnf)|(refine aC iT ?_;conv=>whnf)))
   rw[de,decide_eq_false (show ¬b<18446744073709551616 by omega)]
   (repeat((first|refine ag rfl rfl ?_|refine aB aF ?_|refine oR (by assumption) rfl ?_|refine adf (by assumption) rfl rfl ?_);conv=>whnf));exact aq.refl _
  ·rw[de,decide_eq_false h1]
   (repeat((first|refine ag rfl rfl ?_|refine aB aF ?_|refine oR (by assumption) rfl ?_|refine adf (by assumption) rfl rfl ?_|refine aC ik ?_);conv=>whnf));exact aq.refl _
theorem cw (n:Nat) {k:Nat} (h:(ae n).length≤k):ay (ae n) k=n:=by
 rw[eg (k:=(ae n).length) (fun i h1 _=>dy h1) h,ey]
theorem Jp (n:Nat):(b8 n).take (ae n).length=ae n:=by
 refine List.ext_getElem? fun i=> ?_
 have hl:=cq n
 by_cases hi:i<(ae n).length
 ·have h:=dH (n:=n) hi
  rw[List.getD_eq_getElem?_getD,List.getD_eq_getElem?_getD,List.getElem?_eq_getElem hi,List.getElem?_eq_getElem (show i<(b8 n).length by omega)]at h
  rw[List.getElem?_take,if_pos hi,List.getElem?_eq_getElem hi,List.getElem?_eq_getElem (show i<(b8 n).length by omega)]
  simpa using h
 ·rw[List.getElem?_eq_none (l:=ae n) aa,List.getElem?_eq_none (by rw[List.length_take];omega)]
theorem gD (n:Nat):vi (.ints .u32 (List.replicate ((ae n).length+1) 0)) 0 (.ints .u32 (b8 n)) 0 (ae n).length=some (.ints .u32 (ae n++[0])):=by
 simp only[vi,if_true,List.take_zero,List.nil_append,List.drop_zero,Nat.zero_add,Jp,List.drop_replicate]
 rw[show(ae n).length+1 - (ae n).length=1 from by omega]
 rfl
theorem mH {xs:List Int} (h:fv xs):fv (xs++[0]):=by
 intro i
 rw[jm]
 split
 ·exact h i
 ·cases i - xs.length with
  |zero=>decide
  |succ j=>simp
theorem ke (xs:List Int) (j:Nat):(xs++[0]).getD j 0=xs.getD j 0:=by
 rw[jm]
 split
 ·rfl
 ·rename_i h
  rw[dy (xs:=xs) aa]
  cases j - xs.length<;>simp
theorem mI {X Y out:List Int} {i o w c:Nat} (hi:i<out.length) (ho:out.getD i 0=o) (hX:X.getD i 0=o) (hY:Y.getD i 0=w) (hv:ay out i+c*4294967296^i=ay X i+ay Y i):
  ay (out.set i (((o+w+c) % 4294967296:Nat):Int)) (i+1)+(((o+w+c)/4294967296:Nat):Int)*4294967296^(i+1)=ay X (i+1)+ay Y (i+1):=by
 rw[ay,ay,ay,cV (Nat.le_refl i),aQ,if_pos ⟨rfl,hi⟩,hX,hY,Int.pow_succ]
 have hd:(((o+w+c) % 4294967296:Nat):Int)=(o:Int)+w+c - (((o+w+c)/4294967296:Nat):Int)*4294967296:=aa
 rw[hd]
 generalize (((o+w+c)/4294967296:Nat):Int)=q
 generalize (4294967296:Int)^i=P at*
 grind
theorem pF {x y lx ly c:Nat} {v:Int} (hc:c≤1) (h0:0≤v) (hv:v+c*4294967296^(lx+1)=x+y) (hx:x<4294967296^lx) (hy:y<4294967296^ly) (hl:ly≤lx):v.toNat=x+y:=by
 have h1:4294967296^ly≤4294967296^lx:=Nat.pow_le_pow_right aH hl
 have h2:(4294967296:Int)^(lx+1)=((4294967296^lx:Nat):Int)*4294967296:=by rw[cM,Int.pow_succ]
 rw[h2]at hv
 have nk:c=0∨c=1:=aa
 rcases nk with rfl|rfl<;>omega
theorem Ux (a b:Nat) (ha:(ae a).length<549755813888) (hb:(ae b).length<549755813888):
  af Tryz.prog 297 [.nat a,.nat b] [] (.nat (a+b)) [] []:=by
 by_cases hs:a+b<18446744073709551616
 ·exact aeY a b hs
 ·have ka:=gY a 1001 aa
  have kb:=gY b 1002 aa
  refine cj [] Tryz.func297 ?_
  intro W0 w0 ρ0 hE
  conv=>whnf
  by_cases h1:a<18446744073709551616
  ·rw[de,decide_eq_true h1]
   (repeat(first|(refine ah rfl rfl ?_;conv=>whnf)|(refine aC iT ?_;conv=>whnf)))
   by_cases h2:b<18446744073709551616
   ·rw[de,decide_eq_true h2]
    have k64:=Hw a b h1 h2
    rw[show(a+b)/18446744073709551616=1 from by omega]at k64
    (repeat((first|refine ah rfl rfl ?_|refine ag rfl rfl ?_|refine aB aF ?_|refine a8 (by assumption) ?_|refine oR (by assumption) rfl ?_|rw[ca h1]|rw[ca h2]);conv=>whnf))
    skip
    by_cases hl:(ae a).length<(ae b).length
    ·rw[decide_eq_true (show((ae a).length:Int)<((ae b).length:Int) by omega)]
     have ew:IntKind.i64.wrap (((ae b).length:Int)+1)=(((ae b).length+1:Nat):Int):=by rw[wrap_i64 aa aa];omega
     (repeat(first|(refine ah rfl rfl ?_;conv=>whnf)|(refine And.intro Q5 ?_;conv=>whnf)|(rw[ew];conv=>whnf)))
     refine⟨_,[(47,⟨23,true,.ints .u32 (List.replicate ((ae b).length+1) 0)⟩),(1002,⟨23,true,.ints .u32 (b8 b)⟩)],[],[(47,⟨23,true,.ints .u32 (ae b++[0])⟩)],pC (c:=(ae b).length) (n:=(ae b).length+1) rfl rfl rfl (ak rfl) (ak rfl) (aM.get (t:=316) rfl) rfl (aM.get (t:=23) rfl) (List.mem_cons_self ..) (List.mem_cons_of_mem _ (List.mem_cons_self ..)) rfl rfl rfl rfl (by simp[fi]) (by show 0+_≤(b8 b).length;have:=cq b;omega) (Nat.min_eq_left (Nat.le_succ _)).symm (gD b),eX rfl rfl,an,dQ (List.mem_cons_self ..) rfl rfl rfl, ?_⟩
     conv=>whnf
     skip
     refine az hE (fun k=>k) [4,8,9,10,52,53] [4,1001,47] (fun m fr hp=>∃(i:Nat) (out:List Int) (c:Nat),m=(ae b).length+1 - i∧i≤(ae b).length+1∧c≤1∧out.length=(ae b).length+1∧fv out∧(∀j,i≤j→out.getD j 0=(ae b).getD j 0)∧ay out i+c*4294967296^i=ay (ae b) i+ay (ae a) i∧
      fr=[(4,.ptr 4 0 0 0),(8,.aK 1001 1 0 (ae a).length),(9,.aK 47 1 0 ((ae b).length+1)),(10,.val (.int .u32 c)),(52,.val (.int .i64 (((ae b).length+1:Nat)))),(53,.val (.int .i64 i))]∧hp=[(4,⟨46,true,.one [.nat 0]⟩),(1001,⟨23,true,.ints .u32 (b8 a)⟩),(47,⟨23,true,.ints .u32 out⟩)]) ((ae b).length+1) ?_ ?_ ?_
     ·kernel_rfl
     ·exact⟨0,ae b++[0],0,aa,aa,aa,by simp,mH (aX b),(fun j _=>ke _ j),by simp[ay],rfl,rfl⟩
     rintro m _ _ ⟨i,out,c,rfl,hi,hc,hlen,hw,cf,bF,rfl,rfl⟩
     by_cases aI:i<(ae b).length+1
     ·have t1:decide ((i:Int)<(((ae b).length+1:Nat):Int))=true:=decide_eq_true aa
      have e1:0+(i:Int).toNat=i:=aa
      have e2:IntKind.i64.wrap ((i:Int)+1)=((i+1:Nat):Int):=by rw[wrap_i64 aa aa];omega
      obtain⟨o,ho⟩:=Int.eq_ofNat_of_zero_le (hw i).1
      obtain⟨w,hww⟩:=Int.eq_ofNat_of_zero_le (aX a i).1
      have Pc:=(hw i).2
      have ni:=(aX a i).2
      have Pd:=lZ o w c aa aa hc
      have hX:(ae b).getD i 0=o:=by rw[←cf i (Nat.le_refl _)];exact ho
      have cb:=mI aa ho hX hww bF
      have nk:(o+w+c)/4294967296≤1:=aa
      have dr:∀j,i+1≤j→(out.set i (((o+w+c) % 4294967296:Nat):Int)).getD j 0=(ae b).getD j 0:=fun j hj=>by
       rw[aQ,if_neg aa];exact cf j aa
      by_cases hy:i<(ae a).length
      ·have t2:decide ((i:Int)<((ae a).length:Int))=true:=decide_eq_true aa
       have I0:=cq a
       have e3:(b8 a).getD i 0=(w:Int):=by rw[dH hy];exact hww
       conv=>whnf
       (repeat((first|refine ah rfl rfl ?_|refine And.intro Q5 ?_|refine a8 (by assumption) ?_|rw[t1]|rw[t2]|rw[e1]|rw[e3]|rw[ho]);conv=>whnf))
       rw[e2]
       exact⟨(ae b).length+1 - (i+1),fun k=>k,[4,8,9,10,52,53],[4,1001,47],aa,aF,i+1,_,_,rfl,aa,nk,by simpa using hlen,hw.set aa aa,dr,cb,rfl,rfl⟩
      ·have t2:decide ((i:Int)<((ae a).length:Int))=false:=decide_eq_false aa
       have Ho:w=0:=by have:=dy (xs:=ae a) (i:=i) aa;omega
       subst Ho
       conv=>whnf
       (repeat((first|refine ah rfl rfl ?_|refine ag rfl rfl ?_|refine And.intro Q5 ?_|refine a8 (by assumption) ?_|rw[t1]|rw[t2]|rw[e1]|rw[ho]);conv=>whnf))
       rw[e2]
       exact⟨(ae b).length+1 - (i+1),fun k=>k,[4,8,9,10,52,53],[4,1001,47],aa,aF,i+1,_,_,rfl,aa,nk,by simpa using hlen,hw.set aa aa,dr,cb,rfl,rfl⟩
     ·have lB:i=(ae b).length+1:=aa
      subst lB
      have t1:decide ((((ae b).length+1:Nat):Int)<(((ae b).length+1:Nat):Int))=false:=decide_eq_false aa
      rw[cw b aa,cw a aa]at bF
      have lD:(ay out ((ae b).length+1)).toNat=a+b:=by
       have:=pF hc (bQ hw _) bF (bY b) (bY a) aa
       omega
      have DS:=uo out ((ae b).length+1) aa aa hw 47 true
      rw[lD]at DS
      conv=>whnf
      (repeat(first|(refine ag rfl rfl ?_;conv=>whnf)|(refine ny (by assumption) rfl ?_;conv=>whnf)|(rw[t1];conv=>whnf)))
      exact aq.refl _
    ·rw[decide_eq_false (show ¬((ae a).length:Int)<((ae b).length:Int) by omega)]
     have ew:IntKind.i64.wrap (((ae a).length:Int)+1)=(((ae a).length+1:Nat):Int):=by rw[wrap_i64 aa aa];omega
     (repeat(first|(refine ag rfl rfl ?_;conv=>whnf)|(refine And.intro Q5 ?_;conv=>whnf)|(rw[ew];conv=>whnf)))
     refine⟨_,[(47,⟨23,true,.ints .u32 (List.replicate ((ae a).length+1) 0)⟩),(1001,⟨23,true,.ints .u32 (b8 a)⟩)],[],[(47,⟨23,true,.ints .u32 (ae a++[0])⟩)],pC (c:=(ae a).length) (n:=(ae a).length+1) rfl rfl rfl (ak rfl) (ak rfl) (aM.get (t:=316) rfl) rfl (aM.get (t:=23) rfl) (List.mem_cons_self ..) (List.mem_cons_of_mem _ (List.mem_cons_self ..)) rfl rfl rfl rfl (by simp[fi]) (by show 0+_≤(b8 a).length;have:=cq a;omega) (Nat.min_eq_left (Nat.le_succ _)).symm (gD a),eX rfl rfl,an,dQ (List.mem_cons_self ..) rfl rfl rfl, ?_⟩
     conv=>whnf
     skip
     refine az hE (fun k=>k) [4,8,9,10,52,53] [4,1002,47] (fun m fr hp=>∃(i:Nat) (out:List Int) (c:Nat),m=(ae a).length+1 - i∧i≤(ae a).length+1∧c≤1∧out.length=(ae a).length+1∧fv out∧(∀j,i≤j→out.getD j 0=(ae a).getD j 0)∧ay out i+c*4294967296^i=ay (ae a) i+ay (ae b) i∧
      fr=[(4,.ptr 4 0 0 0),(8,.aK 1002 1 0 (ae b).length),(9,.aK 47 1 0 ((ae a).length+1)),(10,.val (.int .u32 c)),(52,.val (.int .i64 (((ae a).length+1:Nat)))),(53,.val (.int .i64 i))]∧hp=[(4,⟨46,true,.one [.nat 0]⟩),(1002,⟨23,true,.ints .u32 (b8 b)⟩),(47,⟨23,true,.ints .u32 out⟩)]) ((ae a).length+1) ?_ ?_ ?_
     ·kernel_rfl
     ·exact⟨0,ae a++[0],0,aa,aa,aa,by simp,mH (aX a),(fun j _=>ke _ j),by simp[ay],rfl,rfl⟩
     rintro m _ _ ⟨i,out,c,rfl,hi,hc,hlen,hw,cf,bF,rfl,rfl⟩
     by_cases aI:i<(ae a).length+1
     ·have t1:decide ((i:Int)<(((ae a).length+1:Nat):Int))=true:=decide_eq_true aa
      have e1:0+(i:Int).toNat=i:=aa
      have e2:IntKind.i64.wrap ((i:Int)+1)=((i+1:Nat):Int):=by rw[wrap_i64 aa aa];omega
      obtain⟨o,ho⟩:=Int.eq_ofNat_of_zero_le (hw i).1
      obtain⟨w,hww⟩:=Int.eq_ofNat_of_zero_le (aX b i).1
      have Pc:=(hw i).2
      have ni:=(aX b i).2
      have Pd:=lZ o w c aa aa hc
      have hX:(ae a).getD i 0=o:=by rw[←cf i (Nat.le_refl _)];exact ho
      have cb:=mI aa ho hX hww bF
      have nk:(o+w+c)/4294967296≤1:=aa
      have dr:∀j,i+1≤j→(out.set i (((o+w+c) % 4294967296:Nat):Int)).getD j 0=(ae a).getD j 0:=fun j hj=>by
       rw[aQ,if_neg aa];exact cf j aa
      by_cases hy:i<(ae b).length
      ·have t2:decide ((i:Int)<((ae b).length:Int))=true:=decide_eq_true aa
       have I0:=cq b
       have e3:(b8 b).getD i 0=(w:Int):=by rw[dH hy];exact hww
       conv=>whnf
       (repeat((first|refine ah rfl rfl ?_|refine And.intro Q5 ?_|refine a8 (by assumption) ?_|rw[t1]|rw[t2]|rw[e1]|rw[e3]|rw[ho]);conv=>whnf))
       rw[e2]
       exact⟨(ae a).length+1 - (i+1),fun k=>k,[4,8,9,10,52,53],[4,1002,47],aa,aF,i+1,_,_,rfl,aa,nk,by simpa using hlen,hw.set aa aa,dr,cb,rfl,rfl⟩
      ·have t2:decide ((i:Int)<((ae b).length:Int))=false:=decide_eq_false aa
       have Ho:w=0:=by have:=dy (xs:=ae b) (i:=i) aa;omega
       subst Ho
       conv=>whnf
       (repeat((first|refine ah rfl rfl ?_|refine ag rfl rfl ?_|refine And.intro Q5 ?_|refine a8 (by assumption) ?_|rw[t1]|rw[t2]|rw[e1]|rw[ho]);conv=>whnf))
       rw[e2]
       exact⟨(ae a).length+1 - (i+1),fun k=>k,[4,8,9,10,52,53],[4,1002,47],aa,aF,i+1,_,_,rfl,aa,nk,by simpa using hlen,hw.set aa aa,dr,cb,rfl,rfl⟩
     ·have lB:i=(ae a).length+1:=aa
      subst lB
      have t1:decide ((((ae a).length+1:Nat):Int)<(((ae a).length+1:Nat):Int))=false:=decide_eq_false aa
      rw[cw a aa,cw b aa]at bF
      have lD:(ay out ((ae a).length+1)).toNat=a+b:=by
       have:=pF hc (bQ hw _) bF (bY a) (bY b) aa
       omega
      have DS:=uo out ((ae a).length+1) aa aa hw 47 true
      rw[lD]at DS
      conv=>whnf
      (repeat(first|(refine ag rfl rfl ?_;conv=>whnf)|(refine ny (by assumption) rfl ?_;conv=>whnf)|(rw[t1];conv=>whnf)))
      exact aq.refl _
   ·rw[de,decide_eq_false h2]
    (repeat(first|(refine ag rfl rfl ?_;conv=>whnf)|(refine aB aF ?_;conv=>whnf)|(refine oR (by assumption) rfl ?_;conv=>whnf)))
    by_cases hl:(ae a).length<(ae b).length
    ·rw[decide_eq_true (show((ae a).length:Int)<((ae b).length:Int) by omega)]
     have ew:IntKind.i64.wrap (((ae b).length:Int)+1)=(((ae b).length+1:Nat):Int):=by rw[wrap_i64 aa aa];omega
     (repeat(first|(refine ah rfl rfl ?_;conv=>whnf)|(refine And.intro Q5 ?_;conv=>whnf)|(rw[ew];conv=>whnf)))
     refine⟨_,[(47,⟨23,true,.ints .u32 (List.replicate ((ae b).length+1) 0)⟩),(1002,⟨23,true,.ints .u32 (b8 b)⟩)],[],[(47,⟨23,true,.ints .u32 (ae b++[0])⟩)],pC (c:=(ae b).length) (n:=(ae b).length+1) rfl rfl rfl (ak rfl) (ak rfl) (aM.get (t:=316) rfl) rfl (aM.get (t:=23) rfl) (List.mem_cons_self ..) (List.mem_cons_of_mem _ (List.mem_cons_self ..)) rfl rfl rfl rfl (by simp[fi]) (by show 0+_≤(b8 b).length;have:=cq b;omega) (Nat.min_eq_left (Nat.le_succ _)).symm (gD b),eX rfl rfl,an,dQ (List.mem_cons_self ..) rfl rfl rfl, ?_⟩
     conv=>whnf
     skip
     refine az hE (fun k=>k) [4,8,9,10,52,53] [4,1001,47] (fun m fr hp=>∃(i:Nat) (out:List Int) (c:Nat),m=(ae b).length+1 - i∧i≤(ae b).length+1∧c≤1∧out.length=(ae b).length+1∧fv out∧(∀j,i≤j→out.getD j 0=(ae b).getD j 0)∧ay out i+c*4294967296^i=ay (ae b) i+ay (ae a) i∧
      fr=[(4,.ptr 4 0 0 0),(8,.aK 1001 1 0 (ae a).length),(9,.aK 47 1 0 ((ae b).length+1)),(10,.val (.int .u32 c)),(52,.val (.int .i64 (((ae b).length+1:Nat)))),(53,.val (.int .i64 i))]∧hp=[(4,⟨46,true,.one [.nat 0]⟩),(1001,⟨23,true,.ints .u32 (b8 a)⟩),(47,⟨23,true,.ints .u32 out⟩)]) ((ae b).length+1) ?_ ?_ ?_
     ·kernel_rfl
     ·exact⟨0,ae b++[0],0,aa,aa,aa,by simp,mH (aX b),(fun j _=>ke _ j),by simp[ay],rfl,rfl⟩
     rintro m _ _ ⟨i,out,c,rfl,hi,hc,hlen,hw,cf,bF,rfl,rfl⟩
     by_cases aI:i<(ae b).length+1
     ·have t1:decide ((i:Int)<(((ae b).length+1:Nat):Int))=true:=decide_eq_true aa
      have e1:0+(i:Int).toNat=i:=aa
      have e2:IntKind.i64.wrap ((i:Int)+1)=((i+1:Nat):Int):=by rw[wrap_i64 aa aa];omega
      obtain⟨o,ho⟩:=Int.eq_ofNat_of_zero_le (hw i).1
      obtain⟨w,hww⟩:=Int.eq_ofNat_of_zero_le (aX a i).1
      have Pc:=(hw i).2
      have ni:=(aX a i).2
      have Pd:=lZ o w c aa aa hc
      have hX:(ae b).getD i 0=o:=by rw[←cf i (Nat.le_refl _)];exact ho
      have cb:=mI aa ho hX hww bF
      have nk:(o+w+c)/4294967296≤1:=aa
      have dr:∀j,i+1≤j→(out.set i (((o+w+c) % 4294967296:Nat):Int)).getD j 0=(ae b).getD j 0:=fun j hj=>by
       rw[aQ,if_neg aa];exact cf j aa
      by_cases hy:i<(ae a).length
      ·have t2:decide ((i:Int)<((ae a).length:Int))=true:=decide_eq_true aa
       have I0:=cq a
       have e3:(b8 a).getD i 0=(w:Int):=by rw[dH hy];exact hww
       conv=>whnf
       (repeat((first|refine ah rfl rfl ?_|refine And.intro Q5 ?_|refine a8 (by assumption) ?_|rw[t1]|rw[t2]|rw[e1]|rw[e3]|rw[ho]);conv=>whnf))
       rw[e2]
       exact⟨(ae b).length+1 - (i+1),fun k=>k,[4,8,9,10,52,53],[4,1001,47],aa,aF,i+1,_,_,rfl,aa,nk,by simpa using hlen,hw.set aa aa,dr,cb,rfl,rfl⟩
      ·have t2:decide ((i:Int)<((ae a).length:Int))=false:=decide_eq_false aa
       have Ho:w=0:=by have:=dy (xs:=ae a) (i:=i) aa;omega
       subst Ho
       conv=>whnf
       (repeat((first|refine ah rfl rfl ?_|refine ag rfl rfl ?_|refine And.intro Q5 ?_|refine a8 (by assumption) ?_|rw[t1]|rw[t2]|rw[e1]|rw[ho]);conv=>whnf))
       rw[e2]
       exact⟨(ae b).length+1 - (i+1),fun k=>k,[4,8,9,10,52,53],[4,1001,47],aa,aF,i+1,_,_,rfl,aa,nk,by simpa using hlen,hw.set aa aa,dr,cb,rfl,rfl⟩
     ·have lB:i=(ae b).length+1:=aa
      subst lB
      have t1:decide ((((ae b).length+1:Nat):Int)<(((ae b).length+1:Nat):Int))=false:=decide_eq_false aa
      rw[cw b aa,cw a aa]at bF
      have lD:(ay out ((ae b).length+1)).toNat=a+b:=by
       have:=pF hc (bQ hw _) bF (bY b) (bY a) aa
       omega
      have DS:=uo out ((ae b).length+1) aa aa hw 47 true
      rw[lD]at DS
      conv=>whnf
      (repeat(first|(refine ag rfl rfl ?_;conv=>whnf)|(refine ny (by assumption) rfl ?_;conv=>whnf)|(rw[t1];conv=>whnf)))
      exact aq.refl _
    ·rw[decide_eq_false (show ¬((ae a).length:Int)<((ae b).length:Int) by omega)]
     have ew:IntKind.i64.wrap (((ae a).length:Int)+1)=(((ae a).length+1:Nat):Int):=by rw[wrap_i64 aa aa];omega
     (repeat(first|(refine ag rfl rfl ?_;conv=>whnf)|(refine And.intro Q5 ?_;conv=>whnf)|(rw[ew];conv=>whnf)))
     refine⟨_,[(47,⟨23,true,.ints .u32 (List.replicate ((ae a).length+1) 0)⟩),(1001,⟨23,true,.ints .u32 (b8 a)⟩)],[],[(47,⟨23,true,.ints .u32 (ae a++[0])⟩)],pC (c:=(ae a).length) (n:=(ae a).length+1) rfl rfl rfl (ak rfl) (ak rfl) (aM.get (t:=316) rfl) rfl (aM.get (t:=23) rfl) (List.mem_cons_self ..) (List.mem_cons_of_mem _ (List.mem_cons_self ..)) rfl rfl rfl rfl (by simp[fi]) (by show 0+_≤(b8 a).length;have:=cq a;omega) (Nat.min_eq_left (Nat.le_succ _)).symm (gD a),eX rfl rfl,an,dQ (List.mem_cons_self ..) rfl rfl rfl, ?_⟩
     conv=>whnf
     skip
     refine az hE (fun k=>k) [4,8,9,10,52,53] [4,1002,47] (fun m fr hp=>∃(i:Nat) (out:List Int) (c:Nat),m=(ae a).length+1 - i∧i≤(ae a).length+1∧c≤1∧out.length=(ae a).length+1∧fv out∧(∀j,i≤j→out.getD j 0=(ae a).getD j 0)∧ay out i+c*4294967296^i=ay (ae a) i+ay (ae b) i∧
      fr=[(4,.ptr 4 0 0 0),(8,.aK 1002 1 0 (ae b).length),(9,.aK 47 1 0 ((ae a).length+1)),(10,.val (.int .u32 c)),(52,.val (.int .i64 (((ae a).length+1:Nat)))),(53,.val (.int .i64 i))]∧hp=[(4,⟨46,true,.one [.nat 0]⟩),(1002,⟨23,true,.ints .u32 (b8 b)⟩),(47,⟨23,true,.ints .u32 out⟩)]) ((ae a).length+1) ?_ ?_ ?_
     ·kernel_rfl
     ·exact⟨0,ae a++[0],0,aa,aa,aa,by simp,mH (aX a),(fun j _=>ke _ j),by simp[ay],rfl,rfl⟩
     rintro m _ _ ⟨i,out,c,rfl,hi,hc,hlen,hw,cf,bF,rfl,rfl⟩
     by_cases aI:i<(ae a).length+1
     ·have t1:decide ((i:Int)<(((ae a).length+1:Nat):Int))=true:=decide_eq_true aa
      have e1:0+(i:Int).toNat=i:=aa
      have e2:IntKind.i64.wrap ((i:Int)+1)=((i+1:Nat):Int):=by rw[wrap_i64 aa aa];omega
      obtain⟨o,ho⟩:=Int.eq_ofNat_of_zero_le (hw i).1
      obtain⟨w,hww⟩:=Int.eq_ofNat_of_zero_le (aX b i).1
      have Pc:=(hw i).2
      have ni:=(aX b i).2
      have Pd:=lZ o w c aa aa hc
      have hX:(ae a).getD i 0=o:=by rw[←cf i (Nat.le_refl _)];exact ho
      have cb:=mI aa ho hX hww bF
      have nk:(o+w+c)/4294967296≤1:=aa
      have dr:∀j,i+1≤j→(out.set i (((o+w+c) % 4294967296:Nat):Int)).getD j 0=(ae a).getD j 0:=fun j hj=>by
       rw[aQ,if_neg aa];exact cf j aa
      by_cases hy:i<(ae b).length
      ·have t2:decide ((i:Int)<((ae b).length:Int))=true:=decide_eq_true aa
       have I0:=cq b
       have e3:(b8 b).getD i 0=(w:Int):=by rw[dH hy];exact hww
       conv=>whnf
       (repeat((first|refine ah rfl rfl ?_|refine And.intro Q5 ?_|refine a8 (by assumption) ?_|rw[t1]|rw[t2]|rw[e1]|rw[e3]|rw[ho]);conv=>whnf))
       rw[e2]
       exact⟨(ae a).length+1 - (i+1),fun k=>k,[4,8,9,10,52,53],[4,1002,47],aa,aF,i+1,_,_,rfl,aa,nk,by simpa using hlen,hw.set aa aa,dr,cb,rfl,rfl⟩
      ·have t2:decide ((i:Int)<((ae b).length:Int))=false:=decide_eq_false aa
       have Ho:w=0:=by have:=dy (xs:=ae b) (i:=i) aa;omega
       subst Ho
       conv=>whnf
       (repeat((first|refine ah rfl rfl ?_|refine ag rfl rfl ?_|refine And.intro Q5 ?_|refine a8 (by assumption) ?_|rw[t1]|rw[t2]|rw[e1]|rw[ho]);conv=>whnf))
       rw[e2]
       exact⟨(ae a).length+1 - (i+1),fun k=>k,[4,8,9,10,52,53],[4,1002,47],aa,aF,i+1,_,_,rfl,aa,nk,by simpa using hlen,hw.set aa aa,dr,cb,rfl,rfl⟩
     ·have lB:i=(ae a).length+1:=aa
      subst lB
      have t1:decide ((((ae a).length+1:Nat):Int)<(((ae a).length+1:Nat):Int))=false:=decide_eq_false aa
      rw[cw a aa,cw b aa]at bF
      have lD:(ay out ((ae a).length+1)).toNat=a+b:=by
       have:=pF hc (bQ hw _) bF (bY a) (bY b) aa
       omega
      have DS:=uo out ((ae a).length+1) aa aa hw 47 true
      rw[lD]at DS
      conv=>whnf
      (repeat(first|(refine ag rfl rfl ?_;conv=>whnf)|(refine ny (by assumption) rfl ?_;conv=>whnf)|(rw[t1];conv=>whnf)))
      exact aq.refl _
  ·rw[de,decide_eq_false h1]
   (repeat((first|refine ag rfl rfl ?_|refine aB aF ?_|refine oR (by assumption) rfl ?_|refine aC ik ?_);conv=>whnf))
   by_cases hl:(ae a).length<(ae b).length
   ·rw[decide_eq_true (show((ae a).length:Int)<((ae b).length:Int) by omega)]
    have ew:IntKind.i64.wrap (((ae b).length:Int)+1)=(((ae b).length+1:Nat):Int):=by rw[wrap_i64 aa aa];omega
    (repeat(first|(refine ah rfl rfl ?_;conv=>whnf)|(refine And.intro Q5 ?_;conv=>whnf)|(rw[ew];conv=>whnf)))
    refine⟨_,[(47,⟨23,true,.ints .u32 (List.replicate ((ae b).length+1) 0)⟩),(1002,⟨23,true,.ints .u32 (b8 b)⟩)],[],[(47,⟨23,true,.ints .u32 (ae b++[0])⟩)],pC (c:=(ae b).length) (n:=(ae b).length+1) rfl rfl rfl (ak rfl) (ak rfl) (aM.get (t:=316) rfl) rfl (aM.get (t:=23) rfl) (List.mem_cons_self ..) (List.mem_cons_of_mem _ (List.mem_cons_self ..)) rfl rfl rfl rfl (by simp[fi]) (by show 0+_≤(b8 b).length;have:=cq b;omega) (Nat.min_eq_left (Nat.le_succ _)).symm (gD b),eX rfl rfl,an,dQ (List.mem_cons_self ..) rfl rfl rfl, ?_⟩
    conv=>whnf
    skip
    refine az hE (fun k=>k) [4,8,9,10,52,53] [4,1001,47] (fun m fr hp=>∃(i:Nat) (out:List Int) (c:Nat),m=(ae b).length+1 - i∧i≤(ae b).length+1∧c≤1∧out.length=(ae b).length+1∧fv out∧(∀j,i≤j→out.getD j 0=(ae b).getD j 0)∧ay out i+c*4294967296^i=ay (ae b) i+ay (ae a) i∧
     fr=[(4,.ptr 4 0 0 0),(8,.aK 1001 1 0 (ae a).length),(9,.aK 47 1 0 ((ae b).length+1)),(10,.val (.int .u32 c)),(52,.val (.int .i64 (((ae b).length+1:Nat)))),(53,.val (.int .i64 i))]∧hp=[(4,⟨46,true,.one [.nat 0]⟩),(1001,⟨23,true,.ints .u32 (b8 a)⟩),(47,⟨23,true,.ints .u32 out⟩)]) ((ae b).length+1) ?_ ?_ ?_
    ·kernel_rfl
    ·exact⟨0,ae b++[0],0,aa,aa,aa,by simp,mH (aX b),(fun j _=>ke _ j),by simp[ay],rfl,rfl⟩
    rintro m _ _ ⟨i,out,c,rfl,hi,hc,hlen,hw,cf,bF,rfl,rfl⟩
    by_cases aI:i<(ae b).length+1
    ·have t1:decide ((i:Int)<(((ae b).length+1:Nat):Int))=true:=decide_eq_true aa
     have e1:0+(i:Int).toNat=i:=aa
     have e2:IntKind.i64.wrap ((i:Int)+1)=((i+1:Nat):Int):=by rw[wrap_i64 aa aa];omega
     obtain⟨o,ho⟩:=Int.eq_ofNat_of_zero_le (hw i).1
     obtain⟨w,hww⟩:=Int.eq_ofNat_of_zero_le (aX a i).1
     have Pc:=(hw i).2
     have ni:=(aX a i).2
     have Pd:=lZ o w c aa aa hc
     have hX:(ae b).getD i 0=o:=by rw[←cf i (Nat.le_refl _)];exact ho
     have cb:=mI aa ho hX hww bF
     have nk:(o+w+c)/4294967296≤1:=aa
     have dr:∀j,i+1≤j→(out.set i (((o+w+c) % 4294967296:Nat):Int)).getD j 0=(ae b).getD j 0:=fun j hj=>by
      rw[aQ,if_neg aa];exact cf j aa
     by_cases hy:i<(ae a).length
     ·have t2:decide ((i:Int)<((ae a).length:Int))=true:=decide_eq_true aa
      have I0:=cq a
      have e3:(b8 a).getD i 0=(w:Int):=by rw[dH hy];exact hww
      conv=>whnf
      (repeat((first|refine ah rfl rfl ?_|refine And.intro Q5 ?_|refine a8 (by assumption) ?_|rw[t1]|rw[t2]|rw[e1]|rw[e3]|rw[ho]);conv=>whnf))
      rw[e2]
      exact⟨(ae b).length+1 - (i+1),fun k=>k,[4,8,9,10,52,53],[4,1001,47],aa,aF,i+1,_,_,rfl,aa,nk,by simpa using hlen,hw.set aa aa,dr,cb,rfl,rfl⟩
     ·have t2:decide ((i:Int)<((ae a).length:Int))=false:=decide_eq_false aa
      have Ho:w=0:=by have:=dy (xs:=ae a) (i:=i) aa;omega
      subst Ho
      conv=>whnf
      (repeat((first|refine ah rfl rfl ?_|refine ag rfl rfl ?_|refine And.intro Q5 ?_|refine a8 (by assumption) ?_|rw[t1]|rw[t2]|rw[e1]|rw[ho]);conv=>whnf))
      rw[e2]
      exact⟨(ae b).length+1 - (i+1),fun k=>k,[4,8,9,10,52,53],[4,1001,47],aa,aF,i+1,_,_,rfl,aa,nk,by simpa using hlen,hw.set aa aa,dr,cb,rfl,rfl⟩
    ·have lB:i=(ae b).length+1:=aa
     subst lB
     have t1:decide ((((ae b).length+1:Nat):Int)<(((ae b).length+1:Nat):Int))=false:=decide_eq_false aa
     rw[cw b aa,cw a aa]at bF
     have lD:(ay out ((ae b).length+1)).toNat=a+b:=by
      have:=pF hc (bQ hw _) bF (bY b) (bY a) aa
      omega
     have DS:=uo out ((ae b).length+1) aa aa hw 47 true
     rw[lD]at DS
     conv=>whnf
     (repeat(first|(refine ag rfl rfl ?_;conv=>whnf)|(refine ny (by assumption) rfl ?_;conv=>whnf)|(rw[t1];conv=>whnf)))
     exact aq.refl _
   ·rw[decide_eq_false (show ¬((ae a).length:Int)<((ae b).length:Int) by omega)]
    have ew:IntKind.i64.wrap (((ae a).length:Int)+1)=(((ae a).length+1:Nat):Int):=by rw[wrap_i64 aa aa];omega
    (repeat(first|(refine ag rfl rfl ?_;conv=>whnf)|(refine And.intro Q5 ?_;conv=>whnf)|(rw[ew];conv=>whnf)))
    refine⟨_,[(47,⟨23,true,.ints .u32 (List.replicate ((ae a).length+1) 0)⟩),(1001,⟨23,true,.ints .u32 (b8 a)⟩)],[],[(47,⟨23,true,.ints .u32 (ae a++[0])⟩)],pC (c:=(ae a).length) (n:=(ae a).length+1) rfl rfl rfl (ak rfl) (ak rfl) (aM.get (t:=316) rfl) rfl (aM.get (t:=23) rfl) (List.mem_cons_self ..) (List.mem_cons_of_mem _ (List.mem_cons_self ..)) rfl rfl rfl rfl (by simp[fi]) (by show 0+_≤(b8 a).length;have:=cq a;omega) (Nat.min_eq_left (Nat.le_succ _)).symm (gD a),eX rfl rfl,an,dQ (List.mem_cons_self ..) rfl rfl rfl, ?_⟩
    conv=>whnf
    skip
    refine az hE (fun k=>k) [4,8,9,10,52,53] [4,1002,47] (fun m fr hp=>∃(i:Nat) (out:List Int) (c:Nat),m=(ae a).length+1 - i∧i≤(ae a).length+1∧c≤1∧out.length=(ae a).length+1∧fv out∧(∀j,i≤j→out.getD j 0=(ae a).getD j 0)∧ay out i+c*4294967296^i=ay (ae a) i+ay (ae b) i∧
     fr=[(4,.ptr 4 0 0 0),(8,.aK 1002 1 0 (ae b).length),(9,.aK 47 1 0 ((ae a).length+1)),(10,.val (.int .u32 c)),(52,.val (.int .i64 (((ae a).length+1:Nat)))),(53,.val (.int .i64 i))]∧hp=[(4,⟨46,true,.one [.nat 0]⟩),(1002,⟨23,true,.ints .u32 (b8 b)⟩),(47,⟨23,true,.ints .u32 out⟩)]) ((ae a).length+1) ?_ ?_ ?_
    ·kernel_rfl
    ·exact⟨0,ae a++[0],0,aa,aa,aa,by simp,mH (aX a),(fun j _=>ke _ j),by simp[ay],rfl,rfl⟩
    rintro m _ _ ⟨i,out,c,rfl,hi,hc,hlen,hw,cf,bF,rfl,rfl⟩
    by_cases aI:i<(ae a).length+1
    ·have t1:decide ((i:Int)<(((ae a).length+1:Nat):Int))=true:=decide_eq_true aa
     have e1:0+(i:Int).toNat=i:=aa
     have e2:IntKind.i64.wrap ((i:Int)+1)=((i+1:Nat):Int):=by rw[wrap_i64 aa aa];omega
     obtain⟨o,ho⟩:=Int.eq_ofNat_of_zero_le (hw i).1
     obtain⟨w,hww⟩:=Int.eq_ofNat_of_zero_le (aX b i).1
     have Pc:=(hw i).2
     have ni:=(aX b i).2
     have Pd:=lZ o w c aa aa hc
     have hX:(ae a).getD i 0=o:=by rw[←cf i (Nat.le_refl _)];exact ho
     have cb:=mI aa ho hX hww bF
     have nk:(o+w+c)/4294967296≤1:=aa
     have dr:∀j,i+1≤j→(out.set i (((o+w+c) % 4294967296:Nat):Int)).getD j 0=(ae a).getD j 0:=fun j hj=>by
      rw[aQ,if_neg aa];exact cf j aa
     by_cases hy:i<(ae b).length
     ·have t2:decide ((i:Int)<((ae b).length:Int))=true:=decide_eq_true aa
      have I0:=cq b
      have e3:(b8 b).getD i 0=(w:Int):=by rw[dH hy];exact hww
      conv=>whnf
      (repeat((first|refine ah rfl rfl ?_|refine And.intro Q5 ?_|refine a8 (by assumption) ?_|rw[t1]|rw[t2]|rw[e1]|rw[e3]|rw[ho]);conv=>whnf))
      rw[e2]
      exact⟨(ae a).length+1 - (i+1),fun k=>k,[4,8,9,10,52,53],[4,1002,47],aa,aF,i+1,_,_,rfl,aa,nk,by simpa using hlen,hw.set aa aa,dr,cb,rfl,rfl⟩
     ·have t2:decide ((i:Int)<((ae b).length:Int))=false:=decide_eq_false aa
      have Ho:w=0:=by have:=dy (xs:=ae b) (i:=i) aa;omega
      subst Ho
      conv=>whnf
      (repeat((first|refine ah rfl rfl ?_|refine ag rfl rfl ?_|refine And.intro Q5 ?_|refine a8 (by assumption) ?_|rw[t1]|rw[t2]|rw[e1]|rw[ho]);conv=>whnf))
      rw[e2]
      exact⟨(ae a).length+1 - (i+1),fun k=>k,[4,8,9,10,52,53],[4,1002,47],aa,aF,i+1,_,_,rfl,aa,nk,by simpa using hlen,hw.set aa aa,dr,cb,rfl,rfl⟩
    ·have lB:i=(ae a).length+1:=aa
     subst lB
     have t1:decide ((((ae a).length+1:Nat):Int)<(((ae a).length+1:Nat):Int))=false:=decide_eq_false aa
     rw[cw a aa,cw b aa]at bF
     have lD:(ay out ((ae a).length+1)).toNat=a+b:=by
      have:=pF hc (bQ hw _) bF (bY a) (bY b) aa
      omega
     have DS:=uo out ((ae a).length+1) aa aa hw 47 true
     rw[lD]at DS
     conv=>whnf
     (repeat(first|(refine ag rfl rfl ?_;conv=>whnf)|(refine ny (by assumption) rfl ?_;conv=>whnf)|(rw[t1];conv=>whnf)))
     exact aq.refl _
theorem LK (a b:Nat) (ha:(ae a).length<549755813888) (hb:(ae b).length<549755813888) (h:a<b):
  af Tryz.prog 296 [.nat a,.nat b] [] (.cC [.nat 0,.val (.bool false)]) [] []:=by
 have k1:=DR a b aa aa
 rw[Int.sign_eq_neg_one_of_neg (show(a:Int) - b<0 by omega)]at k1
 refine cj [] Tryz.func296 ?_
 intro W0 w0 ρ0 hE
 conv=>whnf
 (repeat(first|(refine ah rfl rfl ?_;conv=>whnf)|(refine a8 (by assumption) ?_;conv=>whnf)));exact aq.refl _
theorem LL {X Y out:List Int} {i o w c:Nat} (hi:i<out.length) (ho:out.getD i 0=o) (hX:X.getD i 0=o) (hY:Y.getD i 0=w) (hv:ay out i - c*4294967296^i=ay X i - ay Y i)
  (Pe:o<4294967296) (hwl:w<4294967296) (hc:c≤1):
  ay (out.set i (((o+4294967296 - w - c) % 4294967296:Nat):Int)) (i+1) - ((if o<w+c then 1 else 0:Nat):Int)*4294967296^(i+1)=ay X (i+1) - ay Y (i+1):=by
 rw[ay,ay,ay,cV (Nat.le_refl i),aQ,if_pos ⟨rfl,hi⟩,hX,hY,Int.pow_succ]
 have hd:(((o+4294967296 - w - c) % 4294967296:Nat):Int)=(o:Int) - w - c+((if o<w+c then 1 else 0:Nat):Int)*4294967296:=by
  split<;>omega
 rw[hd]
 generalize ((if o<w+c then 1 else 0:Nat):Int)=q
 generalize (4294967296:Int)^i=P at*
 grind
theorem Uy (a b:Nat) (ha:(ae a).length<549755813888) (h:b≤a):
  af Tryz.prog 296 [.nat a,.nat b] [] (.cC [.nat (a - b),.val (.bool true)]) [] []:=by
 by_cases hs:a<18446744073709551616
 ·exact aeZ a b hs h
 ·have hlb:(ae b).length≤(ae a).length:=gA (Nat.lt_of_le_of_lt h (bY a))
  have k1:=DR a b aa aa
  have ht:decide (((a:Int) - b).sign<0)=false:=decide_eq_false Q26
  have ka:=gY a 1001 aa
  have kb:=gY b 1002 aa
  refine cj [] Tryz.func296 ?_
  intro W0 w0 ρ0 hE
  conv=>whnf
  (repeat(first|(refine ag rfl rfl ?_;conv=>whnf)|(refine a8 (by assumption) ?_;conv=>whnf)|(rw[ht];conv=>whnf)))
  rw[de,decide_eq_false hs]
  (repeat(first|(refine ag rfl rfl ?_;conv=>whnf)|(refine aB aF ?_;conv=>whnf)|(refine oR (by assumption) rfl ?_;conv=>whnf)))
  rw[show b8 a=ae a from if_neg hs]
  refine az hE (fun k=>k) [4,6,7,8,30,31] [4,1001,1002] (fun m fr hp=>∃(i:Nat) (out:List Int) (c:Nat),m=(ae a).length - i∧i≤(ae a).length∧c≤1∧out.length=(ae a).length∧fv out∧(∀j,i≤j→out.getD j 0=(ae a).getD j 0)∧ay out i - c*4294967296^i=ay (ae a) i - ay (ae b) i∧
   fr=[(4,.ptr 4 0 0 0),(6,.aK 1001 1 0 (ae a).length),(7,.aK 1002 1 0 (ae b).length),(8,.val (.int .u32 c)),(30,.val (.int .i64 ((ae a).length:Nat))),(31,.val (.int .i64 i))]∧hp=[(4,⟨46,true,.one [.nat 0]⟩),(1001,⟨23,true,.ints .u32 out⟩),(1002,⟨23,true,.ints .u32 (b8 b)⟩)]) (ae a).length ?_ ?_ ?_
  ·kernel_rfl
  ·exact⟨0,ae a,0,aa,aa,aa,rfl,aX a,(fun j _=>rfl),by simp[ay],rfl,rfl⟩
  rintro m _ _ ⟨i,out,c,rfl,hi,hc,hlen,hw,cf,bF,rfl,rfl⟩
  by_cases aI:i<(ae a).length
  ·have t1:decide ((i:Int)<((ae a).length:Int))=true:=decide_eq_true aa
   have e1:0+(i:Int).toNat=i:=aa
   have e2:IntKind.i64.wrap ((i:Int)+1)=((i+1:Nat):Int):=by rw[wrap_i64 aa aa];omega
   obtain⟨o,ho⟩:=Int.eq_ofNat_of_zero_le (hw i).1
   obtain⟨w,hww⟩:=Int.eq_ofNat_of_zero_le (aX b i).1
   have Pc:=(hw i).2
   have ni:=(aX b i).2
   have Pd:=BW o w c aa aa hc
   have hX:(ae a).getD i 0=o:=by rw[←cf i (Nat.le_refl _)];exact ho
   have cb:=LL aa ho hX hww bF aa aa hc
   have nk:(if o<w+c then 1 else 0:Nat)≤1:=by split<;>omega
   have dr:∀j,i+1≤j→(out.set i (((o+4294967296 - w - c) % 4294967296:Nat):Int)).getD j 0=(ae a).getD j 0:=fun j hj=>by
    rw[aQ,if_neg aa];exact cf j aa
   by_cases hy:i<(ae b).length
   ·have t2:decide ((i:Int)<((ae b).length:Int))=true:=decide_eq_true aa
    have I0:=cq b
    have e3:(b8 b).getD i 0=(w:Int):=by rw[dH hy];exact hww
    conv=>whnf
    (repeat((first|refine ah rfl rfl ?_|refine And.intro Q5 ?_|refine a8 (by assumption) ?_|rw[t1]|rw[t2]|rw[e1]|rw[e3]|rw[ho]);conv=>whnf))
    rw[e2]
    exact⟨(ae a).length - (i+1),fun k=>k,[4,6,7,8,30,31],[4,1001,1002],aa,aF,i+1,_,_,rfl,aa,nk,by simpa using hlen,hw.set aa aa,dr,cb,rfl,rfl⟩
   ·have t2:decide ((i:Int)<((ae b).length:Int))=false:=decide_eq_false aa
    have Ho:w=0:=by have:=dy (xs:=ae b) (i:=i) aa;omega
    subst Ho
    conv=>whnf
    (repeat((first|refine ah rfl rfl ?_|refine ag rfl rfl ?_|refine And.intro Q5 ?_|refine a8 (by assumption) ?_|rw[t1]|rw[t2]|rw[e1]|rw[ho]);conv=>whnf))
    rw[e2]
    exact⟨(ae a).length - (i+1),fun k=>k,[4,6,7,8,30,31],[4,1001,1002],aa,aF,i+1,_,_,rfl,aa,nk,by simpa using hlen,hw.set aa aa,dr,cb,rfl,rfl⟩
  ·have lB:i=(ae a).length:=aa
   subst lB
   have t1:decide (((ae a).length:Int)<((ae a).length:Int))=false:=decide_eq_false aa
   rw[cw a aa,cw b aa]at bF
   have lD:(ay out (ae a).length).toNat=a - b:=by
    have h1:=fY hw (ae a).length
    have h2:=my (ae a).length
    have Uz:c=0∨c=1:=aa
    rcases Uz with rfl|rfl<;>omega
   have DS:=uo out (ae a).length aa aa hw 1001 true
   rw[lD]at DS
   conv=>whnf
   (repeat(first|(refine ag rfl rfl ?_;conv=>whnf)|(refine ny (by assumption) rfl ?_;conv=>whnf)|(rw[t1];conv=>whnf)))
   exact aq.refl _
theorem Gc (p:Nat) (h:p<340282366920938463463374607431768211456):
  ay [((p % 18446744073709551616 % 4294967296:Nat):Int),((p % 18446744073709551616/4294967296:Nat):Int),((p/18446744073709551616 % 4294967296:Nat):Int),((p/18446744073709551616/4294967296:Nat):Int)] 4=p∧
  fv [((p % 18446744073709551616 % 4294967296:Nat):Int),((p % 18446744073709551616/4294967296:Nat):Int),((p/18446744073709551616 % 4294967296:Nat):Int),((p/18446744073709551616/4294967296:Nat):Int)]:=by
 constructor
 ·simp only[ay,List.getD_cons_zero,List.getD_cons_succ,Int.pow_succ,Int.pow_zero]
  omega
 ·refine BP fun x hx=> ?_
  simp only[List.mem_cons,List.not_mem_nil,or_false]at hx
  rcases hx with rfl|rfl|rfl|rfl<;>omega
theorem Qb (a b:Nat) (ha:a<18446744073709551616) (hb:b<18446744073709551616):
  af Tryz.prog 209 [.nat a,.nat b] [] (.nat (a*b)) [] []:=by
 have k1:=P8 a b ha hb
 have hp:a*b<340282366920938463463374607431768211456:=by
  have:=Nat.mul_le_mul (show a≤18446744073709551615 by omega) (show b≤18446744073709551615 by omega)
  omega
 obtain⟨h1,h2⟩:=Gc (a*b) hp
 have e1:IntKind.u32.wrap ((a*b % 18446744073709551616:Nat):Int)=((a*b % 18446744073709551616 % 4294967296:Nat):Int):=oV _
 have e2:IntKind.u32.wrap (jz .u64 ((a*b % 18446744073709551616:Nat):Int) 32)=((a*b % 18446744073709551616/4294967296:Nat):Int):=by rw[fw,oq aa]
 have e3:IntKind.u32.wrap ((a*b/18446744073709551616:Nat):Int)=((a*b/18446744073709551616 % 4294967296:Nat):Int):=oV _
 have e4:IntKind.u32.wrap (jz .u64 ((a*b/18446744073709551616:Nat):Int) 32)=((a*b/18446744073709551616/4294967296:Nat):Int):=by rw[fw,oq aa]
 have so:=uo _ 4 (by simp) (by simp) h2 41 true
 rw[h1,Int.toNat_natCast]at so
 refine cj [] Tryz.func209 ?_
 intro W0 w0 ρ0 hE
 conv=>whnf
 rw[de,decide_eq_true ha]
 (repeat(first|(refine ah rfl rfl ?_;conv=>whnf)|(refine aC iT ?_;conv=>whnf)))
 rw[de,decide_eq_true hb]
 (repeat((first|refine ah rfl rfl ?_|refine And.intro Q5 ?_|refine a8 (by assumption) ?_|refine ny (by assumption) rfl ?_|rw[ca ha]|rw[ca hb]|rw[e1]|rw[e2]|rw[e3]|rw[e4]);conv=>whnf))
 exact aq.refl _
theorem DT {out o2 Y:List Int} {i k o w v c:Nat} (hi:i+k<o2.length) (ho:o2.getD (i+k) 0=o) (hout:out.getD (i+k) 0=o) (hY:Y.getD k 0=v)
  (hv:ay o2 (i+k)+c*4294967296^(i+k)=ay out (i+k)+w*4294967296^i*ay Y k):
  ay (o2.set (i+k) (((c+(w*v+o)) % 4294967296:Nat):Int)) (i+(k+1))+(((c+(w*v+o))/4294967296:Nat):Int)*4294967296^(i+(k+1))=ay out (i+(k+1))+w*4294967296^i*ay Y (k+1):=by
 rw[show i+(k+1)=(i+k)+1 from aa,ay,ay,ay,cV (Nat.le_refl _),aQ,if_pos ⟨rfl,hi⟩,hout,hY,Int.pow_succ]
 have hd:(((c+(w*v+o)) % 4294967296:Nat):Int)=(c:Int)+(w*v+o) - (((c+(w*v+o))/4294967296:Nat):Int)*4294967296:=by
  have:=Nat.div_add_mod (c+(w*v+o)) 4294967296
  have h2:((w*v:Nat):Int)=(w:Int)*v:=Int.natCast_mul _ _
  omega
 rw[hd]
 rw[Int.pow_add]at hv ⊢
 generalize (((c+(w*v+o))/4294967296:Nat):Int)=q
 generalize (4294967296:Int)^i=P at*
 generalize (4294967296:Int)^k=Q at*
 grind
theorem Hz {out o2 X:List Int} {i l w c b:Nat} {Y:List Int} (hi:i+l<o2.length) (ho:o2.getD (i+l) 0=0) (hX:X.getD i 0=w) (hY:ay Y l=b)
  (bF:ay out (i+l)=ay X i*b) (hv:ay o2 (i+l)+c*4294967296^(i+l)=ay out (i+l)+w*4294967296^i*ay Y l):
  ay (o2.set (i+l) (c:Int)) (i+l+1)=ay X (i+1)*b:=by
 rw[ay,ay,cV (Nat.le_refl _),aQ,if_pos ⟨rfl,hi⟩,hX,hv,bF,hY]
 generalize (4294967296:Int)^i=P at*
 grind
theorem UA (a b:Nat) (ha:(ae a).length<274877906944) (hb:(ae b).length<274877906944):
  af Tryz.prog 209 [.nat a,.nat b] [] (.nat (a*b)) [] []:=by
 by_cases hs:a<18446744073709551616∧b<18446744073709551616
 ·exact Qb a b hs.1 hs.2
 ·have ka:=gY a 1001 aa
  have kb:=gY b 1002 aa
  have ew:IntKind.i64.wrap (((ae a).length:Int)+((ae b).length:Int))=(((ae a).length+(ae b).length:Nat):Int):=by rw[wrap_i64 aa aa];omega
  refine cj [] Tryz.func209 ?_
  intro W0 w0 ρ0 hE
  conv=>whnf
  by_cases h1:a<18446744073709551616
  ·rw[de,decide_eq_true h1]
   (repeat(first|(refine ah rfl rfl ?_;conv=>whnf)|(refine aC iT ?_;conv=>whnf)))
   rw[de,decide_eq_false (show ¬b<18446744073709551616 by omega)]
   (repeat((first|refine ag rfl rfl ?_|refine aB aF ?_|refine And.intro Q5 ?_|refine oR (by assumption) rfl ?_|rw[ew]);conv=>whnf))
   refine az hE (fun k=>k) [4,8,9,53,54,55] [4,1001,1002,52] (fun m fr hp=>∃(i:Nat) (out:List Int),m=(ae a).length - i∧i≤(ae a).length∧out.length=(ae a).length+(ae b).length∧fv out∧(∀j,i+(ae b).length≤j→out.getD j 0=0)∧ay out (i+(ae b).length)=ay (ae a) i*b∧
    fr=[(4,.ptr 4 0 0 0),(8,.aK 1002 1 0 (ae b).length),(9,.aK 52 1 0 ((ae a).length+(ae b).length)),(53,.aK 1001 1 0 (ae a).length),(54,.val (.int .i64 ((ae a).length:Nat))),(55,.val (.int .i64 i))]∧hp=[(4,⟨46,true,.one [.nat 0]⟩),(1001,⟨23,true,.ints .u32 (b8 a)⟩),(1002,⟨23,true,.ints .u32 (b8 b)⟩),(52,⟨23,true,.ints .u32 out⟩)]) (ae a).length ?_ ?_ ?_
   ·kernel_rfl
   ·exact⟨0,List.replicate ((ae a).length+(ae b).length) 0,rfl,aa,by simp,(fun i=>by rw[br];decide),(fun j _=>br),by rw[eg (k:=0) (fun i _ _=>br) aa];simp[ay],rfl,rfl⟩
   rintro m _ _ ⟨i,out,rfl,hi,hlen,hw,hz,bF,rfl,rfl⟩
   by_cases aI:i<(ae a).length
   ·have t1:decide ((i:Int)<((ae a).length:Int))=true:=decide_eq_true aa
    have e1:0+(i:Int).toNat=i:=aa
    have e2:IntKind.i64.wrap ((i:Int)+1)=((i+1:Nat):Int):=by rw[wrap_i64 aa aa];omega
    obtain⟨w,hww⟩:=Int.eq_ofNat_of_zero_le (aX a i).1
    have ni:=(aX a i).2
    have Kg:=cq a
    have e3:(b8 a).getD i 0=(w:Int):=by rw[dH aI];exact hww
    conv=>whnf
    (repeat((first|refine ah rfl rfl ?_|refine And.intro Q5 ?_|rw[t1]|rw[e1]|rw[e3]);conv=>whnf))
    refine az hE (fun k=>k) [4,8,9,10,11,12,53,54,55,60,61,62] [4,1001,1002,52] (fun m fr hp=>∃(k:Nat) (o2:List Int) (c:Nat),m=(ae b).length - k∧k≤(ae b).length∧c<4294967296∧o2.length=(ae a).length+(ae b).length∧fv o2∧(∀j,i+k≤j→o2.getD j 0=out.getD j 0)∧ay o2 (i+k)+c*4294967296^(i+k)=ay out (i+k)+w*4294967296^i*ay (ae b) k∧
     fr=[(4,.ptr 4 0 0 0),(8,.aK 1002 1 0 (ae b).length),(9,.aK 52 1 0 ((ae a).length+(ae b).length)),(10,.val (.int .i64 i)),(11,.val (.int .u32 w)),(12,.val (.int .u64 c)),(53,.aK 1001 1 0 (ae a).length),(54,.val (.int .i64 ((ae a).length:Nat))),(55,.val (.int .i64 i)),(60,.aK 1002 1 0 (ae b).length),(61,.val (.int .i64 ((ae b).length:Nat))),(62,.val (.int .i64 k))]∧hp=[(4,⟨46,true,.one [.nat 0]⟩),(1001,⟨23,true,.ints .u32 (b8 a)⟩),(1002,⟨23,true,.ints .u32 (b8 b)⟩),(52,⟨23,true,.ints .u32 o2⟩)]) (ae b).length ?_ ?_ ?_
    ·kernel_rfl
    ·exact⟨0,out,0,rfl,aa,aa,hlen,hw,(fun j _=>rfl),by simp[ay],rfl,rfl⟩
    rintro m _ _ ⟨k,o2,c,rfl,hk,hc,hlen2,hw2',cf,hval2,rfl,rfl⟩
    have e4:IntKind.i64.wrap ((k:Int)+1)=((k+1:Nat):Int):=by rw[wrap_i64 aa aa];omega
    have hbl:=cq b
    by_cases hklt:k<(ae b).length
    ·have t2:decide ((k:Int)<((ae b).length:Int))=true:=decide_eq_true aa
     have e5:0+(k:Int).toNat=k:=aa
     have e6:IntKind.i64.wrap ((i:Int)+k)=((i+k:Nat):Int):=by rw[wrap_i64 aa aa];omega
     have e7:0+((i+k:Nat):Int).toNat=i+k:=aa
     obtain⟨v,hvv⟩:=Int.eq_ofNat_of_zero_le (aX b k).1
     have hv2:=(aX b k).2
     obtain⟨o,ho⟩:=Int.eq_ofNat_of_zero_le (hw2' (i+k)).1
     have Pc:=(hw2' (i+k)).2
     have e8:(b8 b).getD k 0=(v:Int):=by rw[dH hklt];exact hvv
     have hpv:w*v≤4294967295*4294967295:=Nat.mul_le_mul aa aa
     have e9:IntKind.u64.wrap ((c:Int)+IntKind.u64.wrap (IntKind.u64.wrap (IntKind.u64.wrap (w:Int)*IntKind.u64.wrap (v:Int))+IntKind.u64.wrap (o:Int)))=((c+(w*v+o):Nat):Int):=by
      rw[dW (n:=w) aa,dW (n:=v) aa,dW (n:=o) aa,←Int.natCast_mul,dW (n:=w*v) aa,←Int.natCast_add,dW (n:=w*v+o) aa,←Int.natCast_add,dW aa]
     have Pf:IntKind.u32.wrap ((c+(w*v+o):Nat):Int)=(((c+(w*v+o)) % 4294967296:Nat):Int):=oV _
     have UB:jz .u64 ((c+(w*v+o):Nat):Int) 32=(((c+(w*v+o))/4294967296:Nat):Int):=fw _
     have nk:(c+(w*v+o))/4294967296<4294967296:=aa
     have cb:=DT (i:=i) (k:=k) (Y:=ae b) aa ho (by rw[←cf (i+k) (Nat.le_refl _)];exact ho) hvv hval2
     conv=>whnf
     (repeat((first|refine ah rfl rfl ?_|refine And.intro Q5 ?_|rw[t2]|rw[e5]|rw[e8]|rw[e6]|rw[e7]|rw[ho]|rw[e9]|rw[Pf]|rw[UB]|rw[e4]);conv=>whnf))
     exact⟨(ae b).length - (k+1),fun k=>k,[4,8,9,10,11,12,53,54,55,60,61,62],[4,1001,1002,52],aa,aF,k+1,_,_,rfl,aa,nk,by simpa using hlen2,hw2'.set aa aa,(fun j hj=>by rw[aQ,if_neg aa];exact cf j aa),cb,rfl,rfl⟩
    ·have kE:k=(ae b).length:=aa
     subst kE
     have t2:decide (((ae b).length:Int)<((ae b).length:Int))=false:=decide_eq_false aa
     have e6:IntKind.i64.wrap ((i:Int)+((ae b).length:Int))=((i+(ae b).length:Nat):Int):=by rw[wrap_i64 aa aa];omega
     have e7:0+((i+(ae b).length:Nat):Int).toNat=i+(ae b).length:=aa
     have e8:IntKind.u32.wrap (c:Int)=(c:Int):=oq hc
     have ig:=Hz (X:=ae a) (o2:=o2) aa (by rw[cf _ (Nat.le_refl _)];exact hz _ (Nat.le_refl _)) hww (ey b) bF hval2
     conv=>whnf
     (repeat((first|refine ag rfl rfl ?_|refine And.intro Q5 ?_|rw[t2]|rw[e6]|rw[e7]|rw[e8]|rw[e2]);conv=>whnf))
     exact⟨(ae a).length - (i+1),fun k=>k,[4,8,9,53,54,55],[4,1001,1002,52],aa,aF,i+1,_,rfl,aa,by simpa using hlen2,hw2'.set aa aa,(fun j hj=>by rw[aQ,if_neg aa,cf j aa];exact hz j aa),by rw[show i+1+(ae b).length=i+(ae b).length+1 from by omega];exact ig,rfl,rfl⟩
   ·have lB:i=(ae a).length:=aa
    subst lB
    have t1:decide (((ae a).length:Int)<((ae a).length:Int))=false:=decide_eq_false aa
    rw[ey]at bF
    have lD:(ay out ((ae a).length+(ae b).length)).toNat=a*b:=by
     rw[bF,←Int.natCast_mul,Int.toNat_natCast]
    have DS:=uo out ((ae a).length+(ae b).length) aa aa hw 52 true
    rw[lD]at DS
    conv=>whnf
    (repeat(first|(refine ag rfl rfl ?_;conv=>whnf)|(refine ny (by assumption) rfl ?_;conv=>whnf)|(rw[t1];conv=>whnf)))
    exact aq.refl _
  ·rw[de,decide_eq_false h1]
   (repeat((first|refine ag rfl rfl ?_|refine aB aF ?_|refine And.intro Q5 ?_|refine oR (by assumption) rfl ?_|refine aC ik ?_|rw[ew]);conv=>whnf))
   refine az hE (fun k=>k) [4,8,9,53,54,55] [4,1001,1002,52] (fun m fr hp=>∃(i:Nat) (out:List Int),m=(ae a).length - i∧i≤(ae a).length∧out.length=(ae a).length+(ae b).length∧fv out∧(∀j,i+(ae b).length≤j→out.getD j 0=0)∧ay out (i+(ae b).length)=ay (ae a) i*b∧
    fr=[(4,.ptr 4 0 0 0),(8,.aK 1002 1 0 (ae b).length),(9,.aK 52 1 0 ((ae a).length+(ae b).length)),(53,.aK 1001 1 0 (ae a).length),(54,.val (.int .i64 ((ae a).length:Nat))),(55,.val (.int .i64 i))]∧hp=[(4,⟨46,true,.one [.nat 0]⟩),(1001,⟨23,true,.ints .u32 (b8 a)⟩),(1002,⟨23,true,.ints .u32 (b8 b)⟩),(52,⟨23,true,.ints .u32 out⟩)]) (ae a).length ?_ ?_ ?_
   ·kernel_rfl
   ·exact⟨0,List.replicate ((ae a).length+(ae b).length) 0,rfl,aa,by simp,(fun i=>by rw[br];decide),(fun j _=>br),by rw[eg (k:=0) (fun i _ _=>br) aa];simp[ay],rfl,rfl⟩
   rintro m _ _ ⟨i,out,rfl,hi,hlen,hw,hz,bF,rfl,rfl⟩
   by_cases aI:i<(ae a).length
   ·have t1:decide ((i:Int)<((ae a).length:Int))=true:=decide_eq_true aa
    have e1:0+(i:Int).toNat=i:=aa
    have e2:IntKind.i64.wrap ((i:Int)+1)=((i+1:Nat):Int):=by rw[wrap_i64 aa aa];omega
    obtain⟨w,hww⟩:=Int.eq_ofNat_of_zero_le (aX a i).1
    have ni:=(aX a i).2
    have Kg:=cq a
    have e3:(b8 a).getD i 0=(w:Int):=by rw[dH aI];exact hww
    conv=>whnf
    (repeat((first|refine ah rfl rfl ?_|refine And.intro Q5 ?_|rw[t1]|rw[e1]|rw[e3]);conv=>whnf))
    refine az hE (fun k=>k) [4,8,9,10,11,12,53,54,55,60,61,62] [4,1001,1002,52] (fun m fr hp=>∃(k:Nat) (o2:List Int) (c:Nat),m=(ae b).length - k∧k≤(ae b).length∧c<4294967296∧o2.length=(ae a).length+(ae b).length∧fv o2∧(∀j,i+k≤j→o2.getD j 0=out.getD j 0)∧ay o2 (i+k)+c*4294967296^(i+k)=ay out (i+k)+w*4294967296^i*ay (ae b) k∧
     fr=[(4,.ptr 4 0 0 0),(8,.aK 1002 1 0 (ae b).length),(9,.aK 52 1 0 ((ae a).length+(ae b).length)),(10,.val (.int .i64 i)),(11,.val (.int .u32 w)),(12,.val (.int .u64 c)),(53,.aK 1001 1 0 (ae a).length),(54,.val (.int .i64 ((ae a).length:Nat))),(55,.val (.int .i64 i)),(60,.aK 1002 1 0 (ae b).length),(61,.val (.int .i64 ((ae b).length:Nat))),(62,.val (.int .i64 k))]∧hp=[(4,⟨46,true,.one [.nat 0]⟩),(1001,⟨23,true,.ints .u32 (b8 a)⟩),(1002,⟨23,true,.ints .u32 (b8 b)⟩),(52,⟨23,true,.ints .u32 o2⟩)]) (ae b).length ?_ ?_ ?_
    ·kernel_rfl
    ·exact⟨0,out,0,rfl,aa,aa,hlen,hw,(fun j _=>rfl),by simp[ay],rfl,rfl⟩
    rintro m _ _ ⟨k,o2,c,rfl,hk,hc,hlen2,hw2',cf,hval2,rfl,rfl⟩
    have e4:IntKind.i64.wrap ((k:Int)+1)=((k+1:Nat):Int):=by rw[wrap_i64 aa aa];omega
    have hbl:=cq b
    by_cases hklt:k<(ae b).length
    ·have t2:decide ((k:Int)<((ae b).length:Int))=true:=decide_eq_true aa
     have e5:0+(k:Int).toNat=k:=aa
     have e6:IntKind.i64.wrap ((i:Int)+k)=((i+k:Nat):Int):=by rw[wrap_i64 aa aa];omega
     have e7:0+((i+k:Nat):Int).toNat=i+k:=aa
     obtain⟨v,hvv⟩:=Int.eq_ofNat_of_zero_le (aX b k).1
     have hv2:=(aX b k).2
     obtain⟨o,ho⟩:=Int.eq_ofNat_of_zero_le (hw2' (i+k)).1
     have Pc:=(hw2' (i+k)).2
     have e8:(b8 b).getD k 0=(v:Int):=by rw[dH hklt];exact hvv
     have hpv:w*v≤4294967295*4294967295:=Nat.mul_le_mul aa aa
     have e9:IntKind.u64.wrap ((c:Int)+IntKind.u64.wrap (IntKind.u64.wrap (IntKind.u64.wrap (w:Int)*IntKind.u64.wrap (v:Int))+IntKind.u64.wrap (o:Int)))=((c+(w*v+o):Nat):Int):=by
      rw[dW (n:=w) aa,dW (n:=v) aa,dW (n:=o) aa,←Int.natCast_mul,dW (n:=w*v) aa,←Int.natCast_add,dW (n:=w*v+o) aa,←Int.natCast_add,dW aa]
     have Pf:IntKind.u32.wrap ((c+(w*v+o):Nat):Int)=(((c+(w*v+o)) % 4294967296:Nat):Int):=oV _
     have UB:jz .u64 ((c+(w*v+o):Nat):Int) 32=(((c+(w*v+o))/4294967296:Nat):Int):=fw _
     have nk:(c+(w*v+o))/4294967296<4294967296:=aa
     have cb:=DT (i:=i) (k:=k) (Y:=ae b) aa ho (by rw[←cf (i+k) (Nat.le_refl _)];exact ho) hvv hval2
     conv=>whnf
     (repeat((first|refine ah rfl rfl ?_|refine And.intro Q5 ?_|rw[t2]|rw[e5]|rw[e8]|rw[e6]|rw[e7]|rw[ho]|rw[e9]|rw[Pf]|rw[UB]|rw[e4]);conv=>whnf))
     exact⟨(ae b).length - (k+1),fun k=>k,[4,8,9,10,11,12,53,54,55,60,61,62],[4,1001,1002,52],aa,aF,k+1,_,_,rfl,aa,nk,by simpa using hlen2,hw2'.set aa aa,(fun j hj=>by rw[aQ,if_neg aa];exact cf j aa),cb,rfl,rfl⟩
    ·have kE:k=(ae b).length:=aa
     subst kE
     have t2:decide (((ae b).length:Int)<((ae b).length:Int))=false:=decide_eq_false aa
     have e6:IntKind.i64.wrap ((i:Int)+((ae b).length:Int))=((i+(ae b).length:Nat):Int):=by rw[wrap_i64 aa aa];omega
     have e7:0+((i+(ae b).length:Nat):Int).toNat=i+(ae b).length:=aa
     have e8:IntKind.u32.wrap (c:Int)=(c:Int):=oq hc
     have ig:=Hz (X:=ae a) (o2:=o2) aa (by rw[cf _ (Nat.le_refl _)];exact hz _ (Nat.le_refl _)) hww (ey b) bF hval2
     conv=>whnf
     (repeat((first|refine ag rfl rfl ?_|refine And.intro Q5 ?_|rw[t2]|rw[e6]|rw[e7]|rw[e8]|rw[e2]);conv=>whnf))
     exact⟨(ae a).length - (i+1),fun k=>k,[4,8,9,53,54,55],[4,1001,1002,52],aa,aF,i+1,_,rfl,aa,by simpa using hlen2,hw2'.set aa aa,(fun j hj=>by rw[aQ,if_neg aa,cf j aa];exact hz j aa),by rw[show i+1+(ae b).length=i+(ae b).length+1 from by omega];exact ig,rfl,rfl⟩
   ·have lB:i=(ae a).length:=aa
    subst lB
    have t1:decide (((ae a).length:Int)<((ae a).length:Int))=false:=decide_eq_false aa
    rw[ey]at bF
    have lD:(ay out ((ae a).length+(ae b).length)).toNat=a*b:=by
     rw[bF,←Int.natCast_mul,Int.toNat_natCast]
    have DS:=uo out ((ae a).length+(ae b).length) aa aa hw 52 true
    rw[lD]at DS
    conv=>whnf
    (repeat(first|(refine ag rfl rfl ?_;conv=>whnf)|(refine ny (by assumption) rfl ?_;conv=>whnf)|(rw[t1];conv=>whnf)))
    exact aq.refl _
theorem HA (xs:List Int) (n:Nat) (hn:n≤xs.length) (hl:xs.length<1099511627776) (hx:fv xs) (y:Nat) (hy0:y≠0) (hy:y<4294967296) (K Q:Nat) (hKQ:Q≠K) (wr:Bool) (X:Nat) (hX:ay xs n=X):
  af Tryz.prog 314 [.aK K 1 0 n,.val (.int .u32 y)] [(K,⟨23,wr,.ints .u32 xs⟩)] (.cC [.aK Q 1 0 n,.val (.int .u32 (X % y:Nat))]) [(Q,⟨23,true,.ints .u32 (bE (X/y) n)⟩)] []:=by
 refine af.rL ?_
 refine gw (Z:=[]) aM bB Tryz.func314 rfl aF (args:=[.aK 0 1 0 n,.val (.int .u32 y)]) (fk:=[(0,⟨23,false,.ints .u32 xs⟩)]) (c:=.cC [.aK 9 1 0 n,.val (.int .u32 (X % y:Nat))]) (new:=[(9,⟨23,true,.ints .u32 (bE (X/y) n)⟩)]) (upd:=[]) (bV.of rfl rfl rfl rfl rfl rfl rfl rfl rfl rfl rfl) rfl (dc [(0,K),(9,Q)]) (bh.SI rfl (fun q hq=>by simp[ax]at hq;subst hq;exact hKQ)) ?_
 intro W0 w0 ρ0 hE
 conv=>whnf
 have e0:IntKind.i64.wrap ((n:Int) - 1)=(n:Int) - 1:=wrap_i64 aa aa
 (repeat(first|(refine And.intro Q5 ?_;conv=>whnf)|(rw[e0];conv=>whnf)))
 refine az hE (fun k=>k) [0,1,4,5,6] [0,9] (fun j fr hp=>∃(q:List Int) (r:Nat),j≤n∧q.length=n∧fv q∧(∀i,i<j→q.getD i 0=0)∧r<y∧ay q n*y+r*4294967296^j=X - ay xs j∧
  fr=[(0,.aK 0 1 0 n),(1,.val (.int .u32 y)),(4,.aK 9 1 0 n),(5,.val (.int .u32 r)),(6,.val (.int .i64 ((j:Int) - 1)))]∧hp=[(0,⟨23,false,.ints .u32 xs⟩),(9,⟨23,true,.ints .u32 q⟩)]) n ?_ ?_ ?_
 ·kernel_rfl
 ·exact⟨List.replicate n 0,0,aa,by simp,(fun i=>by rw[br];decide),(fun i _=>br),aa,by rw[eg (k:=0) (fun i _ _=>br) aa,hX];simp[ay],rfl,rfl⟩
 rintro j _ _ ⟨q,r,hj,hql,hq,Gd,hr,bF,rfl,rfl⟩
 by_cases h0:j=0
 ·subst h0
  have t2:decide (((0:Nat):Int) - 1≥0)=false:=rfl
  obtain⟨Qv,hQ⟩:=Int.eq_ofNat_of_zero_le (bQ hq n)
  have hX2:Qv*y+r=X:=by
   rw[hQ,Int.pow_zero,Int.mul_one,ay,Int.sub_zero,←Int.natCast_mul]at bF
   omega
  have hdiv:X/y=Qv:=by rw[←hX2,Nat.add_comm,Nat.add_mul_div_right _ _ aa,Nat.div_eq_of_lt hr,Nat.zero_add]
  have aa3:X % y=r:=by rw[←hX2,Nat.add_comm,Nat.add_mul_mod_self_right,Nat.mod_eq_of_lt hr]
  rw[hdiv,aa3,←oS hql hq hQ]
  conv=>whnf
  (repeat(first|(refine ag rfl rfl ?_;conv=>whnf)))
  exact⟨aq.refl _,rR rfl,(fun _ _ h=>by cases h)⟩
 ·obtain⟨i,rfl⟩:∃i,j=i+1:=⟨j - 1,aa⟩
  have ei:(((i+1:Nat):Int) - 1)=(i:Int):=aa
  rw[ei]
  have t2:decide ((i:Int)≥0)=true:=decide_eq_true aa
  have e1:0+(i:Int).toNat=i:=aa
  have e2:IntKind.i64.wrap ((i:Int) - 1)=(i:Int) - 1:=wrap_i64 aa aa
  obtain⟨w,hww⟩:=Int.eq_ofNat_of_zero_le (hx i).1
  have ni:=(hx i).2
  have kd:=P9 r w y hr aa hy
  have hrl:(r*4294967296+w) % y<y:=Nat.mod_lt _ aa
  have hqd:(r*4294967296+w)/y<4294967296:=Nat.div_lt_of_lt_mul (by
   have:=Nat.mul_le_mul_right 4294967296 (show r+1≤y by omega)
   rw[Nat.mul_comm y];omega)
  have cb:ay (q.set i (((r*4294967296+w)/y:Nat):Int)) n*y+(((r*4294967296+w) % y:Nat):Int)*4294967296^i=X - ay xs i:=by
   rw[mD aa aa,Gd i aa,Int.sub_zero]
   have hdm:((y:Int)*(((r*4294967296+w)/y:Nat):Int)+(((r*4294967296+w) % y:Nat):Int))=(r:Int)*4294967296+w:=by
    have:=Nat.div_add_mod (r*4294967296+w) y
    rw[←Int.natCast_mul,←Int.natCast_add,this];omega
   rw[Int.pow_succ,ay,hww]at bF
   generalize (((r*4294967296+w)/y:Nat):Int)=d at*
   generalize (((r*4294967296+w) % y:Nat):Int)=e at*
   generalize (4294967296:Int)^i=P at*
   grind
  conv=>whnf
  (repeat((first|refine ah rfl rfl ?_|refine And.intro Q5 ?_|refine a8 (by assumption) ?_|rw[t2]|rw[e1]|rw[hww]|rw[e2]);conv=>whnf))
  exact⟨i,fun k=>k,[0,1,4,5,6],[0,9],aa,aF,_,_,aa,by simpa using hql,hq.set (Int.natCast_nonneg _) (Int.ofNat_lt.2 hqd),(fun j hj=>by rw[aQ,if_neg aa];exact Gd j aa),hrl,cb,rfl,rfl⟩
theorem aa5 {w s c:Nat} (hs:s<32) (hc:c<2^s) (hw:w<4294967296):
  Fw .u32 (jH .u32 (w:Int) (s:Int)) (c:Int)=((w*2^s % 4294967296+c:Nat):Int)∧w*2^s % 4294967296+c<4294967296:=by
 have LJ:min (s:Int).toNat IntKind.u32.bits=s:=by simp[IntKind.bits];omega
 have e:jH .u32 (w:Int) (s:Int)=((w*2^s % 4294967296:Nat):Int):=by
  rw[jH,LJ,show(w:Int)*2^s=((w*2^s:Nat):Int)from by rw[Int.natCast_mul,Int.natCast_pow];rfl]
  exact oV _
 have hW:4294967296=2^(32 - s)*2^s:=by rw[←Nat.pow_add,show 32 - s+s=32 from by omega]
 have e2:w*2^s % 4294967296=2^s*(w % 2^(32 - s)):=by
  rw[hW,Nat.mul_mod_mul_right,Nat.mul_comm]
 have hm:w*2^s % 4294967296<4294967296:=Nat.mod_lt _ aH
 have aI:w % 2^(32 - s)<2^(32 - s):=Nat.mod_lt _ (Nat.two_pow_pos _)
 have lD:w*2^s % 4294967296+c<4294967296:=by
  rw[e2]
  have:=Nat.mul_le_mul_left (2^s) (show w % 2^(32 - s)+1≤2^(32 - s)from aI)
  rw[Nat.mul_comm (2^s) (2^(32 - s)),←hW,Nat.mul_add,Nat.mul_one]at this
  omega
 refine⟨?_,lD⟩
 rw[e,vZ hm aa]
 congr 1
 rw[e2,←Nat.two_pow_add_eq_or_of_lt hc]
theorem At (xs:List Int) (n:Nat) (hn:n≤xs.length) (hl:xs.length<1099511627776) (hx:fv xs) (s:Nat) (hs:s<32) (K Q:Nat) (hKQ:Q≠K) (wr:Bool) (X:Nat) (hX:ay xs n=X):
  af Tryz.prog 359 [.aK K 1 0 n,.val (.int .i64 s)] [(K,⟨23,wr,.ints .u32 xs⟩)] (.aK Q 1 0 (n+1)) [(Q,⟨23,true,.ints .u32 (bE (X*2^s) (n+1))⟩)] []:=by
 refine af.rL ?_
 refine gw (Z:=[]) aM bB Tryz.func359 rfl aF (args:=[.aK 0 1 0 n,.val (.int .i64 s)]) (fk:=[(0,⟨23,false,.ints .u32 xs⟩)]) (c:=.aK 12 1 0 (n+1)) (new:=[(12,⟨23,true,.ints .u32 (bE (X*2^s) (n+1))⟩)]) (upd:=[]) (bV.of rfl rfl rfl rfl rfl rfl rfl rfl rfl rfl rfl) rfl (dc [(0,K),(12,Q)]) (bh.SI rfl (fun q hq=>by simp[ax]at hq;subst hq;exact hKQ)) ?_
 intro W0 w0 ρ0 hE
 conv=>whnf
 have ew:IntKind.i64.wrap ((n:Int)+1)=((n+1:Nat):Int):=by rw[wrap_i64 aa aa];omega
 (repeat(first|(refine And.intro Q5 ?_;conv=>whnf)|(rw[ew];conv=>whnf)))
 refine az hE (fun k=>k) [0,1,5,6,13,14,15] [0,12] (fun m fr hp=>∃(i:Nat) (out:List Int) (c:Nat),m=n - i∧i≤n∧out.length=n+1∧fv out∧c<2^s∧ay out i+c*4294967296^i=ay xs i*2^s∧
  fr=[(0,.aK 0 1 0 n),(1,.val (.int .i64 s)),(5,.aK 12 1 0 (n+1)),(6,.val (.int .u32 c)),(13,.aK 0 1 0 n),(14,.val (.int .i64 n)),(15,.val (.int .i64 i))]∧hp=[(0,⟨23,false,.ints .u32 xs⟩),(12,⟨23,true,.ints .u32 out⟩)]) n ?_ ?_ ?_
 ·kernel_rfl
 ·exact⟨0,List.replicate (n+1) 0,0,aa,aa,by simp,(fun i=>by rw[br];decide),Nat.two_pow_pos s,by simp[ay],rfl,rfl⟩
 rintro m _ _ ⟨i,out,c,rfl,hi,hlen,hw,hc,bF,rfl,rfl⟩
 have aho:2^s≤2147483648:=Nat.le_trans (Nat.pow_le_pow_right aH (show s≤31 by omega)) aH
 by_cases aI:i<n
 ·have t1:decide ((i:Int)<(n:Int))=true:=decide_eq_true aa
  have e1:0+(i:Int).toNat=i:=aa
  have e2:IntKind.i64.wrap ((i:Int)+1)=((i+1:Nat):Int):=by rw[wrap_i64 aa aa];omega
  obtain⟨w,hww⟩:=Int.eq_ofNat_of_zero_le (hx i).1
  have ni:=(hx i).2
  obtain⟨f1,f2⟩:=aa5 (w:=w) hs hc aa
  have SH:w*2^s≤4294967295*2147483648:=Nat.mul_le_mul aa aho
  have f3:IntKind.u32.wrap (jz .u64 (jH .u64 (IntKind.u64.wrap (w:Int)) (s:Int)) 32)=((w*2^s/4294967296:Nat):Int):=by
   have LJ:min (s:Int).toNat IntKind.u64.bits=s:=by simp[IntKind.bits];omega
   rw[dW (n:=w) aa,jH,LJ,show(w:Int)*2^s=((w*2^s:Nat):Int)from by rw[Int.natCast_mul,Int.natCast_pow];rfl,dW aa,fw,oq aa]
  have nk:w*2^s/4294967296<2^s:=Nat.div_lt_of_lt_mul (by
   exact Nat.mul_lt_mul_of_pos_right aa (Nat.two_pow_pos s))
  have cb:ay (out.set i ((w*2^s % 4294967296+c:Nat):Int)) (i+1)+((w*2^s/4294967296:Nat):Int)*4294967296^(i+1)=ay xs (i+1)*2^s:=by
   rw[ay,ay,cV (Nat.le_refl _),aQ,if_pos ⟨rfl,aa⟩,hww,Int.pow_succ]
   have hd:((w*2^s % 4294967296+c:Nat):Int)=(w:Int)*2^s+c - ((w*2^s/4294967296:Nat):Int)*4294967296:=by
    have:=Nat.div_add_mod (w*2^s) 4294967296
    have h2:((w*2^s:Nat):Int)=(w:Int)*2^s:=by rw[Int.natCast_mul,Int.natCast_pow];rfl
    omega
   rw[hd]
   generalize ((w*2^s/4294967296:Nat):Int)=q
   generalize (4294967296:Int)^i=P at*
   generalize (2:Int)^s=S at*
   grind
  conv=>whnf
  (repeat((first|refine ah rfl rfl ?_|refine And.intro Q5 ?_|rw[t1]|rw[e1]|rw[hww]|rw[f1]|rw[f3]|rw[e2]);conv=>whnf))
  exact⟨n - (i+1),fun k=>k,[0,1,5,6,13,14,15],[0,12],aa,aF,i+1,_,_,rfl,aa,by simpa using hlen,hw.set aa aa,nk,cb,rfl,rfl⟩
 ·have lB:i=n:=aa
  subst lB
  have t1:decide ((i:Int)<(i:Int))=false:=decide_eq_false aa
  have e1:0+(i:Int).toNat=i:=aa
  have CZ:c<4294967296:=aa
  have ig:ay (out.set i (c:Int)) (i+1)=((X*2^s:Nat):Int):=by
   rw[ay,cV (Nat.le_refl _),aQ,if_pos ⟨rfl,aa⟩,bF,hX,Int.natCast_mul,Int.natCast_pow];rfl
  rw[←oS (xs:=out.set i (c:Int)) (by simpa using hlen) (hw.set aa aa) ig]
  conv=>whnf
  (repeat((first|refine ag rfl rfl ?_|refine And.intro Q5 ?_|rw[t1]|rw[e1]);conv=>whnf))
  exact⟨aq.refl _,rR rfl,(fun _ _ h=>by cases h)⟩
theorem aa6 (us:List Int) (hl:us.length<1099511627776) (hu:fv us) (K:Nat) (U:Nat) (hU:ay us us.length=U):
  af Tryz.prog 361 [.aK K 1 0 us.length] [(K,⟨23,true,.ints .u32 us⟩)] (.cC []) [] [(K,⟨23,true,.ints .u32 (bE (U/2) us.length)⟩)]:=by
 refine gw (Z:=[]) aM bB Tryz.func361 rfl aF (args:=[.aK 0 1 0 us.length]) (fk:=[(0,⟨23,true,.ints .u32 us⟩)]) (c:=.cC []) (new:=[]) (upd:=[(0,⟨23,true,.ints .u32 (bE (U/2) us.length)⟩)]) (bV.of rfl rfl rfl rfl rfl rfl rfl rfl rfl rfl rfl) rfl (fun _=>K) bh.upd ?_
 intro W0 w0 ρ0 hE
 conv=>whnf
 skip
 refine az hE (fun k=>k) [0,4,5] [0] (fun m fr hp=>∃(i:Nat) (o:List Int),m=us.length - i∧i≤us.length∧o.length=us.length∧fv o∧(∀j,i≤j→o.getD j 0=us.getD j 0)∧2*ay o i+us.getD 0 0 % 2=ay us i+us.getD i 0 % 2*4294967296^i∧
  fr=[(0,.aK 0 1 0 us.length),(4,.val (.int .i64 us.length)),(5,.val (.int .i64 i))]∧hp=[(0,⟨23,true,.ints .u32 o⟩)]) us.length ?_ ?_ ?_
 ·kernel_rfl
 ·exact⟨0,us,aa,aa,rfl,hu,(fun _ _=>rfl),by simp[ay],rfl,rfl⟩
 rintro m _ _ ⟨i,o,rfl,hi,hlen,hw,cf,bF,rfl,rfl⟩
 by_cases aI:i<us.length
 ·have t1:decide ((i:Int)<(us.length:Int))=true:=decide_eq_true aa
  have e1:0+(i:Int).toNat=i:=aa
  have e2:IntKind.i64.wrap ((i:Int)+1)=((i+1:Nat):Int):=by rw[wrap_i64 aa aa];omega
  obtain⟨w,hww⟩:=Int.eq_ofNat_of_zero_le (hu i).1
  have ni:=(hu i).2
  have LM:o.getD i 0=(w:Int):=by rw[cf i (Nat.le_refl _)];exact hww
  have f1:jz .u32 (w:Int) 1=((w/2:Nat):Int):=gS .u32 (s:=1) aH
  obtain⟨z,hz⟩:=Int.eq_ofNat_of_zero_le (hu (i+1)).1
  have lR:=(hu (i+1)).2
  have f2:∀q:Nat,q<2147483648→Fw .u32 (q:Int) (jH .u32 (z:Int) 31)=((q+z % 2*2147483648:Nat):Int):=fun q hq=>by
   have e:jH .u32 (z:Int) 31=((2147483648*(z % 2):Nat):Int):=by
    show IntKind.u32.wrap ((z:Int)*2147483648)=_
    rw[show(z:Int)*2147483648=((z*2147483648:Nat):Int)from aa,oV]
    congr 1;omega
   rw[e,vZ aa aa,Nat.or_comm,show 2147483648*(z % 2)=2^31*(z % 2)from rfl,←Nat.two_pow_add_eq_or_of_lt (i:=31) hq]
   congr 1;omega
  have cb:∀t:Int,t=us.getD (i+1) 0 % 2→2*ay (o.set i (((w/2:Nat):Int)+t*2147483648)) (i+1)+us.getD 0 0 % 2=ay us (i+1)+us.getD (i+1) 0 % 2*4294967296^(i+1):=fun t ht=>by
   rw[←ht,ay,ay,cV (Nat.le_refl _),aQ,if_pos ⟨rfl,aa⟩,hww,Int.pow_succ]
   rw[hww]at bF
   have hd:2*((w/2:Nat):Int)=(w:Int) - (w:Int) % 2:=aa
   generalize ((w/2:Nat):Int)=q at*
   generalize (w:Int) % 2=p at*
   generalize (4294967296:Int)^i=P at*
   generalize us.getD 0 0 % 2=b at*
   grind
  have dr:∀(v:Int) j,i+1≤j→(o.set i v).getD j 0=us.getD j 0:=fun v j hj=>by
   rw[aQ,if_neg aa];exact cf j aa
  by_cases hn:i+1<us.length
  ·have t2:decide (((i+1:Nat):Int)<(us.length:Int))=true:=decide_eq_true aa
   have e3:0+((i+1:Nat):Int).toNat=i+1:=aa
   have g1:∀v:Int,(o.set i v).getD i 0=v:=fun v=>by rw[aQ,if_pos ⟨rfl,aa⟩]
   have g2:∀v:Int,(o.set i v).getD (i+1) 0=(z:Int):=fun v=>by rw[dr v _ (Nat.le_refl _)];exact hz
   have g3:∀u v:Int,(o.set i u).set i v=o.set i v:=fun u v=>by rw[List.set_set]
   have g4:((w/2+z % 2*2147483648:Nat):Int)=((w/2:Nat):Int)+us.getD (i+1) 0 % 2*2147483648:=by rw[hz];omega
   conv=>whnf
   have g5:∀v:Int,(o.set i v).length=us.length:=fun v=>by simpa using hlen
   (repeat((first|refine ah rfl rfl ?_|refine aB aF ?_|refine And.intro Q5 ?_|rw[t1]|rw[e1]|rw[LM]|rw[f1]|rw[e2]|rw[t2]|rw[e3]|rw[g1]|rw[g2]|rw[f2 (w/2) aa]|rw[g3]|rw[g4]);conv=>whnf))
   exact⟨us.length - (i+1),fun k=>k,[0,4,5],[0],aa,aF,i+1,_,rfl,aa,by simpa using hlen,hw.set aa aa,dr _,cb _ rfl,rfl,rfl⟩
  ·have t2:decide (((i+1:Nat):Int)<(us.length:Int))=false:=decide_eq_false aa
   have zQ:us.getD (i+1) 0=0:=dy aa
   have:=cb 0 (by rw[zQ];rfl)
   rw[Int.zero_mul,Int.add_zero]at this
   conv=>whnf
   (repeat((first|refine ah rfl rfl ?_|refine ag rfl rfl ?_|refine And.intro Q5 ?_|rw[t1]|rw[e1]|rw[LM]|rw[f1]|rw[e2]|rw[t2]);conv=>whnf))
   exact⟨us.length - (i+1),fun k=>k,[0,4,5],[0],aa,aF,i+1,_,rfl,aa,by simpa using hlen,hw.set aa aa,dr _,this,rfl,rfl⟩
 ·have lB:i=us.length:=aa
  subst lB
  have t1:decide ((us.length:Int)<(us.length:Int))=false:=decide_eq_false aa
  rw[dy (xs:=us) (i:=us.length) (Nat.le_refl _),hU]at bF
  have ig:ay o us.length=((U/2:Nat):Int):=by
   rw[show(0:Int) % 2=0 from rfl,Int.zero_mul,Int.add_zero]at bF
   omega
  rw[←oS hlen hw ig]
  conv=>whnf
  (repeat(first|(refine ag rfl rfl ?_;conv=>whnf)|(rw[t1];conv=>whnf)))
  exact⟨aq.refl _,(fun _ _ h=>by cases h),rR rfl⟩
theorem rX {v m L i:Nat} (hv:v<4294967296^m) (hi:m≤i):(bE v L).getD i 0=0:=by
 by_cases h2:i<L
 ·rw[jn h2,Nat.div_eq_of_lt (Nat.lt_of_lt_of_le hv (Nat.pow_le_pow_right aH hi))];rfl
 ·exact dy (by rw[cS];omega)
theorem xS {o:List Int} {L m v:Nat} (hl:o.length=L) (hw:fv o) (hz:∀j,m≤j→o.getD j 0=0) (hm:m≤L) (hv:ay o m=v):o=bE v L:=
 oS hl hw (by rw[eg (k:=m) (fun i h1 _=>hz i h1) hm,hv])
theorem Jq {o us vs:List Int} {s i d w c l x:Nat} (hi:s+i<o.length) (hx:us.getD (s+i) 0=x) (hv:vs.getD i 0=w) (hl:l≤1) (Kx:x<4294967296)
  (bF:ay o (s+i)=ay us (s+i) - d*ay vs i*4294967296^s+((c:Int)+l)*4294967296^(s+i)):
  ay (o.set (s+i) (((x+4294967296 - (c+d*w) % 4294967296 - l) % 4294967296:Nat):Int)) (s+(i+1))=ay us (s+(i+1)) - d*ay vs (i+1)*4294967296^s+((((c+d*w)/4294967296:Nat):Int)+((if x<(c+d*w) % 4294967296+l then 1 else 0:Nat):Int))*4294967296^(s+(i+1)):=by
 rw[show s+(i+1)=(s+i)+1 from aa,ay,ay,ay,cV (Nat.le_refl _),aQ,if_pos ⟨rfl,hi⟩,hx,hv,Int.pow_succ]
 have C0:(c+d*w) % 4294967296<4294967296:=Nat.mod_lt _ aH
 have hd:(((x+4294967296 - (c+d*w) % 4294967296 - l) % 4294967296:Nat):Int)=(x:Int) - (((c+d*w) % 4294967296:Nat):Int) - l+((if x<(c+d*w) % 4294967296+l then 1 else 0:Nat):Int)*4294967296:=by
  split<;>omega
 have hc:(((c+d*w) % 4294967296:Nat):Int)=(c:Int)+d*w - (((c+d*w)/4294967296:Nat):Int)*4294967296:=by
  have:=Nat.div_add_mod (c+d*w) 4294967296
  have h2:((d*w:Nat):Int)=(d:Int)*w:=Int.natCast_mul _ _
  omega
 rw[hd,hc,bF,Int.pow_add]
 generalize ((if x<(c+d*w) % 4294967296+l then 1 else 0:Nat):Int)=l'
 generalize (((c+d*w)/4294967296:Nat):Int)=q
 generalize (4294967296:Int)^s=S
 generalize (4294967296:Int)^i=P
 grind
theorem LN {o us vs:List Int} {s n d c l x:Nat} (hi:s+n<o.length) (hx:us.getD (s+n) 0=x) (hl:l≤1) (hc:c<4294967296) (Kx:x<4294967296)
  (bF:ay o (s+n)=ay us (s+n) - d*ay vs n*4294967296^s+((c:Int)+l)*4294967296^(s+n)):
  ay (o.set (s+n) (((x+4294967296 - c - l) % 4294967296:Nat):Int)) (s+n+1)=ay us (s+n+1) - d*ay vs n*4294967296^s+((if x<c+l then 1 else 0:Nat):Int)*4294967296^(s+n+1):=by
 rw[ay,ay,cV (Nat.le_refl _),aQ,if_pos ⟨rfl,hi⟩,hx,Int.pow_succ]
 have hd:(((x+4294967296 - c - l) % 4294967296:Nat):Int)=(x:Int) - c - l+((if x<c+l then 1 else 0:Nat):Int)*4294967296:=by
  split<;>omega
 rw[hd,bF]
 generalize ((if x<c+l then 1 else 0:Nat):Int)=l'
 generalize (4294967296:Int)^(s+n)=S
 generalize (4294967296:Int)^s=P
 grind
theorem LO {R D B l:Nat} {v:Int} (hl:l≤1) (h0:0≤v) (h1:v<B) (hR:R<B) (hv:v=(R:Int) - D+l*B):
  decide ((l:Int)>0)=decide (R<D)∧v=(((R+B - D) % B:Nat):Int):=by
 have Uz:l=0∨l=1:=aa
 rcases Uz with rfl|rfl
 ·have h2:D≤R:=aa
  refine⟨by rw[decide_eq_false (show ¬R<D by omega)];rfl, ?_⟩
  rw[show R+B - D=(R - D)+B from aa,Nat.add_mod_right,Nat.mod_eq_of_lt aa]
  omega
 ·have h2:R<D:=aa
  refine⟨by rw[decide_eq_true h2];rfl, ?_⟩
  rw[Nat.mod_eq_of_lt aa]
  omega
theorem LP (L s n R d V:Nat) (vs:List Int) (hL:L<1099511627776) (hsn:s+n+1≤L) (hR:R<4294967296^(s+n+1)) (hvl:vs.length<1099511627776) (hn:n≤vs.length) (Qc:fv vs) (hV:ay vs n=V) (hd:d<4294967296)
  (K Q:Nat) (hKQ:K≠Q):
  af Tryz.prog 360 [.aK K 1 s (n+1),.aK Q 1 0 n,.val (.int .u64 d)] [(K,⟨23,true,.ints .u32 (bE R L)⟩),(Q,⟨23,true,.ints .u32 vs⟩)]
   (.val (.bool (decide (R<d*V*4294967296^s)))) [] [(K,⟨23,true,.ints .u32 (bE ((R+4294967296^(s+n+1) - d*V*4294967296^s) % 4294967296^(s+n+1)) L)⟩),(Q,⟨23,true,.ints .u32 vs⟩)]:=by
 refine gw (Z:=[]) aM bB Tryz.func360 rfl aF (args:=[.aK 0 1 s (n+1),.aK 1 1 0 n,.val (.int .u64 d)]) (fk:=[(0,⟨23,true,.ints .u32 (bE R L)⟩),(1,⟨23,true,.ints .u32 vs⟩)])
  (c:=.val (.bool (decide (R<d*V*4294967296^s)))) (new:=[]) (upd:=[(0,⟨23,true,.ints .u32 (bE ((R+4294967296^(s+n+1) - d*V*4294967296^s) % 4294967296^(s+n+1)) L)⟩),(1,⟨23,true,.ints .u32 vs⟩)]) (bV.of rfl rfl rfl rfl rfl rfl rfl rfl rfl rfl rfl) rfl (dc [(0,K),(1,Q)]) (bh.two hKQ) ?_
 intro W0 w0 ρ0 hE
 conv=>whnf
 skip
 have ahp:(bE R L).length=L:=cS R L
 have xT:fv (bE R L):=fO R L
 have LQ:ay (bE R L) (s+n+1)=R:=by
  have h1:=eg (xs:=bE R L) (k:=s+n+1) (n:=L) (fun i h1 _=>rX hR h1) hsn
  rw[←h1,gB,Nat.mod_eq_of_lt (Nat.lt_of_lt_of_le hR (Nat.pow_le_pow_right aH hsn))]
 have oo:∀(o:List Int) (v:Nat),o.length=L→fv o→(∀j,s+n+1≤j→o.getD j 0=0)→ay o (s+n+1)=v→o=bE v L:=fun o v h1 h2 h3 h4=>xS h1 h2 h3 hsn h4
 have hz:∀j,s+n+1≤j→(bE R L).getD j 0=0:=fun j hj=>rX hR hj
 generalize bE R L=us at*
 refine az hE (fun k=>k) [0,1,2,7,8,12,13,14] [0,1] (fun m fr hp=>∃(i:Nat) (o:List Int) (c l:Nat),m=n - i∧i≤n∧o.length=L∧fv o∧c<4294967296∧l≤1∧(∀j,s+i≤j→o.getD j 0=us.getD j 0)∧ay o (s+i)=ay us (s+i) - d*ay vs i*4294967296^s+((c:Int)+l)*4294967296^(s+i)∧
  fr=[(0,.aK 0 1 s (n+1)),(1,.aK 1 1 0 n),(2,.val (.int .u64 d)),(7,.val (.int .u64 c)),(8,.val (.int .u32 l)),(12,.aK 1 1 0 n),(13,.val (.int .i64 n)),(14,.val (.int .i64 i))]∧hp=[(0,⟨23,true,.ints .u32 o⟩),(1,⟨23,true,.ints .u32 vs⟩)]) n ?_ ?_ ?_
 ·kernel_rfl
 ·exact⟨0,us,0,0,aa,aa,ahp,xT,aa,aa,(fun _ _=>rfl),by simp[ay],rfl,rfl⟩
 rintro m _ _ ⟨i,o,c,l,rfl,hi,hlen,hw,hc,hl,cf,bF,rfl,rfl⟩
 obtain⟨x,hx⟩:=Int.eq_ofNat_of_zero_le (xT (s+i)).1
 have Kv:=(xT (s+i)).2
 have UC:o.getD (s+i) 0=(x:Int):=by rw[cf _ (Nat.le_refl _)];exact hx
 by_cases aI:i<n
 ·have t1:decide ((i:Int)<(n:Int))=true:=decide_eq_true aa
  have e1:0+(i:Int).toNat=i:=aa
  have e1s:s+(i:Int).toNat=s+i:=aa
  have e2:IntKind.i64.wrap ((i:Int)+1)=((i+1:Nat):Int):=by rw[wrap_i64 aa aa];omega
  obtain⟨w,hww⟩:=Int.eq_ofNat_of_zero_le (Qc i).1
  have ni:=(Qc i).2
  have hp:d*w≤4294967295*4294967295:=Nat.mul_le_mul aa aa
  have e9:IntKind.u64.wrap ((c:Int)+IntKind.u64.wrap ((d:Int)*IntKind.u64.wrap (w:Int)))=((c+d*w:Nat):Int):=by
   rw[dW (n:=w) aa,←Int.natCast_mul,dW (n:=d*w) aa,←Int.natCast_add,dW aa]
  have Pf:IntKind.u32.wrap ((c+d*w:Nat):Int)=(((c+d*w) % 4294967296:Nat):Int):=oV _
  have UB:jz .u64 ((c+d*w:Nat):Int) 32=(((c+d*w)/4294967296:Nat):Int):=fw _
  have Pd:=BW x ((c+d*w) % 4294967296) l aa aa hl
  have cb:=Jq (o:=o) (us:=us) (vs:=vs) aa hx hww hl aa bF
  have nk:(c+d*w)/4294967296<4294967296:=aa
  have ql:(if x<(c+d*w) % 4294967296+l then 1 else 0:Nat)≤1:=by split<;>omega
  conv=>whnf
  (repeat((first|refine ah rfl rfl ?_|refine And.intro Q5 ?_|refine a8 (by assumption) ?_|rw[t1]|rw[e1]|rw[e1s]|rw[hww]|rw[UC]|rw[e9]|rw[Pf]|rw[UB]|rw[e2]);conv=>whnf))
  exact⟨n - (i+1),fun k=>k,[0,1,2,7,8,12,13,14],[0,1],aa,aF,i+1,_,_,_,rfl,aa,by simpa using hlen,hw.set aa aa,nk,ql,(fun j hj=>by rw[aQ,if_neg aa];exact cf j aa),cb,rfl,rfl⟩
 ·have lB:i=n:=aa
  subst lB
  have t1:decide ((i:Int)<(i:Int))=false:=decide_eq_false aa
  have e1s:s+(i:Int).toNat=s+i:=aa
  have e8:IntKind.u32.wrap (c:Int)=(c:Int):=oq hc
  have Pd:=BW x c l aa hc hl
  have ig:=LN aa hx hl hc aa bF
  have ql:(if x<c+l then 1 else 0:Nat)≤1:=by split<;>omega
  have zo:fv (o.set (s+i) (((x+4294967296 - c - l) % 4294967296:Nat):Int)):=hw.set aa aa
  have Pe:(o.set (s+i) (((x+4294967296 - c - l) % 4294967296:Nat):Int)).length=L:=by simpa using hlen
  obtain⟨Pg,Ge⟩:=LO (R:=R) (D:=d*V*4294967296^s) (B:=4294967296^(s+i+1)) ql (bQ zo _) (by rw[cM];exact fY zo _) hR (by rw[ig,LQ,hV,Int.natCast_mul,Int.natCast_mul,cM,cM])
  have IY:=oo _ _ Pe zo (fun j hj=>by rw[aQ,if_neg aa,cf j aa];exact hz j hj) Ge
  conv=>whnf
  (repeat((first|refine ag rfl rfl ?_|refine And.intro Q5 ?_|refine a8 (by assumption) ?_|rw[t1]|rw[e1s]|rw[e8]|rw[UC]);conv=>whnf))
  rw[←IY,←Pg]
  exact⟨aq.refl _,(fun _ _ h=>by cases h),eX rfl rfl⟩
def Hid (p:Prop):Prop:=p
theorem Hid.out {p:Prop} (h:Hid p):p:=h
theorem bg {α:Type} [LT α] {a b:α} {q:Prop} (h:a<b) (hq:q):a<b∧q:=⟨h,hq⟩
theorem iV {α:Type} [LE α] {a b:α} {q:Prop} (h:a≤b) (hq:q):a≤b∧q:=⟨h,hq⟩
theorem av {a b q:Prop} (h:a∧b) (hq:q):(a∧b)∧q:=⟨h,hq⟩
theorem dR {α:Type} {a b:α} {q:Prop} (h:a≠b) (hq:q):a≠b∧q:=⟨h,hq⟩
theorem LR {V R P S W d r:Nat} (hP:0<P) (hS:0<S) (hW:0<W) (h1:d*(V/P/W)+r=R/(P*S)/W) (h2:r*W+R/(P*S) % W<d*(V/P % W)):R<d*V*S:=by
 have e1:=Nat.div_add_mod (V/P) W
 have e2:=Nat.div_add_mod (R/(P*S)) W
 have hV:=Nat.div_mul_le_self V P
 have hPS:0<P*S:=Nat.mul_pos hP hS
 have hR:=Nat.lt_div_mul_add (a:=R) hPS
 generalize V/P=V2 at*
 generalize R/(P*S)=R2 at*
 generalize V2/W=v1 at*
 generalize V2 % W=v2 at*
 generalize R2/W=t at*
 generalize R2 % W=u0 at*
 have h3:R2+1≤d*V2:=by
  rw[←e1,←e2,←h1,Nat.mul_add,Nat.mul_add]
  have:d*(W*v1)=W*(d*v1):=by rw[Nat.mul_left_comm]
  have:W*r=r*W:=Nat.mul_comm _ _
  omega
 have h4:(R2+1)*(P*S)≤d*V*S:=by
  refine Nat.le_trans (Nat.mul_le_mul_right _ h3) ?_
  rw[show d*V2*(P*S)=d*(V2*P)*S from by simp only[Nat.mul_assoc]]
  exact Nat.mul_le_mul_right _ (Nat.mul_le_mul_left _ hV)
 rw[Nat.add_mul,Nat.one_mul]at h4
 omega
theorem Jr {V R P S W d r:Nat} (hP:0<P) (hS:0<S) (hW:0<W) (hd:d<W) (h1:d*(V/P/W)+r=R/(P*S)/W) (h2:d*(V/P % W)≤r*W+R/(P*S) % W) (hV:W*P≤V):d*V*S≤R+V*S:=by
 have e1:=Nat.div_add_mod (V/P) W
 have e2:=Nat.div_add_mod (R/(P*S)) W
 have hV2:=Nat.lt_div_mul_add (a:=V) hP
 have hR:=Nat.div_mul_le_self R (P*S)
 generalize V/P=V2 at*
 generalize R/(P*S)=R2 at*
 generalize V2/W=v1 at*
 generalize V2 % W=v2 at*
 generalize R2/W=t at*
 generalize R2 % W=u0 at*
 have h3:d*V2≤R2:=by
  rw[←e1,←e2,←h1,Nat.mul_add,Nat.mul_add]
  have:d*(W*v1)=W*(d*v1):=by rw[Nat.mul_left_comm]
  have:W*r=r*W:=Nat.mul_comm _ _
  omega
 have h4:d*V≤d*V2*P+d*P:=by
  rw[Nat.mul_assoc,←Nat.mul_add];exact Nat.mul_le_mul_left _ aa
 have h5:d*P≤V:=Nat.le_trans (Nat.mul_le_mul_right _ (Nat.le_of_lt hd)) hV
 have h6:d*V*S≤(R2*P+V)*S:=Nat.mul_le_mul_right _ (Nat.le_trans h4 (Nat.add_le_add (Nat.mul_le_mul_right _ h3) h5))
 rw[show(R2*P+V)*S=R2*(P*S)+V*S from by rw[Nat.add_mul,Nat.mul_assoc]]at h6
 omega
theorem Js {V R P S W d r:Nat} (hP:0<P) (hS:0<S) (hW:0<W) (hd:d<W) (h1:d*(V/P/W)+r=R/(P*S)/W) (hr:W≤r):d*V*S≤R:=by
 have hPW:0<P*W:=Nat.mul_pos hP hW
 have hV2:=Nat.lt_div_mul_add (a:=V) hPW
 have hR:=Nat.div_mul_le_self R (P*S*W)
 rw[Nat.div_div_eq_div_mul]at h1
 rw[Nat.div_div_eq_div_mul]at h1
 generalize V/(P*W)=v1 at*
 generalize R/(P*S*W)=t at*
 have h3:d*V≤(d*v1+W)*(P*W):=by
  have h4:d*V≤d*(v1*(P*W)+P*W):=Nat.mul_le_mul_left _ aa
  rw[Nat.mul_add,←Nat.mul_assoc]at h4
  rw[Nat.add_mul]
  exact Nat.le_trans h4 (Nat.add_le_add_left (Nat.mul_le_mul_right _ (Nat.le_of_lt hd)) _)
 have h5:d*V*S≤(d*v1+r)*(P*W)*S:=Nat.mul_le_mul_right _ (Nat.le_trans h3 (Nat.mul_le_mul_right _ aa))
 rw[h1,show t*(P*W)*S=t*(P*S*W)from by simp only[Nat.mul_assoc,Nat.mul_comm S W]]at h5
 omega
theorem Gf {V R P S W d r:Nat} (hP:0<P) (hS:0<S) (hW:0<W) (h1:d*(V/P/W)+r=R/(P*S)/W) (hr:W≤r) (hR:R<V*(S*W)):d<W:=by
 have hPW:0<P*W:=Nat.mul_pos hP hW
 have hV2:=Nat.lt_div_mul_add (a:=V) hPW
 have hR2:=Nat.div_mul_le_self R (P*S*W)
 rw[Nat.div_div_eq_div_mul]at h1
 rw[Nat.div_div_eq_div_mul]at h1
 generalize V/(P*W)=v1 at*
 generalize R/(P*S*W)=t at*
 refine Classical.byContradiction fun hc=> ?_
 have h2:W*v1≤d*v1:=Nat.mul_le_mul_right _ aa
 have h3:W*v1+W≤t:=aa
 have h4:(W*v1+W)*(P*S*W)≤R:=Nat.le_trans (Nat.mul_le_mul_right _ h3) hR2
 have h5:V*(S*W)≤(v1*(P*W)+P*W)*(S*W):=Nat.mul_le_mul_right _ aa
 rw[show(v1*(P*W)+P*W)*(S*W)=(W*v1+W)*(P*S*W)from by grind]at h5
 omega
theorem Gg {V R P S W d:Nat} (hP:0<P) (hS:0<S) (hW:0<W) (hv:0<V/P/W) (hd:R/(P*S)/W/(V/P/W)=d):R<(d+1)*V*S:=by
 have hPW:0<P*W:=Nat.mul_pos hP hW
 have ahr:0<P*S*W:=Nat.mul_pos (Nat.mul_pos hP hS) hW
 have hV2:=Nat.div_mul_le_self V (P*W)
 have hR2:=Nat.lt_div_mul_add (a:=R) ahr
 rw[Nat.div_div_eq_div_mul R,Nat.div_div_eq_div_mul V]at hd
 rw[Nat.div_div_eq_div_mul]at hv
 have aI:=Nat.lt_div_mul_add (a:=R/(P*S*W)) hv
 rw[hd]at aI
 generalize V/(P*W)=v1 at*
 generalize R/(P*S*W)=t at*
 have h1:t+1≤(d+1)*v1:=by rw[Nat.add_mul];omega
 have h2:(t+1)*(P*S*W)≤(d+1)*V*S:=by
  refine Nat.le_trans (Nat.mul_le_mul_right _ h1) ?_
  rw[show(d+1)*v1*(P*S*W)=(d+1)*(v1*(P*W))*S from by grind]
  exact Nat.mul_le_mul_right _ (Nat.mul_le_mul_left _ hV2)
 rw[Nat.add_mul,Nat.one_mul]at h2
 omega
theorem Au {o us vs:List Int} {s i x w c:Nat} (hi:s+i<o.length) (hx:us.getD (s+i) 0=x) (hw:vs.getD i 0=w)
  (hv:ay o (s+i)+c*4294967296^(s+i)=ay us (s+i)+ay vs i*4294967296^s):
  ay (o.set (s+i) (((x+w+c) % 4294967296:Nat):Int)) (s+(i+1))+(((x+w+c)/4294967296:Nat):Int)*4294967296^(s+(i+1))=ay us (s+(i+1))+ay vs (i+1)*4294967296^s:=by
 rw[show s+(i+1)=(s+i)+1 from aa,ay,ay,ay,cV (Nat.le_refl _),aQ,if_pos ⟨rfl,hi⟩,hx,hw,Int.pow_succ]
 have hd:(((x+w+c) % 4294967296:Nat):Int)=(x:Int)+w+c - (((x+w+c)/4294967296:Nat):Int)*4294967296:=aa
 rw[hd]
 rw[Int.pow_add]at hv ⊢
 generalize (((x+w+c)/4294967296:Nat):Int)=q
 generalize (4294967296:Int)^i=P at*
 generalize (4294967296:Int)^s=Q at*
 grind
theorem DU {o us vs:List Int} {s n x c R' V:Nat} (hi:s+n<o.length) (hx:us.getD (s+n) 0=x) (hc:c≤1) (Kx:x<4294967296) (hu:ay us (s+n+1)=R') (hV:ay vs n=V)
  (hv:ay o (s+n)+c*4294967296^(s+n)=ay us (s+n)+ay vs n*4294967296^s) (h0:fv (o.set (s+n) (((x+c) % 4294967296:Nat):Int))):
  ay (o.set (s+n) (((x+c) % 4294967296:Nat):Int)) (s+n+1)=(((R'+V*4294967296^s) % 4294967296^(s+n+1):Nat):Int):=by
 have h1:=bQ h0 (s+n+1)
 have h2:=fY h0 (s+n+1)
 rw[ay]at hu
 have h3:ay (o.set (s+n) (((x+c) % 4294967296:Nat):Int)) (s+n+1)=((R'+V*4294967296^s:Nat):Int) - (((x+c)/4294967296:Nat):Int)*4294967296^(s+n+1):=by
  rw[ay,cV (Nat.le_refl _),aQ,if_pos ⟨rfl,hi⟩,Int.natCast_add,←hu,hx,Int.natCast_mul,←hV,cM,Int.pow_succ]
  have hd:(((x+c) % 4294967296:Nat):Int)=(x:Int)+c - (((x+c)/4294967296:Nat):Int)*4294967296:=aa
  rw[hd]
  generalize (((x+c)/4294967296:Nat):Int)=q
  generalize (4294967296:Int)^(s+n)=P at*
  generalize (4294967296:Int)^s=Q at*
  grind
 rw[←cM]at h2
 rw[h3]at h1 h2 ⊢
 rw[←cM]at*
 have e1:(((x+c)/4294967296:Nat):Int)*((4294967296^(s+n+1):Nat):Int)=((((x+c)/4294967296)*4294967296^(s+n+1):Nat):Int):=(Int.natCast_mul _ _).symm
 rw[e1]at h1 h2 ⊢
 generalize (x+c)/4294967296=t at*
 generalize 4294967296^(s+n+1)=B at*
 generalize V*4294967296^s=D at*
 have h5:R'+D=(R'+D - t*B)+t*B:=aa
 rw[h5,Nat.add_mul_mod_self_right,Nat.mod_eq_of_lt aa]
 omega
theorem DV {R d D B:Nat} (h:d*D≤R) (hB:R<B):(R+B - d*D) % B=R - d*D:=by
 rw[show R+B - d*D=(R - d*D)+B from aa,Nat.add_mod_right,Nat.mod_eq_of_lt aa]
theorem DW {R d D B:Nat} (h:R<d*D) (h2:d*D≤R+D) (hB:R<B) (hD:D≤B):((R+B - d*D) % B+D) % B=R - (d - 1)*D∧(d - 1)*D≤R∧R<(d - 1+1)*D∧0<d:=by
 have hd:0<d:=by
  rcases Nat.eq_zero_or_pos d with rfl|h'
  ·simp at h
  ·exact h'
 have e:d*D=(d - 1)*D+D:=by rw[←Nat.succ_mul];congr 1;omega
 have e2:(d - 1+1)*D=d*D:=by congr 1;omega
 rw[e2]
 refine⟨?_,aa,h,hd⟩
 rw[Nat.mod_eq_of_lt (show R+B - d*D<B by omega)]
 rw[show R+B - d*D+D=(R - (d - 1)*D)+B from aa,Nat.add_mod_right,Nat.mod_eq_of_lt aa]
theorem Jt {ys:List Int} (hy:fv ys) {n y Y s V:Nat} (h2:2≤n) (hyt:ys.getD (n - 1) 0=y) (hY:ay ys n=Y) (hs:32 - sz y=s) (hV:Y*2^s=V) (h1:1≤sz y) (h32:sz y≤32):
  V<4294967296^n∧2147483648*4294967296^(n - 1)≤V:=by
 have hn:n=(n - 1)+1:=aa
 have ha:=bQ hy (n - 1)
 have hb:=fY hy (n - 1)
 rw[hn,ay,hyt]at hY
 rw[←cM]at hb hY
 have e1:(y:Int)*((4294967296^(n - 1):Nat):Int)=((y*4294967296^(n - 1):Nat):Int):=(Int.natCast_mul _ _).symm
 rw[e1]at hY
 have hY1:y*4294967296^(n - 1)≤Y:=aa
 have hY2:Y<(y+1)*4294967296^(n - 1):=by rw[Nat.add_mul,Nat.one_mul];omega
 have Vs:y<2^sz y:=dV.1 (Nat.le_refl _)
 have UD:2^(sz y - 1)≤y:=by
  refine Classical.byContradiction fun h=> ?_
  have:=dV.2 (show y<2^(sz y - 1) by omega)
  omega
 have p1:2^sz y*2^s=4294967296:=by rw[←Nat.pow_add,show sz y+s=32 from by omega]
 have p2:2^(sz y - 1)*2^s=2147483648:=by rw[←Nat.pow_add,show sz y - 1+s=31 from by omega]
 have hs0:0<2^s:=Nat.two_pow_pos s
 have hQ:4294967296^n=4294967296^(n - 1)*4294967296:=by rw[←Nat.pow_succ];congr 1
 rw[hQ,←hV]
 generalize 4294967296^(n - 1)=Q at*
 generalize 2^s=T at*
 constructor
 ·have h3:Y*T<(y+1)*Q*T:=Nat.mul_lt_mul_of_pos_right hY2 hs0
  have h4:(y+1)*Q*T≤2^sz y*Q*T:=Nat.mul_le_mul_right _ (Nat.mul_le_mul_right _ Vs)
  rw[show 2^sz y*Q*T=Q*(2^sz y*T)from by rw[Nat.mul_comm (2^sz y) Q,Nat.mul_assoc],p1]at h4
  omega
 ·have h3:2^(sz y - 1)*Q*T≤Y*T:=Nat.mul_le_mul_right _ (Nat.le_trans (Nat.mul_le_mul_right _ UD) hY1)
  rw[show 2^(sz y - 1)*Q*T=(2^(sz y - 1)*T)*Q from by rw[Nat.mul_assoc,Nat.mul_comm Q T,Nat.mul_assoc],p2]at h3
  exact h3
theorem Gh {k n:Nat} (h2:2≤n):4294967296^(k+(n - 2))=4294967296^(n - 2)*4294967296^k∧4294967296^(k+(n - 1))=4294967296^(n - 2)*4294967296^k*4294967296∧4294967296^(k+n)=4294967296^(n - 2)*4294967296^k*4294967296*4294967296∧
  4294967296^(n - 1)=4294967296^(n - 2)*4294967296∧4294967296^n=4294967296^(n - 2)*4294967296*4294967296∧4294967296^(k+n+1)=4294967296^(n - 2)*4294967296^k*4294967296*4294967296*4294967296:=by
 have e0:4294967296^(k+(n - 2))=4294967296^(n - 2)*4294967296^k:=by rw[Nat.pow_add,Nat.mul_comm]
 refine⟨e0, ?_, ?_, ?_, ?_, ?_⟩
 ·rw[←e0,←Nat.pow_succ];congr 1;omega
 ·rw[←e0,←Nat.pow_succ,←Nat.pow_succ];congr 1;omega
 ·rw[←Nat.pow_succ];congr 1;omega
 ·rw[←Nat.pow_succ,←Nat.pow_succ];congr 1;omega
 ·rw[←e0,←Nat.pow_succ,←Nat.pow_succ,←Nat.pow_succ];congr 1;omega
theorem Gi {X V s l n:Nat} (hX:X<4294967296^l) (hs:s<32) (hV:2147483648*4294967296^(n - 1)≤V) (h2:2≤n) (hnl:n≤l):X*2^s<V*4294967296^(l+1 - n):=by
 have h3:2^s≤2147483648:=Nat.le_trans (Nat.pow_le_pow_right aH (show s≤31 by omega)) aH
 have e:4294967296^l=4294967296^(n - 1)*4294967296^(l+1 - n):=by rw[←Nat.pow_add];congr 1;omega
 have h4:2147483648*4294967296^(n - 1)*4294967296^(l+1 - n)≤V*4294967296^(l+1 - n):=Nat.mul_le_mul_right _ hV
 rw[Nat.mul_assoc,←e,Nat.mul_comm]at h4
 have h5:X*2^s<4294967296^l*2147483648:=Nat.lt_of_lt_of_le (Nat.mul_lt_mul_of_pos_right hX (Nat.two_pow_pos s)) (Nat.mul_le_mul_left _ h3)
 omega
theorem Gj {R V P S k n l:Nat} (h2:2≤n) (hk:k+n<l+1) (hP:4294967296^(n - 2)=P) (hS:4294967296^k=S) (hVn:V<4294967296^n) (hVg:2147483648*4294967296^(n - 1)≤V) (hR:R<V*(S*4294967296)):
  R<4294967296^(k+n+1)∧V*4294967296^k≤4294967296^(k+n+1)∧4294967296*P≤V∧(2147483648≤V/P/4294967296∧V/P/4294967296<4294967296)∧R/(P*S)/4294967296<18446744073709551616∧
  (bE R (l+1)).getD (k+n) 0=((R/(P*S)/4294967296/4294967296:Nat):Int)∧(bE R (l+1)).getD (k+(n - 1)) 0=((R/(P*S)/4294967296 % 4294967296:Nat):Int)∧(bE R (l+1)).getD (k+(n - 2)) 0=((R/(P*S) % 4294967296:Nat):Int)∧
  (bE V (n+1)).getD (n - 1) 0=((V/P/4294967296:Nat):Int)∧(bE V (n+1)).getD (n - 2) 0=((V/P % 4294967296:Nat):Int):=by
 obtain⟨q1,q2,q3,q4,q5,q6⟩:=Gh (k:=k) h2
 rw[hP]at q1 q2 q3 q4 q5 q6
 rw[hS]at q1 q2 q3 q6
 have hP0:0<P:=by rw[←hP];exact Nat.pow_pos aH
 have hS0:0<S:=by rw[←hS];exact Nat.pow_pos aH
 have hPS:0<P*S:=Nat.mul_pos hP0 hS0
 rw[q5]at hVn
 rw[q4]at hVg
 have c1:V*(S*4294967296)≤P*S*4294967296*4294967296*4294967296:=by
  refine Nat.le_trans (Nat.mul_le_mul_right _ (Nat.le_of_lt hVn)) (Nat.le_of_eq ?_)
  grind
 have hRB:R<P*S*4294967296*4294967296*4294967296:=Nat.lt_of_lt_of_le hR c1
 have c2:V*S≤P*S*4294967296*4294967296*4294967296:=Nat.le_trans (Nat.mul_le_mul_left _ aa) c1
 have d1:V/P/4294967296=V/(P*4294967296):=Nat.div_div_eq_div_mul _ _ _
 have afd:V/P/4294967296<4294967296:=by
  rw[d1];exact Nat.div_lt_of_lt_mul hVn
 have ahs:2147483648≤V/P/4294967296:=by
  rw[d1];exact(Nat.le_div_iff_mul_le aa).2 hVg
 have d2:R/(P*S)/4294967296/4294967296=R/(P*S*4294967296*4294967296):=by rw[Nat.div_div_eq_div_mul,Nat.div_div_eq_div_mul,Nat.mul_assoc (P*S)]
 have d3:R/(P*S)/4294967296=R/(P*S*4294967296):=Nat.div_div_eq_div_mul _ _ _
 have tlt:R/(P*S)/4294967296/4294967296<4294967296:=by
  rw[d2];exact Nat.div_lt_of_lt_mul hRB
 refine⟨by rw[q6];exact hRB,by rw[q6,hS];exact c2,aa,⟨ahs,afd⟩,aa, ?_, ?_, ?_, ?_, ?_⟩
 ·rw[jn aa,q3,←d2,Nat.mod_eq_of_lt tlt]
 ·rw[jn aa,q2,←d3]
 ·rw[jn aa,q1]
 ·rw[jn aa,q4,←d1,Nat.mod_eq_of_lt afd]
 ·rw[jn aa,hP]
end Go.Proofs.YtfpagioknjjacaaGreatDoor
